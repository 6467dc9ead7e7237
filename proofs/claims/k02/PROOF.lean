import PyProof.Rows.All
import Wide.All
import OpenK.AllK
import Wide.FinOn
import HandS.ForMost
import HandS.ForExc
import HandS.ExcInit
import HandS.HotCalls
import HandS.ExcIs
import HandS.ExcField
import HandS.IsInst
import HandS.Style
import HandS.Flow
import HandS.Wide
import HandS.Gcd
import HandS.Codes
import HandS.Lambda
import HandS.TupAny
import HandS.Zip
import HandS.Small
import HandS.ExcOwn
import HandS.Zip0
import PySem.Challenge.RW_hiddenmoves_k02_ratios
set_option Elab.async false
set_option linter.all false
set_option maxRecDepth 100000
/-! The deep layer: values of any depth that never change (D), the objects that change (Mm), readings over both. -/
namespace Dq
open PySem PySem.Spec PyProof.Rows L2

abbrev St := L2.St
/-- a value as a whole -/
inductive D where
  | non | bl (b : Bool) | int (i : Int) | str (x : Str) | ref (a : Addr) | ty (n : String)
  | tup (xs : List D) | lst (xs : List D) | scr (ns : List Int)
  | dic (kvs : List (Key × D))

/-- the defs with captured names (lambdas may be made in them): the table of their code object; the object of the def, its code object, its name, the lambdas' name -/
structure TabE where
  a : Addr
  c : Addr
  n : Str
  q : Str
def tabFull (K : PySem.W.Frag) : List (Addr × TabE) := K.filterMap fun p => match p.2.data with
  | .func fd => if fd.scope.names.any (fun y => y.2 == .cell) then (match fd.code with
    | .ref c => (match K.lookup c with
      | some o => (match o.data with | .fields vs => (match (vs[11]? : Option Value) with | some (.ref P) => some (P, ⟨p.1, c, fd.name, fd.qualname ++ ".<locals>." ++ "<lambda>"⟩) | _ => none) | _ => none)
      | none => none)
    | _ => none) else none
  | _ => none
def tabList (K : PySem.W.Frag) : List (Addr × Str) := (tabFull K).map fun e => (e.1, e.2.q)
/-- what stands stays (tables of code objects may grow, their entries' names stay what they were) -/
structure Same (K : PySem.W.Frag) (G G' : Hp) : Prop where
  base : ∀ b u, G b = some u → (∀ ps, u ≠ .tbl ps) → G' b = some u
  tab : ∀ P q, (tabList K).lookup P = some q → LamX.TabS G P q → LamX.TabS G' P q
section
variable {K : PySem.W.Frag}
theorem Same.refl (G : Hp) : Same K G G := ⟨fun _ _ h _ => h, fun _ _ _ h => h⟩
theorem Same.trans {G G1 G2 : Hp} (a : Same K G G1) (b : Same K G1 G2) : Same K G G2 := ⟨fun c u h n => b.base c u (a.base c u h n) n, fun P q e h => b.tab P q e (a.tab P q e h)⟩
theorem Same.of {G H : Hp} (s : L2.Same G H) : Same K G H := ⟨fun b u h _ => s b u h, fun _ _ _ h => h.ext s⟩
theorem Same.lst {G H : Hp} (s : Same K G H) {a : Addr} {vs : List V} (h : G a = some (.lst vs)) : H a = some (.lst vs) := s.base _ _ h fun ps z => by cases z
theorem Same.dK {G H : Hp} (s : Same K G H) {a : Addr} {vs : List (Key × V)} (h : G a = some (.dK vs)) : H a = some (.dK vs) := s.base _ _ h fun ps z => by cases z
theorem Same.xd {G H : Hp} (s : Same K G H) {a : Addr} {vs : List (Str × V)} (h : G a = some (.xd vs)) : H a = some (.xd vs) := s.base _ _ h fun ps z => by cases z
theorem Same.seq {G H : Hp} (s : Same K G H) {a : Addr} {vs : List V} (h : SqL K G a vs) : SqL K H a vs := by
  rcases h with (h | ⟨o, h⟩) | h
  · exact .inl (.inl (s.lst h))
  · exact .inl (.inr ⟨o, s.base _ _ h fun ps z => by cases z⟩)
  · exact .inr h
end
mutual
def Rep (K : PySem.W.Frag) (H : Hp) : D → V → Prop
  | .non, v => v = .non
  | .bl b, v => v = .bl b
  | .int i, v => v = .int i
  | .str x, v => v = .str x
  | .ref a, v => v = .ref a
  | .ty n, v => v = .ty n
  | .tup xs, v => ∃ a vs, v = .ref a ∧ SqT K H a vs ∧ Reps K H xs vs
  | .lst xs, v => ∃ a vs, v = .ref a ∧ H a = some (.lst vs) ∧ Reps K H xs vs
  | .scr ns, v => ∃ a, v = .ref a ∧ SqL K H a (ns.map V.int)
  | .dic kvs, v => ∃ a ws, v = .ref a ∧ H a = some (.dK ws) ∧ RepK K H kvs ws
def Reps (K : PySem.W.Frag) (H : Hp) : List D → List V → Prop
  | [], vs => vs = []
  | d :: ds, vs => ∃ v ws, vs = v :: ws ∧ Rep K H d v ∧ Reps K H ds ws
def RepK (K : PySem.W.Frag) (H : Hp) : List (Key × D) → List (Key × V) → Prop
  | [], ws => ws = []
  | (k, d) :: r, ws => ∃ v rs, ws = (k, v) :: rs ∧ Rep K H d v ∧ RepK K H r rs
end
section
variable {K : PySem.W.Frag} {H H' : Hp}
theorem sameT {a : Addr} {xs : List V} (e : Same K H H') (h : SqT K H a xs) : SqT K H' a xs := by
  rcases h with (h | ⟨o, h⟩) | h
  · exact .inl (.inl (e.base _ _ h fun ps z => by cases z))
  · exact .inl (.inr ⟨o, e.base _ _ h fun ps z => by cases z⟩)
  · exact .inr h
mutual
theorem Rep.mono (e : Same K H H') : ∀ {d : D} {v : V}, Rep K H d v → Rep K H' d v
  | .non, _, h => by unfold Rep at h ⊢; exact h
  | .bl _, _, h => by unfold Rep at h ⊢; exact h
  | .int _, _, h => by unfold Rep at h ⊢; exact h
  | .str _, _, h => by unfold Rep at h ⊢; exact h
  | .ref _, _, h => by unfold Rep at h ⊢; exact h
  | .ty _, _, h => by unfold Rep at h ⊢; exact h
  | .tup xs, _, h => by
    unfold Rep at h ⊢
    obtain ⟨a, vs, r, q, p⟩ := h
    exact ⟨a, vs, r, sameT e q, Reps.mono e p⟩
  | .lst xs, _, h => by
    unfold Rep at h ⊢
    obtain ⟨a, vs, r, q, p⟩ := h
    exact ⟨a, vs, r, e.lst q, Reps.mono e p⟩
  | .scr ns, _, h => by
    unfold Rep at h ⊢
    obtain ⟨a, r, q⟩ := h
    exact ⟨a, r, e.seq q⟩
  | .dic kvs, _, h => by
    unfold Rep at h ⊢
    obtain ⟨a, ws, r, q, p⟩ := h
    exact ⟨a, ws, r, e.dK q, RepK.mono e p⟩
theorem Reps.mono (e : Same K H H') : ∀ {ds : List D} {vs : List V}, Reps K H ds vs → Reps K H' ds vs
  | [], _, h => by unfold Reps at h ⊢; exact h
  | d :: ds, _, h => by
    unfold Reps at h ⊢
    obtain ⟨v, ws, r, q, p⟩ := h
    exact ⟨v, ws, r, Rep.mono e q, Reps.mono e p⟩
theorem RepK.mono (e : Same K H H') : ∀ {kvs : List (Key × D)} {ws : List (Key × V)}, RepK K H kvs ws → RepK K H' kvs ws
  | [], _, h => by unfold RepK at h ⊢; exact h
  | (k, d) :: r, _, h => by
    unfold RepK at h ⊢
    obtain ⟨v, rs, e1, q, p⟩ := h
    exact ⟨v, rs, e1, Rep.mono e q, RepK.mono e p⟩
end
theorem Reps.length : ∀ {ds : List D} {vs : List V}, Reps K H ds vs → ds.length = vs.length
  | [], _, h => by unfold Reps at h; subst h; rfl
  | d :: ds, _, h => by
    unfold Reps at h
    obtain ⟨v, ws, rfl, _, p⟩ := h
    rw [List.length_cons, List.length_cons, Reps.length p]
theorem Reps.get : ∀ {ds : List D} {vs : List V} {i : Nat} {d : D}, Reps K H ds vs → ds[i]? = some d → ∃ v, vs[i]? = some v ∧ Rep K H d v
  | [], _, _, _, _, e => by simp at e
  | d :: ds, _, 0, _, h, e => by
    unfold Reps at h
    obtain ⟨v, ws, rfl, q, p⟩ := h
    simp at e
    subst e
    exact ⟨v, by simp, q⟩
  | d :: ds, _, i + 1, _, h, e => by
    unfold Reps at h
    obtain ⟨v, ws, rfl, q, p⟩ := h
    obtain ⟨u, e1, e2⟩ := Reps.get (i := i) p (by simpa using e)
    exact ⟨u, by simpa using e1, e2⟩
theorem Reps.nil : Reps K H [] [] := by unfold Reps; rfl
theorem Reps.cons {d : D} {ds : List D} {v : V} {vs : List V} (h : Rep K H d v) (t : Reps K H ds vs) : Reps K H (d :: ds) (v :: vs) := by
  unfold Reps
  exact ⟨v, vs, rfl, h, t⟩
theorem Reps.append : ∀ {ds es : List D} {vs ws : List V}, Reps K H ds vs → Reps K H es ws → Reps K H (ds ++ es) (vs ++ ws)
  | [], _, _, _, h, t => by unfold Reps at h; subst h; exact t
  | d :: ds, _, _, _, h, t => by
    unfold Reps at h
    obtain ⟨v, ws, rfl, q, p⟩ := h
    exact Reps.cons q (Reps.append p t)
theorem Reps.of_get : ∀ {ds : List D} {vs : List V}, ds.length = vs.length → (∀ (i : Nat) (d : D) (v : V), ds[i]? = some d → vs[i]? = some v → Rep K H d v) → Reps K H ds vs
  | [], [], _, _ => Reps.nil
  | d :: ds, v :: vs, hl, h => Reps.cons (h 0 d v (by simp) (by simp)) (Reps.of_get (by simpa using hl) fun i d' v' e1 e2 => h (i + 1) d' v' (by simpa using e1) (by simpa using e2))
  | [], _ :: _, hl, _ => by simp at hl
  | _ :: _, [], hl, _ => by simp at hl
theorem Reps.drop {ds : List D} {vs : List V} (h : Reps K H ds vs) (n : Nat) : Reps K H (ds.drop n) (vs.drop n) := by
  refine Reps.of_get (by rw [List.length_drop, List.length_drop, h.length]) fun i d v e1 e2 => ?_
  rw [List.getElem?_drop] at e1 e2
  obtain ⟨u, q1, q2⟩ := h.get e1
  rw [q1] at e2
  cases e2
  exact q2
theorem Reps.take {ds : List D} {vs : List V} (h : Reps K H ds vs) (n : Nat) : Reps K H (ds.take n) (vs.take n) := by
  refine Reps.of_get (by rw [List.length_take, List.length_take, h.length]) fun i d v e1 e2 => ?_
  rw [List.getElem?_take] at e1 e2
  split at e1
  · rename_i hi
    rw [if_pos hi] at e2
    obtain ⟨u, q1, q2⟩ := h.get e1
    rw [q1] at e2
    cases e2
    exact q2
  · cases e1
end
/-- a dict's look-up -/
def dget (kvs : List (Key × D)) (k : Key) : Option D := (kvs.find? fun kv => decide (kv.1 = k)).map (·.2)
/-- a dict's store -/
def dput (kvs : List (Key × D)) (k : Key) (v : D) : List (Key × D) :=
  if (kvs.any fun kv => decide (kv.1 = k)) = true then kvs.map (fun kv => if kv.1 = k then (kv.1, v) else kv) else kvs ++ [(k, v)]
section
variable {K : PySem.W.Frag} {H H' : Hp}
theorem RepK.get : ∀ {kvs : List (Key × D)} {ws : List (Key × V)} {k : Key} {d : D}, RepK K H kvs ws → dget kvs k = some d → ∃ v, valV ws k = some v ∧ Rep K H d v
  | [], _, _, _, _, e => by simp [dget] at e
  | (k0, d0) :: r, _, k, d, h, e => by
    unfold RepK at h
    obtain ⟨v, rs, rfl, q, p⟩ := h
    by_cases hk : k0 = k
    · have e1 : dget ((k0, d0) :: r) k = some d0 := by simp [dget, List.find?_cons, hk]
      rw [e1] at e
      cases e
      exact ⟨v, valV_pos (p := (k0, v)) hk, q⟩
    · have e1 : dget ((k0, d0) :: r) k = dget r k := by simp [dget, List.find?_cons, hk]
      rw [e1] at e
      rw [valV_neg (p := (k0, v)) hk]
      exact RepK.get p e
theorem RepK.none : ∀ {kvs : List (Key × D)} {ws : List (Key × V)} {k : Key}, RepK K H kvs ws → dget kvs k = Option.none → valV ws k = Option.none
  | [], _, _, h, _ => by unfold RepK at h; subst h; rfl
  | (k0, d0) :: r, _, k, h, e => by
    unfold RepK at h
    obtain ⟨v, rs, rfl, q, p⟩ := h
    by_cases hk : k0 = k
    · have e1 : dget ((k0, d0) :: r) k = some d0 := by simp [dget, List.find?_cons, hk]
      rw [e1] at e
      cases e
    · have e1 : dget ((k0, d0) :: r) k = dget r k := by simp [dget, List.find?_cons, hk]
      rw [e1] at e
      rw [valV_neg (p := (k0, v)) hk]
      exact RepK.none p e
theorem RepK.any : ∀ {kvs : List (Key × D)} {ws : List (Key × V)} (k : Key), RepK K H kvs ws → (kvs.any fun kv => decide (kv.1 = k)) = (ws.any fun kv => decide (kv.1 = k))
  | [], _, _, h => by unfold RepK at h; subst h; rfl
  | (k0, d0) :: r, _, k, h => by
    unfold RepK at h
    obtain ⟨v, rs, rfl, q, p⟩ := h
    rw [List.any_cons, List.any_cons, RepK.any k p]
theorem RepK.map : ∀ {kvs : List (Key × D)} {ws : List (Key × V)} {k : Key} {d : D} {v : V}, RepK K H kvs ws → Rep K H d v →
    RepK K H (kvs.map fun kv => if kv.1 = k then (kv.1, d) else kv) (ws.map fun kv => if kv.1 = k then (kv.1, v) else kv)
  | [], _, _, _, _, h, _ => by unfold RepK at h; subst h; unfold RepK; rfl
  | (k0, d0) :: r, _, k, d, v, h, hd => by
    unfold RepK at h
    obtain ⟨v0, rs, rfl, q, p⟩ := h
    have ih := RepK.map (k := k) p hd
    rw [List.map_cons, List.map_cons]
    by_cases hk : k0 = k
    · rw [if_pos hk, if_pos hk]; unfold RepK; exact ⟨v, _, rfl, hd, ih⟩
    · rw [if_neg hk, if_neg hk]; unfold RepK; exact ⟨v0, _, rfl, q, ih⟩
theorem RepK.nil : RepK K H [] [] := by unfold RepK; rfl
theorem RepK.cons {k : Key} {d : D} {v : V} {kvs : List (Key × D)} {ws : List (Key × V)} (h : Rep K H d v) (t : RepK K H kvs ws) : RepK K H ((k, d) :: kvs) ((k, v) :: ws) := by
  unfold RepK; exact ⟨v, ws, rfl, h, t⟩
theorem RepK.snoc : ∀ {kvs : List (Key × D)} {ws : List (Key × V)} {k : Key} {d : D} {v : V}, RepK K H kvs ws → Rep K H d v → RepK K H (kvs ++ [(k, d)]) (ws ++ [(k, v)])
  | [], _, _, _, _, h, hd => by unfold RepK at h; subst h; exact RepK.cons hd RepK.nil
  | (k0, d0) :: r, _, k, d, v, h, hd => by
    unfold RepK at h
    obtain ⟨v0, rs, rfl, q, p⟩ := h
    exact RepK.cons q (RepK.snoc p hd)
theorem RepK.put {kvs : List (Key × D)} {ws : List (Key × V)} {k : Key} {d : D} {v : V} (h : RepK K H kvs ws) (hd : Rep K H d v) : RepK K H (dput kvs k d) (putK ws k v) := by
  unfold dput putK
  rw [RepK.any k h]
  split
  · exact h.map hd
  · exact h.snoc hd
theorem RepK.length : ∀ {kvs : List (Key × D)} {ws : List (Key × V)}, RepK K H kvs ws → kvs.length = ws.length
  | [], _, h => by unfold RepK at h; subst h; rfl
  | (k0, d0) :: r, _, h => by
    unfold RepK at h
    obtain ⟨v0, rs, rfl, q, p⟩ := h
    rw [List.length_cons, List.length_cons, RepK.length p]
end

/-! ### what changes -/
/-- an object that changes: a list, a dict -/
inductive MO where
  | lst (xs : List D) | dic (kvs : List (Key × D))
abbrev Mm := Addr → Option MO
def Mm.set (M : Mm) (a : Addr) (o : MO) : Mm := fun b => if b = a then some o else M b
def Mm.del (M : Mm) (a : Addr) : Mm := fun b => if b = a then none else M b
theorem Mm.set_same {M : Mm} {a : Addr} {o : MO} : M.set a o a = some o := if_pos rfl
theorem Mm.set_ne {M : Mm} {a b : Addr} {o : MO} (h : b ≠ a) : M.set a o b = M b := if_neg h
theorem Mm.set_set {M : Mm} {a : Addr} {o u : MO} : (M.set a o).set a u = M.set a u := by funext b; unfold Mm.set; split <;> rfl
theorem Mm.del_set {M : Mm} {a : Addr} {o : MO} (h : M a = none) : (M.set a o).del a = M := by
  funext b
  show (if b = a then none else if b = a then some o else M b) = M b
  by_cases e : b = a
  · rw [if_pos e, e, h]
  · rw [if_neg e, if_neg e]
def ObjR (K : PySem.W.Frag) (G H : Hp) (a : Addr) : MO → Prop
  | .lst xs => ∃ vs, H a = some (.lst vs) ∧ Reps K G xs vs
  | .dic kvs => ∃ ws, H a = some (.dK ws) ∧ RepK K G kvs ws
/-- G: the part that never changes; M: the part that does -/
structure RelH (K : PySem.W.Frag) (M : Mm) (G H : Hp) : Prop where
  sub0 : L2.Same G H
  tabs : ∀ P q, (tabList K).lookup P = some q → LamX.TabS G P q
  mem : ∀ a o, M a = some o → G a = none ∧ ObjR K G H a o
section
variable {K : PySem.W.Frag} {M : Mm} {G G' H H' : Hp} {a p : Addr}
theorem ObjR.there {o : MO} (h : ObjR K G H a o) : ∃ u, H a = some u := by
  cases o with
  | lst xs => obtain ⟨vs, e, _⟩ := h; exact ⟨_, e⟩
  | dic kvs => obtain ⟨ws, e, _⟩ := h; exact ⟨_, e⟩
theorem ObjR.keep {o : MO} (h : ObjR K G H a o) (s : Same K G G') (e : H' a = H a) : ObjR K G' H' a o := by
  cases o with
  | lst xs => obtain ⟨vs, e1, r⟩ := h; exact ⟨vs, e.trans e1, r.mono s⟩
  | dic kvs => obtain ⟨ws, e1, r⟩ := h; exact ⟨ws, e.trans e1, r.mono s⟩
theorem same_upd0 {o : HO} (h : G p = none) : L2.Same G (upd G p o) := fun b u e => by rw [upd_ne (ne_of_none e h)]; exact e
theorem RelH.free (r : RelH K M G H) (h : H p = none) : G p = none := r.sub0.free h
theorem RelH.freeM (r : RelH K M G H) (h : H p = none) : M p = none := by
  cases e : M p with
  | none => rfl
  | some o =>
    obtain ⟨u, q⟩ := (r.mem p o e).2.there
    rw [h] at q; cases q
theorem RelH.sub (r : RelH K M G H) : Same K G H := .of r.sub0
theorem same_upd {o : HO} (h : G p = none) : Same K G (upd G p o) := .of fun b u e => by rw [upd_ne (ne_of_none e h)]; exact e
/-- a new thing that never changes -/
theorem RelH.laid (r : RelH K M G H) (h : H p = none) (o : HO) : RelH K M (upd G p o) (upd H p o) := by
  refine ⟨fun b u e => ?_, fun P q lk => (r.tabs P q lk).ext (same_upd0 (r.free h)), fun b u e => ?_⟩
  · by_cases hb : b = p
    · rw [hb, upd_same] at e ⊢; exact e
    · rw [upd_ne hb] at e ⊢; exact r.sub0 b u e
  · obtain ⟨q1, q2⟩ := r.mem b u e
    have hb : b ≠ p := fun z => by
      obtain ⟨w, q⟩ := q2.there
      rw [z, h] at q; cases q
    exact ⟨by rw [upd_ne hb]; exact q1, q2.keep (same_upd (r.free h)) (upd_ne hb)⟩
/-- a new thing that changes -/
theorem RelH.newM (r : RelH K M G H) (h : H p = none) {o : HO} {m : MO} (q : ObjR K G (upd H p o) p m) : RelH K (M.set p m) G (upd H p o) := by
  refine ⟨fun b u e => ?_, r.tabs, fun b u e => ?_⟩
  · rw [upd_ne (ne_of_none e (r.free h))]; exact r.sub0 b u e
  · by_cases hb : b = p
    · rw [hb, Mm.set_same] at e; cases e
      rw [hb]; exact ⟨r.free h, q⟩
    · rw [Mm.set_ne hb] at e
      obtain ⟨q1, q2⟩ := r.mem b u e
      exact ⟨q1, q2.keep (Same.refl _) (upd_ne hb)⟩
/-- it is changed -/
theorem RelH.write (r : RelH K M G H) {m0 : MO} (h : M p = some m0) {o : HO} {m : MO} (q : ObjR K G (upd H p o) p m) : RelH K (M.set p m) G (upd H p o) := by
  obtain ⟨g, _⟩ := r.mem p m0 h
  refine ⟨fun b u e => ?_, r.tabs, fun b u e => ?_⟩
  · rw [upd_ne (ne_of_none e g)]; exact r.sub0 b u e
  · by_cases hb : b = p
    · rw [hb, Mm.set_same] at e; cases e
      rw [hb]; exact ⟨g, q⟩
    · rw [Mm.set_ne hb] at e
      obtain ⟨q1, q2⟩ := r.mem b u e
      exact ⟨q1, q2.keep (Same.refl _) (upd_ne hb)⟩
/-- from now on it never changes -/
theorem RelH.freeze (r : RelH K M G H) {m : MO} (h : M p = some m) {o : HO} (e : H p = some o) : RelH K (M.del p) (upd G p o) H := by
  obtain ⟨g, _⟩ := r.mem p m h
  refine ⟨fun b u q => ?_, fun P q lk => (r.tabs P q lk).ext (same_upd0 g), fun b u q => ?_⟩
  · by_cases hb : b = p
    · rw [hb, upd_same] at q; cases q; rw [hb]; exact e
    · rw [upd_ne hb] at q; exact r.sub0 b u q
  · by_cases hb : b = p
    · rw [hb] at q; unfold Mm.del at q; rw [if_pos rfl] at q; cases q
    · unfold Mm.del at q; rw [if_neg hb] at q
      obtain ⟨q1, q2⟩ := r.mem b u q
      exact ⟨by rw [upd_ne hb]; exact q1, q2.keep (same_upd g) rfl⟩
theorem RelH.drop (r : RelH K M G H) (p : Addr) : RelH K (M.del p) G H := by
  refine ⟨r.sub0, r.tabs, fun b u q => ?_⟩
  unfold Mm.del at q
  split at q
  · cases q
  · exact r.mem b u q
theorem RelH.less {M' : Mm} (r : RelH K M G H) (h : ∀ a o, M' a = some o → M a = some o) : RelH K M' G H := ⟨r.sub0, r.tabs, fun b u q => r.mem b u (h b u q)⟩
end

/-! ### the slots -/
abbrev Ds := List (Option D)
structure Locs (K : PySem.W.Frag) (ρ : Ds) (G : Hp) (σ : St) : Prop where
  len : ρ.length = σ.length
  loc : ∀ (i : Nat) (d : D), ρ[i]? = some (some d) → ∃ v, σ[i]? = some (some v) ∧ Rep K G d v
theorem Locs.mono {K : PySem.W.Frag} {ρ : Ds} {G G' : Hp} {σ : St} (h : Locs K ρ G σ) (s : Same K G G') : Locs K ρ G' σ :=
  ⟨h.len, fun i d e => let ⟨v, e1, e2⟩ := h.loc i d e; ⟨v, e1, e2.mono s⟩⟩
theorem Locs.set {K : PySem.W.Frag} {ρ : Ds} {G : Hp} {σ : St} {d : D} {v : V} (h : Locs K ρ G σ) (i : Nat) (r : Rep K G d v) : Locs K (ρ.set i (some d)) G (σ.set i (some v)) := by
  refine ⟨by rw [List.length_set, List.length_set]; exact h.len, fun j e q => ?_⟩
  by_cases hj : i = j
  · subst hj
    have hlt : i < ρ.length := by
      rcases Nat.lt_or_ge i ρ.length with z | z
      · exact z
      · rw [List.getElem?_eq_none (by rw [List.length_set]; exact z)] at q; cases q
    rw [List.getElem?_set_self hlt] at q
    cases q
    exact ⟨v, List.getElem?_set_self (by rw [← h.len]; exact hlt), r⟩
  · rw [List.getElem?_set_ne hj] at q ⊢
    exact h.loc j e q
/-- slots forgotten -/
theorem Locs.less {K : PySem.W.Frag} {ρ ρ' : Ds} {G : Hp} {σ : St} (h : Locs K ρ G σ) (hl : ρ'.length = ρ.length) (w : ∀ (i : Nat) (d : D), ρ'[i]? = some (some d) → ρ[i]? = some (some d)) : Locs K ρ' G σ :=
  ⟨hl.trans h.len, fun i d e => h.loc i d (w i d e)⟩

/-! ### readings -/
abbrev DK := D → Mm → Prop
abbrev DE := Ds → Mm → DK → Prop
abbrev DT := Ds → Mm → (Bool → Mm → Prop) → Prop
abbrev DA := Ds → Mm → (List D → Mm → Prop) → Prop
/-- an exception: its class, its fields -/
abbrev DX := Addr → List (Str × D) → Mm → Prop
abbrev DXS := Addr → List (Str × D) → Ds → Mm → Prop
structure DEnds where
  nx : Ds → Mm → Prop
  rt : DK
  bk : Ds → Mm → Prop := fun _ _ => False
  ct : Ds → Mm → Prop := fun _ _ => False
abbrev DS := DEnds → Ds → Mm → Prop
abbrev DG := D → Ds → Mm → (Ds → Mm → Prop) → Prop

/-- G0: what stood at the entry -/
def up (K : PySem.W.Frag) (G0 : Hp) (de : DE) : TE := fun σ H Q => ∃ ρ M G Qd, Same K G0 G ∧ RelH K M G H ∧ Locs K ρ G σ ∧ de ρ M Qd ∧ ∀ d M' G' v H', Same K G G' → RelH K M' G' H' → Rep K G' d v → Qd d M' → Q v H'
def upT (K : PySem.W.Frag) (G0 : Hp) (dt : DT) : TT := fun σ H Q => ∃ ρ M G Qd, Same K G0 G ∧ RelH K M G H ∧ Locs K ρ G σ ∧ dt ρ M Qd ∧ ∀ b M' G' H', Same K G G' → RelH K M' G' H' → Qd b M' → Q b H'
def upA (K : PySem.W.Frag) (G0 : Hp) (da : DA) : TA := fun σ H Q => ∃ ρ M G Qd, Same K G0 G ∧ RelH K M G H ∧ Locs K ρ G σ ∧ da ρ M Qd ∧ ∀ ds M' G' vs H', Same K G G' → RelH K M' G' H' → Reps K G' ds vs → Qd ds M' → Q vs H'
def upS (K : PySem.W.Frag) (G0 : Hp) (ds : DS) : TS := fun D σ H => ∃ ρ M G Dd, Same K G0 G ∧ RelH K M G H ∧ Locs K ρ G σ ∧ ds Dd ρ M ∧
  (∀ ρ' M' G' σ' H', Same K G G' → RelH K M' G' H' → Locs K ρ' G' σ' → Dd.nx ρ' M' → D.nx σ' H') ∧
  (∀ d M' G' v H', Same K G G' → RelH K M' G' H' → Rep K G' d v → Dd.rt d M' → D.rt v H') ∧
  (∀ ρ' M' G' σ' H', Same K G G' → RelH K M' G' H' → Locs K ρ' G' σ' → Dd.bk ρ' M' → D.bk σ' H') ∧
  (∀ ρ' M' G' σ' H', Same K G G' → RelH K M' G' H' → Locs K ρ' G' σ' → Dd.ct ρ' M' → D.ct σ' H')
def upG (K : PySem.W.Frag) (G0 : Hp) (dg : DG) : TG := fun v σ H Q => ∃ ρ M G d Qd, Same K G0 G ∧ RelH K M G H ∧ Locs K ρ G σ ∧ Rep K G d v ∧ dg d ρ M Qd ∧ ∀ ρ' M' G' σ' H', Same K G G' → RelH K M' G' H' → Locs K ρ' G' σ' → Qd ρ' M' → Q σ' H'
/-- an exception's dict: what is told of each field -/
def RepF (K : PySem.W.Frag) (G : Hp) (fs : List (Str × D)) (ws : List (Str × V)) : Prop := ∀ f d, fs.lookup f = some d → ∃ v, ws.lookup f = some v ∧ Rep K G d v
theorem RepF.mono {K : PySem.W.Frag} {G G' : Hp} {fs : List (Str × D)} {ws : List (Str × V)} (h : RepF K G fs ws) (s : Same K G G') : RepF K G' fs ws := fun f d e => let ⟨v, e1, p⟩ := h f d e; ⟨v, e1, p.mono s⟩
def XdR (K : PySem.W.Frag) (G H : Hp) (d : Option Addr) (fs : List (Str × D)) : Prop := (d = none ∧ fs = []) ∨ ∃ dd ws, d = some dd ∧ H dd = some (.xd ws) ∧ RepF K G fs ws
def upW (K : PySem.W.Frag) (G0 : Hp) (Wd : DXS) : WX := fun cls d σ H => ∃ C fs ρ M G, Same K G0 G ∧ RelH K M G H ∧ Locs K ρ G σ ∧ cls = .ref C ∧ XdR K G H d fs ∧ Wd C fs ρ M

section
variable {X : Cx}
theorem pe_mono {e : Expr} {t t' : TE} (h : PE X e t) (i : ∀ σ H Q, t' σ H Q → t σ H Q) : PE X e t' := ⟨fun pins s σ H Q I q => h.run pins s σ H Q I (i σ H Q q)⟩
theorem pt_mono {e : Expr} {t t' : TT} (h : PT X e t) (i : ∀ σ H Q, t' σ H Q → t σ H Q) : PT X e t' := ⟨fun pins s σ H Q I q => h.run pins s σ H Q I (i σ H Q q)⟩
theorem pw_mono {e : Expr} {t t' : TT} (h : PW X e t) (i : ∀ σ H Q, t' σ H Q → t σ H Q) : PW X e t' := ⟨fun wh pins s σ H Q I q => h.run wh pins s σ H Q I (i σ H Q q)⟩
theorem pa_mono {es : List Expr} {t t' : TA} (h : PA X es t) (i : ∀ σ H Q, t' σ H Q → t σ H Q) : PA X es t' := ⟨fun pos pins s σ H Q I q => h.run pos pins s σ H Q I (i σ H Q q)⟩
theorem ps_mono {st : Stmt} {t t' : TS} (h : PS X st t) (i : ∀ D σ H, t' D σ H → t D σ H) : PS X st t' := ⟨fun pins s σ H D I q => h.run pins s σ H D I (i D σ H q)⟩
theorem pss_mono {st : List Stmt} {t t' : TS} (h : PSs X st t) (i : ∀ D σ H, t' D σ H → t D σ H) : PSs X st t' := ⟨fun pins s σ H D I q => h.run pins s σ H D I (i D σ H q)⟩
theorem pg_mono {e : Expr} {t t' : TG} (h : PG X e t) (i : ∀ v σ H Q, t' v σ H Q → t v σ H Q) : PG X e t' := ⟨fun pins s σ H v u Q I r q => h.run pins s σ H v u Q I r (i v σ H Q q)⟩

/-! ### names and constants -/
/-- the slot i -/
def slot : Ds → Nat → Option D
  | [], _ => none
  | x :: _, 0 => x
  | _ :: r, n + 1 => slot r n
theorem slot_some : ∀ {ρ : Ds} {i : Nat} {d : D}, slot ρ i = some d → ρ[i]? = some (some d)
  | [], _, _, h => by simp [slot] at h
  | x :: _, 0, _, h => by simp [slot] at h; simp [h]
  | _ :: r, n + 1, _, h => by simp [slot] at h; simpa using slot_some h
def dVar (i : Nat) : DE := fun ρ M Q => match slot ρ i with | some d => Q d M | none => False
def dC (d : D) : DE := fun _ M Q => Q d M
variable {G0 : Hp} {K : PySem.W.Frag}
theorem up_var {i : Nat} {σ : St} {H : Hp} {Q : VK} (h : up K G0 (dVar i) σ H Q) : tVar i σ H Q := by
  obtain ⟨ρ, M, G, Qd, s0, r, l, h, k⟩ := h
  unfold dVar at h
  split at h
  · rename_i d e
    obtain ⟨v, e1, e2⟩ := l.loc i d (slot_some e)
    exact ⟨v, e1, k d M G v H (Same.refl _) r e2 h⟩
  · exact h.elim
theorem de_var {i : Nat} {x : Str} {pos : Pos} (hN : X.N[i]? = some x) (hv : Vis X.env.scope x) (hd : (x == ("__debug__" : Str)) = false := by decide) (hcd : (x == ("__classdict__" : Str)) = false := by decide) : PE X (.Name x pos) (up K G0 (dVar i)) :=
  pe_mono (pe_var hN hv hd hcd) fun _ _ _ h => up_var h
/-- a value that stands apart from the heap -/
def flat : D → Option V
  | .non => some .non
  | .bl b => some (.bl b)
  | .int i => some (.int i)
  | .str x => some (.str x)
  | .ref a => some (.ref a)
  | .ty n => some (.ty n)
  | _ => none
theorem flat_rep {d : D} {v : V} {H : Hp} (h : flat d = some v) : Rep K H d v := by
  cases d <;> simp [flat] at h <;> (subst h; unfold Rep; rfl)
theorem up_const {d : D} {v : V} {σ : St} {H : Hp} {Q : VK} (f : flat d = some v) (h : up K G0 (dC d) σ H Q) : tC v σ H Q := by
  obtain ⟨ρ, M, G, Qd, s0, r, l, h, k⟩ := h
  exact k d M G v H (Same.refl _) r (flat_rep f) h
theorem de_const {d : D} {v : V} {e : Expr} (h : PE X e (tC v)) (f : flat d = some v) : PE X e (up K G0 (dC d)) := pe_mono h fun _ _ _ q => up_const f q
theorem de_int {i : Int} {j : Nat} {pos : Pos} : PE X (.Constant (.int i) j pos) (up K G0 (dC (.int i))) := de_const pe_int rfl
theorem de_bl {b : Bool} {j : Nat} {pos : Pos} : PE X (.Constant (.bool b) j pos) (up K G0 (dC (.bl b))) := de_const pe_bl rfl
theorem de_non {j : Nat} {pos : Pos} : PE X (.Constant .none j pos) (up K G0 (dC .non)) := de_const pe_non rfl
theorem de_str {x : Str} {j : Nat} {pos : Pos} : PE X (.Constant (.str x) j pos) (up K G0 (dC (.str x))) := de_const pe_str rfl

/-! ### operators -/
abbrev RD2 := D → D → Mm → DK → Prop
abbrev RD1 := D → Mm → DK → Prop
abbrev RDC := List D → Mm → DK → Prop
def up2 (K : PySem.W.Frag) (r : RD2) : R2 := fun x y H Q => ∃ M G a b Qd, RelH K M G H ∧ Rep K G a x ∧ Rep K G b y ∧ r a b M Qd ∧ ∀ d M' G' v H', Same K G G' → RelH K M' G' H' → Rep K G' d v → Qd d M' → Q v H'
def up1 (K : PySem.W.Frag) (r : RD1) : V → Hp → VK → Prop := fun x H Q => ∃ M G a Qd, RelH K M G H ∧ Rep K G a x ∧ r a M Qd ∧ ∀ d M' G' v H', Same K G G' → RelH K M' G' H' → Rep K G' d v → Qd d M' → Q v H'
def upC (K : PySem.W.Frag) (r : RDC) : List V → Hp → VK → Prop := fun xs H Q => ∃ M G as Qd, RelH K M G H ∧ Reps K G as xs ∧ r as M Qd ∧ ∀ d M' G' v H', Same K G G' → RelH K M' G' H' → Rep K G' d v → Qd d M' → Q v H'
def dBin (r : RD2) (a b : DE) : DE := fun ρ M Q => a ρ M fun x M1 => b ρ M1 fun y M2 => r x y M2 Q
def dUn (r : RD1) (a : DE) : DE := fun ρ M Q => a ρ M fun x M1 => r x M1 Q
def dCall (r : RDC) (a : DA) : DE := fun ρ M Q => a ρ M fun xs M1 => r xs M1 Q
variable {da db : DE} {σ : St} {H : Hp}
theorem up_bin {r : RD2} {Q : VK} (h : up K G0 (dBin r da db) σ H Q) : tOp (up2 K r) (up K G0 da) (up K G0 db) σ H Q := by
  obtain ⟨ρ, M, G, Qd, s0, rl, l, h, k⟩ := h
  refine ⟨ρ, M, G, _, s0, rl, l, h, fun x M1 G1 v H1 s1 r1 p1 q1 => ?_⟩
  refine ⟨ρ, M1, G1, _, s0.trans s1, r1, l.mono s1, q1, fun y M2 G2 u H2 s2 r2 p2 q2 => ?_⟩
  exact ⟨M2, G2, x, y, Qd, r2, p1.mono s2, p2, q2, fun d M' G' w H' s3 r3 p3 q3 => k d M' G' w H' ((s1.trans s2).trans s3) r3 p3 q3⟩
theorem up_un {r : RD1} {Q : VK} (h : up K G0 (dUn r da) σ H Q) : tUn (up1 K r) (up K G0 da) σ H Q := by
  obtain ⟨ρ, M, G, Qd, s0, rl, l, h, k⟩ := h
  refine ⟨ρ, M, G, _, s0, rl, l, h, fun x M1 G1 v H1 s1 r1 p1 q1 => ?_⟩
  exact ⟨M1, G1, x, Qd, r1, p1, q1, fun d M' G' w H' s3 r3 p3 q3 => k d M' G' w H' (s1.trans s3) r3 p3 q3⟩
theorem up_call {r : RDC} {ta : DA} {Q : VK} (h : up K G0 (dCall r ta) σ H Q) : tCB (upC K r) (upA K G0 ta) σ H Q := by
  obtain ⟨ρ, M, G, Qd, s0, rl, l, h, k⟩ := h
  refine ⟨ρ, M, G, _, s0, rl, l, h, fun xs M1 G1 vs H1 s1 r1 p1 q1 => ?_⟩
  exact ⟨M1, G1, xs, Qd, r1, p1, q1, fun d M' G' w H' s3 r3 p3 q3 => k d M' G' w H' (s1.trans s3) r3 p3 q3⟩
theorem op_mono {f : Value → Value → Sem Value} {r r' : R2} (h : OpR X f r) (i : ∀ x y H Q, r' x y H Q → r x y H Q) : OpR X f r' := fun pins s σ H x y v u Q I r1 r2 q => h pins s σ H x y v u Q I r1 r2 (i x y H Q q)
theorem un_mono {f : Value → Sem Value} {r r' : V → Hp → VK → Prop} (h : UnR X f r) (i : ∀ x H Q, r' x H Q → r x H Q) : UnR X f r' := fun pins s σ H x v Q I r1 q => h pins s σ H x v Q I r1 (i x H Q q)
theorem call_mono {f : Value} {r r' : List V → Hp → VK → Prop} (h : CallR X f r) (i : ∀ xs H Q, r' xs H Q → r xs H Q) : CallR X f r' := fun pins s σ H xs us Q I r1 q => h pins s σ H xs us Q I r1 (i xs H Q q)
variable {a b : Expr} {pos : Pos}
theorem de_bin {op : Operator} {r : RD2} (ho : OpR X (binaryOp op) (up2 K r)) (ha : PE X a (up K G0 da)) (hb : PE X b (up K G0 db)) : PE X (.BinOp a op b pos) (up K G0 (dBin r da db)) :=
  pe_mono (pe_op ho ha hb) fun _ _ _ h => up_bin h
theorem de_cmp {op : CmpOp} {r : RD2} (ho : OpR X (compareOp op) (up2 K r)) (ha : PE X a (up K G0 da)) (hb : PE X b (up K G0 db)) (hm : behindInMarks op b = false) : PE X (.Compare a [op] [b] pos) (up K G0 (dBin r da db)) :=
  pe_mono (pe_cmpR ho ha hb hm) fun _ _ _ h => up_bin h
theorem de_un {op : UnaryOp} {r : RD1} (ho : UnR X (unaryOp op) (up1 K r)) (ha : PE X a (up K G0 da)) : PE X (.UnaryOp op a pos) (up K G0 (dUn r da)) :=
  pe_mono (pe_un ho ha) fun _ _ _ h => up_un h
/-- a value that is True or False, as a test -/
def dTest (de : DE) : DT := fun ρ M Q => de ρ M fun d M' => match d with | .bl b => Q b M' | _ => False
theorem up_test {dt : DE} {Q : Bool → Hp → Prop} (h : upT K G0 (dTest dt) σ H Q) : tTest (up K G0 dt) σ H Q := by
  obtain ⟨ρ, M, G, Qd, s0, rl, l, h, k⟩ := h
  refine ⟨ρ, M, G, _, s0, rl, l, h, fun d M1 G1 v H1 s1 r1 p1 q1 => ?_⟩
  cases d with
  | bl b => unfold Rep at p1; exact ⟨b, p1, k b M1 G1 H1 s1 r1 q1⟩
  | _ => exact False.elim q1
theorem dt_cmp {op : CmpOp} {r : RD2} (ho : OpR X (compareOp op) (up2 K r)) (ha : PE X a (up K G0 da)) (hb : PE X b (up K G0 db)) (hm : behindInMarks op b = false) : PT X (.Compare a [op] [b] pos) (upT K G0 (dTest (dBin r da db))) :=
  pt_mono (pt_cmpR ho ha hb hm) fun σ H Q h => by
    obtain ⟨ρ, M, G, Qd, s0, rl, l, h, k⟩ := up_test h
    exact up_bin ⟨ρ, M, G, Qd, s0, rl, l, h, k⟩
theorem dt_val {e : Expr} {de : DE} (h : PE X e (up K G0 de)) (he : ∀ whole, isTrue e X.env whole = (do let v ← whole; standAt e.pos; holding [v] (truthy v)) := by intro _; rfl) : PT X e (upT K G0 (dTest de)) :=
  pt_mono (pt_val h he) fun σ H Q q => up_test q

/-! ### and, or, not, if -/
variable {ta tb : DT} {rest : List Expr}
def dAnd (t u : DT) : DT := fun ρ M Q => t ρ M fun c M1 => if c = true then u ρ M1 Q else Q false M1
def dOr (t u : DT) : DT := fun ρ M Q => t ρ M fun c M1 => if c = true then Q true M1 else u ρ M1 Q
def dNot (t : DT) : DT := fun ρ M Q => t ρ M fun c M1 => Q (!c) M1
def dIfE (t : DT) (a b : DE) : DE := fun ρ M Q => t ρ M fun c M1 => if c = true then a ρ M1 Q else b ρ M1 Q
theorem dw_and1 (ha : PT X a (upT K G0 ta)) : PW X (.BoolOp .And [a] pos) (upT K G0 ta) := pw_and1 ha
theorem dw_or1 (ha : PT X a (upT K G0 ta)) : PW X (.BoolOp .Or [a] pos) (upT K G0 ta) := pw_or1 ha
theorem dw_and (ha : PT X a (upT K G0 ta)) (hb : PW X (.BoolOp .And (b :: rest) pos) (upT K G0 tb)) : PW X (.BoolOp .And (a :: b :: rest) pos) (upT K G0 (dAnd ta tb)) :=
  pw_mono (pw_and ha hb) fun σ H Q h => by
    obtain ⟨ρ, M, G, Qd, s0, rl, l, h, k⟩ := h
    refine ⟨ρ, M, G, _, s0, rl, l, h, fun c M1 G1 H1 s1 r1 q1 => ?_⟩
    cases c with
    | true => exact ⟨ρ, M1, G1, Qd, s0.trans s1, r1, l.mono s1, q1, fun b M' G' H' s2 r2 q2 => k b M' G' H' (s1.trans s2) r2 q2⟩
    | false => exact k false M1 G1 H1 s1 r1 q1
theorem dw_or (ha : PT X a (upT K G0 ta)) (hb : PW X (.BoolOp .Or (b :: rest) pos) (upT K G0 tb)) : PW X (.BoolOp .Or (a :: b :: rest) pos) (upT K G0 (dOr ta tb)) :=
  pw_mono (pw_or ha hb) fun σ H Q h => by
    obtain ⟨ρ, M, G, Qd, s0, rl, l, h, k⟩ := h
    refine ⟨ρ, M, G, _, s0, rl, l, h, fun c M1 G1 H1 s1 r1 q1 => ?_⟩
    cases c with
    | true => exact k true M1 G1 H1 s1 r1 q1
    | false => exact ⟨ρ, M1, G1, Qd, s0.trans s1, r1, l.mono s1, q1, fun b M' G' H' s2 r2 q2 => k b M' G' H' (s1.trans s2) r2 q2⟩
theorem dt_not (ha : PT X a (upT K G0 ta)) : PT X (.UnaryOp .Not a pos) (upT K G0 (dNot ta)) :=
  pt_mono (pt_not ha) fun σ H Q h => by
    obtain ⟨ρ, M, G, Qd, s0, rl, l, h, k⟩ := h
    exact ⟨ρ, M, G, _, s0, rl, l, h, fun c M1 G1 H1 s1 r1 q1 => k _ M1 G1 H1 s1 r1 q1⟩
theorem de_ife {c : Expr} (hc : PT X c (upT K G0 ta)) (ha : PE X a (up K G0 da)) (hb : PE X b (up K G0 db)) : PE X (.IfExp c a b pos) (up K G0 (dIfE ta da db)) :=
  pe_mono (pe_ifExp hc ha hb) fun σ H Q h => by
    obtain ⟨ρ, M, G, Qd, s0, rl, l, h, k⟩ := h
    refine ⟨ρ, M, G, _, s0, rl, l, h, fun c M1 G1 H1 s1 r1 q1 => ?_⟩
    cases c with
    | true => exact ⟨ρ, M1, G1, Qd, s0.trans s1, r1, l.mono s1, q1, fun d M' G' v H' s2 r2 p2 q2 => k d M' G' v H' (s1.trans s2) r2 p2 q2⟩
    | false => exact ⟨ρ, M1, G1, Qd, s0.trans s1, r1, l.mono s1, q1, fun d M' G' v H' s2 r2 p2 q2 => k d M' G' v H' (s1.trans s2) r2 p2 q2⟩
/-- not e as a value -/
theorem de_not (ha : PE X a (up K G0 da)) : PE X (.UnaryOp .Not a pos) (up K G0 (dUn (fun d M Q => match d with | .bl b => Q (.bl (!b)) M | _ => False) da)) :=
  pe_mono (pe_not ha) fun σ H Q h => by
    obtain ⟨ρ, M, G, Qd, s0, rl, l, h, k⟩ := h
    refine ⟨ρ, M, G, _, s0, rl, l, h, fun d M1 G1 v H1 s1 r1 p1 q1 => ?_⟩
    cases d with
    | bl b => unfold Rep at p1; exact ⟨b, p1, k (.bl !b) M1 G1 _ H1 s1 r1 (flat_rep rfl) q1⟩
    | _ => exact False.elim q1
/-- a and b, a or b as values: all but the last True or False -/
def dAndV (a b : DE) : DE := fun ρ M Q => a ρ M fun d M1 => match d with | .bl c => if c = true then b ρ M1 Q else Q (.bl false) M1 | _ => False
def dOrV (a b : DE) : DE := fun ρ M Q => a ρ M fun d M1 => match d with | .bl c => if c = true then Q (.bl true) M1 else b ρ M1 Q | _ => False
theorem de_one {op : BoolOp} (h : PE X a (up K G0 da)) : PE X (.BoolOp op [a] pos) (up K G0 da) := pe_one h
theorem de_and (ha : PE X a (up K G0 da)) (hb : PE X (.BoolOp .And (b :: rest) pos) (up K G0 db)) : PE X (.BoolOp .And (a :: b :: rest) pos) (up K G0 (dAndV da db)) :=
  pe_mono (pe_and ha hb) fun σ H Q h => by
    obtain ⟨ρ, M, G, Qd, s0, rl, l, h, k⟩ := h
    refine ⟨ρ, M, G, _, s0, rl, l, h, fun d M1 G1 v H1 s1 r1 p1 q1 => ?_⟩
    cases d with
    | bl c =>
      unfold Rep at p1
      refine ⟨c, p1, ?_⟩
      cases c with
      | true => exact ⟨ρ, M1, G1, Qd, s0.trans s1, r1, l.mono s1, q1, fun d M' G' v H' s2 r2 p2 q2 => k d M' G' v H' (s1.trans s2) r2 p2 q2⟩
      | false => exact k (.bl false) M1 G1 _ H1 s1 r1 (flat_rep rfl) q1
    | _ => exact False.elim q1
theorem de_or (ha : PE X a (up K G0 da)) (hb : PE X (.BoolOp .Or (b :: rest) pos) (up K G0 db)) : PE X (.BoolOp .Or (a :: b :: rest) pos) (up K G0 (dOrV da db)) :=
  pe_mono (pe_or ha hb) fun σ H Q h => by
    obtain ⟨ρ, M, G, Qd, s0, rl, l, h, k⟩ := h
    refine ⟨ρ, M, G, _, s0, rl, l, h, fun d M1 G1 v H1 s1 r1 p1 q1 => ?_⟩
    cases d with
    | bl c =>
      unfold Rep at p1
      refine ⟨c, p1, ?_⟩
      cases c with
      | true => exact k (.bl true) M1 G1 _ H1 s1 r1 (flat_rep rfl) q1
      | false => exact ⟨ρ, M1, G1, Qd, s0.trans s1, r1, l.mono s1, q1, fun d M' G' v H' s2 r2 p2 q2 => k d M' G' v H' (s1.trans s2) r2 p2 q2⟩
    | _ => exact False.elim q1

/-! ### argument lists, displays -/
variable {e : Expr} {es : List Expr} {de : DE} {ad : DA}
def dNil : DA := fun _ M Q => Q [] M
def dCons (a : DE) (r : DA) : DA := fun ρ M Q => a ρ M fun x M1 => r ρ M1 fun xs M2 => Q (x :: xs) M2
theorem da_nil : PA X [] (upA K G0 dNil) := pa_mono pa_nil fun σ H Q h => by
  obtain ⟨ρ, M, G, Qd, s0, rl, l, h, k⟩ := h
  exact k [] M G [] H (Same.refl _) rl Reps.nil h
theorem da_cons (ha : PE X e (up K G0 de)) (hr : PA X es (upA K G0 ad)) (hs : starEach (e :: es) X.env = (false, eval e X.env) :: starEach es X.env := by rfl) : PA X (e :: es) (upA K G0 (dCons de ad)) :=
  pa_mono (pa_cons ha hr hs) fun σ H Q h => by
    obtain ⟨ρ, M, G, Qd, s0, rl, l, h, k⟩ := h
    refine ⟨ρ, M, G, _, s0, rl, l, h, fun d M1 G1 v H1 s1 r1 p1 q1 => ?_⟩
    refine ⟨ρ, M1, G1, _, s0.trans s1, r1, l.mono s1, q1, fun ds M2 G2 vs H2 s2 r2 p2 q2 => ?_⟩
    exact k (d :: ds) M2 G2 (v :: vs) H2 (s1.trans s2) r2 (Reps.cons (p1.mono s2) p2) q2
def dTup (a : DA) : DE := fun ρ M Q => a ρ M fun xs M1 => xs.length ≤ sizeLine ∧ Q (.tup xs) M1
/-- a list that never changes; one that does -/
def dLst (a : DA) : DE := fun ρ M Q => a ρ M fun xs M1 => xs.length ≤ sizeLine ∧ Q (.lst xs) M1
def dLstM (a : DA) : DE := fun ρ M Q => a ρ M fun xs M1 => xs.length ≤ sizeLine ∧ ∀ p, M1 p = none → Q (.ref p) (M1.set p (.lst xs))
theorem de_tup {x1 : Nat} (h : PA X es (upA K G0 ad)) : PE X (.Tuple es x1 pos) (up K G0 (dTup ad)) :=
  pe_mono (pe_tup h) fun σ H Q h => by
    obtain ⟨ρ, M, G, Qd, s0, rl, l, h, k⟩ := h
    refine ⟨ρ, M, G, _, s0, rl, l, h, fun ds M1 G1 vs H1 s1 r1 p1 q1 => ⟨by rw [← p1.length]; exact q1.1, fun p hp => ?_⟩⟩
    have g := r1.free hp
    refine k _ M1 (upd G1 p (.tup vs)) _ _ (s1.trans (same_upd g)) (r1.laid hp _) ?_ q1.2
    unfold Rep
    exact ⟨p, vs, rfl, .inl (.inl upd_same), p1.mono (same_upd g)⟩
theorem de_lst (h : PA X es (upA K G0 ad)) : PE X (.List es pos) (up K G0 (dLst ad)) :=
  pe_mono (pe_lst h) fun σ H Q h => by
    obtain ⟨ρ, M, G, Qd, s0, rl, l, h, k⟩ := h
    refine ⟨ρ, M, G, _, s0, rl, l, h, fun ds M1 G1 vs H1 s1 r1 p1 q1 => ⟨by rw [← p1.length]; exact q1.1, fun p hp => ?_⟩⟩
    have g := r1.free hp
    refine k _ M1 (upd G1 p (.lst vs)) _ _ (s1.trans (same_upd g)) (r1.laid hp _) ?_ q1.2
    unfold Rep
    exact ⟨p, vs, rfl, upd_same, p1.mono (same_upd g)⟩
theorem de_lstM (h : PA X es (upA K G0 ad)) : PE X (.List es pos) (up K G0 (dLstM ad)) :=
  pe_mono (pe_lst h) fun σ H Q h => by
    obtain ⟨ρ, M, G, Qd, s0, rl, l, h, k⟩ := h
    refine ⟨ρ, M, G, _, s0, rl, l, h, fun ds M1 G1 vs H1 s1 r1 p1 q1 => ⟨by rw [← p1.length]; exact q1.1, fun p hp => ?_⟩⟩
    exact k (.ref p) _ G1 _ _ s1 (r1.newM (m := .lst ds) hp ⟨vs, upd_same, p1⟩) (flat_rep rfl) (q1.2 p (r1.freeM hp))

/-! ### statements -/
variable {st : Stmt} {sts : List Stmt} {ts us : DS}
def dNext : DS := fun D ρ M => D.nx ρ M
def dSeq (t u : DS) : DS := fun D ρ M => t { D with nx := u D } ρ M
def dIf (c : DT) (t u : DS) : DS := fun D ρ M => c ρ M fun b M1 => if b = true then t D ρ M1 else u D ρ M1
def dRet (e : DE) : DS := fun D ρ M => e ρ M D.rt
def dRetN : DS := fun D _ M => D.rt .non M
def dDrop (e : DE) : DS := fun D ρ M => e ρ M fun _ M1 => D.nx ρ M1
def dBreak : DS := fun D ρ M => D.bk ρ M
def dCont : DS := fun D ρ M => D.ct ρ M
def dNever : DS := fun _ _ _ => False
/-- from now on the object at a never changes: what is told of it in d -/
theorem ds_nil : PSs X [] (upS K G0 dNext) := pss_mono pss_nil fun D σ H h => by
  obtain ⟨ρ, M, G, Dd, s0, rl, l, h, k1, k2, k3, k4⟩ := h
  exact k1 ρ M G σ H (Same.refl _) rl l h
theorem ds_cons (h1 : PS X st (upS K G0 ts)) (h2 : PSs X sts (upS K G0 us)) : PSs X (st :: sts) (upS K G0 (dSeq ts us)) := pss_mono (pss_cons h1 h2) fun D σ H h => by
  obtain ⟨ρ, M, G, Dd, s0, rl, l, h, k1, k2, k3, k4⟩ := h
  exact ⟨ρ, M, G, _, s0, rl, l, h, fun ρ' M' G' σ' H' s r l' q => ⟨ρ', M', G', Dd, s0.trans s, r, l', q, fun _ _ _ _ _ z => k1 _ _ _ _ _ (s.trans z), fun _ _ _ _ _ z => k2 _ _ _ _ _ (s.trans z), fun _ _ _ _ _ z => k3 _ _ _ _ _ (s.trans z), fun _ _ _ _ _ z => k4 _ _ _ _ _ (s.trans z)⟩, k2, k3, k4⟩
theorem ds_one (h1 : PS X st (upS K G0 ts)) : PSs X [st] (upS K G0 ts) := pss_one h1
theorem ds_pass : PS X (.Pass pos) (upS K G0 dNext) := ps_mono ps_pass fun D σ H h => by
  obtain ⟨ρ, M, G, Dd, s0, rl, l, h, k1, k2, k3, k4⟩ := h
  exact k1 ρ M G σ H (Same.refl _) rl l h
theorem ds_break : PS X (.Break pos) (upS K G0 dBreak) := ps_mono ps_break fun D σ H h => by
  obtain ⟨ρ, M, G, Dd, s0, rl, l, h, k1, k2, k3, k4⟩ := h
  exact k3 ρ M G σ H (Same.refl _) rl l h
theorem ds_cont : PS X (.Continue pos) (upS K G0 dCont) := ps_mono ps_continue fun D σ H h => by
  obtain ⟨ρ, M, G, Dd, s0, rl, l, h, k1, k2, k3, k4⟩ := h
  exact k4 ρ M G σ H (Same.refl _) rl l h
theorem ds_if {c : Expr} {bl cl : List Stmt} (hc : PT X c (upT K G0 ta)) (ha : PSs X bl (upS K G0 ts)) (hb : PSs X cl (upS K G0 us)) : PS X (.If c bl cl pos) (upS K G0 (dIf ta ts us)) := ps_mono (ps_if hc ha hb) fun D σ H h => by
  obtain ⟨ρ, M, G, Dd, s0, rl, l, h, k1, k2, k3, k4⟩ := h
  refine ⟨ρ, M, G, _, s0, rl, l, h, fun b M1 G1 H1 s1 r1 q1 => ?_⟩
  cases b with
  | true => exact ⟨ρ, M1, G1, Dd, s0.trans s1, r1, l.mono s1, q1, fun _ _ _ _ _ z => k1 _ _ _ _ _ (s1.trans z), fun _ _ _ _ _ z => k2 _ _ _ _ _ (s1.trans z), fun _ _ _ _ _ z => k3 _ _ _ _ _ (s1.trans z), fun _ _ _ _ _ z => k4 _ _ _ _ _ (s1.trans z)⟩
  | false => exact ⟨ρ, M1, G1, Dd, s0.trans s1, r1, l.mono s1, q1, fun _ _ _ _ _ z => k1 _ _ _ _ _ (s1.trans z), fun _ _ _ _ _ z => k2 _ _ _ _ _ (s1.trans z), fun _ _ _ _ _ z => k3 _ _ _ _ _ (s1.trans z), fun _ _ _ _ _ z => k4 _ _ _ _ _ (s1.trans z)⟩
theorem ds_ret (he : PE X e (up K G0 de)) : PS X (.Return (some e) pos) (upS K G0 (dRet de)) := ps_mono (ps_ret he) fun D σ H h => by
  obtain ⟨ρ, M, G, Dd, s0, rl, l, h, k1, k2, k3, k4⟩ := h
  exact ⟨ρ, M, G, _, s0, rl, l, h, fun d M' G' v H' s r p q => k2 d M' G' v H' s r p q⟩
theorem ds_retN : PS X (.Return none pos) (upS K G0 dRetN) := ps_mono ps_retN fun D σ H h => by
  obtain ⟨ρ, M, G, Dd, s0, rl, l, h, k1, k2, k3, k4⟩ := h
  exact k2 .non M G .non H (Same.refl _) rl (flat_rep rfl) h
theorem ds_expr (he : PE X e (up K G0 de)) (hs : swapsWith e none pos.line X.env = pure false := by rfl) : PS X (.Expr e pos) (upS K G0 (dDrop de)) := ps_mono (ps_expr he hs) fun D σ H h => by
  obtain ⟨ρ, M, G, Dd, s0, rl, l, h, k1, k2, k3, k4⟩ := h
  exact ⟨ρ, M, G, _, s0, rl, l, h, fun d M' G' v H' s r p q => k1 ρ M' G' σ H' s r (l.mono s) q⟩

/-! ### targets, stores -/
abbrev DGs := List D → Ds → Mm → (Ds → Mm → Prop) → Prop
def upGs (K : PySem.W.Frag) (G0 : Hp) (dg : DGs) : TGs := fun vs σ H Q => ∃ ρ M G ds Qd, Same K G0 G ∧ RelH K M G H ∧ Locs K ρ G σ ∧ Reps K G ds vs ∧ dg ds ρ M Qd ∧ ∀ ρ' M' G' σ' H', Same K G G' → RelH K M' G' H' → Locs K ρ' G' σ' → Qd ρ' M' → Q σ' H'
def dgName (i : Nat) : DG := fun d ρ M Q => Q (ρ.set i (some d)) M
def dgNil : DGs := fun ds ρ M Q => ds = [] ∧ Q ρ M
def dgCons (g : DG) (r : DGs) : DGs := fun ds ρ M Q => match ds with | [] => False | d :: ds => g d ρ M fun ρ1 M1 => r ds ρ1 M1 Q
def dgTup (n : Nat) (g : DGs) : DG := fun d ρ M Q => match d with | .tup xs => xs.length = n ∧ g xs ρ M Q | _ => False
variable {tg : Expr} {dg : DG} {dgs : DGs}
theorem pgs_mono {es : List Expr} {t t' : TGs} (h : PGs X es t) (i : ∀ vs σ H Q, t' vs σ H Q → t vs σ H Q) : PGs X es t' := ⟨fun pins s σ H v u Q I r q => h.run pins s σ H v u Q I r (i v σ H Q q)⟩
theorem dg_name {i : Nat} {x : Str} (hN : X.N.Nodup) (hi : X.N[i]? = some x) (hx : Loc X.env.scope x) (hf : X.fn x = true ∨ X.env.scope.names.lookup x = some .local := by first | exact .inl rfl | exact .inr rfl | assumption) : PG X (.Name x pos) (upG K G0 (dgName i)) :=
  pg_mono (pg_name hN hi hx hf) fun v σ H Q h => by
    obtain ⟨ρ, M, G, d, Qd, s0, rl, l, p, h, k⟩ := h
    exact k _ M G _ H (Same.refl _) rl (l.set i p) h
theorem dgs_nil : PGs X [] (upGs K G0 dgNil) := pgs_mono pgs_nil fun v σ H Q h => by
  obtain ⟨ρ, M, G, ds, Qd, s0, rl, l, p, ⟨e, h⟩, k⟩ := h
  subst e
  unfold Reps at p
  exact ⟨p, k ρ M G σ H (Same.refl _) rl l h⟩
theorem dgs_cons {e : Expr} {es : List Expr} (h1 : PG X e (upG K G0 dg)) (h2 : PGs X es (upGs K G0 dgs))
    (hs : (assignEach (e :: es) X.env).map (·.2) = assign e X.env :: (assignEach es X.env).map (·.2) := by rfl) : PGs X (e :: es) (upGs K G0 (dgCons dg dgs)) := pgs_mono (pgs_cons h1 h2 hs) fun v σ H Q h => by
  obtain ⟨ρ, M, G, ds, Qd, s0, rl, l, p, h, k⟩ := h
  cases ds with
  | nil => exact False.elim h
  | cons d ds =>
    unfold Reps at p
    obtain ⟨w, ws, e1, p1, p2⟩ := p
    refine ⟨w, ws, e1, ρ, M, G, d, _, s0, rl, l, p1, h, fun ρ1 M1 G1 σ1 H1 s1 r1 l1 q1 => ?_⟩
    exact ⟨ρ1, M1, G1, ds, Qd, s0.trans s1, r1, l1, p2.mono s1, q1, fun ρ' M' G' σ' H' s r l q => k ρ' M' G' σ' H' (s1.trans s) r l q⟩
theorem dg_tup {es : List Expr} {k : Nat} {n : Nat} (hK : X.K = K) (hc : X.calm = true) (h : PGs X es (upGs K G0 dgs))
    (hn : (assignEach es X.env).length = n := by rfl) (hst : (assignEach es X.env).findIdx? (·.1) = none := by rfl) : PG X (.Tuple es k pos) (upG K G0 (dgTup n dgs)) := pg_mono (pg_tup hc h hn hst) fun v σ H Q h => by
  obtain ⟨ρ, M, G, d, Qd, s0, rl, l, p, h, k⟩ := h
  subst hK
  cases d with
  | tup xs =>
    unfold Rep at p
    obtain ⟨a, vs, e, hq, p⟩ := p
    exact ⟨a, vs, e, sameT rl.sub hq, by rw [← p.length]; exact h.1, ρ, M, G, xs, Qd, s0, rl, l, p, h.2, k⟩
  | _ => exact False.elim h
def dAsg (e : DE) (g : DG) : DS := fun D ρ M => e ρ M fun x M1 => g x ρ M1 D.nx
theorem up_asg {D : Ends} (h : upS K G0 (dAsg de dg) D σ H) : tAsg (up K G0 de) (upG K G0 dg) D σ H := by
  obtain ⟨ρ, M, G, Dd, s0, rl, l, h, k1, k2, k3, k4⟩ := h
  refine ⟨ρ, M, G, _, s0, rl, l, h, fun d M1 G1 v H1 s1 r1 p1 q1 => ?_⟩
  exact ⟨ρ, M1, G1, d, Dd.nx, s0.trans s1, r1, l.mono s1, p1, q1, fun ρ' M' G' σ' H' s r l q => k1 ρ' M' G' σ' H' (s1.trans s) r l q⟩
theorem ds_asg (he : PE X e (up K G0 de)) (hg : PG X tg (upG K G0 dg)) (hs : swapsWithSole [tg] e pos.line X.env = pure false := by rfl) (hw : swappedStores [tg] e X.env = pure none := by rfl)
    (h1 : (assignEach [tg] X.env).map (·.2) = [assign tg X.env] := by rfl) : PS X (.Assign [tg] e pos) (upS K G0 (dAsg de dg)) := ps_mono (ps_asg he hg hs hw h1) fun D σ H h => up_asg h
theorem ds_set {i : Nat} {x : Str} {pos' : Pos} (hN : X.N.Nodup) (hi : X.N[i]? = some x) (hx : Loc X.env.scope x) (he : PE X e (up K G0 de)) (hs : swapsWith e (some (.Name x pos')) pos.line X.env = pure false := by rfl) (hf : X.fn x = true ∨ X.env.scope.names.lookup x = some .local := by first | exact .inl rfl | exact .inr rfl | assumption) :
    PS X (.Assign [.Name x pos'] e pos) (upS K G0 (dAsg de (dgName i))) := ps_mono (ps_set hN hi hx he hs hf) fun D σ H h => by
  obtain ⟨ρ, M, G, Dd, s0, rl, l, h, k1, k2, k3, k4⟩ := h
  refine ⟨ρ, M, G, _, s0, rl, l, h, fun d M1 G1 v H1 s1 r1 p1 q1 => ?_⟩
  exact k1 _ M1 G1 _ H1 s1 r1 ((l.mono s1).set i p1) q1
/-- a, b = x, y; a, b, c = x, y, z with plain local names -/
def dPar (js : List Nat) (a : DA) : DS := fun D ρ M => a ρ M fun ds M1 => ds.length = js.length ∧ D.nx ((js.zip ds).foldl (fun r p => r.set p.1 (some p.2)) ρ) M1
theorem ds_par {i j : Nat} {x y : Str} {px py pt : Pos} {kt k2 : Nat} {pt2 : Pos} (hc : X.calm = true) (hN : X.N.Nodup) (hi : X.N[i]? = some x) (hj : X.N[j]? = some y) (hij : i ≠ j)
    (hx : X.env.scope.names.lookup x = some .local) (hy : X.env.scope.names.lookup y = some .local) (ha : PA X [a, b] (upA K G0 ad))
    (hw : swappedStores [.Tuple [.Name x px, .Name y py] kt pt] (.Tuple [a, b] k2 pt2) X.env = pure (some [x, y]))
    (hs : swapsWithSole [.Tuple [.Name x px, .Name y py] kt pt] (.Tuple [a, b] k2 pt2) pos.line X.env = pure false := by rfl) :
    PS X (.Assign [.Tuple [.Name x px, .Name y py] kt pt] (.Tuple [a, b] k2 pt2) pos) (upS K G0 (dPar [i, j] ad)) := ps_mono (ps_par hc hN hi hj hij hx hy ha hw hs) fun D σ H h => by
  obtain ⟨ρ, M, G, Dd, s0, rl, l, h, k1, k2, k3, k4⟩ := h
  refine ⟨ρ, M, G, _, s0, rl, l, h, fun ds M1 G1 vs H1 s1 r1 p1 q1 => ?_⟩
  obtain ⟨hl, q⟩ := q1
  match ds, hl with
  | [d1, d2], _ =>
    unfold Reps at p1
    obtain ⟨v1, w1, e1, p1, p2⟩ := p1
    unfold Reps at p2
    obtain ⟨v2, w2, e2, p2, p3⟩ := p2
    unfold Reps at p3
    subst e1 e2 p3
    exact ⟨v1, v2, rfl, k1 _ M1 G1 _ H1 s1 r1 (((l.mono s1).set i p1).set j p2) q⟩
end
end Dq
/-! The deep layer, part 2: defs and their calls, raise, loops. -/
namespace Dq
open PySem PySem.Spec PyProof.Rows L2
section
variable {X : Cx} {G0 : Hp} {K : PySem.W.Frag} {a b c e : Expr} {es : List Expr} {pos : Pos} {da db de : DE} {ad : DA} {dg : DG} {ts us : DS} {tg : Expr}
/-- a, b, c = x, y, z with plain local names -/
theorem ds_par3 {i j l : Nat} {x y z : Str} {px py pz pt : Pos} {kt k2 : Nat} {pt2 : Pos} (hc : X.calm = true) (hN : X.N.Nodup) (hi : X.N[i]? = some x) (hj : X.N[j]? = some y) (hl : X.N[l]? = some z) (hij : i ≠ j) (hil : i ≠ l) (hjl : j ≠ l)
    (hx : X.env.scope.names.lookup x = some .local) (hy : X.env.scope.names.lookup y = some .local) (hz : X.env.scope.names.lookup z = some .local) (ha : PA X [a, b, c] (upA K G0 ad))
    (hw : swappedStores [.Tuple [.Name x px, .Name y py, .Name z pz] kt pt] (.Tuple [a, b, c] k2 pt2) X.env = pure (some [x, y, z]))
    (hs : swapsWithSole [.Tuple [.Name x px, .Name y py, .Name z pz] kt pt] (.Tuple [a, b, c] k2 pt2) pos.line X.env = pure false := by rfl) :
    PS X (.Assign [.Tuple [.Name x px, .Name y py, .Name z pz] kt pt] (.Tuple [a, b, c] k2 pt2) pos) (upS K G0 (dPar [i, j, l] ad)) := ps_mono (ps_par3 hc hN hi hj hl hij hil hjl hx hy hz ha hw hs) fun D σ H h => by
  obtain ⟨ρ, M, G, Dd, s0, rl, lo, h, k1, k2, k3, k4⟩ := h
  refine ⟨ρ, M, G, _, s0, rl, lo, h, fun ds M1 G1 vs H1 s1 r1 p1 q1 => ?_⟩
  obtain ⟨hl, q⟩ := q1
  match ds, hl with
  | [d1, d2, d3], _ =>
    unfold Reps at p1
    obtain ⟨v1, w1, e1, p1, p2⟩ := p1
    unfold Reps at p2
    obtain ⟨v2, w2, e2, p2, p3⟩ := p2
    unfold Reps at p3
    obtain ⟨v3, w3, e3, p3, p4⟩ := p3
    unfold Reps at p4
    subst e1 e2 e3 p4
    exact ⟨v1, v2, v3, rfl, k1 _ M1 G1 _ H1 s1 r1 ((((lo.mono s1).set i p1).set j p2).set l p3) q⟩

/-! ### defs -/
/-- a def's promise: arguments, what changes, the wanted end, the wanted exception -/
abbrev DSp := List D → Mm → DK → DX → Prop
def upF (K : PySem.W.Frag) (sp : DSp) : Sp := fun vs H Q E => ∃ M G ds Qd Ed, RelH K M G H ∧ Reps K G ds vs ∧ sp ds M Qd Ed ∧
  (∀ d M' G' v H', Same K G G' → RelH K M' G' H' → Rep K G' d v → Qd d M' → Q v H') ∧
  (∀ C fs M' G' d H', Same K G G' → RelH K M' G' H' → XdR K G' H' d fs → Ed C fs M' → E (.ref C) d H')
/-- room, and no text of an object is being made -/
structure RoomG (k : Nat) (A : Around) : Prop where
  room : Room k A
  gd : A.guards = some []
theorem RoomG.mono {j k : Nat} {A : Around} (r : RoomG k A) (h : j ≤ k) : RoomG j A := ⟨r.room.mono h, r.gd⟩
theorem RoomG.deeper {k : Nat} {A : Around} (r : RoomG (k + 1) A) (env : Env) : RoomG k (A.deeper env) := ⟨r.room.deeper env, r.gd⟩
structure FnD (P : Program) (w : World) (K : PySem.W.Frag) (mg : Str → Option Value) (base : Heap) (k : Nat) (f : Addr) (fd : FuncData) (ps : List Str) (sp : DSp) : Prop where
  len : ∀ ds M Q E, sp ds M Q E → ds.length = ps.length
  run : ∀ (A : Around) (outer : List Env) (s : Shared) (H : Hp) (args : Args) (us : List Value) (vs : List V) (Q : VK) (E : XK), RoomG k A → Env0 P w K mg base A outer s H →
    BindsTo s fd args (ps.zip us) → Vals vs us → upF K sp vs H Q E → codeAny (model P w) A (.call (.ref f) args) (CR (L2.CX P w) outer P w H s Q E) s
theorem FnD.mono {P : Program} {w : World} {K : PySem.W.Frag} {mg : Str → Option Value} {base : Heap} {j k : Nat} {f : Addr} {fd : FuncData} {ps : List Str} {sp : DSp} (F : FnD P w K mg base j f fd ps sp) (h : j ≤ k) : FnD P w K mg base k f fd ps sp :=
  ⟨F.len, fun A outer s H args us vs Q E hr => F.run A outer s H args us vs Q E (hr.mono h)⟩
theorem FnD.imp {P : Program} {w : World} {K : PySem.W.Frag} {mg : Str → Option Value} {base : Heap} {k : Nat} {f : Addr} {fd : FuncData} {ps : List Str} {sp sp' : DSp} (F : FnD P w K mg base k f fd ps sp) (h : ∀ ds M Q E, sp' ds M Q E → sp ds M Q E) : FnD P w K mg base k f fd ps sp' :=
  ⟨fun ds M Q E q => F.len ds M Q E (h _ _ _ _ q), fun A outer s H args us vs Q E hr he hb hv hs => F.run A outer s H args us vs Q E hr he hb hv (let ⟨M, G, ds, Qd, Ed, h1, h2, h3, h4⟩ := hs; ⟨M, G, ds, Qd, Ed, h1, h2, h _ _ _ _ h3, h4⟩)⟩
def dstart (N : List Str) (ds : List D) : Ds := ds.map some ++ List.replicate (N.length - ds.length) none
theorem locs_start {N : List Str} {G : Hp} {ds : List D} {vs : List V} (h : Reps K G ds vs) : Locs K (dstart N ds) G (L2.start N vs) := by
  have hl := h.length
  refine ⟨by unfold dstart L2.start; simp [hl], fun i d e => ?_⟩
  unfold dstart at e
  unfold L2.start
  by_cases hi : i < ds.length
  · rw [List.getElem?_append_left (by simpa using hi), List.getElem?_map] at e
    cases q : ds[i]? with
    | none => rw [q] at e; cases e
    | some d' =>
      rw [q] at e
      cases e
      obtain ⟨v, e1, e2⟩ := h.get q
      refine ⟨v, ?_, e2⟩
      rw [List.getElem?_append_left (by rw [List.length_map, ← hl]; exact hi), List.getElem?_map, e1]
      rfl
  · rw [List.getElem?_append_right (by simpa using hi), List.getElem?_replicate] at e
    split at e <;> cases e
/-- THE RULE of a def: its body, read; g: what stood at the call -/
theorem fnD_ofW {P : Program} {w : World} {K : PySem.W.Frag} {mg : Str → Option Value} {base : Heap} {x qual : Str} {st : Stmt} {f : Addr} {fd : FuncData} {N ps : List Str} {k : Nat} {sp : DSp} (F : Fun K x qual st f fd) (S : FnScope N ps (defScope st))
    (len : ∀ ds M Q E, sp ds M Q E → ds.length = ps.length) (B : DXS → DS)
    (der : ∀ (cdv : Value), fd.code = cdv → ∀ (A : Around) (outer : List Env) (s : Shared) (H : Hp) (E : XK) (G0 : Hp) (Wd : DXS), RoomG k (A.deeper (envOfC qual (defScope st) s.heap.objs.size f cdv)) →
      Takes (cxOf (L2.CX P w) P w K mg base N qual (defScope st) f cdv A outer s H E) (upW K G0 Wd) →
      PassesOwn (model P w) (cxOf (L2.CX P w) P w K mg base N qual (defScope st) f cdv A outer s H E).A (cxOf (L2.CX P w) P w K mg base N qual (defScope st) f cdv A outer s H E).env (cxOf (L2.CX P w) P w K mg base N qual (defScope st) f cdv A outer s H E).xe → PSs (cxOf (L2.CX P w) P w K mg base N qual (defScope st) f cdv A outer s H E) (defBody st) (upS K G0 (B Wd)))
    (pure : ∀ ds M Q E, sp ds M Q E → B (fun C fs _ M' => E C fs M') { nx := fun _ M' => Q .non M', rt := Q } (dstart N ds) M) : FnD P w K mg base (k + 1) f fd ps sp := by
  obtain ⟨oc, od, kV, doc, pm, an, cdv, ct, osl, rfl, lk, hcd⟩ := F.ex
  refine ⟨len, ?_⟩
  intro A outer s H args uu vs Q E hr e0 hb rv ⟨M, G, ds, Qd, Ed, rl, rp, hsp, kq, ke⟩
  have hl : vs.length = ps.length := rp.length.symm.trans (len _ _ _ _ hsp)
  have hin : K.In s.heap := e0.mod.kin.keeps fun b o z => (e0.bs b o z).1
  have lim := e0.mod.nolimit.keeps (h' := s.heap) fun b o z => (e0.bs b o z).1
  have knd : ∀ y ∈ ps.zip uu, (defScope st).names.lookup y.1 = some .local ∨ ((defScope st).names.lookup y.1 = some .cell ∧ ((cellsFrom (s.heap.objs.size + 1) (defScope st).names []).lookup y.1).isSome = true) := by
    rintro ⟨n, v⟩ hy
    exact (S.par n (List.of_mem_zip hy).1).imp (fun q => q) fun q => ⟨q, PySem.W.cellsFrom_some _ _ _ (.inl q)⟩
  refine codeAny_call_function hr.room.depth (hin _ _ lk) rfl S.co S.gen rfl (PySem.W.codeRec_of hin hcd) (hb _ _ _ _ ?_)
  refine wpAny_newFunctionEnv_cells S.kind knd fun env he s1 xx => ?_
  subst he
  refine ⟨lim.keeps xx.toInCall.keep, codeAny_func ?_⟩
  have I := inv_start (CX := L2.CX P w) (E := E) (P := P) (w := w) (K := K) (mg := mg) (base := base) S hr.room.hd e0 hl rv xx
  have tk := takes_of (X := cxOf (L2.CX P w) P w K mg base N qual (defScope st) f cdv A outer s H E) (E := E) rfl rfl rfl rfl
  have tk2 : Takes (cxOf (L2.CX P w) P w K mg base N qual (defScope st) f cdv A outer s H E) (upW K G fun C fs _ M' => Ed C fs M') := tk.imp fun c d σ H' ⟨C, fs, ρ, M', G', s1, r1, _, e1, x1, q1⟩ => by
    subst e1
    exact ke C fs M' G' d H' s1 r1 x1 q1
  refine wpAny_mono ((der cdv rfl A outer s H E G _ (hr.deeper _) tk2 (passes_of rfl)).run [] s1 _ H { nx := fun _ H' => Q .non H', rt := Q } I ⟨dstart N ds, M, G, _, Same.refl _, rl, locs_start rp, pure _ _ _ _ hsp, ?_, ?_, ?_, ?_⟩) (fun fl s' hs => ?_) fun e s' hs => hs
  · exact fun ρ' M' G' σ' H' s r l q => kq .non M' G' .non H' s r (flat_rep rfl) q
  · exact fun d M' G' v H' s r p q => kq d M' G' v H' s r p q
  · exact fun _ _ _ _ _ _ _ _ q => q
  · exact fun _ _ _ _ _ _ _ _ q => q
  · cases fl with
    | ret u =>
      obtain ⟨v, σ', H', J, rv', q⟩ := hs
      exact ⟨v, H', J.os, J.bare, J.base, J.hok, rv', q⟩
    | next =>
      obtain ⟨σ', H', J, q⟩ := hs
      exact ⟨.non, H', J.os, J.bare, J.base, J.hok, rfl, q⟩
    | brk => obtain ⟨_, _, _, q⟩ := hs; exact q.elim
    | cont => obtain ⟨_, _, _, q⟩ := hs; exact q.elim

theorem fnD_of {P : Program} {w : World} {K : PySem.W.Frag} {mg : Str → Option Value} {base : Heap} {x qual : Str} {st : Stmt} {f : Addr} {fd : FuncData} {N ps : List Str} {k : Nat} {sp : DSp} (F : Fun K x qual st f fd) (S : FnScope N ps (defScope st))
    (len : ∀ ds M Q E, sp ds M Q E → ds.length = ps.length) (B : DXS → DS)
    (der : ∀ (cdv : Value) (A : Around) (outer : List Env) (s : Shared) (H : Hp) (E : XK) (G0 : Hp) (Wd : DXS), RoomG k (A.deeper (envOfC qual (defScope st) s.heap.objs.size f cdv)) →
      Takes (cxOf (L2.CX P w) P w K mg base N qual (defScope st) f cdv A outer s H E) (upW K G0 Wd) →
      PassesOwn (model P w) (cxOf (L2.CX P w) P w K mg base N qual (defScope st) f cdv A outer s H E).A (cxOf (L2.CX P w) P w K mg base N qual (defScope st) f cdv A outer s H E).env (cxOf (L2.CX P w) P w K mg base N qual (defScope st) f cdv A outer s H E).xe → PSs (cxOf (L2.CX P w) P w K mg base N qual (defScope st) f cdv A outer s H E) (defBody st) (upS K G0 (B Wd)))
    (pure : ∀ ds M Q E, sp ds M Q E → B (fun C fs _ M' => E C fs M') { nx := fun _ M' => Q .non M', rt := Q } (dstart N ds) M) : FnD P w K mg base (k + 1) f fd ps sp :=
  fnD_ofW F S len B (fun cdv _ A outer s H E G0 Wd hr tk hp => der cdv A outer s H E G0 Wd hr tk hp) pure

/-! ### calls -/
def dCallF (sp : DSp) (Wd : DXS) (a : DA) : DE := fun ρ M Q => a ρ M fun ds M1 => sp ds M1 Q fun C fs M' => Wd C fs ρ M'
variable {k : Nat} {f : Addr} {fd : FuncData} {ps : List Str} {sp : DSp} {Wd : DXS} {x : Str} {p : Pos}
theorem run_fnD {pins : List (Addr × Obj)} {σ : St} {H : Hp} {s : Shared} {Q : VK} {uu : List Value} {vs : List V} {W : WX} (F : FnD X.prog X.w X.K X.mg X.base k f fd ps sp) (hr : RoomG k X.A) (hb : Binds X.K fd ps []) (tk : Takes X W)
    (I : Inv X pins σ H s) (r : Vals vs uu) (h : upF X.K sp vs H Q fun cls d H' => W cls d σ H') : wpAny (model X.prog X.w) X.A (call (.ref f) uu) (EP X pins σ Q) X.xe s := by
  have hl : uu.length = ps.length := by
    obtain ⟨M, G, ds, Qd, Ed, rl, rp, hsp, _⟩ := id h
    rw [← r.length, ← rp.length]
    exact F.len _ _ _ _ hsp
  have bb := hb s uu I.kIn (by rw [List.append_nil]; exact hl)
  rw [List.append_nil] at bb
  refine wpAny_call (codeAny_mono (F.run X.A X.stack s H ⟨uu, []⟩ uu vs Q _ hr I.env0 bb r h) fun res s' hq => ?_)
  match res, hq with
  | .error e, hq => exact tk e s' (XE.of_call I (fun _ _ _ z => z) hq)
  | .ok (.ret u), hq => exact I.after hq
theorem up_callF {σ : St} {H : Hp} {Q : VK} {ta : TA} (hK : X.K = K) (h : up K G0 (dCallF sp Wd ad) σ H Q) : upA K G0 ad σ H fun vs H1 => upF X.K sp vs H1 Q fun cls d H' => upW K G0 Wd cls d σ H' := by
  subst hK
  obtain ⟨ρ, M, G, Qd, s0, rl, l, h, kk⟩ := h
  refine ⟨ρ, M, G, _, s0, rl, l, h, fun ds M1 G1 vs H1 s1 r1 p1 q1 => ?_⟩
  refine ⟨M1, G1, ds, Qd, _, r1, p1, q1, fun d M' G' v H' s2 r2 p2 q2 => kk d M' G' v H' (s1.trans s2) r2 p2 q2, fun C fs M' G' d H' s2 r2 x2 q2 => ?_⟩
  exact ⟨C, fs, ρ, M', G', (s0.trans s1).trans s2, r2, (l.mono s1).mono s2, rfl, x2, q2⟩
theorem de_call (F : FnD X.prog X.w X.K X.mg X.base k f fd ps sp) (hr : RoomG k X.A) (hg : Gl X x) (hm : X.mg x = some (.ref f)) (hk : PySem.W.keepIn X.K (.ref f) = true) (hb : Binds X.K fd ps []) (tk : Takes X (upW X.K G0 Wd))
    (ha : PA X (e :: es) (upA X.K G0 ad)) (hdb : (x == ("__debug__" : Str)) = false := by decide) (he : starEach (e :: es) X.env = (false, eval e X.env) :: starEach es X.env := by rfl) (hpl : (backTo pos (starEach es X.env)).any (·.1) = false := by rfl) :
    PE X (.Call (.Name x p) (e :: es) [] pos) (up X.K G0 (dCallF sp Wd ad)) := by
  refine ⟨fun pins s σ H Q I h => wpAny_Call_Name_kw (ld_glob I hg hm ?_ hdb)⟩
  refine PySem.W.callWith_K (h₀ := X.base) I.ok.mod.kin hk (thn (ha.run pos pins s σ H _ I (up_callF (ta := tNil) rfl h)) ?_) he hpl
  rintro uu s1 ⟨vs, H1, I1, r, q⟩
  exact ⟨I1.kIn, run_fnD F hr hb tk I1 r q⟩
theorem de_call0 (F : FnD X.prog X.w X.K X.mg X.base k f fd ps sp) (hr : RoomG k X.A) (hg : Gl X x) (hm : X.mg x = some (.ref f)) (hk : PySem.W.keepIn X.K (.ref f) = true) (hb : Binds X.K fd ps []) (tk : Takes X (upW X.K G0 Wd))
    (hdb : (x == ("__debug__" : Str)) = false := by decide) : PE X (.Call (.Name x p) [] [] pos) (up X.K G0 (dCallF sp Wd dNil)) := by
  refine ⟨fun pins s σ H Q I h => wpAny_Call_Name_kw (ld_glob I hg hm ?_ hdb)⟩
  refine PySem.W.callWith_K0 I.kIn hk (run_fnD (uu := []) F hr hb tk I .nil (W := upW X.K G0 Wd) ?_)
  obtain ⟨ρ, M, G, Qd, s0, rl, l, h, kk⟩ := h
  refine ⟨M, G, [], Qd, _, rl, Reps.nil, h, kk, fun C fs M' G' d H' s2 r2 x2 q2 => ?_⟩
  exact ⟨C, fs, ρ, M', G', s0.trans s2, r2, l.mono s2, rfl, x2, q2⟩
/-- built-ins by their names -/
theorem de_callB {id : String} {r : RDC} (hc : CallR X (.builtin id) (upC K r)) (hg : Gl X x) (hm : X.mg x = none) (hv : bootBuiltins x = some (.builtin id)) (ha : PA X (e :: es) (upA K G0 ad)) (hn : x ≠ "__name__" := by decide) (hdb : (x == ("__debug__" : Str)) = false := by decide)
    (he : starEach (e :: es) X.env = (false, eval e X.env) :: starEach es X.env := by rfl) (hpl : (backTo pos (starEach es X.env)).any (·.1) = false := by rfl) : PE X (.Call (.Name x p) (e :: es) [] pos) (up K G0 (dCall r ad)) :=
  pe_mono (pe_callB hc hg hm hv ha hn hdb he hpl) fun σ H Q h => up_call h
theorem de_callTy {T : String} {r : RDC} (hc : CallR X (.type T) (upC K r)) (hg : Gl X x) (hm : X.mg x = none) (hv : bootBuiltins x = some (.type T)) (ha : PA X (e :: es) (upA K G0 ad)) (hn : x ≠ "__name__" := by decide) (hdb : (x == ("__debug__" : Str)) = false := by decide)
    (he : starEach (e :: es) X.env = (false, eval e X.env) :: starEach es X.env := by rfl) (hpl : (backTo pos (starEach es X.env)).any (·.1) = false := by rfl) : PE X (.Call (.Name x p) (e :: es) [] pos) (up K G0 (dCall r ad)) :=
  pe_mono (pe_callTy hc hg hm hv ha hn hdb he hpl) fun σ H Q h => up_call h

/-! ### for -/
abbrev DI := Ds → Mm → (List D → Mm → Prop) → Prop
/-- the iterator J walks the items -/
structure WalksD (K : PySem.W.Frag) (J : It) (xs : List D) (G : Hp) : Prop where
  go : ∀ i H, Same K G H → i < xs.length → J.go i H
  stop : ∀ i H, Same K G H → xs.length ≤ i → J.stop i H
  yld : ∀ i H x H' d, Same K G H → xs[i]? = some d → J.yld i H x H' → (H' = H ∧ Rep K G d x) ∨ ∃ p o, H p = none ∧ H' = upd H p o ∧ ∀ G1, Same K G G1 → G1 p = none → Rep K (upd G1 p o) d x
def upI (K : PySem.W.Frag) (G0 : Hp) (di : DI) : TI := fun σ H R => ∃ ρ M G Qd, Same K G0 G ∧ RelH K M G H ∧ Locs K ρ G σ ∧ di ρ M Qd ∧ ∀ xs M' G' H' J, Same K G G' → RelH K M' G' H' → WalksD K J xs G' → Qd xs M' → R J H'
def dForL (g : DG) (b : DS) : List D → DS
  | [], D, ρ, M => D.nx ρ M
  | x :: xs, D, ρ, M => g x ρ M fun ρ1 M1 => b { D with nx := dForL g b xs D, ct := dForL g b xs D, bk := D.nx } ρ1 M1
def dFor (di : DI) (g : DG) (b : DS) : DS := fun D ρ M => di ρ M fun xs M1 => dForL g b xs D ρ M1
theorem up_for {di : DI} {D : Ends} {σ : St} {H : Hp} (h : upS K G0 (dFor di dg ts) D σ H) : tFor (upI K G0 di) (upG K G0 dg) (upS K G0 ts) D σ H := by
  obtain ⟨ρ, M, G, Dd, s0, rl, l, h, k1, k2, k3, k4⟩ := h
  refine ⟨ρ, M, G, _, s0, rl, l, h, fun xs M1 G1 H1 J s1 r1 wk q1 => ?_⟩
  refine ⟨fun i m σ H => ∃ ρ M G2, Same K G1 G2 ∧ RelH K M G2 H ∧ Locs K ρ G2 σ ∧ dForL dg ts (xs.drop i) Dd ρ M ∧ m = xs.length - i ∧ i ≤ xs.length, ⟨xs.length, ρ, M1, G1, Same.refl _, r1, l.mono s1, q1, rfl, Nat.zero_le _⟩, ?_⟩
  rintro i m σ2 H2 ⟨ρ2, M2, G2, s2, r2, l2, q2, rfl, hi⟩
  rcases Nat.lt_or_ge i xs.length with hlt | hge
  · refine .inr ⟨wk.go i H2 (s2.trans r2.sub) hlt, fun σ' H' => ∃ ρ M G3, Same K G1 G3 ∧ RelH K M G3 H' ∧ Locs K ρ G3 σ' ∧ dForL dg ts (xs.drop (i + 1)) Dd ρ M, ?_, fun x H3 y => ?_⟩
    · rintro σ' H' ⟨ρ3, M3, G3, s3, r3, l3, q3⟩
      exact ⟨xs.length - (i + 1), by omega, ρ3, M3, G3, s3, r3, l3, q3, rfl, hlt⟩
    · rw [List.drop_eq_getElem_cons hlt] at q2
      -- the body, from the item's rep on
      have key : ∀ (G3 : Hp), Same K G2 G3 → RelH K M2 G3 H3 → Rep K G3 xs[i] x → upG K G0 dg x σ2 H3 fun σ2 H2 => upS K G0 ts { D with nx := fun σ' H' => ∃ ρ M G3, Same K G1 G3 ∧ RelH K M G3 H' ∧ Locs K ρ G3 σ' ∧ dForL dg ts (xs.drop (i + 1)) Dd ρ M, ct := fun σ' H' => ∃ ρ M G3, Same K G1 G3 ∧ RelH K M G3 H' ∧ Locs K ρ G3 σ' ∧ dForL dg ts (xs.drop (i + 1)) Dd ρ M, bk := D.nx } σ2 H2 := by
        intro G3 s3 r3 p3
        refine ⟨ρ2, M2, G3, xs[i], _, ((s0.trans s1).trans s2).trans s3, r3, l2.mono s3, p3, q2, fun ρ4 M4 G4 σ4 H4 s4 r4 l4 q4 => ?_⟩
        have sB : Same K G1 G4 := (s2.trans s3).trans s4
        refine ⟨ρ4, M4, G4, _, (s0.trans s1).trans sB, r4, l4, q4, fun ρ5 M5 G5 σ5 H5 s5 r5 l5 q5 => ⟨ρ5, M5, G5, sB.trans s5, r5, l5, q5⟩, fun d M' G' v H' z => k2 d M' G' v H' ((s1.trans sB).trans z), fun _ _ _ _ _ z => k1 _ _ _ _ _ ((s1.trans sB).trans z), fun ρ5 M5 G5 σ5 H5 s5 r5 l5 q5 => ⟨ρ5, M5, G5, sB.trans s5, r5, l5, q5⟩⟩
      rcases wk.yld i H2 x H3 xs[i] (s2.trans r2.sub) (List.getElem?_eq_getElem hlt) y with ⟨e, p3⟩ | ⟨p, o, hp, e, p3⟩
      · subst e
        exact key G2 (Same.refl _) r2 (p3.mono s2)
      · subst e
        exact key _ (same_upd (r2.free hp)) (r2.laid hp o) (p3 G2 s2 (r2.free hp))
  · have e : i = xs.length := by omega
    subst e
    rw [List.drop_length] at q2
    exact .inl ⟨wk.stop _ H2 (s2.trans r2.sub) (Nat.le_refl _), k1 ρ2 M2 G2 σ2 H2 (s1.trans s2) r2 l2 q2⟩
theorem ds_for {iter : Expr} {body : List Stmt} {di : DI} (hp : PassesOwn (model X.prog X.w) X.A X.env X.xe) (hc : X.calm = true) (hi : PI X tg iter (upI K G0 di)) (hg : PG X tg (upG K G0 dg)) (hb : PSs X body (upS K G0 ts))
    (hs : ∀ x, foldedSetIterable iter X.env x = pure x := by intro _; rfl) : PS X (.For tg iter body [] pos) (upS K G0 (dFor di dg ts)) := ps_mono (ps_for hp hc hi hg hb hs) fun D σ H h => up_for h
theorem pi_mono {iter : Expr} {t t' : TI} (h : PI X tg iter t) (i : ∀ σ H R, t' σ H R → t σ H R) : PI X tg iter t' := ⟨fun pins s σ H R I q => h.run pins s σ H R I (i σ H R q)⟩
/-- the items of a list, of a tuple, of the script -/
def items : D → Option (List D)
  | .lst xs => some xs
  | .tup xs => some xs
  | .scr ns => some (ns.map .int)
  | _ => none
/-- what stands at a is a list (or a tuple) of these -/
def SeqAt' (K : PySem.W.Frag) (H : Hp) (a : Addr) (vs : List V) : Prop := SqL K H a vs ∨ SqT K H a vs
theorem reps_ints {H : Hp} : ∀ ns : List Int, Reps K H (ns.map D.int) (ns.map V.int)
  | [] => Reps.nil
  | n :: r => Reps.cons (flat_rep rfl) (reps_ints r)
theorem items_rep {d : D} {xs : List D} {v : V} {G : Hp} (h : items d = some xs) (p : Rep K G d v) : ∃ a vs, v = .ref a ∧ SeqAt' K G a vs ∧ Reps K G xs vs := by
  cases d with
  | lst ys =>
    cases h
    unfold Rep at p
    obtain ⟨a, vs, e, q, r⟩ := p
    exact ⟨a, vs, e, .inl (SqL.of q), r⟩
  | tup ys =>
    cases h
    unfold Rep at p
    obtain ⟨a, vs, e, q, r⟩ := p
    exact ⟨a, vs, e, .inr q, r⟩
  | scr ns =>
    cases h
    unfold Rep at p
    obtain ⟨a, e, q⟩ := p
    exact ⟨a, _, e, .inl q, reps_ints ns⟩
  | _ => cases h
def iSeq (K : PySem.W.Frag) (tl : TE) : TI := fun σ H R => tl σ H fun x H1 => ∃ a, x = .ref a ∧ (((∃ xs, SqL K H1 a xs) ∧ R (Itl K a) H1) ∨ ((∃ xs, SqT K H1 a xs) ∧ R (Itt K a) H1))
theorem pi_seq {l : Expr} {tl : TE} (hl : PE X l tl) : PI X tg l (iSeq X.K tl) := by
  refine ⟨fun pins s σ H R I h => thn (hl.run pins s σ H _ I h) ?_⟩
  rintro v s1 ⟨x, H1, I1, r1, a, e, q⟩
  subst e
  cases r1
  have frs : ∀ (b : Addr), b ∈ [s1.heap.objs.size] → FpOk X pins H1 b := fun b hb => by
    obtain rfl : b = s1.heap.objs.size := by simpa using hb
    exact I1.fpOk (Nat.le_refl _) (I1.hok.fresh (Nat.le_refl _))
  rcases q with ⟨⟨xs, hq⟩, q⟩ | ⟨⟨xs, hq⟩, q⟩
  · obtain ⟨its, rv, pl, hz⟩ := I1.list hq
    exact wpAny_pyIter_list pl.isList ⟨_, [s1.heap.objs.size], _, _, H1, rfl, I1.kept (t' := s1.toks) fun b o z => Heap.get?_push_of_some _ z, turn_list a _, ⟨_, Heap.get?_push_size _ rfl, rfl, rfl⟩, frs, q⟩
  · obtain ⟨its, rv, pl, hz⟩ := I1.tuple hq
    exact wpAny_pyIter_tuple (show s1.heap.IsTuple a its.toArray from pl) ⟨_, [s1.heap.objs.size], _, _, H1, rfl, I1.kept (t' := s1.toks) fun b o z => Heap.get?_push_of_some _ z, turn_tuple a _, ⟨_, Heap.get?_push_size _ rfl, rfl, rfl⟩, frs, q⟩
def dSeqI (e : DE) : DI := fun ρ M Q => e ρ M fun d M1 => match items d with | some xs => Q xs M1 | none => False
theorem walks_seq {a : Addr} {vs : List V} {xs : List D} {G : Hp} (h : SqL K G a vs) (r : Reps K G xs vs) : WalksD K (Itl K a) xs G where
  go := fun i H s hi => ⟨vs, vs[i]'(by rw [← r.length]; exact hi), s.seq h, List.getElem?_eq_getElem _⟩
  stop := fun i H s hi => ⟨vs, s.seq h, by rw [← r.length]; exact hi⟩
  yld := fun i H x H' d s hd y => by
    obtain ⟨e, y⟩ := y
    obtain ⟨v, e1, p⟩ := r.get hd
    have e2 := y vs (s.seq h)
    rw [e1] at e2
    cases e2
    exact .inl ⟨e, p⟩
theorem walks_tup {a : Addr} {vs : List V} {xs : List D} {G : Hp} (h : SqT K G a vs) (r : Reps K G xs vs) : WalksD K (Itt K a) xs G where
  go := fun i H s hi => ⟨vs, vs[i]'(by rw [← r.length]; exact hi), sameT s h, List.getElem?_eq_getElem _⟩
  stop := fun i H s hi => ⟨vs, sameT s h, by rw [← r.length]; exact hi⟩
  yld := fun i H x H' d s hd y => by
    obtain ⟨e, y⟩ := y
    obtain ⟨v, e1, p⟩ := r.get hd
    have e2 := y vs (sameT s h)
    rw [e1] at e2
    cases e2
    exact .inl ⟨e, p⟩
theorem di_seq {l : Expr} (hK : X.K = K) (hl : PE X l (up K G0 de)) : PI X tg l (upI K G0 (dSeqI de)) := by
  subst hK
  refine pi_mono (pi_seq hl) fun σ H R h => ?_
  obtain ⟨ρ, M, G, Qd, s0, rl, l, h, kk⟩ := h
  refine ⟨ρ, M, G, _, s0, rl, l, h, fun d M1 G1 v H1 s1 r1 p1 q1 => ?_⟩
  cases e : items d with
  | none => rw [e] at q1; exact q1.elim
  | some xs =>
    rw [e] at q1
    obtain ⟨a, vs, ev, hq, rp⟩ := items_rep e p1
    rcases hq with hq | hq
    · exact ⟨a, ev, .inl ⟨⟨vs, r1.sub.seq hq⟩, kk xs M1 G1 H1 _ s1 r1 (walks_seq hq rp) q1⟩⟩
    · exact ⟨a, ev, .inr ⟨⟨vs, sameT r1.sub hq⟩, kk xs M1 G1 H1 _ s1 r1 (walks_tup hq rp) q1⟩⟩
/-- lo, lo + 1, .. -/
def rng (lo : Int) (n : Nat) : List D := (List.range n).map fun i => .int (lo + (i : Nat))
theorem walks_rng {lo : Int} {n : Nat} {G : Hp} : WalksD K (Itr lo n) (rng lo n) G where
  go := fun i H s hi => by unfold rng at hi; show i < n; simpa using hi
  stop := fun i H s hi => by unfold rng at hi; show n ≤ i; simpa using hi
  yld := fun i H x H' d s hd y => by
    obtain ⟨e, y⟩ := y
    subst y
    unfold rng at hd
    rw [List.getElem?_map] at hd
    cases q : (List.range n)[i]? with
    | none => rw [q] at hd; cases hd
    | some j =>
      rw [q] at hd
      cases hd
      obtain ⟨hi, e2⟩ := List.getElem?_eq_some_iff.mp q
      have e3 : i = j := by simpa using e2
      subst e3
      exact .inl ⟨e, flat_rep rfl⟩
def dRng1 (a : DA) : DI := fun ρ M Q => a ρ M fun ds M1 => match ds with | [.int j] => (-(2 ^ 62) ≤ j ∧ j < 2 ^ 62) ∧ Q (rng 0 j.toNat) M1 | _ => False
def dRng2 (a : DA) : DI := fun ρ M Q => a ρ M fun ds M1 => match ds with | [.int i, .int j] => (-(2 ^ 62) ≤ i ∧ i < 2 ^ 62 ∧ -(2 ^ 62) ≤ j ∧ j < 2 ^ 62) ∧ Q (rng i (j - i).toNat) M1 | _ => False
theorem reps1 {x : D} {vs : List V} {G : Hp} (h : Reps K G [x] vs) : ∃ v, vs = [v] ∧ Rep K G x v := by
  unfold Reps at h
  obtain ⟨v, w, e, p, q⟩ := h
  unfold Reps at q
  subst q
  exact ⟨v, e, p⟩
theorem reps2 {x y : D} {vs : List V} {G : Hp} (h : Reps K G [x, y] vs) : ∃ v w, vs = [v, w] ∧ Rep K G x v ∧ Rep K G y w := by
  unfold Reps at h
  obtain ⟨v, w, e, p, q⟩ := h
  obtain ⟨u, e2, p2⟩ := reps1 q
  subst e2
  exact ⟨v, u, e, p, p2⟩
theorem rep_int {i : Int} {v : V} {G : Hp} (h : Rep K G (.int i) v) : v = .int i := by unfold Rep at h; exact h
theorem rep_str {i : Str} {v : V} {G : Hp} (h : Rep K G (.str i) v) : v = .str i := by unfold Rep at h; exact h
theorem rep_bl {i : Bool} {v : V} {G : Hp} (h : Rep K G (.bl i) v) : v = .bl i := by unfold Rep at h; exact h
theorem rep_ref {i : Addr} {v : V} {G : Hp} (h : Rep K G (.ref i) v) : v = .ref i := by unfold Rep at h; exact h
theorem rep_non {v : V} {G : Hp} (h : Rep K G .non v) : v = .non := by unfold Rep at h; exact h
theorem di_rng1 (hg : Gl X "range") (hm : X.mg "range" = none) (ha : PA X [a] (upA K G0 ad)) (hs : starEach [a] X.env = [(false, eval a X.env)] := by rfl) : PI X tg (.Call (.Name "range" p) [a] [] pos) (upI K G0 (dRng1 ad)) :=
  pi_mono (pi_range1 hg hm ha hs) fun σ H R h => by
    obtain ⟨ρ, M, G, Qd, s0, rl, l, h, kk⟩ := h
    refine ⟨ρ, M, G, _, s0, rl, l, h, fun ds M1 G1 vs H1 s1 r1 p1 q1 => ?_⟩
    match ds, q1 with
    | [.int j], q1 =>
      obtain ⟨v, e, p⟩ := reps1 p1
      subst e
      rw [rep_int p]
      exact ⟨j, rfl, q1.1.1, q1.1.2, kk _ M1 G1 H1 _ s1 r1 walks_rng q1.2⟩
theorem di_rng2 (hg : Gl X "range") (hm : X.mg "range" = none) (ha : PA X [a, b] (upA K G0 ad)) (hs : starEach [a, b] X.env = [(false, eval a X.env), (false, eval b X.env)] := by rfl) (hs2 : starEach [b] X.env = [(false, eval b X.env)] := by rfl) :
    PI X tg (.Call (.Name "range" p) [a, b] [] pos) (upI K G0 (dRng2 ad)) :=
  pi_mono (pi_range2 hg hm ha hs hs2) fun σ H R h => by
    obtain ⟨ρ, M, G, Qd, s0, rl, l, h, kk⟩ := h
    refine ⟨ρ, M, G, _, s0, rl, l, h, fun ds M1 G1 vs H1 s1 r1 p1 q1 => ?_⟩
    match ds, q1 with
    | [.int i, .int j], q1 =>
      obtain ⟨v, w, e, p, p'⟩ := reps2 p1
      subst e
      rw [rep_int p, rep_int p']
      exact ⟨i, j, rfl, q1.1, kk _ M1 G1 H1 _ s1 r1 walks_rng q1.2⟩
end
end Dq
/-! The deep layer, part 3: operators, built-ins, dicts. -/
namespace Dq
open PySem PySem.Spec PyProof.Rows L2
section
variable {X : Cx} {G0 : Hp} {a b c e : Expr} {es : List Expr} {pos : Pos} {da db de : DE} {ad : DA} {dg : DG} {ts us : DS} {tg : Expr} {p : Pos}
/-! ### whole numbers, texts, lists -/
/-- two ints -/
def rI2 (C : Int → Int → Prop) (g : Int → Int → D) : RD2 := fun x y M Q => match x, y with | .int i, .int j => C i j ∧ Q (g i j) M | _, _ => False
theorem op_I2 {f : Value → Value → Sem Value} {C : Int → Int → Prop} {g : Int → Int → D} {g' : Int → Int → V} (h : OpR X f (rI C g')) (e : ∀ i j, flat (g i j) = some (g' i j)) : OpR X f (up2 X.K (rI2 C g)) :=
  op_mono h fun x y H Q q => by
    obtain ⟨M, G, dx, dy, Qd, rl, p1, p2, q, k⟩ := q
    unfold rI2 at q
    split at q
    · rename_i i j
      obtain ⟨hc, q⟩ := q
      exact ⟨i, j, rep_int p1, rep_int p2, hc, k _ M G _ H (Same.refl _) rl (flat_rep (e i j)) q⟩
    · exact q.elim
theorem op_I0 {f : Value → Value → Sem Value} {g : Int → Int → D} {g' : Int → Int → V} (h : OpR X f (rI0 g')) (e : ∀ i j, flat (g i j) = some (g' i j)) : OpR X f (up2 X.K (rI2 (fun _ _ => True) g)) :=
  op_mono h fun x y H Q q => by
    obtain ⟨M, G, dx, dy, Qd, rl, p1, p2, q, k⟩ := q
    unfold rI2 at q
    split at q
    · rename_i i j
      obtain ⟨hc, q⟩ := q
      exact ⟨i, j, rep_int p1, rep_int p2, k _ M G _ H (Same.refl _) rl (flat_rep (e i j)) q⟩
    · exact q.elim
/-- + by kinds -/
def rAdd : RD2 := fun x y M Q => match x, y with
  | .int i, .int j => Q (.int (i + j)) M
  | .str s, .str t => s.length + t.length ≤ sizeLine ∧ Q (.str (s ++ t)) M
  | .lst xs, .lst ys => xs.length + ys.length ≤ sizeLine ∧ Q (.lst (xs ++ ys)) M
  | _, _ => False
/-- one rule for several kinds -/
theorem add_ok : OpR X (binaryOp .Add) (up2 X.K rAdd) := by
  intro pins s σ H x y v u Q I rx ry h
  obtain ⟨M, G, dx, dy, Qd, rl, p1, p2, q, k⟩ := h
  unfold rAdd at q
  split at q
  · rename_i i j
    exact op_add pins s σ H x y v u Q I rx ry ⟨i, j, rep_int p1, rep_int p2, k _ M G _ H (Same.refl _) rl (flat_rep rfl) q⟩
  · rename_i z t
    exact op_add_str pins s σ H x y v u Q I rx ry ⟨z, t, rep_str p1, rep_str p2, q.1, k _ M G _ H (Same.refl _) rl (flat_rep rfl) q.2⟩
  · rename_i xs ys
    unfold Rep at p1 p2
    obtain ⟨l1, v1, e1, h1, r1⟩ := p1
    obtain ⟨l2, v2, e2, h2, r2⟩ := p2
    refine op_cat pins s σ H x y v u Q I rx ry ⟨l1, l2, v1, v2, e1, e2, rl.sub0 _ _ h1, rl.sub0 _ _ h2, by rw [← r1.length, ← r2.length]; exact q.1, fun p hp => ?_⟩
    have g := rl.free hp
    refine k _ M (upd G p (.lst (v1 ++ v2))) _ _ (same_upd g) (rl.laid hp _) ?_ q.2
    unfold Rep
    exact ⟨p, v1 ++ v2, rfl, upd_same, (r1.append r2).mono (same_upd g)⟩
  · exact q.elim
theorem sub_ok : OpR X (binaryOp .Sub) (up2 X.K (rI2 (fun _ _ => True) fun i j => .int (i - j))) := op_I0 op_sub fun _ _ => rfl
theorem mul_ok : OpR X (binaryOp .Mult) (up2 X.K (rI2 CMulW fun i j => .int (i * j))) := op_I2 op_mulW fun _ _ => rfl
theorem mod_ok : OpR X (binaryOp .Mod) (up2 X.K (rI2 (fun _ j => 0 < j) fun i j => .int (i % j))) := op_I2 op_mod fun _ _ => rfl
theorem fdiv_ok : OpR X (binaryOp .FloorDiv) (up2 X.K (rI2 CDivW fun i j => .int (i / j))) := op_I2 op_fdivW fun _ _ => rfl
theorem pow_ok : OpR X (binaryOp .Pow) (up2 X.K (rI2 CPow fun i j => .int (i ^ j.toNat))) := op_I2 op_pow fun _ _ => rfl
theorem lt_ok : OpR X (compareOp .Lt) (up2 X.K (rI2 (fun _ _ => True) fun i j => .bl (decide (i < j)))) := op_I0 op_lt fun _ _ => rfl
theorem le_ok : OpR X (compareOp .LtE) (up2 X.K (rI2 (fun _ _ => True) fun i j => .bl (decide (i ≤ j)))) := op_I0 op_le fun _ _ => rfl
theorem gt_ok : OpR X (compareOp .Gt) (up2 X.K (rI2 (fun _ _ => True) fun i j => .bl (decide (j < i)))) := op_I0 op_gt fun _ _ => rfl
theorem ge_ok : OpR X (compareOp .GtE) (up2 X.K (rI2 (fun _ _ => True) fun i j => .bl (decide (j ≤ i)))) := op_I0 op_ge fun _ _ => rfl
def rNeg : RD1 := fun x M Q => match x with | .int i => Q (.int (-i)) M | _ => False
theorem neg_ok : UnR X (unaryOp .USub) (up1 X.K rNeg) := un_mono un_neg fun x H Q q => by
  obtain ⟨M, G, dx, Qd, rl, p1, q, k⟩ := q
  unfold rNeg at q
  split at q
  · rename_i i
    exact ⟨i, rep_int p1, k _ M G _ H (Same.refl _) rl (flat_rep rfl) q⟩
  · exact q.elim

/-! ### == -/
mutual
/-- as the library's data, where it is such -/
def D.py : D → Option PyData
  | .non => some .none
  | .bl b => some (.bool b)
  | .int i => some (.int i)
  | .str x => some (.str x)
  | .tup xs => (D.pys xs).map .tuple
  | .lst xs => (D.pys xs).map .list
  | _ => none
def D.pys : List D → Option (List PyData)
  | [] => some []
  | d :: r => match D.py d, D.pys r with
    | some x, some xs => some (x :: xs)
    | _, _ => none
end
mutual
theorem dp_of {K : PySem.W.Frag} {G : Hp} : ∀ {d : D} {v : V} {x : PyData}, Rep K G d v → d.py = some x → Dp K G v x
  | .non, v, x, h, e => by unfold Rep at h; subst h; simp [D.py] at e; subst e; exact .non
  | .bl b, v, x, h, e => by unfold Rep at h; subst h; simp [D.py] at e; subst e; exact .bl b
  | .int i, v, x, h, e => by unfold Rep at h; subst h; simp [D.py] at e; subst e; exact .int i
  | .str z, v, x, h, e => by unfold Rep at h; subst h; simp [D.py] at e; subst e; exact .str z
  | .tup xs, v, x, h, e => by
    unfold Rep at h
    obtain ⟨a, vs, rfl, h1, h2⟩ := h
    unfold D.py at e
    cases q : D.pys xs with
    | none => rw [q] at e; cases e
    | some ys => rw [q] at e; cases e; exact .tup h1 (dps_of h2 q)
  | .lst xs, v, x, h, e => by
    unfold Rep at h
    obtain ⟨a, vs, rfl, h1, h2⟩ := h
    unfold D.py at e
    cases q : D.pys xs with
    | none => rw [q] at e; cases e
    | some ys => rw [q] at e; cases e; exact .lst (SqL.of h1) (dps_of h2 q)
  | .ref _, _, _, _, e => by simp [D.py] at e
  | .ty _, _, _, _, e => by simp [D.py] at e
  | .scr _, _, _, _, e => by simp [D.py] at e
  | .dic _, _, _, _, e => by simp [D.py] at e
theorem dps_of {K : PySem.W.Frag} {G : Hp} : ∀ {ds : List D} {vs : List V} {xs : List PyData}, Reps K G ds vs → D.pys ds = some xs → DpAll K G vs xs
  | [], vs, xs, h, e => by unfold Reps at h; subst h; simp [D.pys] at e; subst e; exact .nil
  | d :: r, vs, xs, h, e => by
    unfold Reps at h
    obtain ⟨v, ws, rfl, h1, h2⟩ := h
    unfold D.pys at e
    cases q1 : D.py d with
    | none => rw [q1] at e; cases e
    | some y =>
      cases q2 : D.pys r with
      | none => rw [q1, q2] at e; cases e
      | some ys => rw [q1, q2] at e; cases e; exact .cons (dp_of h1 q1) (dps_of h2 q2)
end
mutual
theorem dp_mono {K : PySem.W.Frag} {G H : Hp} (s : Same K G H) : ∀ {v : V} {x : PyData}, Dp K G v x → Dp K H v x
  | _, _, .non => .non
  | _, _, .bl b => .bl b
  | _, _, .int i => .int i
  | _, _, .str z => .str z
  | _, _, .lst h t => .lst (s.seq h) (dps_mono s t)
  | _, _, .tup h t => .tup (sameT s h) (dps_mono s t)
theorem dps_mono {K : PySem.W.Frag} {G H : Hp} (s : Same K G H) : ∀ {vs : List V} {xs : List PyData}, DpAll K G vs xs → DpAll K H vs xs
  | _, _, .nil => .nil
  | _, _, .cons h t => .cons (dp_mono s h) (dps_mono s t)
end
/-- == of data -/
def rEqD' (neg : Bool) : RD2 := fun x y M Q => ∃ p q, x.py = some p ∧ y.py = some q ∧ SeqAt.shaped p = true ∧ SeqAt.shaped q = true ∧ Q (.bl (if neg then !PyData.eqv p q else PyData.eqv p q)) M
/-- ==: numbers and texts by themselves, all else as data -/
def rEq' : RD2 := fun x y M Q => match x, y with
  | .int i, .int j => Q (.bl (decide (i = j))) M
  | .str s, .str t => Q (.bl (decide (s = t))) M
  | x, y => rEqD' false x y M Q
def rNe' : RD2 := fun x y M Q => match x, y with
  | .int i, .int j => Q (.bl (!decide (i = j))) M
  | .str s, .str t => Q (.bl (!decide (s = t))) M
  | x, y => rEqD' true x y M Q
theorem eq_ok (hu : X.A.units + 64 < cLine) : OpR X (compareOp .Eq) (up2 X.K rEq') := by
  intro pins s σ H x y v u Q I rx ry h
  obtain ⟨M, G, dx, dy, Qd, rl, p1, p2, q, k⟩ := h
  unfold rEq' at q
  split at q
  · rename_i i j
    have := rep_int p1
    have := rep_int p2
    subst x y
    refine op_eq pins s σ H _ _ v u Q I rx ry ⟨rfl, ?_⟩
    have q' := k _ M G (.bl (decide (i = j))) H (Same.refl _) rl (flat_rep rfl) q
    rw [dec_int, Bool.beq_eq_decide_eq]
    exact q'
  · rename_i i j
    have := rep_str p1
    have := rep_str p2
    subst x y
    refine op_eq pins s σ H _ _ v u Q I rx ry ⟨rfl, ?_⟩
    have q' := k _ M G (.bl (decide (i = j))) H (Same.refl _) rl (flat_rep rfl) q
    rw [dec_str, Bool.beq_eq_decide_eq]
    exact q'
  · obtain ⟨p, r, e1, e2, h1, h2, q⟩ := q
    exact op_eqD hu pins s σ H x y v u Q I rx ry ⟨p, r, dp_mono rl.sub (dp_of p1 e1), dp_mono rl.sub (dp_of p2 e2), h1, h2, k _ M G _ H (Same.refl _) rl (flat_rep rfl) q⟩
theorem ne_ok (hu : X.A.units + 64 < cLine) : OpR X (compareOp .NotEq) (up2 X.K rNe') := by
  intro pins s σ H x y v u Q I rx ry h
  obtain ⟨M, G, dx, dy, Qd, rl, p1, p2, q, k⟩ := h
  unfold rNe' at q
  split at q
  · rename_i i j
    have := rep_int p1
    have := rep_int p2
    subst x y
    refine op_ne pins s σ H _ _ v u Q I rx ry ⟨rfl, ?_⟩
    have q' := k _ M G (.bl (!decide (i = j))) H (Same.refl _) rl (flat_rep rfl) q
    rw [dec_int, Bool.beq_eq_decide_eq]
    exact q'
  · rename_i i j
    have := rep_str p1
    have := rep_str p2
    subst x y
    refine op_ne pins s σ H _ _ v u Q I rx ry ⟨rfl, ?_⟩
    have q' := k _ M G (.bl (!decide (i = j))) H (Same.refl _) rl (flat_rep rfl) q
    rw [dec_str, Bool.beq_eq_decide_eq]
    exact q'
  · obtain ⟨p, r, e1, e2, h1, h2, q⟩ := q
    exact op_neD hu pins s σ H x y v u Q I rx ry ⟨p, r, dp_mono rl.sub (dp_of p1 e1), dp_mono rl.sub (dp_of p2 e2), h1, h2, k _ M G _ H (Same.refl _) rl (flat_rep rfl) q⟩
/-- is None, is not None -/
def isNon : D → Bool
  | .non => true
  | _ => false
def rIsN : RD2 := fun x y M Q => match y with | .non => Q (.bl (isNon x)) M | _ => False
def rNotN : RD2 := fun x y M Q => match y with | .non => Q (.bl (!isNon x)) M | _ => False
theorem isNon_rep {K : PySem.W.Frag} {G : Hp} {d : D} {v : V} (h : Rep K G d v) : decide (v = .non) = isNon d := by
  cases d <;> unfold Rep at h <;> first
    | (subst h; rfl)
    | (obtain ⟨a, e, _⟩ := h; subst e; rfl)
    | (obtain ⟨a, vs, e, _⟩ := h; subst e; rfl)
theorem isN_ok : OpR X (compareOp .Is) (up2 X.K rIsN) := op_mono op_isN fun x y H Q q => by
  obtain ⟨M, G, dx, dy, Qd, rl, p1, p2, q, k⟩ := q
  unfold rIsN at q
  split at q
  · exact ⟨rep_non p2, by rw [isNon_rep p1]; exact k _ M G _ H (Same.refl _) rl (flat_rep rfl) q⟩
  · exact q.elim
theorem notN_ok : OpR X (compareOp .IsNot) (up2 X.K rNotN) := op_mono op_notN fun x y H Q q => by
  obtain ⟨M, G, dx, dy, Qd, rl, p1, p2, q, k⟩ := q
  unfold rNotN at q
  split at q
  · exact ⟨rep_non p2, by rw [isNon_rep p1]; exact k _ M G _ H (Same.refl _) rl (flat_rep rfl) q⟩
  · exact q.elim
/-- x in a list or tuple of flat things -/
def flats : List D → Option (List V)
  | [] => some []
  | d :: r => match flat d, flats r with | some v, some vs => some (v :: vs) | _, _ => none
theorem flats_rep {K : PySem.W.Frag} {G : Hp} : ∀ {ds : List D} {vs ws : List V}, flats ds = some vs → Reps K G ds ws → ws = vs
  | [], vs, ws, e, h => by unfold Reps at h; simp [flats] at e; rw [h, e]
  | d :: r, vs, ws, e, h => by
    unfold Reps at h
    obtain ⟨v, us, rfl, h1, h2⟩ := h
    unfold flats at e
    cases q1 : flat d with
    | none => rw [q1] at e; cases e
    | some y =>
      cases q2 : flats r with
      | none => rw [q1, q2] at e; cases e
      | some ys =>
        rw [q1, q2] at e
        cases e
        rw [flats_rep q2 h2]
        have : v = y := by
          cases d <;> simp [flat] at q1 <;> (subst q1; unfold Rep at h1; exact h1)
        rw [this]
theorem flat_eq {K : PySem.W.Frag} {G : Hp} {d : D} {v w : V} (e : flat d = some v) (h : Rep K G d w) : w = v := by
  cases d <;> simp [flat] at e <;> (subst e; unfold Rep at h; exact h)
def rIn' (neg : Bool) : RD2 := fun x y M Q => ∃ xs v vs, items y = some xs ∧ flat x = some v ∧ flats xs = some vs ∧ flatV v = true ∧ vs.all flatV = true ∧ Q (.bl (if neg then !inV v vs else inV v vs)) M
theorem in_gen {f : Value → Value → Sem Value} {neg : Bool} (h : OpR X f (rIn X.K neg)) : OpR X f (up2 X.K (rIn' neg)) := op_mono h fun x y H Q q => by
  obtain ⟨M, G, dx, dy, Qd, rl, p1, p2, q, k⟩ := q
  obtain ⟨xs, v, vs, e1, e2, e3, h1, h2, q⟩ := q
  obtain ⟨a, ws, ea, hq, rp⟩ := items_rep e1 p2
  have ew := flats_rep e3 rp
  have ex := flat_eq e2 p1
  subst ew ex
  refine ⟨a, ws, ea, ?_, h1, h2, k _ M G _ H (Same.refl _) rl (flat_rep rfl) q⟩
  rcases hq with hq | hq
  · exact .inl (rl.sub.seq hq)
  · exact .inr (sameT rl.sub hq)
theorem in_ok : OpR X (compareOp .In) (up2 X.K (rIn' false)) := in_gen op_in_seq
theorem notIn_ok : OpR X (compareOp .NotIn) (up2 X.K (rIn' true)) := in_gen op_notIn_seq

/-! ### built-ins -/
/-- the list, the dict that stands at a and changes -/
def lstAt (M : Mm) (a : Addr) : Option (List D) := match M a with | some (.lst xs) => some xs | _ => none
def dicAt (M : Mm) (a : Addr) : Option (List (Key × D)) := match M a with | some (.dic xs) => some xs | _ => none
theorem lstAt_some {M : Mm} {a : Addr} {xs : List D} (h : lstAt M a = some xs) : M a = some (.lst xs) := by
  unfold lstAt at h
  split at h
  · rename_i ys e; rw [e, Option.some.inj h]
  · cases h
theorem dicAt_some {M : Mm} {a : Addr} {xs : List (Key × D)} (h : dicAt M a = some xs) : M a = some (.dic xs) := by
  unfold dicAt at h
  split at h
  · rename_i ys e; rw [e, Option.some.inj h]
  · cases h
theorem lstAt_of {M : Mm} {a : Addr} {xs : List D} (h : M a = some (.lst xs)) : lstAt M a = some xs := by unfold lstAt; rw [h]
theorem dicAt_of {M : Mm} {a : Addr} {xs : List (Key × D)} (h : M a = some (.dic xs)) : dicAt M a = some xs := by unfold dicAt; rw [h]
def rLen (M : Mm) : D → Option Int
  | .tup xs => some xs.length
  | .lst xs => some xs.length
  | .scr ns => some ns.length
  | .ref a => (lstAt M a).map fun xs => (xs.length : Int)
  | _ => none
def cLen : RDC := fun ds M Q => match ds with
  | [.str x] => x.length ≤ sizeLine ∧ Q (.int x.length) M
  | [d] => match rLen M d with | some n => Q (.int n) M | none => False
  | _ => False
theorem len_items {G H : Hp} {M : Mm} {d : D} {n : Int} {v : V} (rl : RelH X.K M G H) (p : Rep X.K G d v) (e : rLen M d = some n) : ∃ m : Nat, n = m ∧ LenV X.K v H m := by
  cases d with
  | tup xs =>
    simp [rLen] at e
    unfold Rep at p
    obtain ⟨a, vs, rfl, h, r⟩ := p
    exact ⟨xs.length, e.symm, .inr ⟨vs, sameT rl.sub h, r.length⟩⟩
  | lst xs =>
    simp [rLen] at e
    unfold Rep at p
    obtain ⟨a, vs, rfl, h, r⟩ := p
    exact ⟨xs.length, e.symm, .inl ⟨vs, rl.sub.seq (SqL.of h), r.length⟩⟩
  | scr ns =>
    simp [rLen] at e
    unfold Rep at p
    obtain ⟨a, rfl, h⟩ := p
    exact ⟨ns.length, e.symm, .inl ⟨_, rl.sub.seq h, by simp⟩⟩
  | ref a =>
    have e' : (lstAt M a).map (fun xs => (xs.length : Int)) = some n := e
    have ev := rep_ref p
    subst ev
    cases q : lstAt M a with
    | none => rw [q] at e'; cases e'
    | some xs =>
      rw [q] at e'
      cases e'
      obtain ⟨_, vs, h, r⟩ := rl.mem a _ (lstAt_some q)
      exact ⟨xs.length, rfl, .inl ⟨vs, SqL.of h, r.length⟩⟩
  | _ => simp [rLen] at e
theorem len_ok : CallR X (.builtin "len") (upC X.K cLen) := call_mono call_len fun xs H Q q => by
  obtain ⟨M, G, ds, Qd, rl, rp, q, k⟩ := q
  unfold cLen at q
  split at q
  · rename_i x
    obtain ⟨v, e, p⟩ := reps1 rp
    subst e
    have := rep_str p
    subst this
    exact ⟨_, x.length, rfl, ⟨q.1, rfl⟩, k _ M G _ H (Same.refl _) rl (flat_rep rfl) q.2⟩
  · rename_i d _
    obtain ⟨v, e, p⟩ := reps1 rp
    subst e
    cases z : rLen M d with
    | none => rw [z] at q; exact q.elim
    | some n =>
      rw [z] at q
      obtain ⟨m, e2, hl⟩ := len_items rl p z
      subst e2
      exact ⟨v, m, rfl, hl, k _ M G _ H (Same.refl _) rl (flat_rep rfl) q⟩
  · exact q.elim
def cInt : RDC := fun ds M Q => match ds with | [.int i] => Q (.int i) M | [.bl k] => Q (.int (if k then 1 else 0)) M | _ => False
theorem int_ok : CallR X (.type "int") (upC X.K cInt) := call_mono call_int1 fun xs H Q q => by
  obtain ⟨M, G, ds, Qd, rl, rp, q, k⟩ := q
  unfold cInt at q
  split at q
  · rename_i i
    obtain ⟨v, e, p⟩ := reps1 rp
    subst e
    rw [rep_int p]
    exact .inl ⟨i, rfl, k _ M G _ H (Same.refl _) rl (flat_rep rfl) q⟩
  · rename_i i
    obtain ⟨v, e, p⟩ := reps1 rp
    subst e
    rw [rep_bl p]
    exact .inr ⟨i, rfl, k _ M G _ H (Same.refl _) rl (flat_rep rfl) q⟩
  · exact q.elim
/-- list(..): a new list that never changes -/
def cList : RDC := fun ds M Q => match ds with | [d] => (match items d with | some xs => Q (.lst xs) M | none => False) | _ => False
theorem list_ok : CallR X (.type "list") (upC X.K cList) := call_mono call_list_of fun xs H Q q => by
  obtain ⟨M, G, ds, Qd, rl, rp, q, k⟩ := q
  unfold cList at q
  split at q
  · rename_i d
    obtain ⟨v, e, p⟩ := reps1 rp
    subst e
    cases z : items d with
    | none => rw [z] at q; exact q.elim
    | some xs =>
      rw [z] at q
      obtain ⟨a, vs, ea, hq, r⟩ := items_rep z p
      subst ea
      refine ⟨a, vs, rfl, hq.imp (fun h => rl.sub.seq h) (fun h => sameT rl.sub h), fun l hl => ?_⟩
      have g := rl.free hl
      refine k _ M (upd G l (.lst vs)) _ _ (same_upd g) (rl.laid hl _) ?_ q
      unfold Rep
      exact ⟨l, vs, rfl, upd_same, r.mono (same_upd g)⟩
  · exact q.elim

/-! ### places -/
def dAt (M : Mm) (d : D) (i : Int) : Option D := match d with
  | .tup xs => atI xs i
  | .lst xs => atI xs i
  | .scr ns => (atI ns i).map .int
  | .ref a => (lstAt M a).bind fun xs => atI xs i
  | _ => none
def rIx : RD2 := fun x y M Q => match y with | .int i => (match dAt M x i with | some d => Q d M | none => False) | _ => False
theorem atI_rep {K : PySem.W.Frag} {G : Hp} {ds : List D} {vs : List V} {i : Int} {d : D} (r : Reps K G ds vs) (h : atI ds i = some d) : ∃ v, atI vs i = some v ∧ Rep K G d v := by
  unfold atI at h ⊢
  rw [← r.length]
  cases z : ixN ds.length i with
  | none => rw [z] at h; cases h
  | some j =>
    rw [z] at h
    obtain ⟨v, e, p⟩ := r.get (i := j) h
    exact ⟨v, e, p⟩
theorem atI_map {α β : Type} (f : α → β) (xs : List α) (i : Int) : atI (xs.map f) i = (atI xs i).map f := by
  unfold atI
  rw [List.length_map]
  cases ixN xs.length i with
  | none => rfl
  | some j => simp
theorem ix_ok : IxR X (up2 X.K rIx) := by
  intro value slice pins s σ H x y v u Q I rx ry h hs
  obtain ⟨M, G, dx, dy, Qd, rl, p1, p2, q, k⟩ := h
  unfold rIx at q
  split at q
  · rename_i i
    have ey := rep_int p2
    cases z : dAt M dx i with
    | none => rw [z] at q; exact q.elim
    | some d =>
      rw [z] at q
      have fin : ∀ (a : Addr) (vs : List V) (w : V), x = .ref a → SeqAt' X.K H a vs → atI vs i = some w → Rep X.K G d w → wpAny (model X.prog X.w) X.A (subscriptTail value slice v u) (EP X pins σ Q) X.xe s := fun a vs w ex hq ew rw' => by
        have kq := k d M G w H (Same.refl _) rl rw' q
        rcases hq with hq | hq
        · exact ix_list value slice pins s σ H x y v u Q I rx ry ⟨a, vs, i, w, ex, ey, hq, ew, kq⟩ hs
        · exact ix_tup value slice pins s σ H x y v u Q I rx ry ⟨a, vs, i, w, ex, ey, hq, ew, kq⟩ hs
      cases dx with
      | tup xs =>
        unfold Rep at p1
        obtain ⟨a, vs, ex, h1, r⟩ := p1
        obtain ⟨w, ew, pw⟩ := atI_rep r z
        exact fin a vs w ex (.inr (sameT rl.sub h1)) ew pw
      | lst xs =>
        unfold Rep at p1
        obtain ⟨a, vs, ex, h1, r⟩ := p1
        obtain ⟨w, ew, pw⟩ := atI_rep r z
        exact fin a vs w ex (.inl (rl.sub.seq (SqL.of h1))) ew pw
      | scr ns =>
        unfold Rep at p1
        obtain ⟨a, ex, h1⟩ := p1
        have z' : (atI ns i).map D.int = some d := z
        cases e3 : atI ns i with
        | none => rw [e3] at z'; cases z'
        | some n =>
          rw [e3] at z'
          cases z'
          exact fin a _ (.int n) ex (.inl (rl.sub.seq h1)) (by rw [atI_map, e3]; rfl) (flat_rep rfl)
      | ref a =>
        have ex := rep_ref p1
        have z' : (lstAt M a).bind (fun xs => atI xs i) = some d := z
        cases q2 : lstAt M a with
        | none => rw [q2] at z'; cases z'
        | some xs =>
          rw [q2] at z'
          obtain ⟨_, vs, h1, r⟩ := rl.mem a _ (lstAt_some q2)
          obtain ⟨w, ew, pw⟩ := atI_rep r z'
          exact fin a vs w ex (.inl (SqL.of h1)) ew pw
      | _ => simp [dAt] at z
  · exact q.elim
theorem de_ix (ha : PE X a (up X.K G0 da)) (hb : PE X b (up X.K G0 db)) (hs : PlainIx b) : PE X (.Subscript a b pos) (up X.K G0 (dBin rIx da db)) :=
  pe_mono (pe_ix ix_ok ha hb hs) fun _ _ _ h => up_bin h

/-! ### dicts -/
/-- a key -/
def dkey : D → Option Key
  | .int i => some (.inl i)
  | .str x => some (.inr x)
  | _ => none
theorem dkey_rep {K : PySem.W.Frag} {G : Hp} {d : D} {k : Key} {v : V} (e : dkey d = some k) (p : Rep K G d v) : v = kV k := by
  cases d with
  | int i => cases e; exact rep_int p
  | str x => cases e; exact rep_str p
  | _ => cases e
def dpairs (M : Mm) : D → Option (List (Key × D))
  | .dic kvs => some kvs
  | .ref a => dicAt M a
  | _ => none
theorem dpairs_rep {K : PySem.W.Frag} {M : Mm} {G H : Hp} {d : D} {v : V} {kvs : List (Key × D)} (rl : RelH K M G H) (e : dpairs M d = some kvs) (p : Rep K G d v) : ∃ a ws, v = .ref a ∧ H a = some (.dK ws) ∧ RepK K G kvs ws := by
  cases d with
  | dic l =>
    cases e
    unfold Rep at p
    obtain ⟨a, ws, ev, h, r⟩ := p
    exact ⟨a, ws, ev, rl.sub0 _ _ h, r⟩
  | ref a =>
    obtain ⟨_, ws, h, r⟩ := rl.mem a _ (dicAt_some e)
    exact ⟨a, ws, rep_ref p, h, r⟩
  | _ => cases e
/-- d[k] -/
def rDix : RD2 := fun x y M Q => match dpairs M x, dkey y with
  | some kvs, some k => (match dget kvs k with | some d => Q d M | none => False)
  | _, _ => False
theorem de_dix (hu : X.A.units + 1 < cLine) (ha : PE X a (up X.K G0 da)) (hb : PE X b (up X.K G0 db)) (hs : NoSl b) : PE X (.Subscript a b pos) (up X.K G0 (dBin rDix da db)) :=
  pe_mono (pe_dget hu ha hb hs) fun σ H Q h => by
    obtain ⟨ρ, M, G, Qd, s0, rl, l, h, k⟩ := h
    refine ⟨ρ, M, G, _, s0, rl, l, h, fun x M1 G1 v H1 s1 r1 p1 q1 => ?_⟩
    refine ⟨ρ, M1, G1, _, s0.trans s1, r1, l.mono s1, q1, fun y M2 G2 u H2 s2 r2 p2 q2 => ?_⟩
    unfold rDix at q2
    split at q2
    · rename_i kvs ky e1 e2
      cases z : dget kvs ky with
      | none => rw [z] at q2; exact q2.elim
      | some d =>
        rw [z] at q2
        obtain ⟨a, ws, ev, hw, rk⟩ := dpairs_rep r2 e1 (p1.mono s2)
        obtain ⟨w, ew, pw⟩ := rk.get z
        refine ⟨a, w, ev, ?_, k d M2 G2 w H2 (s1.trans s2) r2 pw q2⟩
        rw [dkey_rep e2 p2, ← ew]
        exact DGet.k hw
    · exact q2.elim
/-- d[k] = e -/
def dDput (d i v : DE) : DS := fun D ρ M => v ρ M fun x M1 => d ρ M1 fun o M2 => i ρ M2 fun y M3 => match o, dkey y with
  | .ref a, some k => (match dicAt M3 a with | some kvs => kvs.length < sizeLine ∧ D.nx ρ (M3.set a (.dic (dput kvs k x))) | none => False)
  | _, _ => False
theorem ds_dput {pos' : Pos} {dv : DE} (hu : X.A.units + 1 < cLine) (ha : PE X a (up X.K G0 da)) (hb : PE X b (up X.K G0 db)) (hv : PE X e (up X.K G0 dv)) (hs : swapsWith e (some (.Subscript a b pos')) pos.line X.env = pure false) :
    PS X (.Assign [.Subscript a b pos'] e pos) (upS X.K G0 (dDput da db dv)) := ps_mono (ps_dput hu ha hb hv hs) fun D σ H h => by
  obtain ⟨ρ, M, G, Dd, s0, rl, l, h, k1, k2, k3, k4⟩ := h
  refine ⟨ρ, M, G, _, s0, rl, l, h, fun x M1 G1 v H1 s1 r1 p1 q1 => ?_⟩
  refine ⟨ρ, M1, G1, _, s0.trans s1, r1, l.mono s1, q1, fun o M2 G2 ov H2 s2 r2 p2 q2 => ?_⟩
  refine ⟨ρ, M2, G2, _, (s0.trans s1).trans s2, r2, (l.mono s1).mono s2, q2, fun y M3 G3 u H3 s3 r3 p3 q3 => ?_⟩
  split at q3
  · rename_i a ky e2
    cases z' : dicAt M3 a with
    | none => rw [z'] at q3; exact q3.elim
    | some kvs =>
        rw [z'] at q3
        have z := dicAt_some z'
        obtain ⟨g, ws, hw, rk⟩ := r3.mem a _ z
        have rv := (p1.mono s2).mono s3
        have hl : ws.length < sizeLine := by rw [← rk.length]; exact q3.1
        refine ⟨a, _, rep_ref p2, ?_, k1 _ _ G3 σ _ ((s1.trans s2).trans s3) (r3.write (m := .dic (dput kvs ky x)) (o := .dK (putK ws ky v)) z ⟨_, upd_same, rk.put rv⟩) (((l.mono s1).mono s2).mono s3) q3.2⟩
        rw [dkey_rep e2 p3]
        exact DPut.k hw hl
  · exact q3.elim
/-- {k: e, ..}, the keys written: a new dict that changes; one that does not -/
def dPairs : List (Key × DE) → Ds → Mm → (List (Key × D) → Mm → Prop) → Prop
  | [], _, M, Q => Q [] M
  | (k, e) :: r, ρ, M, Q => e ρ M fun d M1 => dPairs r ρ M1 fun kvs M2 => Q ((k, d) :: kvs) M2
def dDicM (l : List (Key × DE)) : DE := fun ρ M Q => ∀ p, M p = none → dPairs l ρ (M.set p (.dic [])) fun kvs M2 => M2 p = some (.dic []) ∧ Q (.ref p) (M2.set p (.dic kvs))
def dDic (l : List (Key × DE)) : DE := fun ρ M Q => ∀ p, M p = none → dPairs l ρ (M.set p (.dic [])) fun kvs M2 => M2 p = some (.dic []) ∧ Q (.dic kvs) (M2.del p)
/-- the pairs' terms -/
structure DPP (X : Cx) (G0 : Hp) (pos : Pos) (keys : List (Option Expr)) (values : List Expr) (l : List (Key × DE)) : Prop where
  run : PPs X pos keys values (l.map fun p => (tC (kV p.1), up X.K G0 p.2))
theorem dpp_nil : DPP X G0 pos [] [] [] := ⟨pps_nil⟩
theorem dpp_str {x : Str} {j : Nat} {kp : Pos} {v : Expr} {ks : List (Option Expr)} {vs : List Expr} {dv : DE} {l : List (Key × DE)} (hv : PE X v (up X.K G0 dv)) (hr : DPP X G0 pos ks vs l) :
    DPP X G0 pos (some (.Constant (.str x) j kp) :: ks) (v :: vs) ((Sum.inr x, dv) :: l) := ⟨pps_cons (pe_str (x := x)) hv hr.run⟩
theorem up_pairs {σ : St} {H : Hp} {ρ : Ds} {Q : List (V × V) → Hp → Prop} : ∀ {l : List (Key × DE)} {M : Mm} {G : Hp} {Qd : List (Key × D) → Mm → Prop}, Same X.K G0 G → RelH X.K M G H → Locs X.K ρ G σ → dPairs l ρ M Qd →
    (∀ kvs M' G' ws H', Same X.K G G' → RelH X.K M' G' H' → RepK X.K G' kvs ws → kvs.map (·.1) = l.map (·.1) → Qd kvs M' → Q (ws.map fun kv => (kV kv.1, kv.2)) H') → tPairs (l.map fun p => (tC (kV p.1), up X.K G0 p.2)) σ H Q := by
  intro l
  induction l generalizing H Q with
  | nil =>
    intro M G Qd s0 rl lo h k
    exact k [] M G [] H (Same.refl _) rl RepK.nil rfl h
  | cons p r ih =>
    obtain ⟨ky, e⟩ := p
    intro M G Qd s0 rl lo h k
    refine ⟨ρ, M, G, _, s0, rl, lo, h, fun d M1 G1 v H1 s1 r1 p1 q1 => ?_⟩
    refine ih (s0.trans s1) r1 (lo.mono s1) q1 fun kvs M' G' ws H' s2 r2 rk ek q2 => ?_
    exact k ((ky, d) :: kvs) M' G' ((ky, v) :: ws) H' (s1.trans s2) r2 (RepK.cons (p1.mono s2) rk) (by rw [List.map_cons, List.map_cons, ek]) q2
theorem repK_keys {K : PySem.W.Frag} {G : Hp} : ∀ {kvs : List (Key × D)} {ws : List (Key × V)}, RepK K G kvs ws → ws.map (·.1) = kvs.map (·.1)
  | [], _, h => by unfold RepK at h; subst h; rfl
  | (k0, d0) :: r, _, h => by
    unfold RepK at h
    obtain ⟨v0, rs, rfl, q, p⟩ := h
    rw [List.map_cons, List.map_cons, repK_keys p]
theorem merge_nodup : ∀ (more acc : List (Key × V)), ((acc ++ more).map (·.1)).Nodup → mergeK acc more = acc ++ more
  | [], acc, _ => by simp [mergeK]
  | p :: r, acc, h => by
    have hn : valV acc p.1 = none := by
      cases z : valV acc p.1 with
      | none => rfl
      | some v =>
        have hm := valV_any p.1 acc
        rw [z] at hm
        obtain ⟨q, hq, e⟩ := List.any_eq_true.mp hm
        rw [List.map_append, List.nodup_append] at h
        exact absurd (of_decide_eq_true e) (h.2.2 _ (List.mem_map_of_mem hq) _ (List.mem_map_of_mem List.mem_cons_self))
    have e1 : mergeK acc (p :: r) = mergeK (putK acc p.1 p.2) r := rfl
    rw [e1, putK_new _ hn, merge_nodup r (acc ++ [(p.1, p.2)]) (by simpa using h)]
    simp
theorem tup_disp {keys : List (Option Expr)} {values : List Expr} {l : List (Key × DE)} (h : DPP X G0 pos keys values l) (hall : keys.all (·.isSome) = true) (hl : keys.length = values.length) (h0 : keys ≠ [])
    (h15 : keys.length ≤ 15) (hnd : (l.map (·.1)).Nodup) (h15' : l.length ≤ 15) : PE X (.Dict keys values pos) (up X.K G0 (dDicM l)) := pe_mono (pe_disp h.run hall hl h0 h15) fun σ H Q q => by
  obtain ⟨ρ, M, G, Qd, s0, rl, lo, q, k⟩ := q
  intro p hp
  have r0 : RelH X.K (M.set p (.dic [])) G (upd H p (.dK [])) := rl.newM (m := .dic []) hp ⟨[], upd_same, RepK.nil⟩
  refine up_pairs s0 r0 lo (q p (rl.freeM hp)) fun kvs M' G' ws H' s1 r1 rk ek q1 => ?_
  obtain ⟨e1, q1⟩ := q1
  obtain ⟨g, ws0, h1, rk0⟩ := r1.mem p _ e1
  have ew : ws0 = [] := by unfold RepK at rk0; exact rk0
  subst ew
  have em : mergeK [] ws = ws := by
    refine (merge_nodup ws [] ?_).trans (List.nil_append _)
    rw [List.nil_append, repK_keys rk, ek]
    exact hnd
  have lw : ws.length ≤ 15 := by
    rw [← rk.length, ← List.length_map (f := (·.1)), ek, List.length_map]
    exact h15'
  refine ⟨h1, ws, rfl, lw, ?_⟩
  rw [em]
  exact k _ _ G' _ _ s1 (r1.write (m := .dic kvs) (o := .dK ws) e1 ⟨ws, upd_same, rk⟩) (flat_rep rfl) q1
end
end Dq
/-! The deep layer, part 4: the program's own errors. -/
namespace Dq
open PySem PySem.Spec PyProof.Rows L2
open PySem.W (findIn typeIn subIn keepIn hasDictIn specialIn takesIn mroIn clsIn InstAt Looks looks_findIn looks_find looks_subIn findObj kitOne kitCls exmOne)

/-! ### what the written part says of such a class: C itself, the own classes above it, its fields -/
def errTail : List Value := [.type "ValueError", .type "Exception", .type "BaseException", .type "object"]
def clsChk (C : Addr) (ups : List Addr) (o : Option Obj) : Bool := match o with
  | some ⟨.type "type", _, .cls cd, sl⟩ => (match sl.toList with
    | [_, _, _, _, some (.builtin n), _] => n == "ValueError.__new__" && (!cd.hasDel && (cd.hasDict && cd.mro == (Value.ref C :: (ups.map Value.ref ++ errTail))))
    | _ => false)
  | _ => false
def errChk (K : PySem.W.Frag) (C : Addr) (ups : List Addr) (fs : List Str) : Bool :=
  clsChk C ups (K.lookup C) && (decide (findIn K (.ref C) "__setattr__" = some (some (.builtin "object.__setattr__"))) && (decide (findIn K (.ref C) "__getattribute__" = some (some (.builtin "BaseException.__getattribute__"))) &&
  (decide (findIn K (.ref C) "__getattr__" = some none) && (decide (findIn K (.ref C) "__class__" = some (some (.builtin "object.__class__"))) && (decide (typeIn K (.ref C) = some (.type "type")) && (keepIn K (.ref C) &&
  (decide (specialIn K (.builtin "object.__class__") "__get__" = some (some (.builtin "getset_descriptor.__get__"))) && (decide (takesIn K (.builtin "object.__class__") = some true) && fs.all fun f => decide (findIn K (.ref C) f = some none)))))))))
structure Err (K : PySem.W.Frag) (C : Addr) (ups : List Addr) (fs : List Str) : Prop where
  obj : ∃ nm q N bs sn sub ab col dd k0 k1 k2 k3 k5, K.lookup C = some (excClassObj nm q C N bs (ups.map Value.ref ++ errTail) true sn sub ab col dd k0 k1 k2 k3 k5 "ValueError.__new__")
  sa : findIn K (.ref C) "__setattr__" = some (some (.builtin "object.__setattr__"))
  ga : findIn K (.ref C) "__getattribute__" = some (some (.builtin "BaseException.__getattribute__"))
  gg : findIn K (.ref C) "__getattr__" = some none
  cl : findIn K (.ref C) "__class__" = some (some (.builtin "object.__class__"))
  ty : typeIn K (.ref C) = some (.type "type")
  kp : keepIn K (.ref C) = true
  sp : specialIn K (.builtin "object.__class__") "__get__" = some (some (.builtin "getset_descriptor.__get__"))
  tk : takesIn K (.builtin "object.__class__") = some true
  nf : ∀ f ∈ fs, findIn K (.ref C) f = some none
section
variable {K : PySem.W.Frag} {C C2 : Addr} {ups upd' : List Addr} {fs fs' : List Str}
theorem err_of (h : errChk K C ups fs = true) : Err K C ups fs := by
  unfold errChk at h
  simp only [Bool.and_eq_true, decide_eq_true_eq, List.all_eq_true] at h
  obtain ⟨h0, h1, h2, h3, h4, h5, h6, h7, h8, h9⟩ := h
  refine ⟨?_, h1, h2, h3, h4, h5, h6, h7, h8, h9⟩
  unfold clsChk at h0
  split at h0
  · rename_i dd cd sl ho
    split at h0
    · rename_i k0 k1 k2 k3 n k5 hs
      simp only [Bool.and_eq_true, beq_iff_eq, Bool.not_eq_true'] at h0
      obtain ⟨hn, hd, hh, hm⟩ := h0
      obtain ⟨nm, bs, mro, N, q, hdct, sn, sub, ab, col, del⟩ := cd
      obtain ⟨l⟩ := sl
      have hs' : l = [k0, k1, k2, k3, some (.builtin n), k5] := hs
      dsimp only at hd hh hm
      subst hs' hn hd hh hm
      exact ⟨nm, q, N, bs, sn, sub, ab, col, dd, k0, k1, k2, k3, k5, ho⟩
    · cases h0
  · cases h0
theorem Err.cls (E : Err K C ups fs) : ∃ cd, clsIn K C = some cd ∧ cd.mro = Value.ref C :: (ups.map Value.ref ++ errTail) ∧ cd.hasDict = true := by
  obtain ⟨nm, q, N, bs, sn, sub, ab, col, dd, k0, k1, k2, k3, k5, ho⟩ := E.obj
  refine ⟨_, by unfold clsIn; rw [ho], rfl, rfl⟩
theorem Err.mro (E : Err K C ups fs) (v : Value) : subIn K (.ref C) v = some ((Value.ref C :: (ups.map Value.ref ++ errTail)).contains v) := by
  obtain ⟨cd, h1, h2, _⟩ := E.cls
  show mroIn K C v = _
  unfold mroIn
  rw [h1, Option.bind_some, h2]
  rfl
theorem refs_tail : ∀ l : List Addr, PySem.HandSPX.refsVE (l.map Value.ref ++ errTail) = true
  | [] => by decide +kernel
  | _ :: r => refs_tail r
theorem tail_mem (T : String) (l : List Addr) : (l.map Value.ref ++ errTail).contains (.type T) = errTail.contains (.type T) := by
  induction l with
  | nil => rfl
  | cons a r ih =>
    rw [List.map_cons, List.cons_append, List.contains_cons, ih]
    rfl
theorem Err.isB (E : Err K C ups fs) {T : String} (h : errTail.contains (.type T) = true := by decide +kernel) : subIn K (.ref C) (.type T) = some true := by
  rw [E.mro, List.contains_cons, tail_mem, h, Bool.or_true]
theorem Err.hasD (E : Err K C ups fs) : hasDictIn K C = true := by
  obtain ⟨cd, h1, _, h3⟩ := E.cls
  unfold hasDictIn
  rw [h1]
  exact h3
theorem Err.oex (E : Err K C ups fs) : OexC K C where
  cls := by
    obtain ⟨nm, q, N, bs, sn, sub, ab, col, dd, k0, k1, k2, k3, k5, ho⟩ := E.obj
    exact ⟨nm, q, N, bs, _, sn, sub, ab, col, dd, k0, k1, k2, k3, k5, ho, refs_tail ups⟩
  sa := E.sa
  exC := E.isB
  tyC := E.ty
  kC := E.kp
theorem mem_refs (l : List Addr) (D : Addr) : (l.map Value.ref ++ errTail).contains (.ref D) = decide (D ∈ l) := by
  induction l with
  | nil => simp [errTail]
  | cons a r ih =>
    rw [List.map_cons, List.cons_append, List.contains_cons, ih]
    by_cases h : D = a
    · subst h; simp
    · have : (Value.ref D == Value.ref a) = false := by simpa using h
      rw [this, Bool.false_or]
      simp [h]
/-- of which classes an error of the class C is -/
def isOf (C : Addr) (ups : List Addr) (D : Addr) : Bool := decide (D = C) || decide (D ∈ ups)
theorem Err.sub (E : Err K C ups fs) (D : Addr) : subIn K (.ref C) (.ref D) = some (isOf C ups D) := by
  rw [E.mro, List.contains_cons, mem_refs]
  unfold isOf
  by_cases h : D = C
  · subst h; simp
  · have : (Value.ref D == Value.ref C) = false := by simpa using h
    rw [this, decide_eq_false h]
theorem Err.kit (E : Err K C ups fs) (F : Err K C2 upd' fs') : kitOne K (.ref C) (.ref C2) = some (isOf C ups C2) := by
  unfold kitOne
  by_cases h : C = C2
  · subst h
    rw [if_pos (by simp)]
    simp [isOf]
  · rw [if_neg (by simpa using h)]
    obtain ⟨cd, h1, _⟩ := F.cls
    show (if _ then _ else _) = _
    rw [if_pos (by rw [h1, F.ty]; rfl)]
    exact E.sub C2
theorem Err.kitB (E : Err K C ups fs) {T : String} (hm : PySem.W.kitMeta T = true := by decide +kernel) (h : errTail.contains (.type T) = true := by decide +kernel) : kitOne K (.ref C) (.type T) = some true := by
  unfold kitOne
  rw [if_neg (by simp)]
  show (if _ then _ else _) = _
  rw [if_pos hm]
  exact E.isB h
theorem Err.exm (E : Err K C ups fs) (F : Err K C2 upd' fs') : exmOne K (.ref C) (.ref C2) = some (isOf C ups C2) := by
  unfold exmOne
  rw [if_pos (by rw [F.isB]; rfl)]
  obtain ⟨cd, h1, _⟩ := F.cls
  show (if _ then _ else _) = _
  rw [if_pos (by rw [h1, F.ty]; rfl)]
  exact E.sub C2
theorem Err.classG {prog : Program} {w : World} {A : Around} {E1 : Value → Shared → Prop} {s : Shared} {Q : Option Value → Shared → Prop} {x : Addr} {ox : Obj} {od : Option Obj} (F : Err K C ups fs) (hin : K.In s.heap) (I : InstAt s.heap x ox C od)
    (h : Q (some (.ref C)) { s with toks := s.toks + 1 }) : wpAny (model prog w) A (getAttr? (.ref x) "__class__") Q E1 s := by
  obtain ⟨cd, hcd, _⟩ := F.cls
  have hf : findObj K C od "__class__" = some (.bind (.builtin "getset_descriptor.__get__") (.builtin "object.__class__")) := by
    unfold findObj
    rw [hcd, Option.bind_some, F.cl, Option.bind_some]
    simp [F.sp, F.tk]
  have hm : mroIn K C (.type "object") = some true := F.isB (T := "object")
  obtain ⟨hp, gs, dr, tk, os⟩ := s
  have l0 := I.type (M := model prog w)
  have l1 := looks_findIn (M := model prog w) hin F.ga
  have l2 := looks_findIn (M := model prog w) hin F.gg
  have l3 := looks_find (M := model prog w) hin I hf
  have inst : Looks (model prog w) hp (isInstance (.ref x) (.type "BaseException")) true := l0.andThen (looks_subIn hin (F.isB (T := "BaseException")))
  have n2 : (Value.builtin "BaseException.__getattribute__" == Value.builtin "object.__getattribute__") = false := by decide +kernel
  unfold getAttr? getAttrBy? getAttrBy
  refine wpAny_bind (wpAny_mkText (wpAny_bind (wpAny_attempt (wpAny_holding (wpAny_bind (l0.at (wpAny_bind (l1.at ?_))))))))
  show wpAny _ _ (if (onTheHeap (Value.ref C) && (Value.builtin "BaseException.__getattribute__" == Value.builtin "object.__getattribute__")) = true then _ else _) _ _ _
  rw [n2, Bool.and_false, if_neg Bool.false_ne_true]
  unfold getAttrByItsOwn hookBefore
  refine wpAny_bind ?_
  rw [if_pos (show onTheHeap (Value.ref C) = true from rfl)]
  refine l2.at (wpAny_bind (wpAny_attempt (wpAny_holding ?_)))
  unfold callGetattribute
  rw [if_neg (show ¬ ((false && onTheHeap (Value.builtin "BaseException.__getattribute__")) = true) from Bool.false_ne_true)]
  unfold boundAndCalled
  rw [PySem.F.excAttr_ValueError.ga.bind (.ref x)]
  refine wpAny_bind (wpAny_pure ?_)
  show wpAny _ _ (call (.builtin "BaseException.__getattribute__") [.ref x, .str "__class__" tk]) _ _ _
  refine wpAny_call (codeAny_call_builtin PySem.F.excAttr_ValueError.ga.plain PySem.F.entry_bexc_ga ?_)
  refine @PySem.W.check_slot (model prog w) _ _ ⟨hp, gs, dr, tk + 1, os⟩ "BaseException.__getattribute__" "BaseException" "__getattribute__" (.ref x) [.str "__class__" tk] [] _
    (by decide +kernel) (by decide +kernel) inst (PySem.F.args_bexc_ga (.ref x) (.str "__class__" tk)) ?_
  unfold Builtin.«object.__getattribute__»
  refine wpAny_bind (wpAny_of_eq (a := ((Value.ref x : Value), [Value.str "__class__" tk])) (by first | rfl | (simp only [slotArgs]; rfl)) ?_)
  refine wpAny_bind (wpAny_pure (wpAny_bind (l0.at (wpAny_bind (l3.at ?_)))))
  show wpAny _ _ (holding [Value.builtin "object.__class__"] (call (.builtin "getset_descriptor.__get__") [.builtin "object.__class__", .ref x, .ref C]) >>= ret) _ _ _
  refine wpAny_bind (wpAny_holding (wpAny_call (PySem.W.class_get (s := ⟨hp, gs, dr, tk + 1, os⟩) (ox := ox) (od := od) hin I hm (wpAny_pure ?_))))
  show wpAny _ _ (handedOut (.ref C)) _ _ _
  rw [PySem.W.handedOut_of (v := .ref C) rfl]
  first
    | exact wpAny_pure (wpAny_pure h)
    | exact wpAny_pure h
    | exact wpAny_pure (wpAny_bind (wpAny_pure (wpAny_pure h)))
theorem Err.kitx (F : Err K C ups fs) {x : Addr} {ox : Obj} {od : Option Obj} : PySem.W.KitX K (.ref x) (.ref C) (fun h => InstAt h x ox C od) where
  ty := fun _ _ _ I => I.type
  it := fun _ _ hin _ => by
    obtain ⟨nm, q, N, bs, sn, sub, ab, col, dd, k0, k1, k2, k3, k5, ho⟩ := F.obj
    intro A' Q' E' s' kk qq
    unfold isType loadHead
    exact wpAny_bind (wpAny_loadPart (kk _ _ (hin _ _ ho)) (wpAny_pure qq))
  ne := fun h tp dd its n sl hin htp => by
    obtain ⟨nm, q, N, bs, sn, sub, ab, col, dd, k0, k1, k2, k3, k5, ho⟩ := F.obj
    refine Bool.eq_false_iff.mpr fun z => ?_
    have e : C = tp := Value.ref.inj (beq_iff_eq.mp z)
    subst e
    have z := Option.some.inj ((hin _ _ ho).symm.trans htp)
    have z2 : Value.type "type" = Value.type "tuple" := congrArg Obj.cls z
    exact absurd z2 (by decide +kernel)
  ca := fun hin I k => F.classG hin I k

/-! ### raise -/
/-- how __init__(self, f1, ..): self.f1 = f1; .. leaves the new error: by its fields, the last stored first -/
def spInit (C : Addr) (n : Nat) (mk : List V → List (Str × V)) : Sp := fun vs H Q _ => ∃ a ws, vs = .ref a :: ws ∧ ws.length = n ∧ H a = some (exo a C none) ∧ ∀ dx, H dx = none → dx ≠ a → Q .non (upd (upd H dx (exd dx (mk ws))) a (exo a C (some dx)))
section
variable {P : Program} {w : World} {mg : Str → Option Value} {base : Heap} {f fI : Addr} {fd : FuncData} {st : Stmt} {qual : Str}
theorem upd_swap {H : Hp} {a b : Addr} {o u : HO} (h : a ≠ b) : upd (upd H a o) b u = upd (upd H b u) a o := by
  funext c
  by_cases h1 : c = a
  · subst h1; rw [upd_ne h, upd_same, upd_same]
  · by_cases h2 : c = b
    · subst h2; rw [upd_same, upd_ne h1, upd_same]
    · rw [upd_ne h2, upd_ne h1, upd_ne h1, upd_ne h2]
/-- self.f = p, .. one by one -/
theorem upd3 {H : Hp} {a b : Addr} {o o2 u : HO} (h : a ≠ b) : upd (upd (upd H a o) b u) a o2 = upd (upd H a o2) b u := by
  rw [upd_swap h, upd_upd, upd_swap h.symm]
theorem init1 {f1 p1 : Str} (F : Fun K "__init__" qual st fI fd) (E : Err K C ups fs) (S : FnScope [("self" : Str), p1] [("self" : Str), p1] (defScope st)) (h1 : f1 ∈ fs)
    (der : ∀ X : Cx, X.K = K → X.env.scope = defScope st → X.N = [("self" : Str), p1] → PSs X (defBody st) (tOst K f1 (tVar 0) (tVar 1))) :
    FnOk P w K mg base CX0 1 fI fd [("self" : Str), p1] (spInit C 1 fun ws => (([f1] : List Str).zip ws).reverse) := by
  refine F.ok S (fun vs H Q E0 h => ?_) (fun cdv A outer s H vs Q E0 hr h => ⟨_, der _ rfl rfl rfl, ?_⟩)
  · obtain ⟨a, ws, rfl, hl, _⟩ := h
    simp [hl]
  · obtain ⟨a, ws, rfl, hl, ha, k⟩ := h
    match ws, hl with
    | [v1], _ => exact ⟨v1, rfl, .ref a, rfl, a, C, rfl, E.oex, E.nf _ h1, .inl ⟨ha, fun dx hd ne => k dx hd ne⟩⟩
theorem init2 {f1 f2 p1 p2 : Str} (F : Fun K "__init__" qual st fI fd) (E : Err K C ups fs) (S : FnScope [("self" : Str), p1, p2] [("self" : Str), p1, p2] (defScope st)) (h1 : f1 ∈ fs) (h2 : f2 ∈ fs)
    (der : ∀ X : Cx, X.K = K → X.env.scope = defScope st → X.N = [("self" : Str), p1, p2] → PSs X (defBody st) (tSeq (tOst K f1 (tVar 0) (tVar 1)) (tOst K f2 (tVar 0) (tVar 2)))) :
    FnOk P w K mg base CX0 1 fI fd [("self" : Str), p1, p2] (spInit C 2 fun ws => (([f1, f2] : List Str).zip ws).reverse) := by
  refine F.ok S (fun vs H Q E0 h => ?_) (fun cdv A outer s H vs Q E0 hr h => ⟨_, der _ rfl rfl rfl, ?_⟩)
  · obtain ⟨a, ws, rfl, hl, _⟩ := h
    simp [hl]
  · obtain ⟨a, ws, rfl, hl, ha, k⟩ := h
    match ws, hl with
    | [v1, v2], _ =>
      refine ⟨v1, rfl, .ref a, rfl, a, C, rfl, E.oex, E.nf _ h1, .inl ⟨ha, fun dx hd ne => ?_⟩⟩
      refine ⟨v2, rfl, .ref a, rfl, a, C, rfl, E.oex, E.nf _ h2, .inr ⟨dx, _, upd_same, (by rw [upd_ne ne, upd_same]), by simp, ?_⟩⟩
      rw [upd3 ne]
      exact k dx hd ne
theorem init3 {f1 f2 f3 p1 p2 p3 : Str} (F : Fun K "__init__" qual st fI fd) (E : Err K C ups fs) (S : FnScope [("self" : Str), p1, p2, p3] [("self" : Str), p1, p2, p3] (defScope st)) (h1 : f1 ∈ fs) (h2 : f2 ∈ fs) (h3 : f3 ∈ fs)
    (der : ∀ X : Cx, X.K = K → X.env.scope = defScope st → X.N = [("self" : Str), p1, p2, p3] → PSs X (defBody st) (tSeq (tOst K f1 (tVar 0) (tVar 1)) (tSeq (tOst K f2 (tVar 0) (tVar 2)) (tOst K f3 (tVar 0) (tVar 3))))) :
    FnOk P w K mg base CX0 1 fI fd [("self" : Str), p1, p2, p3] (spInit C 3 fun ws => (([f1, f2, f3] : List Str).zip ws).reverse) := by
  refine F.ok S (fun vs H Q E0 h => ?_) (fun cdv A outer s H vs Q E0 hr h => ⟨_, der _ rfl rfl rfl, ?_⟩)
  · obtain ⟨a, ws, rfl, hl, _⟩ := h
    simp [hl]
  · obtain ⟨a, ws, rfl, hl, ha, k⟩ := h
    match ws, hl with
    | [v1, v2, v3], _ =>
      refine ⟨v1, rfl, .ref a, rfl, a, C, rfl, E.oex, E.nf _ h1, .inl ⟨ha, fun dx hd ne => ?_⟩⟩
      refine ⟨v2, rfl, .ref a, rfl, a, C, rfl, E.oex, E.nf _ h2, .inr ⟨dx, _, upd_same, (by rw [upd_ne ne, upd_same]), by simp, ?_⟩⟩
      rw [upd3 ne]
      refine ⟨v3, rfl, .ref a, rfl, a, C, rfl, E.oex, E.nf _ h3, .inr ⟨dx, _, upd_same, (by rw [upd_ne ne, upd_same]), by simp, ?_⟩⟩
      rw [upd3 ne]
      exact k dx hd ne
end
/-- raise C(e, ..) -/
def dRaise (C : Addr) (fl : List Str) (Wd : DXS) (a : DA) : DS := fun _ ρ M => a ρ M fun ds M1 => ds.length = fl.length ∧ Wd C (fl.zip ds) ρ M1
theorem zip_look {K : PySem.W.Frag} {G : Hp} : ∀ {fl : List Str} {ds : List D} {vs : List V}, Reps K G ds vs → ∀ f d, (fl.zip ds).lookup f = some d → ∃ v, (fl.zip vs).lookup f = some v ∧ Rep K G d v
  | [], _, _, _, f, d, e => by simp at e
  | _ :: _, [], _, _, f, d, e => by simp at e
  | g :: fl, d0 :: ds, _, h, f, d, e => by
    unfold Reps at h
    obtain ⟨v, ws, rfl, p, q⟩ := h
    rw [List.zip_cons_cons, List.lookup_cons] at e ⊢
    by_cases hf : f = g
    · subst hf
      simp only [beq_self_eq_true] at e ⊢
      cases e
      exact ⟨v, rfl, p⟩
    · have : (f == g) = false := by simpa using hf
      rw [this] at e ⊢
      exact zip_look q f d e
theorem lookup_rev {α β : Type} [BEq α] [LawfulBEq α] : ∀ {l : List (α × β)} {k : α}, (l.map (·.1)).Nodup → l.reverse.lookup k = l.lookup k
  | [], _, _ => rfl
  | (a, b) :: r, k, h => by
    have hn : a ∉ r.map (·.1) := (List.nodup_cons.mp h).1
    have ih := lookup_rev (k := k) (List.nodup_cons.mp h).2
    rw [List.reverse_cons, List.lookup_append, ih, List.lookup_cons, List.lookup_cons]
    by_cases e : k = a
    · subst e
      have z : r.lookup k = none := by
        rw [List.lookup_eq_none_iff]
        intro p hp
        have : k ≠ p.1 := fun q => hn (q ▸ List.mem_map_of_mem hp)
        simpa using this
      rw [z]
      simp
    · have : (k == a) = false := by simpa using e
      rw [this]
      cases r.lookup k <;> simp
theorem map_zip_fst {α β : Type} : ∀ (l : List α) (m : List β), l.length = m.length → (l.zip m).map (·.1) = l
  | [], _, _ => by simp
  | a :: l, b :: m, h => by
    rw [List.zip_cons_cons, List.map_cons, map_zip_fst l m (by simpa using h)]
  | _ :: _, [], h => by simp at h
section
variable {X : Cx} {G0 : Hp} {x : Str} {p pos pos2 : Pos} {e : Expr} {es : List Expr} {ad : DA} {Wd : DXS} {fI : Addr} {fd : FuncData} {ps fl : List Str} {k : Nat}
theorem ds_raise (hc : X.calm = true) (tk : Takes X (upW X.K G0 Wd)) (E : Err X.K C ups fs) (iC : findIn X.K (.ref C) "__init__" = some (some (.ref fI))) (tI : typeIn X.K (.ref fI) = some (.type "function"))
    (F1 : FnOk X.prog X.w X.K X.mg X.base CX0 k fI fd ps (spInit C fl.length fun ws => (fl.zip ws).reverse)) (hr : RoomG (k + 1) X.A) (hb : Binds X.K fd ps []) (hm : X.mg x = some (.ref C)) (hnd : fl.Nodup) (h9 : fl.length ≤ 900) (ha : PA X (e :: es) (upA X.K G0 ad)) (hg : Gl X x := by rfl)
    (hdb : (x == ("__debug__" : Str)) = false := by decide) (he : starEach (e :: es) X.env = (false, eval e X.env) :: starEach es X.env := by rfl) (hpl : (backTo pos (starEach es X.env)).any (·.1) = false := by rfl) :
    PS X (.Raise (some (.Call (.Name x p) (e :: es) [] pos)) none pos2) (upS X.K G0 (dRaise C fl Wd ad)) :=
  ps_mono (ps_raise hc tk (pmk_oex E.oex iC tI F1 hr.room hb .nil (fun _ _ _ _ _ _ _ z => False.elim z) hg hm ha hdb he hpl)) fun D σ H h => by
    obtain ⟨ρ, M, G, Dd, s0, rl, l, h, k1, k2, k3, k4⟩ := h
    refine ⟨ρ, M, G, _, s0, rl, l, h, fun ds M1 G1 vs H1 s1 r1 p1 q1 => ?_⟩
    obtain ⟨hl, q⟩ := q1
    have hlv : vs.length = fl.length := by rw [← p1.length]; exact hl
    refine ⟨by rw [hlv]; omega, fun a ha => ?_⟩
    have ga := r1.free ha
    rw [List.append_nil]
    refine ⟨a, vs, rfl, hlv, upd_same, fun dx hd ne => ⟨rfl, dx, _, upd_same, (by rw [upd_ne ne, upd_same]), ?_, ?_⟩⟩
    · rw [upd_ne ne] at hd; exact hd
    · have hd1 : H1 dx = none := by rw [upd_ne ne] at hd; exact hd
      have gd := r1.free hd1
      have eH : upd (del (upd (upd (upd H1 a (exo a C none)) dx (exd dx ((fl.zip vs).reverse))) a (exo a C (some dx))) a) dx (.xd ((fl.zip vs).reverse)) = upd H1 dx (.xd ((fl.zip vs).reverse)) := by
        funext b
        by_cases h1 : b = dx
        · subst h1; rw [upd_same, upd_same]
        · rw [upd_ne h1, upd_ne h1]
          by_cases h2 : b = a
          · subst h2; rw [del_same, ha]
          · rw [del_ne h2, upd_ne h2, upd_ne h1, upd_ne h2]
      rw [eH]
      refine ⟨C, fl.zip ds, ρ, M1, upd G1 dx (.xd ((fl.zip vs).reverse)), (s0.trans s1).trans (same_upd gd), r1.laid hd1 _, (l.mono s1).mono (same_upd gd), rfl, .inr ⟨dx, _, rfl, upd_same, fun f d e => ?_⟩, q⟩
      obtain ⟨v, ev, pv⟩ := zip_look p1 f d e
      refine ⟨v, ?_, pv.mono (same_upd gd)⟩
      rw [lookup_rev (by rw [map_zip_fst _ _ hlv.symm]; exact hnd)]
      exact ev
end
end
end Dq
/-! The deep layer, part 5: try, what is done with a caught error, repr. -/
namespace Dq
open PySem PySem.Spec PyProof.Rows L2
open PySem.W (findIn typeIn subIn keepIn hasDictIn specialIn takesIn mroIn clsIn InstAt Looks looks_findIn looks_find looks_subIn findObj kitOne kitCls exmOne)
section
variable {X : Cx} {G0 : Hp} {K : PySem.W.Frag} {C C2 : Addr} {ups upd' : List Addr} {fs fs' : List Str} {x : Str} {p pos pos2 : Pos} {e a b : Expr} {es : List Expr} {ad : DA} {de da db : DE} {ts us : DS} {Wd : DXS} {fd : FuncData} {ps fl : List Str} {k : Nat}
/-- raise C() of a class without own __init__ -/
theorem pmk_bare {bmB : List Value} {B newId initId : String} (F : ExcBaseFacts B newId initId bmB) (q : PySem.W.excIn X.K C bmB newId = true) (gC : X.mg x = some (.ref C)) (kC : keepIn X.K (.ref C) = true) (r : Raises X (.ref C)) (hg : Gl X x) (hdb : (x == ("__debug__" : Str)) = false := by decide) :
    PMk X (.Call (.Name x p) [] [] pos) (fun σ H Q => Q (.ref C) none H) := by
  intro pins s σ H Q I h
  refine wpAny_Call_Name_kw (ld_glob I hg gC ?_ hdb)
  refine PySem.W.callWith_K0 I.kIn kC ?_
  show wpAny _ _ (call (.ref C) []) _ _ _
  obtain ⟨bm, N, nm, qn, bs, hdct, sn, sub, ab, col, dd, k0, k1, k2, k3, k5, mN, hC, hN, hni, T⟩ := exc_obj I.kIn q
  exact wpAny_call_exc_subT F T hC hN hni (fun h' e hm => mk_of I hm r h (I.hok.gone hm.new)) (by show 0 ≤ sizeLine; exact Nat.zero_le _)
def dRaise0 (C : Addr) (Wd : DXS) : DS := fun _ ρ M => Wd C [] ρ M
theorem ds_raise0 (hc : X.calm = true) (tk : Takes X (upW X.K G0 Wd)) (E : Err X.K C ups fs) (q : PySem.W.excIn X.K C errTail "ValueError.__new__" = true) (hm : X.mg x = some (.ref C)) (hg : Gl X x := by rfl) (hdb : (x == ("__debug__" : Str)) = false := by decide) :
    PS X (.Raise (some (.Call (.Name x p) [] [] pos)) none pos2) (upS X.K G0 (dRaise0 C Wd)) :=
  ps_mono (ps_raise hc tk (pmk_bare PySem.F.excBase_ValueError q hm E.kp (raises_own E.isB E.ty) hg hdb)) fun D σ H h => by
    obtain ⟨ρ, M, G, Dd, s0, rl, l, h, k1, k2, k3, k4⟩ := h
    exact ⟨C, [], ρ, M, G, s0, rl, l, rfl, .inl ⟨rfl, rfl⟩, h⟩

/-! ### a caught error: its object p, its class, its fields -/
structure ExcAt (K : PySem.W.Frag) (G : Hp) (q : Addr × Obj) (C : Addr) (fl : List (Str × D)) : Prop where
  z : ∃ d, Zc (.ref C) d q.2 ∧ XdR K G G d fl
  f : ∃ vs, q.2.data = .fields vs
theorem ExcAt.mono {G G' : Hp} {q : Addr × Obj} {fl : List (Str × D)} (h : ExcAt K G q C fl) (s : Same K G G') : ExcAt K G' q C fl := by
  obtain ⟨⟨d, h1, h2⟩, h3⟩ := h
  refine ⟨⟨d, h1, ?_⟩, h3⟩
  rcases h2 with h2 | ⟨dd, ws, e1, e2, e3⟩
  · exact .inl h2
  · exact .inr ⟨dd, ws, e1, s.xd e2, e3.mono s⟩
/-- its instance, for the library -/
theorem ExcAt.inst {q : Addr × Obj} {fl : List (Str × D)} {pins : List (Addr × Obj)} {σ : St} {H : Hp} {s : Shared} (h : ExcAt K G0 q C fl) (I : Inv X pins σ H s) (hq : q ∈ X.pn) (sm : Same K G0 H) :
    ∃ od, InstAt s.heap q.1 q.2 C od ∧ ∀ f d, fl.lookup f = some d → ∃ o v u, od = some o ∧ PySem.W.lookIn f o = some (some u) ∧ RelV v u ∧ Rep K G0 d v := by
  obtain ⟨⟨d, hz, hx⟩, vs, hd⟩ := h
  have hp := (I.pin q (List.mem_append_left _ hq)).1
  have hn : PySem.W.notCls q.2 = true := by unfold PySem.W.notCls; rw [hd]
  rcases hx with ⟨e1, e2⟩ | ⟨dd, ws, e1, e2, e3⟩
  · subst e1 e2
    refine ⟨none, ⟨hp, hz.1, hn, by rw [hz.2]; trivial⟩, fun f d e => by simp at e⟩
  · subst e1
    have hx : ObjOk X.prog X.w H s.heap dd (.xd ws) := I.hok dd _ (sm.xd e2)
    obtain ⟨mA, hns, hr⟩ := hx
    obtain ⟨od, ho, hl⟩ := lookIn_ns hns
    refine ⟨some od, ⟨hp, hz.1, hn, by rw [hz.2]; exact ho⟩, fun f d e => ?_⟩
    obtain ⟨v, ev, pv⟩ := e3 f d e
    obtain ⟨u, hu, ru⟩ := RelO.some_of (v := v) (o := mA f) (by rw [← ev]; exact hr f)
    exact ⟨od, v, u, rfl, by rw [hl, hu], ru, pv⟩
/-- isinstance(e, C2), e the caught error; isinstance(e, ValueError) -/
def cIsE (q : Addr) (r : D → Option Bool) : RDC := fun ds M Q => match ds with
  | [.ref a, c] => a = q ∧ (match r c with | some k => Q (.bl k) M | none => False)
  | _ => False
theorem isE_ok {q : Addr × Obj} {fl : List (Str × D)} {r : D → Option Bool} (E : Err X.K C ups fs) (h : ExcAt X.K G0 q C fl) (hq : q ∈ X.pn)
    (hr : ∀ c k, r c = some k → ∃ cv, (∀ v u, Rep X.K (fun _ => none) c v → RelV v u → u = cv) ∧ (∀ G v, Rep X.K G c v → Rep X.K (fun _ => none) c v) ∧ kitOne X.K (.ref C) cv = some k) :
    CallR X (.builtin "isinstance") (fun xs H Q => Same X.K G0 H ∧ upC X.K (cIsE q.1 r) xs H Q) := by
  intro pins s σ H xs uu Q I rv hh
  obtain ⟨sm, M, G, ds, Qd, rl, rp, hh, kk⟩ := hh
  unfold cIsE at hh
  split at hh
  · rename_i a1 c
    obtain ⟨ea, hh⟩ := hh
    subst ea
    cases z : r c with
    | none => rw [z] at hh; exact hh.elim
    | some kb =>
      rw [z] at hh
      obtain ⟨cv, h1, h2, h3⟩ := hr c kb z
      obtain ⟨v1, v2, e, p1, p2⟩ := reps2 rp
      subst e
      have e1 := rep_ref p1
      subst e1
      cases rv with
      | cons rx rr =>
        cases rr with
        | cons rt rr =>
          cases rr
          cases rx
          have ec := h1 _ _ (h2 _ _ p2) rt
          subst ec
          obtain ⟨od, J, _⟩ := h.inst I hq sm
          exact PySem.W.kia_one E.kitx I.kIn J h3 (fun z => nomatch z) fun tk => ⟨.bl kb, H, I.kept (t' := tk) fun _ _ z => z, rfl, kk (.bl kb) M G _ H (Same.refl _) rl (flat_rep rfl) hh⟩
  · exact hh.elim
/-- which classes are asked for -/
def rErr (errs : List Addr) (C : Addr) (ups : List Addr) : D → Option Bool
  | .ref c => if c ∈ errs then some (isOf C ups c) else none
  | .ty n => if n = "ValueError" then some true else none
  | _ => none
theorem rErr_ok {errs : List Addr} (E : Err K C ups fs) (all : ∀ c ∈ errs, ∃ u f, Err K c u f) : ∀ c k, rErr errs C ups c = some k →
    ∃ cv, (∀ v u, Rep K (fun _ => none) c v → RelV v u → u = cv) ∧ (∀ G v, Rep K G c v → Rep K (fun _ => none) c v) ∧ kitOne K (.ref C) cv = some k := by
  intro c kb h
  cases c with
  | ref a =>
    have h' : (if a ∈ errs then some (isOf C ups a) else none) = some kb := h
    by_cases hm : a ∈ errs
    · rw [if_pos hm] at h'
      cases h'
      obtain ⟨u, f, F⟩ := all a hm
      exact ⟨.ref a, fun v u p r => by rw [rep_ref p] at r; exact r, fun G v p => by unfold Rep at p ⊢; exact p, E.kit F⟩
    · rw [if_neg hm] at h'; cases h'
  | ty n =>
    have h' : (if n = "ValueError" then some true else none) = some kb := h
    by_cases hn : n = "ValueError"
    · rw [if_pos hn] at h'
      cases h'
      subst hn
      refine ⟨.type "ValueError", fun v u p r => ?_, fun G v p => by unfold Rep at p ⊢; exact p, E.kitB⟩
      unfold Rep at p
      subst p
      exact r
    · rw [if_neg hn] at h'; cases h'
  | _ => cases h
theorem de_isE {q : Addr × Obj} {fl : List (Str × D)} {r : D → Option Bool} (E : Err X.K C ups fs) (h : ExcAt X.K G0 q C fl) (hq : q ∈ X.pn)
    (hr : ∀ c k, r c = some k → ∃ cv, (∀ v u, Rep X.K (fun _ => none) c v → RelV v u → u = cv) ∧ (∀ G v, Rep X.K G c v → Rep X.K (fun _ => none) c v) ∧ kitOne X.K (.ref C) cv = some k)
    (hg : Gl X "isinstance") (hm : X.mg "isinstance" = none) (ha : PA X (e :: es) (upA X.K G0 ad)) (he : starEach (e :: es) X.env = (false, eval e X.env) :: starEach es X.env := by rfl) (hpl : (backTo pos (starEach es X.env)).any (·.1) = false := by rfl) :
    PE X (.Call (.Name "isinstance" p) (e :: es) [] pos) (up X.K G0 (dCall (cIsE q.1 r) ad)) :=
  pe_mono (pe_callB (isE_ok E h hq hr) hg hm (by decide +kernel) ha (by decide) (by decide) he hpl) fun σ H Q h => by
    obtain ⟨ρ, M, G, Qd, s0, rl, l, h, kk⟩ := h
    refine ⟨ρ, M, G, _, s0, rl, l, h, fun xs M1 G1 vs H1 s1 r1 p1 q1 => ?_⟩
    exact ⟨(s0.trans s1).trans r1.sub, M1, G1, xs, Qd, r1, p1, q1, fun d M' G' w H' s3 r3 p3 q3 => kk d M' G' w H' (s1.trans s3) r3 p3 q3⟩
/-- e.f -/
def dFld (q : Addr) (fl : List (Str × D)) (n : Str) (de : DE) : DE := fun ρ M Q => de ρ M fun d M1 => match d with
  | .ref a => a = q ∧ (match fl.lookup n with | some x => Q x M1 | none => False)
  | _ => False
theorem de_fld {q : Addr × Obj} {fl : List (Str × D)} {n : Str} (E : Err X.K C ups fs) (h : ExcAt X.K G0 q C fl) (hq : q ∈ X.pn) (hn : n ∈ fs) (he : PE X e (up X.K G0 de)) (hb : attributeBase e n X.env (eval e X.env) = eval e X.env := by rfl) :
    PE X (.Attribute e n pos) (up X.K G0 (dFld q.1 fl n de)) := by
  refine ⟨fun pins s σ H Q I hh => ?_⟩
  obtain ⟨ρ, M, G, Qd, s0, rl, l, hh, kk⟩ := hh
  refine attr_of hb (thn (he.run pins s σ H (fun v H1 => v = .ref q.1 ∧ Same X.K G0 H1 ∧ ∃ x, fl.lookup n = some x ∧ ∀ w, Rep X.K G0 x w → Q w H1) I ⟨ρ, M, G, _, s0, rl, l, hh, fun d M1 G1 v H1 s1 r1 p1 q1 => ?_⟩) ?_)
  · split at q1
    · rename_i a
      obtain ⟨ea, q1⟩ := q1
      subst ea
      cases z : fl.lookup n with
      | none => rw [z] at q1; exact q1.elim
      | some x =>
        rw [z] at q1
        exact ⟨rep_ref p1, (s0.trans s1).trans r1.sub, x, rfl, fun w pw => kk x M1 G1 w H1 s1 r1 (pw.mono (s0.trans s1)) q1⟩
    · exact q1.elim
  · rintro u s1 ⟨v, H1, I1, r1, ev, sm, x, ex, kq⟩
    subst ev
    obtain rfl : u = Value.ref q.1 := r1
    obtain ⟨od, J, hf⟩ := h.inst I1 hq sm
    obtain ⟨o, w, u, eo, hl, ru, pw⟩ := hf n x ex
    subst eo
    exact HandSPX.exc_get I1.kIn J E.ga E.gg E.isB (PySem.W.findObj_own E.hasD (E.nf n hn) rfl hl) (handed_of ru) ⟨w, H1, I1.tok _, ru, kq w pw⟩

/-! ### defs called where an error is handled -/
structure RoomE (k : Nat) (A : Around) : Prop where
  room : L2H.RoomH k A
  gd : A.guards = some []
theorem RoomE.mono {j k : Nat} {A : Around} (r : RoomE k A) (h : j ≤ k) : RoomE j A := ⟨r.room.mono h, r.gd⟩
theorem RoomE.deeper {k : Nat} {A : Around} (r : RoomE (k + 1) A) (env : Env) : RoomE k (A.deeper env) := ⟨r.room.deeper env, r.gd⟩
/-- a promise that speaks of the handled error: where it is, its class, its fields -/
abbrev ESp := Addr → Addr → List (Str × D) → DSp
def upE (K : PySem.W.Frag) (sp : ESp) (q : Addr × Obj) : Sp := fun vs H Q E => ∃ M G ds Qd Ed C fl, RelH K M G H ∧ Reps K G ds vs ∧ ExcAt K G q C fl ∧ sp q.1 C fl ds M Qd Ed ∧
  (∀ d M' G' v H', Same K G G' → RelH K M' G' H' → Rep K G' d v → Qd d M' → Q v H') ∧
  (∀ C fs M' G' d H', Same K G G' → RelH K M' G' H' → XdR K G' H' d fs → Ed C fs M' → E (.ref C) d H')
structure FnE (P : Program) (w : World) (K : PySem.W.Frag) (mg : Str → Option Value) (base : Heap) (k : Nat) (f : Addr) (fd : FuncData) (ps : List Str) (sp : ESp) : Prop where
  len : ∀ q C fl ds M Q E, sp q C fl ds M Q E → ds.length = ps.length
  run : ∀ (A : Around) (outer : List Env) (s : Shared) (H : Hp) (args : Args) (uu : List Value) (vs : List V) (Q : VK) (E : XK) (q : Addr × Obj), RoomE k A → L2H.PinOk outer H s q → Env0 P w K mg base A outer s H →
    BindsTo s fd args (ps.zip uu) → Vals vs uu → upE K sp q vs H Q E → codeAny (model P w) A (.call (.ref f) args) (CR (L2.CX P w) outer P w H s Q E) s
theorem fnE_of {P : Program} {w : World} {mg : Str → Option Value} {base : Heap} {qual : Str} {st : Stmt} {f : Addr} {N : List Str} {sp : ESp} (F : Fun K x qual st f fd) (S : FnScope N ps (defScope st))
    (len : ∀ q C fl ds M Q E, sp q C fl ds M Q E → ds.length = ps.length) (B : Addr → Addr → List (Str × D) → DXS → DS)
    (der : ∀ (cdv : Value) (A : Around) (outer : List Env) (s : Shared) (H : Hp) (E : XK) (G0 : Hp) (Wd : DXS) (q : Addr × Obj) (C : Addr) (fl : List (Str × D)), RoomE k (A.deeper (envOfC qual (defScope st) s.heap.objs.size f cdv)) → ExcAt K G0 q C fl →
      (∃ ds M Q E, sp q.1 C fl ds M Q E) →
      Takes (L2H.cxH (L2.CX P w) P w K mg base N qual (defScope st) f cdv A outer s H E q) (upW K G0 Wd) →
      PSs (L2H.cxH (L2.CX P w) P w K mg base N qual (defScope st) f cdv A outer s H E q) (defBody st) (upS K G0 (B q.1 C fl Wd)))
    (pure : ∀ q C fl ds M Q E, sp q C fl ds M Q E → B q C fl (fun C fs _ M' => E C fs M') { nx := fun _ M' => Q .non M', rt := Q } (dstart N ds) M) : FnE P w K mg base (k + 1) f fd ps sp := by
  obtain ⟨oc, od, kV, doc, pm, an, cdv, ct, osl, rfl, lk, hcd⟩ := F.ex
  refine ⟨len, ?_⟩
  intro A outer s H args uu vs Q E q hr hpin e0 hb rv ⟨M, G, ds, Qd, Ed, C, fl, rl, rp, hx, hsp, kq, ke⟩
  have hl : vs.length = ps.length := rp.length.symm.trans (len _ _ _ _ _ _ _ hsp)
  have hin : K.In s.heap := e0.mod.kin.keeps fun b o z => (e0.bs b o z).1
  have lim := e0.mod.nolimit.keeps (h' := s.heap) fun b o z => (e0.bs b o z).1
  have knd : ∀ y ∈ ps.zip uu, (defScope st).names.lookup y.1 = some .local ∨ ((defScope st).names.lookup y.1 = some .cell ∧ ((cellsFrom (s.heap.objs.size + 1) (defScope st).names []).lookup y.1).isSome = true) := by
    rintro ⟨n, v⟩ hy
    exact (S.par n (List.of_mem_zip hy).1).imp (fun q => q) fun q => ⟨q, PySem.W.cellsFrom_some _ _ _ (.inl q)⟩
  refine codeAny_call_function hr.room.depth (hin _ _ lk) rfl S.co S.gen rfl (PySem.W.codeRec_of hin hcd) (hb _ _ _ _ ?_)
  refine wpAny_newFunctionEnv_cells S.kind knd fun env he s1 xx => ?_
  subst he
  refine ⟨lim.keeps xx.toInCall.keep, codeAny_func ?_⟩
  have I := L2H.inv_startH (CX := L2.CX P w) (E := E) (P := P) (w := w) (K := K) (mg := mg) (base := base) S hpin e0 hl rv xx
  have tk := takes_of (X := L2H.cxH (L2.CX P w) P w K mg base N qual (defScope st) f cdv A outer s H E q) (E := E) rfl rfl rfl rfl
  have tk2 : Takes (L2H.cxH (L2.CX P w) P w K mg base N qual (defScope st) f cdv A outer s H E q) (upW K G fun C fs _ M' => Ed C fs M') := tk.imp fun c d σ H' ⟨C, fs, ρ, M', G', s1, r1, _, e1, x1, q1⟩ => by
    subst e1
    exact ke C fs M' G' d H' s1 r1 x1 q1
  refine wpAny_mono ((der cdv A outer s H E G _ q C fl (hr.deeper _) hx ⟨_, _, _, _, hsp⟩ tk2).run [] s1 _ H { nx := fun _ H' => Q .non H', rt := Q } I ⟨dstart N ds, M, G, _, Same.refl _, rl, locs_start rp, pure _ _ _ _ _ _ _ hsp, ?_, ?_, ?_, ?_⟩) (fun flw s' hs => ?_) fun e s' hs => hs
  · exact fun ρ' M' G' σ' H' s r l q => kq .non M' G' .non H' s r (flat_rep rfl) q
  · exact fun d M' G' v H' s r p q => kq d M' G' v H' s r p q
  · exact fun _ _ _ _ _ _ _ _ q => q
  · exact fun _ _ _ _ _ _ _ _ q => q
  · cases flw with
    | ret u =>
      obtain ⟨v, σ', H', J, rv', q⟩ := hs
      exact ⟨v, H', J.os, J.bare, J.base, J.hok, rv', q⟩
    | next =>
      obtain ⟨σ', H', J, q⟩ := hs
      exact ⟨.non, H', J.os, J.bare, J.base, J.hok, rfl, q⟩
    | brk => obtain ⟨_, _, _, q⟩ := hs; exact q.elim
    | cont => obtain ⟨_, _, _, q⟩ := hs; exact q.elim
/-- f(e, ..) within an except suite -/
def dCallE (sp : ESp) (q C : Addr) (fl : List (Str × D)) (Wd : DXS) (a : DA) : DE := fun ρ M Q => a ρ M fun ds M1 => sp q C fl ds M1 Q fun C fs M' => Wd C fs ρ M'
theorem de_callE {q : Addr × Obj} {fl : List (Str × D)} {sp : ESp} {f : Addr} (F : FnE X.prog X.w X.K X.mg X.base k f fd ps sp) (hx : ExcAt X.K G0 q C fl) (hq : q ∈ X.pn) (hr : RoomE k X.A) (hg : Gl X x) (hm : X.mg x = some (.ref f)) (hk : PySem.W.keepIn X.K (.ref f) = true) (hb : Binds X.K fd ps [])
    (tk : Takes X (upW X.K G0 Wd)) (ha : PA X (e :: es) (upA X.K G0 ad)) (hdb : (x == ("__debug__" : Str)) = false := by decide) (he : starEach (e :: es) X.env = (false, eval e X.env) :: starEach es X.env := by rfl) (hpl : (backTo pos (starEach es X.env)).any (·.1) = false := by rfl) :
    PE X (.Call (.Name x p) (e :: es) [] pos) (up X.K G0 (dCallE sp q.1 C fl Wd ad)) := by
  refine ⟨fun pins s σ H Q I h => wpAny_Call_Name_kw (ld_glob I hg hm ?_ hdb)⟩
  have h2 : upA X.K G0 ad σ H fun vs H1 => upE X.K sp q vs H1 Q fun cls d H' => upW X.K G0 Wd cls d σ H' := by
    obtain ⟨ρ, M, G, Qd, s0, rl, l, h, kk⟩ := h
    refine ⟨ρ, M, G, _, s0, rl, l, h, fun ds M1 G1 vs H1 s1 r1 p1 q1 => ?_⟩
    refine ⟨M1, G1, ds, Qd, _, C, fl, r1, p1, hx.mono (s0.trans s1), q1, fun d M' G' v H' s2 r2 p2 q2 => kk d M' G' v H' (s1.trans s2) r2 p2 q2, fun C fs M' G' d H' s2 r2 x2 q2 => ?_⟩
    exact ⟨C, fs, ρ, M', G', (s0.trans s1).trans s2, r2, (l.mono s1).mono s2, rfl, x2, q2⟩
  refine PySem.W.callWith_K (h₀ := X.base) I.ok.mod.kin hk (thn (ha.run pos pins s σ H _ I h2) ?_) he hpl
  rintro uu s1 ⟨vs, H1, I1, r, hh⟩
  refine ⟨I1.kIn, ?_⟩
  have hl : uu.length = ps.length := by
    obtain ⟨M, G, ds, Qd, Ed, C', fl', rl, rp, _, hsp, _⟩ := id hh
    rw [← r.length, ← rp.length]
    exact F.len _ _ _ _ _ _ _ hsp
  have bb := hb s1 uu I1.kIn (by rw [List.append_nil]; exact hl)
  rw [List.append_nil] at bb
  have P1 := I1.pin q (List.mem_append_left _ hq)
  have hpin : L2H.PinOk X.stack H1 s1 q := ⟨P1.1, P1.2.1, fun hm => (List.mem_cons.mp (I1.stkSub q.1 hm)).elim P1.2.2.1 P1.2.2.2.1, P1.2.2.2.2⟩
  refine wpAny_call (codeAny_mono (F.run X.A X.stack s1 H1 ⟨uu, []⟩ uu vs Q _ q hr hpin I1.env0 bb r hh) fun res s' hq => ?_)
  match res, hq with
  | .error er, hq => exact tk er s' (XE.of_call I1 (fun _ _ _ z => z) hq)
  | .ok (.ret u), hq => exact I1.after hq

/-! ### try .. except C as n -/
def dTryAs (catch_ : Addr → Bool) (i : Nat) (b : DXS → DS) (su : Addr → Addr → List (Str × D) → DS) (Wd : DXS) : DS := fun D ρ M =>
  b (fun C fl ρ' M' => (catch_ C = true ∧ ∀ q, su q C fl { nx := fun ρ2 M2 => D.nx (ρ2.set i none) M2, rt := D.rt, bk := fun ρ2 M2 => D.bk (ρ2.set i none) M2, ct := fun ρ2 M2 => D.ct (ρ2.set i none) M2 } (ρ'.set i (some (.ref q))) M') ∨
    (catch_ C = false ∧ Wd C fl ρ' M')) D ρ M
theorem locs_none {ρ : Ds} {G : Hp} {σ : St} (h : Locs K ρ G σ) (i : Nat) : Locs K (ρ.set i none) G (σ.set i none) := by
  refine ⟨by rw [List.length_set, List.length_set]; exact h.len, fun j d e => ?_⟩
  by_cases hj : i = j
  · subst hj
    rcases Nat.lt_or_ge i ρ.length with z | z
    · rw [List.getElem?_set_self z] at e; cases e
    · rw [List.getElem?_eq_none (by rw [List.length_set]; exact z)] at e; cases e
  · rw [List.getElem?_set_ne hj] at e ⊢
    exact h.loc j d e
/-- an exception's dict never changes -/
theorem RelH.xd {M : Mm} {G H : Hp} {dd : Addr} {ws : List (Str × V)} (r : RelH K M G H) (h : H dd = some (.xd ws)) : Same K G (upd G dd (.xd ws)) ∧ RelH K M (upd G dd (.xd ws)) H := by
  have s0 : L2.Same G (upd G dd (.xd ws)) := fun b u e => by
    by_cases hb : b = dd
    · subst hb
      have := r.sub0 _ _ e
      rw [h] at this
      rw [upd_same, this]
    · rw [upd_ne hb]; exact e
  have s : Same K G (upd G dd (.xd ws)) := .of s0
  refine ⟨s, fun b u e => ?_, fun P q lk => (r.tabs P q lk).ext s0, fun b u e => ?_⟩
  · by_cases hb : b = dd
    · subst hb; rw [upd_same] at e; rw [h, e]
    · rw [upd_ne hb] at e; exact r.sub0 _ _ e
  · obtain ⟨q1, q2⟩ := r.mem b u e
    have hb : b ≠ dd := fun z => by
      subst z
      cases u with
      | lst xs => obtain ⟨vs, e1, _⟩ := q2; rw [h] at e1; cases e1
      | dic xs => obtain ⟨vs, e1, _⟩ := q2; rw [h] at e1; cases e1
    exact ⟨by rw [upd_ne hb]; exact q1, q2.keep s rfl⟩
theorem ds_try_as {n : Str} {body suite : List Stmt} {b0 : Stmt} {np pos' : Pos} {i : Nat} {b : DXS → DS} {su : Addr → Addr → List (Str × D) → DS} {catch_ : Addr → Bool}
    (hs : X.stack = X.env :: X.outer) (hf : X.env.frame = some X.env.locals) (hN : X.N.Nodup) (hi : X.N[i]? = some n) (hln : X.env.kindOf n = some .local) (hc : Names X x (.ref C2)) (tk : Takes X (upW X.K G0 Wd))
    (hcatch : ∀ C, exmOne X.K (.ref C) (.ref C2) = some (catch_ C) ∨ ∀ fl ρ M, ¬ Wd C fl ρ M ∧ catch_ C = false)
    (hb : ∀ (W : DXS) (G1 : Hp) (pn : List (Addr × Obj)) (xe : Value → Shared → Prop), Same X.K G0 G1 → Takes (X.tr pn xe) (upW X.K G1 W) → PassesOwn (model X.prog X.w) X.A X.env xe → PSs (X.tr pn xe) body (upS X.K G1 (b W)))
    (hsu : ∀ (q : Addr × Obj) (C : Addr) (fl : List (Str × D)) (pn : List (Addr × Obj)) (G1 : Hp), ExcAt X.K G1 q C fl → catch_ C = true → PSs (X.suite q.1 (q :: pn)) (b0 :: suite) (upS X.K G1 (su q.1 C fl))) :
    PS X (.Try body [.ExceptHandler (some (.Name x np)) (some n) (b0 :: suite) pos'] [] [] pos) (upS X.K G0 (dTryAs catch_ i b su Wd)) := by
  refine ps_mono (ps_try_as (Wout := upW X.K G0 Wd) (tb := fun W D σ H => ∃ W' G1, Same X.K G0 G1 ∧ (∀ c d σ H, upW X.K G1 W' c d σ H → W c d σ H) ∧ upS X.K G1 (b W') D σ H)
    (ts := fun q cls d D σ H => ∃ C fl G1, cls = .ref C ∧ catch_ C = true ∧ XdR X.K G1 G1 d fl ∧ upS X.K G1 (su q C fl) D σ H) hs hf hN hi hln hc tk ?_ ?_) ?_
  · intro W pn xe tkW hpo
    refine ⟨fun pins s σ H D I hh => ?_⟩
    obtain ⟨W', G1, hG, h1, h2⟩ := hh
    exact (hb W' G1 pn xe hG (tkW.imp h1) hpo).run pins s σ H D I h2
  · intro a oe cls d pn hz hfl
    refine ⟨fun pins s σ H D I hh => ?_⟩
    obtain ⟨C, fl, G1, e1, hcc, hx, h2⟩ := hh
    subst e1
    exact (hsu (a, oe) C fl pn G1 ⟨⟨d, hz, hx⟩, hfl⟩ hcc).run pins s σ H D I h2
  · intro D σ H h
    obtain ⟨ρ, M, G, Dd, s0, rl, l, h, k1, k2, k3, k4⟩ := h
    refine ⟨_, G, s0, ?_, ρ, M, G, Dd, Same.refl _, rl, l, h, k1, k2, k3, k4⟩
    intro cls d σ' H' hw
    obtain ⟨C, fl, ρ', M', G', s1, r1, l1, e1, hx, hw⟩ := hw
    subst e1
    have hans : ∀ kb, catch_ C = kb → (kb = true ∨ Wd C fl ρ' M') → exmOne X.K (.ref C) (.ref C2) = some kb := fun kb e1 e2 => by
      rcases hcatch C with z | z
      · rw [z, e1]
      · rcases e2 with e2 | e2
        · have := (z fl ρ' M').2
          rw [this] at e1
          rw [e2] at e1
          cases e1
        · exact ((z fl ρ' M').1 e2).elim
    rcases hw with ⟨hcc, hw⟩ | ⟨hcc, hw⟩
    · refine ⟨true, hans _ hcc (.inl rfl), fun _ a ha => ?_, fun z => Bool.noConfusion z⟩
      have base : ∃ G2, Same X.K G' G2 ∧ RelH X.K M' G2 H' ∧ XdR X.K G2 G2 d fl := by
        rcases hx with ⟨e1, e2⟩ | ⟨dd, ws, e1, e2, e3⟩
        · exact ⟨G', Same.refl _, r1, .inl ⟨e1, e2⟩⟩
        · obtain ⟨sx, rx⟩ := r1.xd e2
          exact ⟨_, sx, rx, .inr ⟨dd, ws, e1, upd_same, e3.mono sx⟩⟩
      obtain ⟨G2, s2, r2, hx2⟩ := base
      refine ⟨C, fl, G2, rfl, hcc, hx2, _, M', G2, _, Same.refl _, r2, (l1.mono s2).set i (flat_rep (d := .ref a) rfl), hw a, ?_, ?_, ?_, ?_⟩
      · exact fun ρ3 M3 G3 σ3 H3 s3 r3 l3 q3 => k1 _ M3 G3 _ H3 ((s1.trans s2).trans s3) r3 (locs_none l3 i) q3
      · exact fun d3 M3 G3 v3 H3 s3 r3 p3 q3 => k2 d3 M3 G3 v3 H3 ((s1.trans s2).trans s3) r3 p3 q3
      · exact fun ρ3 M3 G3 σ3 H3 s3 r3 l3 q3 => k3 _ M3 G3 _ H3 ((s1.trans s2).trans s3) r3 (locs_none l3 i) q3
      · exact fun ρ3 M3 G3 σ3 H3 s3 r3 l3 q3 => k4 _ M3 G3 _ H3 ((s1.trans s2).trans s3) r3 (locs_none l3 i) q3
    · refine ⟨false, hans _ hcc (.inr hw), fun z => Bool.noConfusion z, fun _ => ?_⟩
      exact ⟨C, fl, ρ', M', G', s0.trans s1, r1, l1, rfl, hx, hw⟩
end
end Dq
/-! The deep layer, part 6: repr. -/
namespace Dq
open PySem PySem.Spec PyProof.Rows L2
mutual
/-- as the library's data, dicts among it -/
def D.px : D → Option PyData
  | .non => some .none
  | .bl b => some (.bool b)
  | .int i => some (.int i)
  | .str x => some (.str x)
  | .tup xs => (D.pxs xs).map .tuple
  | .lst xs => (D.pxs xs).map .list
  | .dic kvs => (D.pxk kvs).map .dict
  | _ => none
def D.pxs : List D → Option (List PyData)
  | [] => some []
  | d :: r => match D.px d, D.pxs r with
    | some x, some xs => some (x :: xs)
    | _, _ => none
def D.pxk : List (Key × D) → Option (List (PyData × PyData))
  | [] => some []
  | (k, d) :: r => match D.px d, D.pxk r with
    | some x, some xs => some (((match k with | .inl i => PyData.int i | .inr z => PyData.str z), x) :: xs)
    | _, _ => none
end
section
variable {X : Cx} {pins : List (Addr × Obj)} {σ : St} {H H0 : Hp} {s : Shared} {K0 : PySem.W.Frag}
theorem pairs_at {P : Program} {w : World} : ∀ {es : List DictEntry} {kvs : List (Key × D)} {ws : List (Key × V)} {vs : List (Key × Value)}, Pairs (mixKind P w) es vs → KV ws vs → RepK K0 H0 kvs ws →
    ∃ bs : List Value, es.map (·.val) = bs ∧ Vals (ws.map (·.2)) bs ∧ ∀ ps, D.pxk kvs = some ps → ReadsAll s.heap (es.map (·.key)) (ps.map (·.1)) [] := by
  intro es
  induction es with
  | nil =>
    intro kvs ws vs hp hk hr
    cases hp
    unfold KV at hk
    cases hk
    cases kvs with
    | nil => exact ⟨[], rfl, .nil, fun ps e => by cases e; exact .nil⟩
    | cons p r => obtain ⟨k, d⟩ := p; unfold RepK at hr; obtain ⟨_, _, e, _⟩ := hr; cases e
  | cons e es ih =>
    intro kvs ws vs hp hk hr
    cases hp with
    | @cons _ kv _ vr h1 h2 h3 =>
      unfold KV at hk
      cases hk with
      | @cons x y xs ys hxy hrest =>
        cases kvs with
        | nil => unfold RepK at hr; cases hr
        | cons p r =>
          obtain ⟨k, d⟩ := p
          unfold RepK at hr
          obtain ⟨v, rs, e1, q1, q2⟩ := hr
          cases e1
          obtain ⟨bs, f1, f2, f3⟩ := ih h3 (by unfold KV; exact hrest) q2
          refine ⟨e.val :: bs, by rw [List.map_cons, f1], .cons (by rw [h2]; exact hxy.2) f2, fun ps hps => ?_⟩
          unfold D.pxk at hps
          split at hps
          · rename_i a as ea eb
            cases hps
            have := f3 _ eb
            simp only [List.map_cons]
            refine ReadsAll.cons (as := []) (bs := []) ?_ this
            have hk : k = kv.1 := hxy.1
            have h1' : keyIs kv.1 e.key = true := h1
            rcases keyIs_shape h1' with ⟨i, t, w1, w2⟩ | ⟨z, t, w1, w2⟩
            · rw [hk, w1, w2]; exact Reads.int i t
            · rw [hk, w1, w2]; exact Reads.str z t
          · cases hps
mutual
theorem rep_reads (I : Inv X pins σ H s) : ∀ (d : D) (v : V) (u : Value) (p : PyData), Rep X.K H d v → RelV v u → D.px d = some p → ∃ as, Reads s.heap u p as
  | .non, _, _, _, h, r, e => by
    unfold Rep at h
    unfold D.px at e
    cases h
    cases e
    cases r
    exact ⟨[], Reads.none⟩
  | .bl b, _, _, _, h, r, e => by
    unfold Rep at h
    unfold D.px at e
    cases h
    cases e
    cases r
    exact ⟨[], Reads.bool b⟩
  | .int i, _, _, _, h, r, e => by
    unfold Rep at h
    unfold D.px at e
    cases h
    cases e
    obtain ⟨t, rfl⟩ := r
    exact ⟨[], Reads.int i t⟩
  | .str x, _, _, _, h, r, e => by
    unfold Rep at h
    unfold D.px at e
    cases h
    cases e
    obtain ⟨t, rfl⟩ := r
    exact ⟨[], Reads.str x t⟩
  | .tup ds, _, _, _, h, r, e => by
    unfold Rep at h
    unfold D.px at e
    obtain ⟨a, vs, rfl, hq, hr⟩ := h
    cases r
    match hx : D.pxs ds, e with
    | some ps, e =>
      cases e
      obtain ⟨its, rv, ⟨o, ho, hc, n, hd⟩, _⟩ := I.tuple hq
      obtain ⟨as, q1⟩ := reps_reads I ds _ its ps hr rv hx
      exact ⟨_, Reads.tuple ho hc hd q1⟩
  | .lst ds, _, _, _, h, r, e => by
    unfold Rep at h
    unfold D.px at e
    obtain ⟨a, vs, rfl, hq, hr⟩ := h
    cases r
    match hx : D.pxs ds, e with
    | some ps, e =>
      cases e
      obtain ⟨its, rv, ⟨o, n, ho, hc, _, hd⟩, _⟩ := I.list (.inl (.inl hq))
      obtain ⟨as, q1⟩ := reps_reads I ds _ its ps hr rv hx
      exact ⟨_, Reads.list ho hc hd q1⟩
  | .dic kvs, _, _, _, h, r, e => by
    unfold Rep at h
    unfold D.px at e
    obtain ⟨a, ws, rfl, hq, hr⟩ := h
    cases r
    match hx : D.pxk kvs, e with
    | some ps, e =>
      cases e
      obtain ⟨z, hsm, vs, rel, o, es, ep, eo, exd, hdat, hk, hp, hn⟩ := dk_of I.hok hq
      obtain ⟨bs, f1, f2, f3⟩ := pairs_at hp rel hr
      obtain ⟨cs, q1⟩ := repk_reads I kvs ws bs ps hr f2 hx
      exact ⟨_, Reads.dict eo exd.1 hdat (f3 _ hx) (by rw [f1]; exact q1)⟩
  | .ref _, _, _, _, _, _, e => by unfold D.px at e; cases e
  | .ty _, _, _, _, _, _, e => by unfold D.px at e; cases e
  | .scr _, _, _, _, _, _, e => by unfold D.px at e; cases e
theorem reps_reads (I : Inv X pins σ H s) : ∀ (ds : List D) (vs : List V) (us : List Value) (ps : List PyData), Reps X.K H ds vs → Vals vs us → D.pxs ds = some ps → ∃ as, ReadsAll s.heap us ps as
  | [], _, _, _, h, r, e => by
    unfold Reps at h
    unfold D.pxs at e
    cases h
    cases e
    cases r
    exact ⟨[], .nil⟩
  | d :: ds, _, _, _, h, r, e => by
    unfold Reps at h
    unfold D.pxs at e
    obtain ⟨v, ws, rfl, h1, h2⟩ := h
    cases r with
    | cons r1 r2 =>
      match hx : D.px d, hy : D.pxs ds, e with
      | some p, some ps, e =>
        cases e
        obtain ⟨as, q1⟩ := rep_reads I d _ _ p h1 r1 hx
        obtain ⟨bs, q3⟩ := reps_reads I ds _ _ ps h2 r2 hy
        exact ⟨_, .cons q1 q3⟩
theorem repk_reads (I : Inv X pins σ H s) : ∀ (kvs : List (Key × D)) (ws : List (Key × V)) (us : List Value) (ps : List (PyData × PyData)), RepK X.K H kvs ws → Vals (ws.map (·.2)) us → D.pxk kvs = some ps → ∃ as, ReadsAll s.heap us (ps.map (·.2)) as
  | [], _, _, _, h, r, e => by
    unfold RepK at h
    unfold D.pxk at e
    cases h
    cases e
    cases r
    exact ⟨[], .nil⟩
  | (k, d) :: ds, _, _, _, h, r, e => by
    unfold RepK at h
    unfold D.pxk at e
    obtain ⟨v, ws, rfl, h1, h2⟩ := h
    cases r with
    | cons r1 r2 =>
      match hx : D.px d, hy : D.pxk ds, e with
      | some p, some ps, e =>
        cases e
        obtain ⟨as, q1⟩ := rep_reads I d _ _ p h1 r1 hx
        obtain ⟨bs, q3⟩ := repk_reads I ds _ _ ps h2 r2 hy
        exact ⟨_, .cons q1 q3⟩
end
/-! what repr walks through -/
def Parts (P : Program) (w : World) (h : Heap) (u : Value) : PyData → Prop
  | .list xs => ∃ a o vs n bs, u = .ref a ∧ h.get? a = some o ∧ o.cls = .type "list" ∧ o.data = .seq vs n ∧ a ∉ bs ∧ ReadAtMost h (PyData.depth (.list xs)) (a :: bs) ∧ ReprAllK P w bs h (PyData.depthAll xs) vs.toList (PyData.shownAll xs)
  | .tuple xs => ∃ a o vs n bs, u = .ref a ∧ h.get? a = some o ∧ o.cls = .type "tuple" ∧ o.data = .seq vs n ∧ a ∉ bs ∧ ReadAtMost h (PyData.depth (.tuple xs)) (a :: bs) ∧ ReprAllK P w bs h (PyData.depthAll xs) vs.toList (PyData.shownAll xs)
  | .dict kvs => ∃ a o es n bs, u = .ref a ∧ h.get? a = some o ∧ o.cls = .type "dict" ∧ o.data = .dict es n ∧ (a == sysModules) = false ∧ a ∉ bs ∧ ReadAtMost h (PyData.depth (.dict kvs)) (a :: bs) ∧ ReprEntriesK P w bs h (PyData.depthKv kvs) es.toList (PyData.shownKv kvs)
  | p => Reads h u p []
def PartsAll (P : Program) (w : World) (h : Heap) (us : List Value) (ps : List PyData) : Prop := ∃ bs, ReadAtMost h (PyData.depthAll ps) bs ∧ ReprAllK P w bs h (PyData.depthAll ps) us (PyData.shownAll ps)
theorem parts_show {P : Program} {w : World} {h : Heap} {u : Value} {p : PyData} (q : Parts P w h u p) (hs : p.showable = true) (hz : p.shown.length ≤ sizeLine) : ∃ bs, ReadAtMost h p.depth bs ∧ ReprK P w bs h p.depth u p.shown := by
  cases p with
  | list xs =>
    obtain ⟨a, o, ⟨vs⟩, n, bs, rfl, h1, h2, h3, hna, hb, hk⟩ := q
    refine ⟨a :: bs, hb, ?_⟩
    simp only [PyData.depth, PyData.shown]
    generalize PyData.shownAll xs = ts at hk ⊢
    cases vs with
    | nil =>
      cases hk
      rw [listText_nil]
      exact ReprK.listEmpty h1 h2 h3
    | cons x l => exact ReprK.list h1 h2 h3 hna (by simpa using hk.length_eq) fun i y e => hk.item i y (by simpa using e)
  | tuple xs =>
    obtain ⟨a, o, vs, n, bs, rfl, h1, h2, h3, hna, hb, hk⟩ := q
    refine ⟨a :: bs, hb, ?_⟩
    simp only [PyData.depth, PyData.shown]
    exact ReprK.tuple h1 h2 h3 hna hk
  | dict kvs =>
    obtain ⟨a, o, es, n, bs, rfl, h1, h2, h3, hsm, hna, hb, hk⟩ := q
    refine ⟨a :: bs, hb, ?_⟩
    simp only [PyData.depth, PyData.shown]
    exact ReprK.dict h1 h2 h3 hsm hna hk
  | none => exact ReprK.of_reads (show Reads h u .none [] from q) hs (fun _ z => nomatch z) hz
  | bool b => exact ReprK.of_reads (show Reads h u (.bool b) [] from q) hs (fun _ z => nomatch z) hz
  | int i => exact ReprK.of_reads (show Reads h u (.int i) [] from q) hs (fun _ z => nomatch z) hz
  | str x => exact ReprK.of_reads (show Reads h u (.str x) [] from q) hs (fun _ z => nomatch z) hz
theorem partsAll_nil {P : Program} {w : World} {h : Heap} : PartsAll P w h [] [] := ⟨[], (fun _ z => nomatch z), by simp only [PyData.shownAll]; exact .nil⟩
theorem partsAll_cons {P : Program} {w : World} {h : Heap} {u : Value} {us : List Value} {p : PyData} {ps : List PyData} (q : Parts P w h u p) (hs : p.showable = true) (hz : p.shown.length ≤ sizeLine) (r : PartsAll P w h us ps) : PartsAll P w h (u :: us) (p :: ps) := by
  obtain ⟨b1, m1, k1⟩ := parts_show q hs hz
  obtain ⟨b2, m2, k2⟩ := r
  refine ⟨b1 ++ b2, ?_, ?_⟩
  · simp only [PyData.depthAll]
    exact (m1.mono (Nat.le_max_left _ _)).append (m2.mono (Nat.le_max_right _ _))
  · simp only [PyData.depthAll, PyData.shownAll]
    exact .cons ((k1.more fun b z => List.mem_append_left _ z).level_le (Nat.le_max_left _ _)) (k2.more_le (fun b z => List.mem_append_right _ z) (Nat.le_max_right _ _))
mutual
theorem rep_parts (I : Inv X pins σ H s) : ∀ (d : D) (v : V) (u : Value) (p : PyData), Rep X.K H d v → RelV v u → D.px d = some p → p.showable = true → p.shown.length ≤ sizeLine → Parts X.prog X.w s.heap u p
  | .non, v, u, p, h, r, e, hs, hz => by
    unfold Rep at h
    unfold D.px at e
    cases h; cases e; cases r
    exact Reads.none
  | .bl b, v, u, p, h, r, e, hs, hz => by
    unfold Rep at h
    unfold D.px at e
    cases h; cases e; cases r
    exact Reads.bool b
  | .int i, v, u, p, h, r, e, hs, hz => by
    unfold Rep at h
    unfold D.px at e
    cases h; cases e
    obtain ⟨t, rfl⟩ := r
    exact Reads.int i t
  | .str x, v, u, p, h, r, e, hs, hz => by
    unfold Rep at h
    unfold D.px at e
    cases h; cases e
    obtain ⟨t, rfl⟩ := r
    exact Reads.str x t
  | .tup ds, v, u, p, h, r, e, hs, hz => by
    obtain ⟨as0, r0⟩ := rep_reads I (.tup ds) v u p h r e
    unfold Rep at h
    unfold D.px at e
    obtain ⟨a, vs, rfl, hq, hr⟩ := h
    cases r
    match hx : D.pxs ds, e with
    | some ps, e =>
      cases e
      obtain ⟨its, rv, ⟨o, ho, hc, n, hd⟩, _⟩ := I.tuple hq
      rw [PyData.shown] at hz
      obtain ⟨bs, hb, hk⟩ := reps_parts I ds _ its ps hr rv hx (by rw [PyData.showable] at hs; exact hs) fun t ht => Nat.le_trans (tupleText_mem_le ht) hz
      have hna : a ∉ bs := not_mem_of_deeper r0 (by simp only [PyData.depth]; omega) hb
      exact ⟨a, o, its.toArray, n, bs, rfl, ho, hc, hd, hna, ReadAtMost.cons r0 (by simp only [PyData.depth]; omega) hb, hk⟩
  | .lst ds, v, u, p, h, r, e, hs, hz => by
    obtain ⟨as0, r0⟩ := rep_reads I (.lst ds) v u p h r e
    unfold Rep at h
    unfold D.px at e
    obtain ⟨a, vs, rfl, hq, hr⟩ := h
    cases r
    match hx : D.pxs ds, e with
    | some ps, e =>
      cases e
      obtain ⟨its, rv, ⟨o, n, ho, hc, _, hd⟩, _⟩ := I.list (.inl (.inl hq))
      rw [PyData.shown] at hz
      obtain ⟨bs, hb, hk⟩ := reps_parts I ds _ its ps hr rv hx (by rw [PyData.showable] at hs; exact hs) fun t ht => Nat.le_trans (listText_mem_le ht) hz
      have hna : a ∉ bs := not_mem_of_deeper r0 (by simp only [PyData.depth]; omega) hb
      exact ⟨a, o, its.toArray, n, bs, rfl, ho, hc, hd, hna, ReadAtMost.cons r0 (by simp only [PyData.depth]; omega) hb, hk⟩
  | .dic kvs, v, u, p, h, r, e, hs, hz => by
    obtain ⟨as0, r0⟩ := rep_reads I (.dic kvs) v u p h r e
    unfold Rep at h
    unfold D.px at e
    obtain ⟨a, ws, rfl, hq, hr⟩ := h
    cases r
    match hx : D.pxk kvs, e with
    | some ps, e =>
      cases e
      obtain ⟨z, hsm, vs, rel, o, es, ep, eo, exd, hdat, hk, hp, hn⟩ := dk_of I.hok hq
      obtain ⟨bs, f1, f2, f3⟩ := pairs_at hp rel hr
      rw [PyData.shown] at hz
      obtain ⟨hs1, hs2⟩ := PyData.showableKv_split ps (by rw [PyData.showable] at hs; exact hs)
      obtain ⟨b1, m1, k1⟩ := ReprAllK.of_readsAll (prog := X.prog) (w := X.w) (f3 _ hx) hs1 (fun _ z => nomatch z) fun t ht => let ⟨q, hq, hl⟩ := PyData.shownKv_key_le ps t ht; Nat.le_trans hl (Nat.le_trans (dictText_mem_le hq) hz)
      obtain ⟨b2, m2, k2⟩ := repk_parts I kvs ws bs ps hr f2 hx hs2 fun t ht => let ⟨q, hq, hl⟩ := PyData.shownKv_val_le ps t ht; Nat.le_trans hl (Nat.le_trans (dictText_mem_le hq) hz)
      have hb := (m1.mono (PyData.depthAll_keys_le ps)).append (m2.mono (PyData.depthAll_vals_le ps))
      have hna : a ∉ b1 ++ b2 := not_mem_of_deeper r0 (by simp only [PyData.depth]; omega) hb
      refine ⟨a, o, es, ep, b1 ++ b2, rfl, eo, exd.1, hdat, hsm, hna, ReadAtMost.cons r0 (by simp only [PyData.depth]; omega) hb, ?_⟩
      rw [PyData.shownKv_eq]
      refine ReprEntriesK.of_two es.toList _ _ (k1.more_le (fun b z => List.mem_append_left _ z) (PyData.depthAll_keys_le ps)) ?_
      rw [f1]
      exact k2.more_le (fun b z => List.mem_append_right _ z) (PyData.depthAll_vals_le ps)
  | .ref _, _, _, _, _, _, e, _, _ => by unfold D.px at e; cases e
  | .ty _, _, _, _, _, _, e, _, _ => by unfold D.px at e; cases e
  | .scr _, _, _, _, _, _, e, _, _ => by unfold D.px at e; cases e
theorem reps_parts (I : Inv X pins σ H s) : ∀ (ds : List D) (vs : List V) (us : List Value) (ps : List PyData), Reps X.K H ds vs → Vals vs us → D.pxs ds = some ps → PyData.showableAll ps = true → (∀ t ∈ PyData.shownAll ps, t.length ≤ sizeLine) → PartsAll X.prog X.w s.heap us ps
  | [], _, _, _, h, r, e, _, _ => by
    unfold Reps at h
    unfold D.pxs at e
    cases h; cases e; cases r
    exact partsAll_nil
  | d :: ds, _, _, _, h, r, e, hs, hz => by
    unfold Reps at h
    unfold D.pxs at e
    obtain ⟨v, ws, rfl, h1, h2⟩ := h
    cases r with
    | cons r1 r2 =>
      match hx : D.px d, hy : D.pxs ds, e with
      | some p, some ps, e =>
        cases e
        have hs' : p.showable = true ∧ PyData.showableAll ps = true := by simpa [PyData.showableAll] using hs
        have z1 : p.shown.length ≤ sizeLine := hz _ (by rw [PyData.shownAll]; exact List.mem_cons_self)
        exact partsAll_cons (rep_parts I d _ _ p h1 r1 hx hs'.1 z1) hs'.1 z1 (reps_parts I ds _ _ ps h2 r2 hy hs'.2 fun t ht => hz t (by rw [PyData.shownAll]; exact List.mem_cons_of_mem _ ht))
theorem repk_parts (I : Inv X pins σ H s) : ∀ (kvs : List (Key × D)) (ws : List (Key × V)) (us : List Value) (ps : List (PyData × PyData)), RepK X.K H kvs ws → Vals (ws.map (·.2)) us → D.pxk kvs = some ps → PyData.showableAll (ps.map (·.2)) = true → (∀ t ∈ PyData.shownAll (ps.map (·.2)), t.length ≤ sizeLine) →
    PartsAll X.prog X.w s.heap us (ps.map (·.2))
  | [], _, _, _, h, r, e, _, _ => by
    unfold RepK at h
    unfold D.pxk at e
    cases h; cases e; cases r
    exact partsAll_nil
  | (k, d) :: ds, _, _, _, h, r, e, hs, hz => by
    unfold RepK at h
    unfold D.pxk at e
    obtain ⟨v, ws, rfl, h1, h2⟩ := h
    cases r with
    | cons r1 r2 =>
      match hx : D.px d, hy : D.pxk ds, e with
      | some p, some ps, e =>
        cases e
        rw [List.map_cons] at hs hz ⊢
        have hs' : p.showable = true ∧ PyData.showableAll (ps.map (·.2)) = true := by simpa [PyData.showableAll] using hs
        have z1 : p.shown.length ≤ sizeLine := hz _ (by rw [PyData.shownAll]; exact List.mem_cons_self)
        exact partsAll_cons (rep_parts I d _ _ p h1 r1 hx hs'.1 z1) hs'.1 z1 (repk_parts I ds _ _ ps h2 r2 hy hs'.2 fun t ht => hz t (by rw [PyData.shownAll]; exact List.mem_cons_of_mem _ ht))
end
/-- repr(u) -/
theorem parts_call {P : Program} {w : World} {A : Around} {E : Value → Shared → Prop} {s : Shared} {Q : Value → Shared → Prop} {u : Value} {p : PyData} (q : Parts P w s.heap u p) (hs : p.showable = true) (hz : p.shown.length ≤ sizeLine) (hg : A.guards = some []) (hu : A.units + (p.depth + 1) < cLine)
    (k : ∀ h' v tk, (∀ b o, s.heap.get? b = some o → h'.get? b = some o) → Q (.str p.shown v) { s with heap := h', toks := tk }) : wpAny (model P w) A (call (.builtin "repr") [u]) Q E s := by
  cases p with
  | list xs =>
    obtain ⟨a, o, ⟨vs⟩, n, bs, rfl, h1, h2, h3, hna, hb, hk⟩ := q
    simp only [PyData.depth] at hu
    simp only [PyData.shown] at k hz
    generalize PyData.shownAll xs = ts at hk k hz
    refine call_repr_slot (by omega) ⟨o, h1, h2⟩ PySem.F.slot_list_repr.toG ?_
    cases vs with
    | nil =>
      cases hk
      rw [listText_nil] at k
      exact call_list_repr_empty ⟨o, h1, h2⟩ h1 h3 ⟨_, _, rfl, k s.heap _ _ fun _ _ z => z⟩
    | cons x l => exact call_list_reprK h1 h2 h3 hna (by simpa using hk.length_eq) (fun i y e => hk.item i y (by simpa using e)) hg (fun b _ => Clear.nil b) (by show A.units + 1 + _ < _; omega) (fun _ _ z => z) (fun h' v tk z => ⟨_, _, rfl, k h' v tk z⟩) hz
  | tuple xs =>
    obtain ⟨a, o, vs, n, bs, rfl, h1, h2, h3, hna, hb, hk⟩ := q
    simp only [PyData.depth] at hu
    simp only [PyData.shown] at k hz
    exact call_repr_slot (by omega) ⟨o, h1, h2⟩ PySem.F.slot_tuple_repr (call_tuple_reprK h1 h2 h3 hna hk hg (fun b _ => Clear.nil b) (by show A.units + 1 + _ < _; omega) (fun _ _ z => z) (fun h' v tk z => ⟨_, _, rfl, k h' v tk z⟩) hz)
  | dict kvs =>
    obtain ⟨a, o, es, n, bs, rfl, h1, h2, h3, hsm, hna, hb, hk⟩ := q
    simp only [PyData.depth] at hu
    simp only [PyData.shown] at k hz
    exact call_repr_slot (by omega) ⟨o, h1, h2⟩ PySem.F.slot_dict_repr (call_dict_reprK h1 h2 h3 hsm hna hk hg (fun b _ => Clear.nil b) (by show A.units + 1 + _ < _; omega) (fun _ _ z => z) (fun h' v tk z => ⟨_, _, rfl, k h' v tk z⟩) hz)
  | none =>
    have q' : Reads s.heap u .none [] := q
    cases q'
    simp only [PyData.shown] at k
    exact PySem.P.repr_of_none (k s.heap _ _ fun _ _ z => z)
  | bool b =>
    have q' : Reads s.heap u (.bool b) [] := q
    cases q'
    simp only [PyData.shown] at k
    refine PySem.P.repr_of_bool ?_
    have := k s.heap s.toks (s.toks + 1) fun _ _ z => z
    exact this
  | int i =>
    have q' : Reads s.heap u (.int i) [] := q
    cases q'
    simp only [PyData.shown] at k
    exact PySem.P.repr_of_int (by rw [PyData.showable] at hs; exact of_decide_eq_true hs) (k s.heap _ _ fun _ _ z => z)
  | str x =>
    have q' : Reads s.heap u (.str x) [] := q
    cases q'
    simp only [PyData.shown] at k hz
    exact PySem.P.repr_of_str (k s.heap _ _ fun _ _ z => z) hz
/-! how long a repr may be -/
def Fine (n : Nat) (x : Str) : Prop := x.length ≤ n ∧ ∀ c ∈ x.cps.toList, c < 1114112
theorem Fine.mono {n m : Nat} {x : Str} (h : Fine n x) (l : n ≤ m) : Fine m x := ⟨Nat.le_trans h.1 l, h.2⟩
theorem fine_ofString (z : String) : Fine z.length (Str.ofString z) := by
  refine ⟨by rw [PySem.ofString_length]; exact Nat.le_refl _, fun c hc => ?_⟩
  unfold Str.ofString at hc
  rw [List.toList_toArray, cpsOfBytes_string] at hc
  obtain ⟨d, _, rfl⟩ := List.mem_map.mp hc
  have := d.valid
  have : d.toNat < 1114112 := by
    rcases this with h | h
    · exact Nat.lt_trans h (by decide)
    · exact h.2
  exact this
theorem fine_append {n m : Nat} {x y : Str} (h : Fine n x) (g : Fine m y) : Fine (n + m) (x ++ y) := by
  refine ⟨by rw [strLen_append]; exact Nat.add_le_add h.1 g.1, fun c hc => ?_⟩
  have e : (x ++ y).cps = x.cps ++ y.cps := rfl
  rw [e, Array.toList_append] at hc
  exact (List.mem_append.mp hc).elim (h.2 c) (g.2 c)
theorem reprChar_fine (q c : Nat) (hq : q < 1114112) (hc : c < 1114112) : ∀ d ∈ Builtin.Str.reprChar q c, d < 1114112 := by
  have hx : ∀ w, ∀ d ∈ (List.replicate (w - ((Nat.toDigits 16 c).map Char.toNat).length) 48 ++ (Nat.toDigits 16 c).map Char.toNat), d < 1114112 := fun w d hd => by
    rcases List.mem_append.mp hd with h | h
    · rw [(List.mem_replicate.mp h).2]; decide
    · obtain ⟨z, _, rfl⟩ := List.mem_map.mp h
      have : z.toNat < 1114112 := by
        rcases z.valid with h | h
        · exact Nat.lt_trans h (by decide)
        · exact h.2
      exact this
  intro d hd
  unfold Builtin.Str.reprChar at hd
  dsimp only at hd
  repeat' split at hd
  all_goals first
    | (rcases List.mem_append.mp hd with h | h
       · simp only [List.mem_cons, List.not_mem_nil, or_false] at h; rcases h with rfl | rfl <;> decide
       · exact hx _ _ h)
    | (simp only [List.mem_cons, List.not_mem_nil, or_false] at hd; rcases hd with rfl | rfl <;> first | assumption | decide)
    | (simp only [List.mem_cons, List.not_mem_nil, or_false] at hd; subst hd; assumption)
theorem fold_fine (q : Nat) (hq : q < 1114112) : ∀ (l : List Nat) (acc : Array Nat), (∀ c ∈ l, c < 1114112) → (∀ c ∈ acc.toList, c < 1114112) → ∀ c ∈ (l.foldl (fun out c => out ++ (Builtin.Str.reprChar q c).toArray) acc).toList, c < 1114112
  | [], acc, _, h => h
  | c :: r, acc, hl, h => by
    refine fold_fine q hq r _ (fun d hd => hl d (List.mem_cons_of_mem _ hd)) fun d hd => ?_
    rw [Array.toList_append] at hd
    rcases List.mem_append.mp hd with z | z
    · exact h d z
    · exact reprChar_fine q c hq (hl c (List.mem_cons_self ..)) d z
theorem fine_repr {n : Nat} {x : Str} (h : Fine n x) : Fine (10 * n + 2) (reprText x) := by
  refine ⟨Nat.le_trans (StrLaws.reprText_len x fun c hc => Nat.lt_trans (h.2 c hc) (by decide)) (by have := h.1; omega), fun c hc => ?_⟩
  unfold reprText at hc
  have hq : reprQuote x < 1114112 := by unfold reprQuote; split <;> decide
  rw [Array.toList_push, ← Array.foldl_toList] at hc
  rcases List.mem_append.mp hc with z | z
  · exact fold_fine _ hq _ _ h.2 (fun d hd => by simp at hd; rw [hd]; exact hq) c z
  · simp at z; rw [z]; exact hq
def Fines (n : Nat) (l : List Str) : Prop := ∀ x ∈ l, Fine n x
theorem fine_textFrom {n : Nat} : ∀ (l : List Str) (k m : Nat) (acc : Str), Fines n l → Fine m acc → Fine (m + l.length * (n + 2)) (textFrom k acc l)
  | [], k, m, acc, _, h => h.mono (by simp)
  | t :: r, k, m, acc, hl, h => by
    have := fine_textFrom r (k + 1) (m + 2 + n) (acc ++ (if k > 0 then ", " else "" : String) ++ t) (fun x hx => hl x (List.mem_cons_of_mem _ hx))
      (fine_append (fine_append h (by split <;> exact (fine_ofString _).mono (by decide))) (hl t (List.mem_cons_self ..)))
    exact this.mono (by rw [List.length_cons, Nat.succ_mul]; omega)
theorem fine_list {n : Nat} {l : List Str} (h : Fines n l) : Fine (l.length * (n + 2) + 2) (listText l) := by
  unfold listText
  exact (fine_append (fine_textFrom l 0 1 _ h (fine_ofString "[")) (fine_ofString "]")).mono (by have : "]".length = 1 := rfl; omega)
theorem fine_join {n : Nat} : ∀ {l : List Str}, Fines n l → Fine (l.length * (n + 2)) (Str.join ", " l)
  | [], _ => ⟨by show 0 ≤ _; omega, fun c hc => by simp [Str.join, Str.empty] at hc⟩
  | [x], h => by
    show Fine _ x
    exact (h x (by simp)).mono (by simp)
  | x :: y :: r, h => by
    have ih := fine_join (l := y :: r) fun z hz => h z (List.mem_cons_of_mem _ hz)
    show Fine _ (x ++ (", " : Str) ++ Str.join ", " (y :: r))
    exact (fine_append (fine_append (h x (by simp)) (fine_ofString ", ")) ih).mono (by have : ", ".length = 2 := rfl; rw [List.length_cons (as := y :: r), Nat.succ_mul]; omega)
theorem fine_tuple {n : Nat} {l : List Str} (h : Fines n l) : Fine (l.length * (n + 2) + 3) (tupleText l) := by
  unfold tupleText
  exact (fine_append (fine_append (fine_ofString "(") (fine_join h)) (by split <;> exact (fine_ofString _).mono (m := 2) (by decide))).mono (by have : "(".length = 1 := rfl; omega)
theorem fine_dict {n : Nat} {l : List Str} (h : Fines n l) : Fine (l.length * (n + 2) + 2) (dictText l) := by
  unfold dictText
  exact (fine_append (fine_append (fine_ofString "{") (fine_join h)) (fine_ofString "}")).mono (by have : "{".length = 1 := rfl; have : "}".length = 1 := rfl; omega)
/-- data whose text is at most n long, at most k deep -/
structure Okp (n k : Nat) (p : PyData) : Prop where
  sh : p.showable = true
  fi : Fine n p.shown
  dp : p.depth ≤ k
def Okps (n k : Nat) (l : List PyData) : Prop := PyData.showableAll l = true ∧ Fines n (PyData.shownAll l) ∧ PyData.depthAll l ≤ k ∧ (PyData.shownAll l).length = l.length
theorem Okp.mono {n m j k : Nat} {p : PyData} (h : Okp n j p) (l : n ≤ m) (l2 : j ≤ k) : Okp m k p := ⟨h.sh, h.fi.mono l, Nat.le_trans h.dp l2⟩
theorem okps_nil {n k : Nat} : Okps n k [] := ⟨rfl, fun x h => by simp [PyData.shownAll] at h, by simp [PyData.depthAll], by simp [PyData.shownAll]⟩
theorem okps_cons {n k : Nat} {p : PyData} {l : List PyData} (h : Okp n k p) (g : Okps n k l) : Okps n k (p :: l) := by
  refine ⟨by rw [PyData.showableAll, h.sh, g.1]; rfl, fun x hx => ?_, ?_, by rw [PyData.shownAll, List.length_cons, g.2.2.2, List.length_cons]⟩
  · rw [PyData.shownAll] at hx
    rcases List.mem_cons.mp hx with z | z
    · rw [z]; exact h.fi
    · exact g.2.1 x z
  · have := h.dp
    have := g.2.2.1
    simp only [PyData.depthAll]
    omega
theorem okp_tuple {n k : Nat} {l : List PyData} (h : Okps n k l) : Okp (l.length * (n + 2) + 3) (k + 1) (.tuple l) :=
  ⟨by rw [PyData.showable]; exact h.1, by rw [PyData.shown, ← h.2.2.2]; exact fine_tuple h.2.1, by have := h.2.2.1; simp only [PyData.depth]; omega⟩
theorem okp_list {n k : Nat} {l : List PyData} (h : Okps n k l) : Okp (l.length * (n + 2) + 2) (k + 1) (.list l) :=
  ⟨by rw [PyData.showable]; exact h.1, by rw [PyData.shown, ← h.2.2.2]; exact fine_list h.2.1, by have := h.2.2.1; simp only [PyData.depth]; omega⟩
theorem okp_none : Okp 4 1 .none := ⟨rfl, by rw [PyData.shown]; exact fine_ofString "None", by simp [PyData.depth]⟩
theorem okp_bool (b : Bool) : Okp 5 1 (.bool b) := ⟨rfl, by rw [PyData.shown]; cases b; exact fine_ofString "False"; exact (fine_ofString "True").mono (by decide), by simp [PyData.depth]⟩
theorem okp_str {n : Nat} {x : Str} (h : Fine n x) : Okp (10 * n + 2) 1 (.str x) := ⟨rfl, by rw [PyData.shown]; exact fine_repr h, by simp [PyData.depth]⟩
theorem okp_int {i : Int} {k : Nat} (h : i.natAbs.log2 < k) (hk : k ≤ 1920) : Okp (k + 1) 1 (.int i) :=
  ⟨by rw [PyData.showable]; exact decide_eq_true (Nat.lt_of_lt_of_le h hk), by
    rw [PyData.shown]
    exact (fine_ofString _).mono (int_text_length_le (by omega) h), by simp [PyData.depth]⟩
def cRepr : RDC := fun ds M Q => match ds with
  | [d] => ∃ p n, D.px d = some p ∧ Okp n 40 p ∧ n ≤ 16777216 ∧ Q (.str p.shown) M
  | _ => False
theorem repr_ok (hg : X.A.guards = some []) (hu : X.A.units + 64 < cLine) : CallR X (.builtin "repr") (upC X.K cRepr) := by
  intro pins s σ H xs us Q I r h
  obtain ⟨M, G, ds, Qd, rl, rp, h, kk⟩ := h
  unfold cRepr at h
  split at h
  · rename_i d
    obtain ⟨p, n, e, ok, hn, h⟩ := h
    obtain ⟨v, ev, pv⟩ := reps1 rp
    subst ev
    obtain ⟨u, rfl, ru⟩ := vals1 r
    have hz : p.shown.length ≤ sizeLine := Nat.le_trans ok.fi.1 (by rw [sizeLine_eq]; exact hn)
    have hdp := ok.dp
    exact parts_call (rep_parts I d v u p (pv.mono rl.sub) ru e ok.sh hz) ok.sh hz hg (by omega) fun h' u tk hk => ⟨.str p.shown, H, I.kept hk, ⟨_, rfl⟩, kk (.str p.shown) M G _ H (Same.refl _) rl (flat_rep rfl) h⟩
  · exact h.elim
end
end Dq
/-! The deep layer, part 7: lists that grow, the end of a law. -/
namespace Dq
open PySem PySem.Spec PyProof.Rows L2
section
variable {X : Cx} {G0 : Hp} {K : PySem.W.Frag} {x : Str} {p pos apos cpos : Pos} {o e a b : Expr} {es : List Expr} {ad : DA} {de da db od : DE}
/-- the list or dict that the value is, from now on never changed -/
def frz (d : D) (M : Mm) (Q : DK) : Prop := match d with
  | .ref a => match M a with
    | some (.lst xs) => Q (.lst xs) (M.del a)
    | some (.dic kvs) => Q (.dic kvs) (M.del a)
    | none => Q d M
  | _ => Q d M
def dFrz (de : DE) : DE := fun ρ M Q => de ρ M fun d M1 => frz d M1 Q
theorem de_frz (he : PE X e (up K G0 de)) : PE X e (up K G0 (dFrz de)) := pe_mono he fun σ H Q h => by
  obtain ⟨ρ, M, G, Qd, s0, rl, l, h, kk⟩ := h
  refine ⟨ρ, M, G, _, s0, rl, l, h, fun d M1 G1 v H1 s1 r1 p1 q1 => ?_⟩
  unfold frz at q1
  split at q1
  · rename_i a
    have ev := rep_ref p1
    subst ev
    split at q1
    · rename_i xs em
      obtain ⟨g, ws, e1, q⟩ := r1.mem a _ em
      exact kk _ _ _ _ H1 (s1.trans (same_upd g)) (r1.freeze em e1) (by unfold Rep; exact ⟨a, ws, rfl, upd_same, q.mono (same_upd g)⟩) q1
    · rename_i kvs em
      obtain ⟨g, ws, e1, q⟩ := r1.mem a _ em
      exact kk _ _ _ _ H1 (s1.trans (same_upd g)) (r1.freeze em e1) (by unfold Rep; exact ⟨a, ws, rfl, upd_same, q.mono (same_upd g)⟩) q1
    · exact kk _ _ _ _ H1 s1 r1 p1 q1
  · exact kk _ _ _ _ H1 s1 r1 p1 q1
/-- xs.append(e) -/
def dApp (od : DE) (ad : DA) : DE := fun ρ M Q => od ρ M fun d M1 => match d with
  | .ref a => (∃ ys, M1 a = some (.lst ys)) ∧ ad ρ M1 fun ds M2 => match ds, M2 a with
    | [x], some (.lst xs) => xs.length < 16777216 ∧ Q .non (M2.set a (.lst (xs ++ [x])))
    | _, _ => False
  | _ => False
theorem de_app (ho : PE X o (up X.K G0 od)) (ha : PA X [e] (upA X.K G0 ad))
    (hbase : attributeBase o "append" X.env (eval o X.env) = eval o X.env := by rfl)
    (hfew : ((backTo cpos (starEach [e] X.env)).all (fun x => !x.1) && (backToKw cpos (keywordEach [] X.env)).all (fun x => x.1.isSome) && decide (([e] : List Expr).length + ([] : List Keyword).length + (if ([] : List Keyword).isEmpty then 0 else 1) < 30)) = true := by rfl)
    (hline : (apos.endLine == cpos.line) = true := by rfl) (hs : starEach [e] X.env = (false, eval e X.env) :: starEach [] X.env := by rfl) (hplain : (backTo cpos (starEach [] X.env)).any (·.1) = false := by rfl) :
    PE X (.Call (.Attribute o "append" apos) [e] [] cpos) (up X.K G0 (dApp od ad)) :=
  pe_mono (pe_bm PySem.F.plainAttrs_list PySem.F.slot_list_append PySem.F.type_list_append mt_append ho ha hbase hfew hline hs hplain) fun σ H Q h => by
    obtain ⟨ρ, M, G, Qd, s0, rl, l, h, kk⟩ := h
    refine ⟨ρ, M, G, _, s0, rl, l, h, fun d M1 G1 v H1 s1 r1 p1 q1 => ?_⟩
    split at q1
    · rename_i a
      obtain ⟨⟨ys, ey⟩, q1⟩ := q1
      have ev := rep_ref p1
      subst ev
      obtain ⟨_, ws, e1, _⟩ := r1.mem a _ ey
      refine ⟨.inl ⟨rfl, _, SqL.of e1⟩, ρ, M1, G1, _, s0.trans s1, r1, l.mono s1, q1, fun ds M2 G2 vs H2 s2 r2 p2 q2 => ?_⟩
      split at q2
      · rename_i x xs em
        obtain ⟨hl, q2⟩ := q2
        obtain ⟨v1, ev, px⟩ := reps1 p2
        subst ev
        obtain ⟨_, ws2, e2, rr⟩ := r2.mem a _ em
        refine ⟨a, ws2, v1, rfl, rfl, e2, by rw [← rr.length, sizeLine_eq]; exact hl, kk _ _ G2 _ _ (s1.trans s2) (r2.write em (m := .lst (xs ++ [x])) ⟨_, upd_same, rr.append (.cons px .nil)⟩) (flat_rep rfl) q2⟩
      · exact q2.elim
    · exact q1.elim
end

/-! ### the end: from the law's promise to the goal of the head -/
section
variable {P : Program} {w : World} {K : PySem.W.Frag} {mg mb : Str → Option Value} {k : Nat} {fa a : Addr} {fd : FuncData} {x : Str} {sp : DSp} {s1 : Shared} {vs : List Value} {ns : List Int} {T : List Addr}
abbrev noEnts : Obj := { cls := .none, data := .fields #[] }
/-- what is told at the call: the script (or nothing), the tables T -/
structure TellsAt (K : PySem.W.Frag) (hp : Hp) (T : List Addr) (a : Addr) (scr : Obj) (h : Heap) : Prop where
  kin : K.In h
  scrAt : h.get? a = some scr
  seqs : ∃ us n, scr.data = .seq us n
  tabAt : ∀ p ∈ T, h.get? p = some noEnts
  tabNew : ∀ p ∈ T, K.lookup p = none
  sole : ∀ c, hp c ≠ none → c = a ∨ c ∈ T
  fresh : hp a ≠ none → K.lookup a = none
theorem TellsAt.free {hp : Hp} {scr : Obj} {h : Heap} (t : TellsAt K hp T a scr h) {c : Addr} {ob : Obj} (z : h.get? c = some ob) (h1 : ∀ us n, ob.data ≠ .seq us n) (h2 : ob.data ≠ .fields #[]) : hp c = none := by
  by_cases hc : hp c = none
  · exact hc
  · rcases t.sole c hc with e | e
    · subst e
      rw [t.scrAt] at z
      cases z
      obtain ⟨us, n, q⟩ := t.seqs
      exact absurd q (h1 us n)
    · rw [t.tabAt c e] at z
      cases z
      exact absurd rfl h2
theorem TellsAt.space {hp : Hp} {scr : Obj} {h : Heap} (t : TellsAt K hp T a scr h) {c : Addr} {m : Str → Option Value} (q : h.Ns c m) : (hidT h hp).Ns c m := by
  obtain ⟨ob, es, n, z, d, r⟩ := q
  exact ⟨ob, es, n, hidT_get z (t.free z (fun us n y => by rw [d] at y; cases y) (fun y => by rw [d] at y; cases y)), d, r⟩
theorem env_at {hp : Hp} {scr : Obj} (t : TellsAt K hp T a scr s1.heap) (nsm : s1.heap.Ns mainGlobals mg) (nsb : s1.heap.Ns builtinsNs mb) (nb : ∀ y : Str, y ≠ "__name__" → mb y = bootBuiltins y) (nl : s1.heap.NoLimit) (gn : s1.gens = #[]) (told : HOk P w hp s1.heap) : Env0 P w K mg (hidT s1.heap hp) callerA [] s1 hp := by
  have kin2 : K.In (hidT s1.heap hp) := by
    intro c ob z
    refine hidT_get (t.kin c ob z) ?_
    by_cases hc : hp c = none
    · exact hc
    · rcases t.sole c hc with e | e
      · subst e
        rw [t.fresh hc] at z
        cases z
      · rw [t.tabNew c e] at z
        cases z
  obtain ⟨mc, l1, l2⟩ := nl
  exact { frames := rfl, mod := ⟨kin2, t.space nsm, ⟨mb, t.space nsb, nb⟩, ⟨mc, t.space l1, l2⟩⟩, bs := fun b ob z => of_hidT z, bsz := Nat.le_of_eq (hidT_size _ _), funs := trivial, frf := fun b hb => absurd (show b ∈ ([] : List Addr) from hb) (by simp), hok := told, bare := .of_eq gn }
/-- a def's table, at that base -/
theorem tabB_at {hp : Hp} {scr : Obj} {c p : Addr} (t : TellsAt K hp T a scr s1.heap) (hd : PySem.W.CodeHd s1.heap c p) (tp : s1.heap.get? p = some noEnts) (nsm : s1.heap.Ns mainGlobals mg)
    (bm : ∃ (bm : Addr) (ob : Obj), mg "__builtins__" = some (.ref bm) ∧ bm ≠ builtinsNs ∧ s1.heap.get? bm = some ob ∧ ob.cls = .type "module" ∧ ob.dict = some builtinsNs ∧ ob.data = .plain) : LamX.TabB (hidT s1.heap hp) mg c p := by
  obtain ⟨og, es, eg, zg, dg, _⟩ := id nsm
  refine ⟨?_, ?_, fun z => ?_⟩
  · obtain ⟨o, us, file, tf, flags, tg, inF, text, tt, e1, r1, r2, r3, r⟩ := hd
    refine ⟨o, us, file, tf, flags, tg, inF, text, tt, hidT_get e1 (t.free e1 (fun vs n y => by rw [r2] at y; cases y) fun y => ?_), r1, r2, r3, r⟩
    rw [r2] at y
    cases y
    simp at r3
  · obtain ⟨m, ob, b1, b2, b3, b4, b5, b6⟩ := bm
    refine ⟨m, ob, b1, b2, fun y => ?_, fun y => ?_, hidT_get b3 (t.free b3 (fun vs n y => by rw [b6] at y; cases y) fun y => by rw [b6] at y; cases y), b4, b5, b6⟩
    · rw [y, zg] at b3
      cases b3
      rw [dg] at b6
      cases b6
    · rw [y, tp] at b3
      cases b3
      cases b6
  · rw [z, tp] at zg
    cases zg
    cases dg
theorem lookup_mem : ∀ {l : List (Addr × Str)} {p : Addr} {q : Str}, l.lookup p = some q → (p, q) ∈ l
  | [], _, _, h => by simp at h
  | (a, b) :: r, p, q, h => by
    rw [List.lookup_cons] at h
    split at h
    · rename_i e
      cases h
      rw [beq_iff_eq.mp e]
      exact List.mem_cons_self
    · exact List.mem_cons_of_mem _ (lookup_mem h)
/-- the call of the law -/
theorem call_at {hp : Hp} {scr : Obj} (t : TellsAt K hp T a scr s1.heap) (F : ∀ base : Heap, K.In base → base.Ns mainGlobals mg → (∀ e ∈ tabFull K, LamX.TabB base mg e.2.c e.1) → FnD P w K mg base k fa fd [x] sp) (hbind : ∀ (s : Shared) (u : Value), BindsTo s fd ⟨[u], []⟩ [(x, u)]) (hr : RoomG k callerA)
    (nsm : s1.heap.Ns mainGlobals mg) (nsb : s1.heap.Ns builtinsNs mb) (nb : ∀ y : Str, y ≠ "__name__" → mb y = bootBuiltins y) (nl : s1.heap.NoLimit) (gn : s1.gens = #[]) (told : HOk P w hp s1.heap)
    (bm : ∃ (bm : Addr) (ob : Obj), mg "__builtins__" = some (.ref bm) ∧ bm ≠ builtinsNs ∧ s1.heap.get? bm = some ob ∧ ob.cls = .type "module" ∧ ob.dict = some builtinsNs ∧ ob.data = .plain)
    (tabs : ∀ e ∈ tabFull K, e.1 ∈ T ∧ PySem.W.CodeHd s1.heap e.2.c e.1 ∧ hp e.1 = some (.tbl #[])) (allT : ∀ p ∈ T, hp p = some (.tbl #[]) ∧ isCodeTable s1.heap p)
    (shape : ∀ c, hp c = none ∨ c ∈ T ∨ ∃ ob xs, hp c = some (.frz ob (.lst xs))) (sq : SqL K hp a (ns.map V.int)) (hsp : sp [.scr ns] (fun _ => none) (fun d _ => d = .bl true) fun _ _ _ => False) :
    codeAny (model P w) callerA (.call (.ref fa) ⟨[.ref a], []⟩) (fun r s' => r = .ok (.ret (.bool true)) ∧ OldK s1.heap s'.heap ∧ s'.os = s1.os ∧ AllBare s'.gens) s1 := by
  have e0 := env_at t nsm nsb nb nl gn told (P := P) (w := w)
  have TB : ∀ e ∈ tabFull K, LamX.TabB (hidT s1.heap hp) mg e.2.c e.1 := fun e he => tabB_at t (tabs e he).2.1 (t.tabAt _ (tabs e he).1) nsm bm
  have rel : RelH K (fun _ => none) hp hp := by
    refine ⟨L2.Same.refl _, fun p q lk => ?_, fun b u z => nomatch z⟩
    have hm : (p, q) ∈ tabList K := lookup_mem lk
    obtain ⟨e, he, ee⟩ := List.mem_map.mp hm
    cases ee
    exact LamX.TabS.nil (tabs e he).2.2
  refine codeAny_mono ((F _ e0.mod.kin e0.mod.glob TB).run callerA [] s1 hp ⟨[.ref a], []⟩ [.ref a] [.ref a] (fun v _ => v = .bl true) (fun _ _ _ => False) hr e0 (hbind s1 (.ref a)) (.cons rfl .nil) ?_) ?_
  · refine ⟨fun _ => none, hp, [.scr ns], _, _, rel, .cons (by unfold Rep; exact ⟨a, rfl, sq⟩) .nil, hsp, fun d M' G' v H' _ _ pv q => ?_, fun C fs M' G' d H' _ _ _ q => q.elim⟩
    subst q
    unfold Rep at pv
    exact pv
  · intro res s2 h
    match res, h with
    | .error ex, h => obtain ⟨_, _, _, _, _, _, _, _, _, _, _, _, h⟩ := h; exact h.elim
    | .ok (.ret u), h =>
      obtain ⟨v, hq, os, bare, un, told2, rv, ev⟩ := h
      subst ev
      obtain rfl : u = Value.bool true := rv
      have stays : ∀ c ob, c ∉ T → s1.heap.get? c = some ob → s2.heap.get? c = some ob := fun c ob nt z => by
        rcases shape c with hc | hc | ⟨o3, xs, hc⟩
        · exact un.keep c ob z hc (by intro y; cases y) (by intro y; cases y)
        · exact absurd hc nt
        · have w1 := (told c _ hc).1
          have w2 := (told2 c _ (un.frzs c o3 _ hc)).1
          rw [z] at w1
          cases w1
          exact w2
      have grown : ∀ p ∈ T, ∃ more : Array Value, s2.heap.get? p = some { cls := .none, data := .fields more } := fun p hp2 => by
        obtain ⟨more, z⟩ := un.tbls p #[] (allT p hp2).1
        exact ⟨_, told2 p _ z⟩
      refine ⟨rfl, ⟨fun c ob z => ?_, fun c ob z => ?_⟩, os, bare⟩
      · by_cases hc : c ∈ T
        · obtain ⟨more, hm⟩ := grown c hc
          rw [t.tabAt c hc] at z
          cases z
          exact .inr (.inl ⟨(allT c hc).2, rfl, #[], more, rfl, by rw [Array.empty_append]; exact hm⟩)
        · exact .inl (stays c ob hc z)
      · by_cases hc : c ∈ T
        · obtain ⟨more, hm⟩ := grown c hc
          exact ⟨_, hm⟩
        · exact ⟨ob, stays c ob hc z⟩
/-- what the written part says of its tables -/
def tabOk1 (q : Program) (K : PySem.W.Frag) (e : Addr × TabE) : Bool := (K.lookup e.1).isNone && ((recsOf q).any (fun d => d.name == e.2.n) && (decide (PySem.W.nsIn K mainGlobals e.2.n = some (some (.ref e.2.a))) &&
  ((match K.lookup e.2.a with | some ⟨_, _, .func fd, _⟩ => decide (fd.code = .ref e.2.c) | _ => false) && (match K.lookup e.2.c with | some ⟨_, _, .fields vs, _⟩ => decide (vs[11]? = some (.ref e.1)) | _ => false))))
def tabsOk (q : Program) (K : PySem.W.Frag) : Bool := (tabFull K).all (tabOk1 q K)
theorem tab_at {q : Program} {h : Heap} {e : Addr × TabE} (ok : tabOk1 q K e = true) (kin : K.In h) (nsm : h.Ns mainGlobals mg)
    (tab : ∀ d ∈ recsOf q, ∃ a o fd c P, mg d.name = some (.ref a) ∧ h.get? a = some o ∧ o.data = .func fd ∧ fd.code = .ref c ∧ h.IsCode c P #[] ∧ h.TableAt c P #[]) : h.IsCode e.2.c e.1 #[] ∧ h.TableAt e.2.c e.1 #[] ∧ K.lookup e.1 = none := by
  unfold tabOk1 at ok
  simp only [Bool.and_eq_true, Option.isNone_iff_eq_none, List.any_eq_true, decide_eq_true_eq, beq_iff_eq] at ok
  obtain ⟨h1, ⟨d, hd, h2⟩, h3, h4, h5⟩ := ok
  obtain ⟨a, o, fd, c, P, m1, m2, m3, m4, m5, m6⟩ := tab d hd
  have mg1 := PySem.W.mg_of kin nsm h3
  rw [← h2, m1] at mg1
  cases mg1
  split at h4
  · rename_i oc od fd2 sl lk
    have z := kin _ _ lk
    rw [m2] at z
    cases z
    cases m3
    rw [m4] at h4
    have h4 := of_decide_eq_true h4
    cases h4
    split at h5
    · rename_i oc2 od2 us sl2 lk2
      have z2 := kin _ _ lk2
      obtain ⟨⟨o3, vs3, k1, k2, k3, k4⟩, k5⟩ := id m6
      rw [z2] at k1
      cases k1
      cases k3
      have h5 := of_decide_eq_true h5
      rw [k4] at h5
      cases h5
      exact ⟨m5, m6, h1⟩
    · cases h5
  · cases h4
/-- the goal that the head leaves, from the law's promise -/
theorem walkD {l : PySem.W.OpenLaw} {n k : Nat} {q : Program} {loose : List Str} {XP : (Str → Option Value) → Heap → Prop} {YP : World → Heap → Prop} {d : DefRec} {K : Params → PySem.W.Frag} {sp : PySem.W.Frag → DSp} {x : Str}
    (hn : l.most = some n) (hn2 : n ≤ sizeLine) (hdf : d.params.defaults = []) (hr : RoomG k callerA) (hY : ∀ (w : World) (h : Heap), YP w h → (K w.params).In h) (hT : ∀ w : World, tabsOk q (K w.params) = true)
    (F : ∀ (w : World) (mg : Str → Option Value) (fa : Addr) (h : Heap), (K w.params).In h → h.Ns mainGlobals mg → mg d.name = some (.ref fa) →
      ∃ fd : FuncData, (∀ (s : Shared) (u : Value), BindsTo s fd ⟨[u], []⟩ [(x, u)]) ∧ ∀ base : Heap, (K w.params).In base → base.Ns mainGlobals mg → (∀ e ∈ tabFull (K w.params), LamX.TabB base mg e.2.c e.1) → FnD l.prog w (K w.params) mg base k fa fd [x] (sp (K w.params)))
    (hsp : ∀ (K : PySem.W.Frag) (ns : List Int), ns.length ≤ n → sp K [.scr ns] (fun _ => none) (fun d _ => d = .bl true) fun _ _ _ => False) : PySem.W.WalkO q loose XP YP l.row.toRowW d [] (fun f vs => PySem.call f vs) := by
  refine Att.attach_call hn hdf fun w s₀ s1 mg mb fa o pm cd doc a vs ns G Y ho hd hcd hmg hobj hints hlen hg => ?_
  have kin := hY w _ Y
  obtain ⟨fd, hb, hF⟩ := F w mg fa _ kin G.T.g hmg
  have rv := vals_ints hints
  have hz : ns.length ≤ sizeLine := Nat.le_trans hlen hn2
  have tabs : ∀ e ∈ tabFull (K w.params), s1.heap.IsCode e.2.c e.1 #[] ∧ s1.heap.TableAt e.2.c e.1 #[] ∧ (K w.params).lookup e.1 = none := fun e he => tab_at (List.all_eq_true.mp (hT w) e he) kin G.T.g G.T.tab
  have inT : ∀ p, p ∈ (tabFull (K w.params)).map (·.1) → ∃ e ∈ tabFull (K w.params), e.1 = p := fun p hp => by
    obtain ⟨e, he, ee⟩ := List.mem_map.mp hp
    exact ⟨e, he, ee⟩
  have tabAt : ∀ p, p ∈ (tabFull (K w.params)).map (·.1) → s1.heap.get? p = some noEnts ∧ (K w.params).lookup p = none ∧ isCodeTable s1.heap p := fun p hp => by
    obtain ⟨e, he, ee⟩ := inT p hp
    obtain ⟨_, t2, t3⟩ := tabs e he
    rw [← ee]
    exact ⟨t2.2, t3, t2.isCodeTable⟩
  have aT : a ∉ (tabFull (K w.params)).map (·.1) := fun hm => by
    have z := (tabAt a hm).1
    rw [hobj] at z
    have z2 : Data.seq vs.toArray _ = Data.fields #[] := congrArg Obj.data (Option.some.inj z)
    cases z2
  have go : ∀ hp : Hp, (∀ p ∈ (tabFull (K w.params)).map (·.1), hp p = some (.tbl #[])) → (∀ c, c ∉ (tabFull (K w.params)).map (·.1) → c ≠ a → hp c = none) → (hp a = none ∨ (hp a = some (.frz { cls := .type "list", data := .seq vs.toArray } (.lst (ns.map V.int))) ∧ (K w.params).lookup a = none)) →
      SqL (K w.params) hp a (ns.map V.int) → codeAny (model l.prog w) callerA (.call (.ref fa) ⟨[.ref a], []⟩) (fun r s' => r = .ok (.ret (.bool true)) ∧ OldK s1.heap s'.heap ∧ s'.os = s1.os ∧ AllBare s'.gens) s1 := by
    intro hp h1 h2 h3 sq
    refine call_at (T := (tabFull (K w.params)).map (·.1)) ⟨kin, hobj, ⟨_, _, rfl⟩, fun p hp2 => (tabAt p hp2).1, fun p hp2 => (tabAt p hp2).2.1, fun c hc => ?_, fun hc => ?_⟩ hF hb hr G.T.g G.T.b G.T.builtins G.T.nolimit hg (fun c u z => ?_) G.T.bmain
      (fun e he => ⟨List.mem_map.mpr ⟨e, he, rfl⟩, PySem.W.CodeHd.of (tabs e he).1 (tabs e he).2.1, h1 _ (List.mem_map.mpr ⟨e, he, rfl⟩)⟩) (fun p hp2 => ⟨h1 p hp2, (tabAt p hp2).2.2⟩) (fun c => ?_) sq (hsp _ ns hlen)
    · by_cases e : c = a
      · exact .inl e
      · by_cases e2 : c ∈ (tabFull (K w.params)).map (·.1)
        · exact .inr e2
        · exact absurd (h2 c e2 e) hc
    · rcases h3 with z | z
      · exact absurd z hc
      · exact z.2
    · by_cases e2 : c ∈ (tabFull (K w.params)).map (·.1)
      · rw [h1 c e2] at z
        cases z
        exact (tabAt c e2).1
      · by_cases e : c = a
        · subst e
          rcases h3 with y | y
          · rw [y] at z; cases z
          · rw [y.1] at z
            cases z
            exact ⟨hobj, by rw [List.length_map]; exact hz, vs, _, rv, hobj⟩
        · rw [h2 c e2 e] at z
          cases z
    · by_cases e2 : c ∈ (tabFull (K w.params)).map (·.1)
      · exact .inr (.inl e2)
      · by_cases e : c = a
        · subst e
          rcases h3 with y | y
          · exact .inl y
          · exact .inr (.inr ⟨_, _, y.1⟩)
        · exact .inl (h2 c e2 e)
  by_cases hk : (K w.params).lookup a = none
  · refine go (fun c => if c ∈ (tabFull (K w.params)).map (·.1) then some (.tbl #[]) else if c = a then some (.frz { cls := .type "list", data := .seq vs.toArray } (.lst (ns.map V.int))) else none) (fun p hp2 => if_pos hp2) (fun c h1 h2 => (if_neg h1).trans (if_neg h2)) (.inr ⟨(if_neg aT).trans (if_pos rfl), hk⟩) (.inl (.inr ⟨_, (if_neg aT).trans (if_pos rfl)⟩))
  · obtain ⟨o2, e2⟩ : ∃ o2, (K w.params).lookup a = some o2 := by
      cases e : (K w.params).lookup a with
      | none => exact absurd e hk
      | some o2 => exact ⟨o2, rfl⟩
    have e3 := kin a o2 e2
    rw [hobj] at e3
    cases e3
    exact go (fun c => if c ∈ (tabFull (K w.params)).map (·.1) then some (.tbl #[]) else none) (fun p hp2 => if_pos hp2) (fun c h1 h2 => if_neg h1) (.inl (if_neg aT))
      (.inr ⟨_, vs.toArray, _, e2, rfl, rfl, rfl, by rw [List.size_toArray, hints.length]; exact hz, by simpa using rv⟩)
end
end Dq
/-! The deep layer, part 8: what the written part says, packed; the laws' own drawing. -/
namespace Dq
open PySem PySem.Spec PyProof.Rows L2
open PySem.W (findIn typeIn keepIn)
section
variable {P : Program} {w : World} {K : PySem.W.Frag} {mg : Str → Option Value} {base : Heap} {C : Addr} {ups : List Addr} {fs fl ps ps' : List Str} {x : Str} {k j : Nat} {sp : DSp} {esp : ESp} {st : Stmt} {qual : Str}
/-- a def of the text -/
def Dn (K : PySem.W.Frag) (mg : Str → Option Value) (x qual : Str) (st : Stmt) (ps : List Str) : Prop := ∃ f fd, mg x = some (.ref f) ∧ Fun K x qual st f fd ∧ Binds K fd ps []
/-- a def that keeps its promise -/
def Fd (P : Program) (w : World) (K : PySem.W.Frag) (mg : Str → Option Value) (base : Heap) (k : Nat) (x : Str) (ps : List Str) (sp : DSp) : Prop :=
  ∃ f fd, mg x = some (.ref f) ∧ keepIn K (.ref f) = true ∧ Binds K fd ps [] ∧ FnD P w K mg base k f fd ps sp
def FdE (P : Program) (w : World) (K : PySem.W.Frag) (mg : Str → Option Value) (base : Heap) (k : Nat) (x : Str) (ps : List Str) (sp : ESp) : Prop :=
  ∃ f fd, mg x = some (.ref f) ∧ keepIn K (.ref f) = true ∧ Binds K fd ps [] ∧ FnE P w K mg base k f fd ps sp
theorem dn_mk {f : Addr} {fd : FuncData} (h1 : mg x = some (.ref f)) (h2 : Fun K x qual st f fd) (h3 : Binds K fd ps []) : Dn K mg x qual st ps := ⟨f, fd, h1, h2, h3⟩
theorem Dn.ok (D : Dn K mg x qual st ps) (h : ∀ f fd, Fun K x qual st f fd → FnD P w K mg base k f fd ps sp) : Fd P w K mg base k x ps sp := by
  obtain ⟨f, fd, h1, h2, h3⟩ := D
  exact ⟨f, fd, h1, h2.kp, h3, h f fd h2⟩
theorem Dn.okE (D : Dn K mg x qual st ps) (h : ∀ f fd, Fun K x qual st f fd → FnE P w K mg base k f fd ps esp) : FdE P w K mg base k x ps esp := by
  obtain ⟨f, fd, h1, h2, h3⟩ := D
  exact ⟨f, fd, h1, h2.kp, h3, h f fd h2⟩
/-- an own error with its __init__ -/
def Ei (P : Program) (w : World) (K : PySem.W.Frag) (mg : Str → Option Value) (base : Heap) (x : Str) (C : Addr) (ups : List Addr) (fl : List Str) : Prop :=
  mg x = some (.ref C) ∧ (∃ fs, Err K C ups fs) ∧ ∃ fI fd ps, findIn K (.ref C) "__init__" = some (some (.ref fI)) ∧ typeIn K (.ref fI) = some (.type "function") ∧ Binds K fd ps [] ∧ FnOk P w K mg base CX0 1 fI fd ps (spInit C fl.length fun ws => (fl.zip ws).reverse)
/-- an own error without one -/
def E0 (K : PySem.W.Frag) (mg : Str → Option Value) (x : Str) (C : Addr) (ups : List Addr) : Prop := mg x = some (.ref C) ∧ (∃ fs, Err K C ups fs) ∧ PySem.W.excIn K C errTail "ValueError.__new__" = true
variable {X : Cx} {G0 : Hp} {p pos pos2 : Pos} {e : Expr} {es : List Expr} {ad : DA} {Wd : DXS} {de : DE}
theorem takesF : Takes X (upW X.K G0 fun _ _ _ _ => False) := takes0.imp fun c d σ H h => by
  obtain ⟨_, _, _, _, _, _, _, _, _, _, h⟩ := h
  exact h
theorem de_callF (F : Fd X.prog X.w X.K X.mg X.base k x ps sp) (hr : RoomG k X.A) (hg : Gl X x) (tk : Takes X (upW X.K G0 Wd)) (ha : PA X (e :: es) (upA X.K G0 ad))
    (hdb : (x == ("__debug__" : Str)) = false := by decide) (he : starEach (e :: es) X.env = (false, eval e X.env) :: starEach es X.env := by rfl) (hpl : (backTo pos (starEach es X.env)).any (·.1) = false := by rfl) :
    PE X (.Call (.Name x p) (e :: es) [] pos) (up X.K G0 (dCallF sp Wd ad)) := by
  obtain ⟨f, fd, h1, h2, h3, h4⟩ := F
  exact de_call h4 hr hg h1 h2 h3 tk ha hdb he hpl
theorem de_callFE {q : Addr × Obj} {fl : List (Str × D)} (F : FdE X.prog X.w X.K X.mg X.base k x ps esp) (hx : ExcAt X.K G0 q C fl) (hq : q ∈ X.pn) (hr : RoomE k X.A) (hg : Gl X x) (ha : PA X (e :: es) (upA X.K G0 ad))
    (hdb : (x == ("__debug__" : Str)) = false := by decide) (he : starEach (e :: es) X.env = (false, eval e X.env) :: starEach es X.env := by rfl) (hpl : (backTo pos (starEach es X.env)).any (·.1) = false := by rfl) :
    PE X (.Call (.Name x p) (e :: es) [] pos) (up X.K G0 (dCallE esp q.1 C fl (fun _ _ _ _ => False) ad)) := by
  obtain ⟨f, fd, h1, h2, h3, h4⟩ := F
  exact de_callE h4 hx hq hr hg h1 h2 h3 takesF ha hdb he hpl
theorem ds_raiseI (E : Ei X.prog X.w X.K X.mg X.base x C ups fl) (hc : X.calm = true) (tk : Takes X (upW X.K G0 Wd)) (hr : RoomG 2 X.A) (ha : PA X (e :: es) (upA X.K G0 ad)) (hnd : fl.Nodup := by decide +kernel) (h9 : fl.length ≤ 900 := by decide) (hg : Gl X x := by rfl)
    (hdb : (x == ("__debug__" : Str)) = false := by decide) (he : starEach (e :: es) X.env = (false, eval e X.env) :: starEach es X.env := by rfl) (hpl : (backTo pos (starEach es X.env)).any (·.1) = false := by rfl) :
    PS X (.Raise (some (.Call (.Name x p) (e :: es) [] pos)) none pos2) (upS X.K G0 (dRaise C fl Wd ad)) := by
  obtain ⟨h1, ⟨fs, h2⟩, fI, fd, ps, h3, h4, h5, h6⟩ := E
  exact ds_raise hc tk h2 h3 h4 h6 hr h5 h1 hnd h9 ha hg hdb he hpl
theorem ds_raiseN (E : E0 X.K X.mg x C ups) (hc : X.calm = true) (tk : Takes X (upW X.K G0 Wd)) (hg : Gl X x := by rfl) (hdb : (x == ("__debug__" : Str)) = false := by decide) :
    PS X (.Raise (some (.Call (.Name x p) [] [] pos)) none pos2) (upS X.K G0 (dRaise0 C Wd)) := by
  obtain ⟨h1, ⟨fs, h2⟩, h3⟩ := E
  exact ds_raise0 hc tk h2 h3 h1 hg hdb
theorem dv (i : Nat) (hN : X.N[i]? = some x := by rfl) (hv : Vis X.env.scope x := by first | exact Or.inl rfl | exact Or.inr (Or.inl rfl) | exact Or.inr (Or.inr rfl)) (hd : (x == ("__debug__" : Str)) = false := by decide)
    (hcd : (x == ("__classdict__" : Str)) = false := by decide) : PE X (.Name x pos) (up K G0 (dVar i)) := de_var hN hv hd hcd
/-- C's own classes above it; all of them: the first is the base of the rest -/
def upsC (c : Nat → Addr) (C : Addr) : List Addr := if C = c 0 then [] else [c 0]
def allC (c : Nat → Addr) (n : Nat) : List Addr := (List.range n).map c
def Inj (c : Nat → Addr) (n : Nat) : Prop := ∀ i j, i < n → j < n → c i = c j → i = j
theorem upsC_at {c : Nat → Addr} {n i : Nat} (h : Inj c n) (hi : i < n) (h0 : i ≠ 0) : upsC c (c i) = [c 0] := if_neg fun z => h0 (h i 0 hi (by omega) z)
theorem mem_allC {c : Nat → Addr} {n i : Nat} (hi : i < n) : c i ∈ allC c n := List.mem_map.mpr ⟨i, List.mem_range.mpr hi, rfl⟩
theorem rErr_at {c : Nat → Addr} {n i j : Nat} (h : Inj c n) (hi : i < n) (hj : j < n) (h0 : i ≠ 0) : rErr (allC c n) (c i) (upsC c (c i)) (.ref (c j)) = some (decide (j = i) || decide (j = 0)) := by
  show (if c j ∈ allC c n then some (isOf (c i) (upsC c (c i)) (c j)) else none) = _
  rw [if_pos (mem_allC hj), upsC_at h hi h0]
  congr 1
  unfold isOf
  congr 1
  · exact decide_eq_decide.mpr ⟨fun z => h j i hj hi z, fun z => by rw [z]⟩
  · exact decide_eq_decide.mpr (List.mem_singleton.trans ⟨fun z => h j 0 hj (by omega) z, fun z => by rw [z]⟩)
/-- a class by its name -/
theorem de_cls (h : X.mg x = some (.ref C)) (hg : Gl X x := by rfl) (hdb : (x == ("__debug__" : Str)) = false := by decide) : PE X (.Name x pos) (up K G0 (dC (.ref C))) :=
  de_const ⟨fun pins s σ H Q I q => ld_glob I hg h ⟨.ref C, H, I, rfl, q⟩ hdb⟩ rfl
theorem de_tyN {n : String} (h : X.mg x = none) (hv : bootBuiltins x = some (.type n)) (hg : Gl X x := by rfl) (hn : x ≠ "__name__" := by decide) (hdb : (x == ("__debug__" : Str)) = false := by decide) : PE X (.Name x pos) (up K G0 (dC (.ty n))) :=
  de_const ⟨fun pins s σ H Q I q => ld_blt I hg h hv ⟨.ty n, H, I, rfl, q⟩ hn hdb⟩ rfl
end

/-! ### drawing -/
section
def penK (ns : List Int) (at_ dg ct fo : Int) : List (Key × D) := [(Sum.inr "cells", .lst (ns.map D.int)), (Sum.inr "at", .int at_), (Sum.inr "digits", .int dg), (Sum.inr "count", .int ct), (Sum.inr "fold", .int fo)]
def PenOk (n : Nat) (l : List (Key × D)) : Prop := ∃ ns at_ dg ct fo, l = penK ns at_ dg ct fo ∧ 0 ≤ at_ ∧ 0 ≤ ct ∧ ct ≤ n ∧ 0 ≤ fo ∧ fo < 4294967296 ∧ ns.length ≤ 63
def topN : Nat := 1000000000000000000
def spPen : DSp := fun ds M Q _ => ∃ ns, ds = [.scr ns] ∧ ns.length ≤ 63 ∧ ∀ p P, M p = none → PenOk 0 P → Q (.ref p) (M.set p (.dic P))
def spDraw : DSp := fun ds M Q _ => ∃ p many P n, ds = [.ref p, .int many] ∧ 0 < many ∧ many < 4611686018427387904 ∧ M p = some (.dic P) ∧ PenOk n P ∧ n < topN ∧ ∀ r P', 0 ≤ r → r < many → PenOk (n + 1) P' → Q (.int r) (M.set p (.dic P'))
def spPick : DSp := fun ds M Q _ => ∃ p d xs P n, ds = [.ref p, d] ∧ items d = some xs ∧ xs ≠ [] ∧ xs.length < 4611686018427387904 ∧ M p = some (.dic P) ∧ PenOk n P ∧ n < topN ∧ ∀ x P', x ∈ xs → PenOk (n + 1) P' → Q x (M.set p (.dic P'))
end
end Dq
/-! The deep layer, part 9: what the laws' own drawing does. -/
namespace Dq
open PySem PySem.Spec PyProof.Rows L2
def bPen : DXS → DS := fun Wd => (dSeq (dAsg (dC (.int 0)) (dgName 1))
  (dSeq (dFor (dSeqI (dVar 0)) (dgName 2) (dAsg (dBin (rI2 (fun _ j => 0 < j) fun i j => .int (i % j)) (dCall cInt (dCons (dBin rAdd (dBin (rI2 CMulW fun i j => .int (i * j)) (dVar 1) (dC (.int 47))) (dVar 2)) dNil)) (dC (.int 1000000007))) (dgName 1)))
  (dRet (dDicM [(Sum.inr "cells", (dCall cList (dCons (dVar 0) dNil))), (Sum.inr "at", (dC (.int 0))), (Sum.inr "digits", (dC (.int 0))), (Sum.inr "count", (dC (.int 0))), (Sum.inr "fold", (dVar 1))]))))
def bDraw : DXS → DS := fun Wd => (dSeq (dDput (dVar 0) (dC (.str "count")) (dBin rAdd (dBin rDix (dVar 0) (dC (.str "count"))) (dC (.int 1))))
  (dSeq (dIf (dAnd (dTest (dBin rEq' (dBin rDix (dVar 0) (dC (.str "digits"))) (dC (.int 0)))) (dTest (dBin (rI2 (fun _ _ => True) fun i j => .bl (decide (i < j))) (dBin rDix (dVar 0) (dC (.str "at"))) (dCall cLen (dCons (dBin rDix (dVar 0) (dC (.str "cells"))) dNil))))) (dSeq (dAsg (dBin rIx (dBin rDix (dVar 0) (dC (.str "cells"))) (dBin rDix (dVar 0) (dC (.str "at")))) (dgName 2))
  (dSeq (dDput (dVar 0) (dC (.str "at")) (dBin rAdd (dBin rDix (dVar 0) (dC (.str "at"))) (dC (.int 1))))
  (dIf (dTest (dBin (rI2 (fun _ _ => True) fun i j => .bl (decide (j ≤ i))) (dVar 2) (dBin (rI2 CPow fun i j => .int (i ^ j.toNat)) (dC (.int 10)) (dC (.int 18))))) (dDput (dVar 0) (dC (.str "digits")) (dBin (rI2 (fun _ _ => True) fun i j => .int (i - j)) (dVar 2) (dBin (rI2 CPow fun i j => .int (i ^ j.toNat)) (dC (.int 10)) (dC (.int 18))))) (dDput (dVar 0) (dC (.str "fold")) (dBin (rI2 (fun _ j => 0 < j) fun i j => .int (i % j)) (dCall cInt (dCons (dBin rAdd (dBin (rI2 CMulW fun i j => .int (i * j)) (dBin rDix (dVar 0) (dC (.str "fold"))) (dC (.int 69069))) (dVar 2)) dNil)) (dC (.int 2147483587))))))) dNext)
  (dSeq (dIf (dTest (dBin (rI2 (fun _ _ => True) fun i j => .bl (decide (j < i))) (dBin rDix (dVar 0) (dC (.str "digits"))) (dC (.int 0)))) (dSeq (dAsg (dBin (rI2 (fun _ j => 0 < j) fun i j => .int (i % j)) (dCall cInt (dCons (dBin rDix (dVar 0) (dC (.str "digits"))) dNil)) (dVar 1)) (dgName 3))
  (dSeq (dDput (dVar 0) (dC (.str "digits")) (dBin (rI2 CDivW fun i j => .int (i / j)) (dBin rDix (dVar 0) (dC (.str "digits"))) (dVar 1)))
  (dRet (dVar 3)))) dNext)
  (dSeq (dAsg (dBin (rI2 (fun _ j => 0 < j) fun i j => .int (i % j)) (dCall cInt (dCons (dBin rAdd (dBin rAdd (dBin (rI2 CMulW fun i j => .int (i * j)) (dBin rDix (dVar 0) (dC (.str "fold"))) (dC (.int 48271))) (dBin (rI2 CMulW fun i j => .int (i * j)) (dBin rDix (dVar 0) (dC (.str "count"))) (dC (.int 7919)))) (dC (.int 13))) dNil)) (dC (.int 2147483647))) (dgName 4))
  (dSeq (dAsg (dBin (rI2 (fun _ j => 0 < j) fun i j => .int (i % j)) (dCall cInt (dCons (dBin rAdd (dBin rAdd (dBin (rI2 CMulW fun i j => .int (i * j)) (dVar 4) (dVar 4)) (dBin (rI2 CMulW fun i j => .int (i * j)) (dC (.int 31)) (dVar 4))) (dBin rDix (dVar 0) (dC (.str "count")))) dNil)) (dC (.int 2147483629))) (dgName 4))
  (dSeq (dDput (dVar 0) (dC (.str "fold")) (dBin (rI2 (fun _ j => 0 < j) fun i j => .int (i % j)) (dCall cInt (dCons (dBin rAdd (dBin (rI2 CMulW fun i j => .int (i * j)) (dVar 4) (dC (.int 16807))) (dC (.int 7))) dNil)) (dC (.int 2147483647))))
  (dRet (dBin (rI2 (fun _ j => 0 < j) fun i j => .int (i % j)) (dCall cInt (dCons (dBin (rI2 CDivW fun i j => .int (i / j)) (dVar 4) (dC (.int 64))) dNil)) (dVar 1)))))))))
def bPick : DXS → DS := fun Wd => (dRet (dBin rIx (dVar 1) (dCallF spDraw Wd (dCons (dVar 0) (dCons (dCall cLen (dCons (dVar 1) dNil)) dNil)))))
theorem log2_lt {i : Int} {k : Nat} (h1 : 0 ≤ i) (h2 : i < 2 ^ k) (hk : k ≠ 0 := by decide) : i.natAbs.log2 < k := by
  by_cases h0 : i.natAbs = 0
  · rw [h0]; simpa using Nat.pos_of_ne_zero hk
  · refine (Nat.log2_lt h0).mpr ?_
    have e : ((i.natAbs : Nat) : Int) = i := Int.natAbs_of_nonneg h1
    exact_mod_cast (by rw [e]; exact h2 : ((i.natAbs : Nat) : Int) < ((2 ^ k : Nat) : Int))
theorem mulW {i j : Int} {a b : Nat} (h1 : 0 ≤ i) (h2 : i < 2 ^ a) (h3 : 0 ≤ j) (h4 : j < 2 ^ b) (ha : a ≠ 0 := by decide) (hb : b ≠ 0 := by decide) (hab : a + b ≤ 1000000 := by decide) : CMulW i j := by
  have := log2_lt h1 h2 ha
  have := log2_lt h3 h4 hb
  unfold CMulW
  omega
theorem divW {j : Int} {b : Nat} (h1 : 0 < j) (h2 : j < 2 ^ b) (hb : b ≠ 0 := by decide) (h9 : b ≤ 9000 := by decide) : CDivW 0 j := ⟨h1, Nat.lt_of_lt_of_le (log2_lt (Int.le_of_lt h1) h2 hb) h9⟩
theorem for_inv {g : DG} {b : DS} {D : DEnds} {xs : List Dq.D} {ρ : Ds} {M : Mm} (I : List Dq.D → Ds → Mm → Prop)
    (step : ∀ x r ρ M (D' : DEnds), I (x :: r) ρ M → (∀ ρ M, I r ρ M → D'.nx ρ M) → (∀ ρ M, I r ρ M → D'.ct ρ M) → D'.bk = D.nx → D'.rt = D.rt → g x ρ M fun ρ1 M1 => b D' ρ1 M1)
    (fin : ∀ ρ M, I [] ρ M → D.nx ρ M) (h : I xs ρ M) : dForL g b xs D ρ M := by
  induction xs generalizing ρ M with
  | nil => exact fin ρ M h
  | cons x r ih => exact step x r ρ M _ h (fun ρ M z => ih z) (fun ρ M z => ih z) rfl rfl
theorem pure_pen : ∀ ds M Q E, spPen ds M Q E → bPen (fun C fs _ M' => E C fs M') { nx := fun _ M' => Q .non M', rt := Q } (dstart ["script", "fold", "cell"] ds) M := by
  rintro ds M Q E ⟨ns, rfl, hl, h⟩
  unfold bPen
  show dForL _ _ (ns.map D.int) _ [some (.scr ns), some (.int 0), none] M
  refine for_inv (fun r ρ M' => M' = M ∧ ∃ (l : List Int) (f : Int) (c : Option D), r = l.map D.int ∧ ρ = [some (.scr ns), some (.int f), c] ∧ 0 ≤ f ∧ f < 1000000007) ?_ ?_ ⟨rfl, ns, 0, none, rfl, rfl, by decide, by decide⟩
  · rintro x r ρ M' D' ⟨rfl, l, f, c, hr, rfl, h0, h1⟩ hn hc hb ht
    match l, hr with
    | i :: l, hr =>
      cases hr
      show CMulW f 47 ∧ (0 : Int) < 1000000007 ∧ D'.nx [some (.scr ns), some (.int ((f * 47 + i) % 1000000007)), some (.int i)] M'
      exact ⟨mulW (a := 40) (b := 8) h0 (by omega) (by decide) (by decide), by decide, hn _ _ ⟨rfl, l, _, _, rfl, rfl, by omega, by omega⟩⟩
  · rintro ρ M' ⟨rfl, l, f, c, hr, rfl, h0, h1⟩
    show ∀ p, M' p = none → (M'.set p (.dic [])) p = some (.dic []) ∧ Q (.ref p) ((M'.set p (.dic [])).set p (.dic (penK ns 0 0 0 f)))
    intro p hp
    rw [Mm.set_set]
    exact ⟨Mm.set_same, h p _ hp ⟨ns, 0, 0, 0, f, rfl, by decide, by decide, by decide, h0, by omega, hl⟩⟩
theorem dicAt_set {M : Mm} {p : Addr} {l : List (Key × D)} : dicAt (M.set p (.dic l)) p = some l := by unfold dicAt; rw [Mm.set_same]
theorem Mm.set_eq {M : Mm} {p : Addr} {o : MO} (h : M p = some o) : M.set p o = M := by
  funext b
  by_cases e : b = p
  · rw [e, Mm.set_same, h]
  · rw [Mm.set_ne e]
section
variable {M : Mm} {p : Addr} {ns : List Int} {a d c f z : Int} {Q : DK}
theorem get_cells : dget (penK ns a d c f) (Sum.inr "cells") = some (.lst (ns.map D.int)) := rfl
theorem get_at : dget (penK ns a d c f) (Sum.inr "at") = some (.int a) := rfl
theorem get_digits : dget (penK ns a d c f) (Sum.inr "digits") = some (.int d) := rfl
theorem get_count : dget (penK ns a d c f) (Sum.inr "count") = some (.int c) := rfl
theorem get_fold : dget (penK ns a d c f) (Sum.inr "fold") = some (.int f) := rfl
theorem put_at : dput (penK ns a d c f) (Sum.inr "at") (.int z) = penK ns z d c f := rfl
theorem put_digits : dput (penK ns a d c f) (Sum.inr "digits") (.int z) = penK ns a z c f := rfl
theorem put_count : dput (penK ns a d c f) (Sum.inr "count") (.int z) = penK ns a d z f := rfl
theorem put_fold : dput (penK ns a d c f) (Sum.inr "fold") (.int z) = penK ns a d c z := rfl
theorem penK_len : (penK ns a d c f).length = 5 := rfl
end
theorem pure_draw : ∀ ds M Q E, spDraw ds M Q E → bDraw (fun C fs _ M' => E C fs M') { nx := fun _ M' => Q .non M', rt := Q } (dstart ["pen", "many", "cell", "digit", "blend"] ds) M := by
  rintro ds M Q E ⟨p, many, P, n, rfl, hm, hm2, hM, ⟨ns, at_, dg, ct, fo, rfl, h1, h2, h3, h4, h5, h6⟩, hn, k⟩
  have e : dstart ["pen", "many", "cell", "digit", "blend"] [.ref p, .int many] = [some (.ref p), some (.int many), none, none, none] := rfl
  rw [e, ← Mm.set_eq hM]
  unfold bDraw
  simp only [dSeq, dAsg, dC, dgName, dVar, slot, List.set_cons_zero, List.set_cons_succ, dIf, dAnd, dTest, dBin, rDix, dpairs, dkey, dDput, dCall, dCons, dNil, dNext, dRet, rAdd, rI2, rIx, cLen, cInt, dicAt_set, Mm.set_set, get_cells, get_at, get_digits, get_count, get_fold, put_at, put_digits, put_count, put_fold, penK_len, rEq', rLen]
  have hsz : 5 < sizeLine := by rw [sizeLine_eq]; decide
  have hn' : (n : Int) < 1000000000000000000 := by unfold topN at hn; omega
  have hpow : CPow 10 18 := ⟨by decide, by decide, by decide⟩
  have hd1 : ∀ x, CDivW x many := fun x => divW (b := 62) hm (by omega)
  have hd2 : ∀ x, CDivW x 64 := fun x => divW (b := 8) (by decide) (by decide)
  have fin : ∀ (r a d f : Int), 0 ≤ a → 0 ≤ f → f < 4294967296 → Q (.int (r % many)) (M.set p (.dic (penK ns a d (ct + 1) f))) := fun r a d f q1 q2 q3 =>
    k _ _ (Int.emod_nonneg _ (by omega)) (Int.emod_lt_of_pos _ hm) ⟨ns, a, d, ct + 1, f, rfl, q1, by omega, by push_cast; omega, q2, q3, h6⟩
  have hz : at_ < ((ns.map D.int).length : Nat) → ∀ M', ∃ z, dAt M' (.lst (ns.map D.int)) at_ = some (.int z) := fun hlt M' => by
    rw [List.length_map] at hlt
    show ∃ z, atI (ns.map D.int) at_ = some (.int z)
    rw [atI_map]
    unfold atI ixN
    rw [if_pos h1, if_pos hlt]
    refine ⟨ns[at_.toNat]'(by omega), ?_⟩
    show ((ns[at_.toNat]?).map D.int) = _
    rw [List.getElem?_eq_getElem (by omega)]
    rfl
  have i1 := fun x : Int => Int.emod_nonneg x (b := 2147483647) (by decide)
  have i2 := fun x : Int => Int.emod_lt_of_pos x (b := 2147483647) (by decide)
  have i3 := fun x : Int => Int.emod_nonneg x (b := 2147483629) (by decide)
  have i4 := fun x : Int => Int.emod_lt_of_pos x (b := 2147483629) (by decide)
  have i5 := fun x : Int => Int.emod_nonneg x (b := 2147483587) (by decide)
  have i6 := fun x : Int => Int.emod_lt_of_pos x (b := 2147483587) (by decide)
  have m1 : ∀ x y : Int, 0 ≤ x → x < 4294967296 → 0 ≤ y → y < 4294967296 → CMulW x y := fun x y a b c d => mulW (a := 32) (b := 32) a (by omega) c (by omega)
  have m2 : CMulW (ct + 1) 7919 := mulW (a := 62) (b := 32) (by omega) (by omega) (by decide) (by decide)
  have tail : ∀ (a d f : Int), 0 ≤ a → 0 ≤ f → f < 4294967296 → CMulW f 48271 ∧ CMulW (ct + 1) 7919 ∧ (0 : Int) < 2147483647 ∧
      CMulW ((f * 48271 + (ct + 1) * 7919 + 13) % 2147483647) ((f * 48271 + (ct + 1) * 7919 + 13) % 2147483647) ∧ CMulW 31 ((f * 48271 + (ct + 1) * 7919 + 13) % 2147483647) ∧ (0 : Int) < 2147483629 ∧
      CMulW (((f * 48271 + (ct + 1) * 7919 + 13) % 2147483647 * ((f * 48271 + (ct + 1) * 7919 + 13) % 2147483647) + 31 * ((f * 48271 + (ct + 1) * 7919 + 13) % 2147483647) + (ct + 1)) % 2147483629) 16807 ∧ (0 : Int) < 2147483647 ∧ 5 < sizeLine ∧
      CDivW (((f * 48271 + (ct + 1) * 7919 + 13) % 2147483647 * ((f * 48271 + (ct + 1) * 7919 + 13) % 2147483647) + 31 * ((f * 48271 + (ct + 1) * 7919 + 13) % 2147483647) + (ct + 1)) % 2147483629) 64 ∧ 0 < many ∧
      Q (.int (((f * 48271 + (ct + 1) * 7919 + 13) % 2147483647 * ((f * 48271 + (ct + 1) * 7919 + 13) % 2147483647) + 31 * ((f * 48271 + (ct + 1) * 7919 + 13) % 2147483647) + (ct + 1)) % 2147483629 / 64 % many))
        (M.set p (.dic (penK ns a d (ct + 1) ((((f * 48271 + (ct + 1) * 7919 + 13) % 2147483647 * ((f * 48271 + (ct + 1) * 7919 + 13) % 2147483647) + 31 * ((f * 48271 + (ct + 1) * 7919 + 13) % 2147483647) + (ct + 1)) % 2147483629 * 16807 + 7) % 2147483647)))) := by
    intro a d f q1 q2 q3
    refine ⟨m1 _ _ q2 q3 (by decide) (by decide), m2, by decide, m1 _ _ (i1 _) (Int.lt_trans (i2 _) (by decide)) (i1 _) (Int.lt_trans (i2 _) (by decide)), m1 _ _ (by decide) (by decide) (i1 _) (Int.lt_trans (i2 _) (by decide)), by decide,
      m1 _ _ (i3 _) (Int.lt_trans (i4 _) (by decide)) (by decide) (by decide), by decide, hsz, hd2 _, hm, fin _ _ _ _ q1 (i1 _) (Int.lt_trans (i2 _) (by decide))⟩
  have rest : ∀ (a d f : Int), 0 ≤ a → 0 ≤ f → f < 4294967296 → (if decide (0 < d) = true then 0 < many ∧ CDivW d many ∧ 5 < sizeLine ∧ Q (.int (d % many)) (M.set p (.dic (penK ns a (d / many) (ct + 1) f))) else _) := fun a d f q1 q2 q3 => by
    by_cases hd : decide (0 < d) = true
    · rw [if_pos hd]; exact ⟨hm, hd1 _, hsz, fin _ _ _ _ q1 q2 q3⟩
    · rw [if_neg hd]; exact tail a d f q1 q2 q3
  refine ⟨hsz, ?_⟩
  by_cases c1 : decide (dg = 0) = true
  · rw [if_pos c1]
    refine ⟨trivial, ?_⟩
    by_cases c2 : decide (at_ < ((ns.map D.int).length : Nat)) = true
    · rw [if_pos c2]
      obtain ⟨z, ez⟩ := hz (of_decide_eq_true c2) (M.set p (.dic (penK ns at_ dg (ct + 1) fo)))
      rw [ez]
      refine ⟨hsz, hpow, trivial, ?_⟩
      by_cases c3 : decide ((10 : Int) ^ Int.toNat 18 ≤ z) = true
      · rw [if_pos c3]
        exact ⟨hpow, trivial, hsz, trivial, rest _ _ _ (by omega) h4 h5⟩
      · rw [if_neg c3]
        exact ⟨m1 _ _ h4 h5 (by decide) (by decide), by decide, hsz, trivial, rest _ _ _ (by omega) (i5 _) (Int.lt_trans (i6 _) (by decide))⟩
    · rw [if_neg c2]
      exact ⟨trivial, rest _ dg _ h1 h4 h5⟩
  · rw [if_neg c1]
    exact ⟨trivial, rest _ dg _ h1 h4 h5⟩
theorem at_mem {α : Type} {xs : List α} {i : Int} (h0 : 0 ≤ i) (h1 : i < xs.length) : ∃ x, atI xs i = some x ∧ x ∈ xs := by
  unfold atI ixN
  rw [if_pos h0, if_pos h1]
  refine ⟨xs[i.toNat]'(by omega), ?_, List.getElem_mem _⟩
  show xs[i.toNat]? = _
  exact List.getElem?_eq_getElem (by omega)
theorem pure_pick : ∀ ds M Q E, spPick ds M Q E → bPick (fun C fs _ M' => E C fs M') { nx := fun _ M' => Q .non M', rt := Q } (dstart ["pen", "some"] ds) M := by
  rintro ds M Q E ⟨p, d, xs, P, n, rfl, hi, hne, hl, hM, hp, hn, k⟩
  have hpos : 0 < xs.length := List.length_pos_iff.mpr hne
  have go : ∀ (l : Dq.D), (∀ M' (i : Int), 0 ≤ i → i < xs.length → ∃ x, dAt M' l i = some x ∧ x ∈ xs) → ∀ P' (r : Int), 0 ≤ r → r < xs.length → PenOk (n + 1) P' → (match dAt (M.set p (.dic P')) l r with | some d => Q d (M.set p (.dic P')) | none => False) := by
    intro l hl P' r h0 h1 hp'
    obtain ⟨x, ex, mx⟩ := hl (M.set p (.dic P')) r h0 h1
    rw [ex]
    exact k x P' mx hp'
  cases d with
  | lst l =>
    cases hi
    unfold bPick
    simp only [dRet, dBin, dVar, slot, dCallF, dCons, dCall, cLen, rLen, dNil, dstart, List.map_cons, List.map_nil, List.cons_append]
    refine ⟨p, _, P, n, rfl, by omega, by omega, hM, hp, hn, fun r P' h0 h1 hp' => ?_⟩
    exact go (.lst xs) (fun M' i h0 h1 => at_mem h0 h1) P' r h0 h1 hp'
  | tup l =>
    cases hi
    unfold bPick
    simp only [dRet, dBin, dVar, slot, dCallF, dCons, dCall, cLen, rLen, dNil, dstart, List.map_cons, List.map_nil, List.cons_append]
    refine ⟨p, _, P, n, rfl, by omega, by omega, hM, hp, hn, fun r P' h0 h1 hp' => ?_⟩
    exact go (.tup xs) (fun M' i h0 h1 => at_mem h0 h1) P' r h0 h1 hp'
  | scr ns =>
    cases hi
    rw [List.length_map] at hl hpos
    unfold bPick
    simp only [dRet, dBin, dVar, slot, dCallF, dCons, dCall, cLen, rLen, dNil, dstart, List.map_cons, List.map_nil, List.cons_append]
    refine ⟨p, _, P, n, rfl, by omega, by omega, hM, hp, hn, fun r P' h0 h1 hp' => ?_⟩
    refine go (.scr ns) (fun M' i h0 h1 => ?_) P' r h0 (by rw [List.length_map]; exact h1) hp'
    obtain ⟨x, ex, mx⟩ := at_mem h0 h1
    exact ⟨x, by rw [atI_map] at ex; exact ex, mx⟩
  | _ => cases hi
end Dq
/-! The deep layer, part 10: isinstance of data, gcd, abs, floor division by any sign, is True, slices, while. -/
namespace Dq
open PySem PySem.Spec PyProof.Rows L2
section
variable {X : Cx} {G0 : Hp} {K : PySem.W.Frag} {x : Str} {p p2 pos : Pos} {o e a b c : Expr} {es : List Expr} {ad : DA} {de da db od : DE} {ts us : DS}
/-! ### isinstance -/
/-- the built-in types that a value is of -/
def tysOf : D → Option (List String)
  | .non => some ["NoneType"]
  | .bl _ => some ["bool", "int"]
  | .int _ => some ["int"]
  | .str _ => some ["str"]
  | .tup _ => some ["tuple"]
  | .lst _ => some ["list"]
  | .scr _ => some ["list"]
  | .dic _ => some ["dict"]
  | _ => none
def knownTy (c : String) : Bool := c = "int" || c = "bool" || c = "str" || c = "tuple" || c = "list" || c = "dict"
/-- is it of that type -/
def isTy (d : D) (c : String) : Option Bool := if knownTy c = true then (tysOf d).map fun l => l.contains c else none
def isTys (d : D) : List D → Option Bool
  | [] => some false
  | .ty c :: r => match isTy d c, isTys d r with | some x, some y => some (x || y) | _, _ => none
  | _ => none
def cIs : RDC := fun ds M Q => match ds with
  | [d, .ty c] => (match isTy d c with | some k => Q (.bl k) M | none => False)
  | [d, .tup cs] => (match isTys d cs with | some k => Q (.bl k) M | none => False)
  | _ => False
theorem kit_at (T c : String) (hT : T ∈ ["NoneType", "bool", "int", "str", "tuple", "list", "dict"]) (h : knownTy c = true) : PySem.W.kitOne K (.type T) (.type c) = some ((if T = "bool" then ["bool", "int"] else [T]).contains c) := by
  have hc : c ∈ ["int", "bool", "str", "tuple", "list", "dict"] := by
    unfold knownTy at h
    simp only [Bool.or_eq_true, decide_eq_true_eq] at h
    simp only [List.mem_cons, List.not_mem_nil, or_false]
    rcases h with ((((h | h) | h) | h) | h) | h <;> simp [h]
  refine kit_ty ?_
  have all : ∀ T ∈ ["NoneType", "bool", "int", "str", "tuple", "list", "dict"], ∀ c ∈ ["int", "bool", "str", "tuple", "list", "dict"], kitB T c = some ((if T = "bool" then ["bool", "int"] else [T]).contains c) := by decide +kernel
  exact all T hT c hc
/-- what the library asks of such a value -/
theorem kit_rep {pins : List (Addr × Obj)} {σ : St} {H : Hp} {s : Shared} {d : D} {v : V} {u : Value} {l : List String} (I : Inv X pins σ H s) (p : Rep X.K H d v) (r : RelV v u) (e : tysOf d = some l) :
    ∃ T P, T ∈ ["NoneType", "bool", "int", "str", "tuple", "list", "dict"] ∧ l = (if T = "bool" then ["bool", "int"] else [T]) ∧ PySem.W.KitX X.K u (.type T) P ∧ P s.heap ∧ u ≠ .builtin "__main__.__loader__#opaque" := by
  cases d with
  | non => unfold Rep at p; subst p; cases e; cases (show u = Value.none from r); exact ⟨"NoneType", _, by simp, rfl, PySem.W.kitx_none, True.intro, fun z => nomatch z⟩
  | bl b => unfold Rep at p; subst p; cases e; cases (show u = Value.bool b from r); exact ⟨"bool", _, by simp, rfl, PySem.W.kitx_bool, True.intro, fun z => nomatch z⟩
  | int i => unfold Rep at p; subst p; cases e; obtain ⟨t, q⟩ := (show ∃ t, u = Value.int i t from r); cases q; exact ⟨"int", _, by simp, rfl, PySem.W.kitx_int, True.intro, fun z => nomatch z⟩
  | str y => unfold Rep at p; subst p; cases e; obtain ⟨t, q⟩ := (show ∃ t, u = Value.str y t from r); cases q; exact ⟨"str", _, by simp, rfl, PySem.W.kitx_str, True.intro, fun z => nomatch z⟩
  | tup xs =>
    unfold Rep at p
    obtain ⟨a, vs, rfl, hq, _⟩ := p
    cases e
    cases (show u = Value.ref a from r)
    obtain ⟨its, rv, ⟨o, ho, hc, n, hd⟩, _⟩ := I.tuple hq
    exact ⟨"tuple", _, by simp, rfl, PySem.W.kitx_tuple, ⟨o, ho, hc⟩, fun z => nomatch z⟩
  | lst xs =>
    unfold Rep at p
    obtain ⟨a, vs, rfl, hq, _⟩ := p
    cases e
    cases (show u = Value.ref a from r)
    obtain ⟨its, rv, ⟨o, n, ho, hc, _, hd⟩, _⟩ := I.list (.inl (.inl hq))
    exact ⟨"list", _, by simp, rfl, PySem.W.kitx_list, ⟨o, ho, hc⟩, fun z => nomatch z⟩
  | scr ns =>
    unfold Rep at p
    obtain ⟨a, rfl, hq⟩ := p
    cases e
    cases (show u = Value.ref a from r)
    obtain ⟨its, rv, ⟨o, n, ho, hc, _, hd⟩, _⟩ := I.list hq
    exact ⟨"list", _, by simp, rfl, PySem.W.kitx_list, ⟨o, ho, hc⟩, fun z => nomatch z⟩
  | dic kvs =>
    unfold Rep at p
    obtain ⟨a, ws, rfl, hq, _⟩ := p
    cases e
    cases (show u = Value.ref a from r)
    obtain ⟨z, hsm, vs, rel, o, es, ep, eo, exd, _⟩ := dk_of I.hok hq
    exact ⟨"dict", _, by simp, rfl, PySem.W.kitx_dict, ⟨o, eo, exd.1⟩, fun z => nomatch z⟩
  | _ => cases e
theorem kit_some {d : D} {c : String} {k : Bool} (h : isTy d c = some k) : ∃ l, tysOf d = some l ∧ knownTy c = true ∧ k = l.contains c := by
  unfold isTy at h
  split at h
  · rename_i hk
    cases e : tysOf d with
    | none => rw [e] at h; cases h
    | some l => rw [e] at h; cases h; exact ⟨l, rfl, hk, rfl⟩
  · cases h
theorem kit_one {pins : List (Addr × Obj)} {σ : St} {H : Hp} {s : Shared} {d : D} {v : V} {u : Value} {c : String} {k : Bool} (I : Inv X pins σ H s) (p : Rep X.K H d v) (r : RelV v u) (h : isTy d c = some k) :
    ∃ t P, PySem.W.KitX X.K u t P ∧ P s.heap ∧ u ≠ .builtin "__main__.__loader__#opaque" ∧ PySem.W.kitOne X.K t (.type c) = some k := by
  obtain ⟨l, e, hk, rfl⟩ := kit_some h
  obtain ⟨T, P, hT, hl, Z, hp, hx⟩ := kit_rep I p r e
  exact ⟨_, P, Z, hp, hx, by rw [hl]; exact kit_at T c hT hk⟩
theorem kit_any {T : String} {l : List String} (hT : T ∈ ["NoneType", "bool", "int", "str", "tuple", "list", "dict"]) (hl : l = (if T = "bool" then ["bool", "int"] else [T])) {d : D} (hd : tysOf d = some l) : ∀ {cs : List D} {k : Bool}, isTys d cs = some k →
    ∃ us : List Value, PySem.W.kitAny K (.type T) us = some k ∧ ∀ {H : Hp} {vs : List V} {ws : List Value}, Reps K H cs vs → Vals vs ws → ws = us
  | [], k, h => by
    cases h
    exact ⟨[], rfl, fun rp rv => by unfold Reps at rp; subst rp; cases rv; rfl⟩
  | .ty c :: r, k, h => by
    unfold isTys at h
    split at h
    · rename_i x y e1 e2
      cases h
      obtain ⟨us, h1, h2⟩ := kit_any hT hl hd e2
      obtain ⟨l', e, hk, ex⟩ := kit_some e1
      rw [hd] at e
      cases e
      refine ⟨.type c :: us, kitAny_cons (b := x) (by rw [ex, hl]; exact kit_at T c hT hk) (fun z => by rw [z, Bool.false_or]; exact h1) (fun z => by rw [z, Bool.true_or]), fun rp rv => ?_⟩
      unfold Reps at rp
      obtain ⟨v, ws, rfl, p, q⟩ := rp
      cases rv with
      | cons r1 r2 =>
        unfold Rep at p
        subst p
        rw [h2 q r2, show _ = Value.type c from r1]
    · cases h
  | .non :: _, _, h => by simp [isTys] at h
  | .bl _ :: _, _, h => by simp [isTys] at h
  | .int _ :: _, _, h => by simp [isTys] at h
  | .str _ :: _, _, h => by simp [isTys] at h
  | .ref _ :: _, _, h => by simp [isTys] at h
  | .tup _ :: _, _, h => by simp [isTys] at h
  | .lst _ :: _, _, h => by simp [isTys] at h
  | .scr _ :: _, _, h => by simp [isTys] at h
  | .dic _ :: _, _, h => by simp [isTys] at h
theorem isTys_ty {d : D} {cs : List D} {k : Bool} (hne : cs ≠ []) (h : isTys d cs = some k) : ∃ l, tysOf d = some l := by
  cases cs with
  | nil => exact absurd rfl hne
  | cons a r =>
    cases a with
    | ty c =>
      unfold isTys at h
      split at h
      · rename_i x y e1 e2
        obtain ⟨l, e, _⟩ := kit_some e1
        exact ⟨l, e⟩
      · cases h
    | _ => simp [isTys] at h
theorem is_ok : CallR X (.builtin "isinstance") (upC X.K fun ds M Q => (∃ d c, ds = [d, .ty c]) ∧ cIs ds M Q) := by
  intro pins s σ H xs us Q I r h
  obtain ⟨M, G, ds, Qd, rl, rp, ⟨⟨d, c, rfl⟩, h⟩, kk⟩ := h
  unfold cIs at h
  obtain ⟨v1, v2, rfl, p1, p2⟩ := reps2 rp
  obtain ⟨u1, u2, rfl, r1, r2⟩ := vals2 r
  cases z : isTy d c with
  | none => simp only [z] at h
  | some k =>
    simp only [z] at h
    unfold Rep at p2
    subst p2
    cases (show u2 = Value.type c from r2)
    obtain ⟨t, P, Z, hp, hx, e⟩ := kit_one I (p1.mono rl.sub) r1 z
    exact PySem.W.kia_one Z I.kIn hp e hx fun tk => ⟨.bl k, H, I.tok tk, rfl, kk (.bl k) M G _ H (Same.refl _) rl (flat_rep rfl) h⟩
theorem isT_ok : CallR X (.builtin "isinstance") (upC X.K fun ds M Q => (∃ d c1 c2, ds = [d, .tup [c1, c2]]) ∧ cIs ds M Q) := by
  intro pins s σ H xs us Q I r h
  obtain ⟨M, G, ds, Qd, rl, rp, ⟨⟨d, c1, c2, rfl⟩, h⟩, kk⟩ := h
  unfold cIs at h
  obtain ⟨v1, v2, rfl, p1, p2⟩ := reps2 rp
  obtain ⟨u1, u2, rfl, r1, r2⟩ := vals2 r
  cases z : isTys d [c1, c2] with
  | none => simp only [z] at h
  | some k =>
    simp only [z] at h
    obtain ⟨l, e⟩ := isTys_ty (by simp) z
    obtain ⟨T, P, hT, hl, Z, hp, hx⟩ := kit_rep I (p1.mono rl.sub) r1 e
    obtain ⟨ws, hk, hw⟩ := kit_any (K := X.K) hT hl e z
    have p2' : Rep X.K H (.tup [c1, c2]) v2 := p2.mono rl.sub
    unfold Rep at p2'
    obtain ⟨tp, vs, rfl, hq, rr⟩ := p2'
    cases (show u2 = Value.ref tp from r2)
    obtain ⟨its, rv, ⟨ob, ho, hc, n, hd⟩, _⟩ := I.tuple hq
    have e3 := hw rr rv
    subst e3
    obtain ⟨oc, od, dt, sl⟩ := ob
    simp only at hc hd
    subst hc hd
    exact PySem.W.kia_tup Z I.kIn hp ho hk hx fun tk => ⟨.bl k, H, I.tok tk, rfl, kk (.bl k) M G _ H (Same.refl _) rl (flat_rep rfl) h⟩
/-! ### gcd, abs, // by a divisor of any sign -/
def cGcd : RDC := fun ds M Q => match ds with | [.int i, .int j] => Q (.int ((Nat.gcd i.natAbs j.natAbs : Nat) : Int)) M | _ => False
theorem gcd_ok : CallR X (.builtin "math.gcd") (upC X.K cGcd) := call_mono cr_gcd fun xs H Q q => by
  obtain ⟨M, G, ds, Qd, rl, rp, q, k⟩ := q
  unfold cGcd at q
  split at q
  · rename_i i j
    obtain ⟨v1, v2, rfl, p1, p2⟩ := reps2 rp
    exact ⟨i, j, by rw [rep_int p1, rep_int p2], k (.int _) M G _ H (Same.refl _) rl (flat_rep rfl) q⟩
  · exact q.elim
theorem de_callFun {id : String} {r : RDC} (hc : CallR X (.builtin id) (upC K r)) (hg : Gl X x) (hm : X.mg x = some (.builtin id)) (ha : PA X (e :: es) (upA K G0 ad)) (hdb : (x == ("__debug__" : Str)) = false := by decide)
    (he : starEach (e :: es) X.env = (false, eval e X.env) :: starEach es X.env := by rfl) (hpl : (backTo pos (starEach es X.env)).any (·.1) = false := by rfl) : PE X (.Call (.Name x p) (e :: es) [] pos) (up K G0 (dCall r ad)) :=
  pe_mono (pe_callBfun hc hg hm ha hdb he hpl) fun σ H Q h => up_call h
def cAbs : RDC := fun ds M Q => match ds with | [.int i] => Q (.int (if i < 0 then -i else i)) M | _ => False
theorem abs_ok : CallR X (.builtin "abs") (upC X.K cAbs) := call_mono call_abs fun xs H Q q => by
  obtain ⟨M, G, ds, Qd, rl, rp, q, k⟩ := q
  unfold cAbs at q
  split at q
  · rename_i i
    obtain ⟨v1, rfl, p1⟩ := reps1 rp
    exact ⟨i, by rw [rep_int p1], k (.int _) M G _ H (Same.refl _) rl (flat_rep rfl) q⟩
  · exact q.elim
/-- //: any divisor but 0, of less than 9000 bits -/
def CDivA (_ j : Int) : Prop := j ≠ 0 ∧ j.natAbs.log2 < 9000
theorem fdivA_ok : OpR X (binaryOp .FloorDiv) (up2 X.K (rI2 CDivA fun i j => .int (i.fdiv j))) := op_I2 (g' := fun i j => .int (i.fdiv j)) (opI fun i j _ _ _ _ _ hc q => floordiv_int hc.1 q (.inl (PyProof.noPylong_of_log2 hc.2))) fun _ _ => rfl
/-! ### is, is not of True and False -/
def rIsBl (neg : Bool) : RD2 := fun x y M Q => match x, y with
  | .bl a, .bl b => Q (.bl (if neg then !decide (a = b) else decide (a = b))) M
  | _, _ => False
theorem isBl_ok : OpR X (compareOp .Is) (up2 X.K (rIsBl false)) := op_mono op_isBl fun x y H Q q => by
  obtain ⟨M, G, dx, dy, Qd, rl, p1, p2, q, k⟩ := q
  unfold rIsBl at q
  split at q
  · rename_i a b
    unfold Rep at p1 p2
    exact ⟨a, b, p1, p2, k (.bl _) M G _ H (Same.refl _) rl (flat_rep rfl) q⟩
  · exact q.elim
end
end Dq
/-! The deep layer, part 11: comprehensions, while, slices. -/
namespace Dq
open PySem PySem.Spec PyProof.Rows L2
section
variable {X : Cx} {G0 : Hp} {K : PySem.W.Frag} {x y : Str} {p p2 px py pos : Pos} {o e a b c elt iter tg : Expr} {es ifs : List Expr} {ad : DA} {de da db od : DE} {dt : DT} {ts us : DS} {di : DI}
/-! ### while -/
def dWhile (c : DT) (b : DS) : DS := fun D ρ M => ∃ W : Nat → Ds → Mm → Prop, (∃ m, W m ρ M) ∧ ∀ m ρ M, W m ρ M →
  c ρ M fun k M1 => if k = true then ∃ N : Ds → Mm → Prop, (∀ ρ' M', N ρ' M' → ∃ m', m' < m ∧ W m' ρ' M') ∧ b { D with nx := N, ct := N, bk := D.nx } ρ M1 else D.nx ρ M1
theorem ds_while {body : List Stmt} (hp : PassesOwn (model X.prog X.w) X.A X.env X.xe) (hc : PT X c (upT K G0 dt)) (hb : PSs X body (upS K G0 ts)) : PS X (.While c body [] pos) (upS K G0 (dWhile dt ts)) := ps_mono (ps_while hp hc hb) fun D σ H h => by
  obtain ⟨ρ, M, G, Dd, s0, rl, l, ⟨W, ⟨m0, w0⟩, turn⟩, k1, k2, k3, k4⟩ := h
  refine ⟨fun m σ H => ∃ ρ M G1, Same K G G1 ∧ RelH K M G1 H ∧ Locs K ρ G1 σ ∧ W m ρ M, ⟨m0, ρ, M, G, Same.refl _, rl, l, w0⟩, ?_⟩
  rintro m σ1 H1 ⟨ρ1, M1, G1, s1, r1, l1, w1⟩
  refine ⟨ρ1, M1, G1, _, s0.trans s1, r1, l1, turn m ρ1 M1 w1, fun k M2 G2 H2 s2 r2 q2 => ?_⟩
  cases k with
  | true =>
    obtain ⟨N, hN, hb⟩ := q2
    refine ⟨fun σ' H' => ∃ ρ M G3, Same K G G3 ∧ RelH K M G3 H' ∧ Locs K ρ G3 σ' ∧ N ρ M, ?_, ρ1, M2, G2, _, (s0.trans s1).trans s2, r2, l1.mono s2, hb, ?_, ?_, ?_, ?_⟩
    · rintro σ' H' ⟨ρ3, M3, G3, s3, r3, l3, n3⟩
      obtain ⟨m', hm, w3⟩ := hN ρ3 M3 n3
      exact ⟨m', hm, ρ3, M3, G3, s3, r3, l3, w3⟩
    · exact fun ρ' M' G' σ' H' s r l q => ⟨ρ', M', G', (s1.trans s2).trans s, r, l, q⟩
    · exact fun d M' G' v H' s r p q => k2 d M' G' v H' ((s1.trans s2).trans s) r p q
    · exact fun ρ' M' G' σ' H' s r l q => k1 ρ' M' G' σ' H' ((s1.trans s2).trans s) r l q
    · exact fun ρ' M' G' σ' H' s r l q => ⟨ρ', M', G', (s1.trans s2).trans s, r, l, q⟩
  | false => exact k1 ρ1 M2 G2 σ1 H2 (s1.trans s2) r2 (l1.mono s2) q2
/-- by an invariant and a measure -/
theorem while_dq {cd : DT} {bd : DS} {D : DEnds} {ρ : Ds} {M : Mm} (Pv : Ds → Mm → Prop) (μ : Ds → Mm → Nat) (h0 : Pv ρ M)
    (hs : ∀ ρ M, Pv ρ M → cd ρ M fun k M1 => if k = true then bd { D with nx := fun ρ' M' => Pv ρ' M' ∧ μ ρ' M' < μ ρ M, ct := fun ρ' M' => Pv ρ' M' ∧ μ ρ' M' < μ ρ M, bk := D.nx } ρ M1 else D.nx ρ M1)
    (mono : ∀ ρ M (Q Q' : Bool → Mm → Prop), (∀ k M1, Q k M1 → Q' k M1) → cd ρ M Q → cd ρ M Q') : dWhile cd bd D ρ M := by
  refine ⟨fun m ρ M => Pv ρ M ∧ m = μ ρ M, ⟨_, h0, rfl⟩, ?_⟩
  rintro m ρ1 M1 ⟨q, rfl⟩
  refine mono _ _ _ _ (fun k M2 h => ?_) (hs ρ1 M1 q)
  cases k with
  | true => exact ⟨_, fun ρ' M' n => ⟨μ ρ' M', n.2, n.1, rfl⟩, h⟩
  | false => exact h
/-! ### comprehensions -/
theorem wipe_get {σ : St} {k : Nat} : ∀ {vs : List Nat}, (wipe σ vs)[k]? = if k ∈ vs then (σ[k]?).map (fun _ => none) else σ[k]?
  | [] => by simp [wipe]
  | v :: vs => by
    unfold wipe
    by_cases e : v = k
    · subst e
      rw [List.getElem?_set_self']
      rw [wipe_get (vs := vs)]
      simp only [List.mem_cons_self, if_true]
      split <;> cases σ[v]? <;> rfl
    · rw [List.getElem?_set_ne e, wipe_get (vs := vs)]
      simp only [List.mem_cons, show (k = v) = False from eq_false fun z => e z.symm, false_or]
theorem wipe_idem {σ : St} {vs : List Nat} : wipe (wipe σ vs) vs = wipe σ vs := by
  apply List.ext_getElem?
  intro k
  rw [wipe_get, wipe_get]
  by_cases h : k ∈ vs
  · rw [if_pos h, if_pos h]; cases σ[k]? <;> rfl
  · rw [if_neg h, if_neg h]
def wipeD (ρ : Ds) : List Nat → Ds
  | [] => ρ
  | v :: vs => (wipeD ρ vs).set v none
theorem locs_wipe {ρ : Ds} {G : Hp} {σ : St} (h : Locs K ρ G σ) : ∀ vs : List Nat, Locs K (wipeD ρ vs) G (wipe σ vs)
  | [] => h
  | v :: vs => locs_none (locs_wipe h vs) v
/-- a target that fills slots of the comprehension's own alone -/
def upGw (K : PySem.W.Frag) (G0 : Hp) (vs : List Nat) (dg : DG) : TG := fun v σ H Q => ∃ ρ M G d Qd, Same K G0 G ∧ RelH K M G H ∧ Locs K ρ G σ ∧ Rep K G d v ∧ dg d ρ M Qd ∧
  ∀ ρ' M' G' σ' H', Same K G G' → RelH K M' G' H' → Locs K ρ' G' σ' → wipe σ' vs = wipe σ vs → Qd ρ' M' → Q σ' H'
theorem wipe_set {σ : St} {vs : List Nat} {i : Nat} {o : Option V} (h : i ∈ vs) : wipe (σ.set i o) vs = wipe σ vs := by
  apply List.ext_getElem?
  intro k
  rw [wipe_get, wipe_get]
  by_cases hk : k ∈ vs
  · rw [if_pos hk, if_pos hk]
    by_cases e : i = k
    · subst e; rw [List.getElem?_set_self']; cases σ[i]? <;> rfl
    · rw [List.getElem?_set_ne e]
  · rw [if_neg hk, if_neg hk, List.getElem?_set_ne (fun e => hk (by rw [← e]; exact h))]
theorem dgw_name {i : Nat} {vs : List Nat} (hN : X.N.Nodup) (hi : X.N[i]? = some x) (hv : i ∈ vs) (hx : Loc X.env.scope x) (hf : X.fn x = true ∨ X.env.scope.names.lookup x = some .local := by first | exact .inl rfl | exact .inr rfl | assumption) : PG X (.Name x pos) (upGw K G0 vs (dgName i)) :=
  pg_mono (pg_name hN hi hx hf) fun v σ H Q h => by
    obtain ⟨ρ, M, G, d, Qd, s0, rl, l, p, h, k⟩ := h
    exact k _ M G _ H (Same.refl _) rl (l.set i p) (wipe_set hv) h
/-- a, b as the target -/
def dgPair (i j : Nat) : DG := fun d ρ M Q => match d with | .tup [a, b] => Q ((ρ.set i (some a)).set j (some b)) M | _ => False
theorem dgw_pair {i j : Nat} {vs : List Nat} {kt : Nat} (hK : X.K = K) (hc : X.calm = true) (hN : X.N.Nodup) (hi : X.N[i]? = some x) (hj : X.N[j]? = some y) (hv : i ∈ vs) (hw : j ∈ vs) (hx : Loc X.env.scope x) (hy : Loc X.env.scope y)
    (hn : (assignEach [.Name x px, .Name y py] X.env).length = 2 := by rfl) (hst : (assignEach [.Name x px, .Name y py] X.env).findIdx? (·.1) = none := by rfl) (hs1 : (assignEach [.Name x px, .Name y py] X.env).map (·.2) = assign (.Name x px) X.env :: (assignEach [.Name y py] X.env).map (·.2) := by rfl) (hs2 : (assignEach [.Name y py] X.env).map (·.2) = assign (.Name y py) X.env :: (assignEach [] X.env).map (·.2) := by rfl)
    (hf : X.fn x = true ∨ X.env.scope.names.lookup x = some .local := by first | exact .inl rfl | exact .inr rfl | assumption) (hf2 : X.fn y = true ∨ X.env.scope.names.lookup y = some .local := by first | exact .inl rfl | exact .inr rfl | assumption) :
    PG X (.Tuple [.Name x px, .Name y py] kt pos) (upGw K G0 vs (dgPair i j)) :=
  pg_mono (pg_tup hc (pgs_cons (pg_name hN hi hx hf) (pgs_cons (pg_name hN hj hy hf2) pgs_nil hs2) hs1) hn hst) fun v σ H Q h => by
    subst hK
    obtain ⟨ρ, M, G, d, Qd, s0, rl, l, p, h, k⟩ := h
    unfold dgPair at h
    split at h
    · rename_i d1 d2
      unfold Rep at p
      obtain ⟨q, vs', rfl, hq, rr⟩ := p
      obtain ⟨v1, v2, rfl, p1, p2⟩ := reps2 rr
      refine ⟨q, [v1, v2], rfl, sameT rl.sub hq, rfl, ?_⟩
      exact ⟨v1, [v2], rfl, v2, [], rfl, rfl, k _ M G _ H (Same.refl _) rl ((l.set i p1).set j p2) (by rw [wipe_set hw, wipe_set hv]) h⟩
    · exact h.elim
def dLcL (g : DG) (dt : DT) (de : DE) (p : Addr) (ρ : Ds) : List D → Mm → (Mm → Prop) → Prop
  | [], M, Q => Q M
  | x :: xs, M, Q => g x ρ M fun ρ1 M1 => dt ρ1 M1 fun b M2 => if b = true then de ρ1 M2 fun y M3 => match M3 p with | some (.lst acc) => acc.length < 16777216 ∧ dLcL g dt de p ρ xs (M3.set p (.lst (acc ++ [y]))) Q | _ => False else dLcL g dt de p ρ xs M2 Q
/-- [e for x in xs if t]: the list at p grows; then it never changes any more -/
def dLc (di : DI) (g : DG) (dt : DT) (de : DE) (vs : List Nat) : DE := fun ρ M Q => di ρ M fun xs M1 => ∀ p, M1 p = none → dLcL g dt de p (wipeD ρ vs) xs (M1.set p (.lst [])) fun M2 => frz (.ref p) M2 Q
def dYes : DT := fun _ M Q => Q true M
theorem dts_nil : PTs X [] (upT K G0 dYes) := ⟨fun pins s σ H Q I h => pts_nil.run pins s σ H Q I (by
  obtain ⟨ρ, M, G, Qd, s0, rl, l, h, k⟩ := h
  exact k true M G H (Same.refl _) rl h)⟩
theorem dts_one (h : PT X c (upT K G0 dt)) : PTs X [c] (upT K G0 dt) := pts_one h
/-- one turn, then the rest -/
theorem up_lc {dg : DG} {vs : List Nat} {σ : St} {H : Hp} {Q : VK} (h : up K G0 (dLc di dg dt de vs) σ H Q) : tLc (upI K G0 di) (upGw K G0 vs dg) (upT K G0 dt) (up K G0 de) vs σ H Q := by
  obtain ⟨ρ, M, G, Qd, s0, rl, l, h, kk⟩ := h
  refine ⟨ρ, M, G, _, s0, rl, l, h, fun xs M1 G1 H1 J s1 r1 wk q1 => ?_⟩
  intro p hp
  have q1 := q1 p (r1.freeM hp)
  refine ⟨fun i m H => ∃ M G2, Same K G1 G2 ∧ RelH K M G2 H ∧ dLcL dg dt de p (wipeD ρ vs) (xs.drop i) M (fun M2 => frz (.ref p) M2 Qd) ∧ m = xs.length - i ∧ i ≤ xs.length,
    ⟨xs.length, M1.set p (.lst []), G1, Same.refl _, r1.newM (m := .lst []) hp ⟨[], upd_same, Reps.nil⟩, q1, rfl, Nat.zero_le _⟩, ?_⟩
  rintro i m H2 ⟨M2, G2, s2, r2, q2, rfl, hi⟩
  rcases Nat.lt_or_ge i xs.length with hlt | hge
  · refine .inr ⟨wk.go i H2 (s2.trans r2.sub) hlt, fun H' => ∃ M G3, Same K G1 G3 ∧ RelH K M G3 H' ∧ dLcL dg dt de p (wipeD ρ vs) (xs.drop (i + 1)) M (fun M2 => frz (.ref p) M2 Qd), ?_, fun x H3 y => ?_⟩
    · rintro H' ⟨M3, G3, s3, r3, q3⟩
      exact ⟨xs.length - (i + 1), by omega, M3, G3, s3, r3, q3, rfl, hlt⟩
    · rw [List.drop_eq_getElem_cons hlt] at q2
      have lw : Locs K (wipeD ρ vs) G2 (wipe σ vs) := locs_wipe ((l.mono s1).mono s2) vs
      have key : ∀ (G3 : Hp), Same K G2 G3 → RelH K M2 G3 H3 → Rep K G3 xs[i] x → upGw K G0 vs dg x (wipe σ vs) H3 fun σ2 H2 => wipe σ2 vs = wipe σ vs ∧ upT K G0 dt σ2 H2 fun b H3 =>
          if b = true then up K G0 de σ2 H3 fun y H4 => ∃ acc, H4 p = some (.lst acc) ∧ acc.length < sizeLine ∧ (fun H' => ∃ M G3, Same K G1 G3 ∧ RelH K M G3 H' ∧ dLcL dg dt de p (wipeD ρ vs) (xs.drop (i + 1)) M (fun M2 => frz (.ref p) M2 Qd)) (upd H4 p (.lst (acc ++ [y])))
          else (fun H' => ∃ M G3, Same K G1 G3 ∧ RelH K M G3 H' ∧ dLcL dg dt de p (wipeD ρ vs) (xs.drop (i + 1)) M (fun M2 => frz (.ref p) M2 Qd)) H3 := by
        intro G3 s3 r3 p3
        refine ⟨_, M2, G3, xs[i], _, ((s0.trans s1).trans s2).trans s3, r3, lw.mono s3, p3, q2, fun ρ4 M4 G4 σ4 H4 s4 r4 l4 w4 q4 => ⟨w4.trans wipe_idem, ?_⟩⟩
        have sB : Same K G1 G4 := (s2.trans s3).trans s4
        refine ⟨ρ4, M4, G4, _, (s0.trans s1).trans sB, r4, l4, q4, fun b M5 G5 H5 s5 r5 q5 => ?_⟩
        cases b with
        | false => exact ⟨M5, G5, sB.trans s5, r5, q5⟩
        | true =>
          refine ⟨ρ4, M5, G5, _, ((s0.trans s1).trans sB).trans s5, r5, l4.mono s5, q5, fun d M6 G6 v H6 s6 r6 p6 q6 => ?_⟩
          split at q6
          · rename_i acc em
            obtain ⟨hl, q6⟩ := q6
            obtain ⟨_, ws, e1, rr⟩ := r6.mem p _ em
            exact ⟨ws, e1, by rw [← rr.length, sizeLine_eq]; exact hl, _, G6, (sB.trans s5).trans s6, r6.write em (m := .lst (acc ++ [d])) ⟨_, upd_same, rr.append (.cons p6 .nil)⟩, q6⟩
          · exact q6.elim
      rcases wk.yld i H2 x H3 xs[i] (s2.trans r2.sub) (List.getElem?_eq_getElem hlt) y with ⟨e, p3⟩ | ⟨q, o, hq, e, p3⟩
      · subst e
        exact key G2 (Same.refl _) r2 (p3.mono s2)
      · subst e
        exact key _ (same_upd (r2.free hq)) (r2.laid hq o) (p3 G2 s2 (r2.free hq))
  · have e : i = xs.length := by omega
    subst e
    rw [List.drop_length] at q2
    refine .inl ⟨wk.stop _ H2 (s2.trans r2.sub) (Nat.le_refl _), ?_⟩
    have q2 : frz (.ref p) M2 Qd := q2
    unfold frz at q2
    simp only at q2
    split at q2
    · rename_i ys em
      obtain ⟨g, ws, e1, q⟩ := r2.mem p _ em
      exact kk _ _ _ _ H2 ((s1.trans s2).trans (same_upd g)) (r2.freeze em e1) (by unfold Rep; exact ⟨p, ws, rfl, upd_same, q.mono (same_upd g)⟩) q2
    · rename_i kvs em
      obtain ⟨g, ws, e1, q⟩ := r2.mem p _ em
      exact kk _ _ _ _ H2 ((s1.trans s2).trans (same_upd g)) (r2.freeze em e1) (by unfold Rep; exact ⟨p, ws, rfl, upd_same, q.mono (same_upd g)⟩) q2
    · exact kk _ _ _ _ H2 (s1.trans s2) r2 (flat_rep rfl) q2
theorem de_lc {scope : Scope} {own : List (Str × Nat)} {dg : DG} (hc : X.calm = true) (hN : X.N.Nodup) (hi : PI X tg iter (upI K G0 di)) (ok : BlkOk X.N X.env.scope scope own)
    (hg : ∀ (s : Shared) (H : Hp) (C : Addr) (cl : List (Str × Addr)) (fp : List Addr), PG (X.blk s H scope (compEnvC scope cl C X.env) fp) tg (upGw K G0 (own.map (·.2)) dg))
    (ht : ∀ (s : Shared) (H : Hp) (C : Addr) (cl : List (Str × Addr)) (fp : List Addr), PTs (X.blk s H scope (compEnvC scope cl C X.env) fp) ifs (upT K G0 dt))
    (he : ∀ (s : Shared) (H : Hp) (C : Addr) (cl : List (Str × Addr)) (fp : List Addr), PE (X.blk s H scope (compEnvC scope cl C X.env) fp) elt (up K G0 de)) (hs : ∀ x, foldedSetIterable iter X.env x = pure x := by intro _; rfl) :
    PE X (.ListComp elt [⟨tg, iter, ifs, 0⟩] scope pos) (up K G0 (dLc di dg dt de (own.map (·.2)))) := pe_mono (pe_lc hc hN hi ok hg ht he hs) fun σ H Q h => up_lc h
/-- y = [..] -/
theorem ds_setLc {i : Nat} {scope : Scope} {own : List (Str × Nat)} {dg : DG} {spos : Pos} (hc : X.calm = true) (hN : X.N.Nodup) (hy : X.N[i]? = some y) (hyl : X.env.scope.names.lookup y = some .local)
    (hsw : swapsWith (.ListComp elt [⟨tg, iter, ifs, 0⟩] scope pos) (some (.Name y py)) spos.line X.env = pure true) (hi : PI X tg iter (upI K G0 di)) (ok : BlkOk X.N X.env.scope scope own)
    (hg : ∀ (s : Shared) (H : Hp) (C : Addr) (cl : List (Str × Addr)) (fp : List Addr), PG (X.blk s H scope (compEnvC scope cl C X.env) fp) tg (upGw K G0 (own.map (·.2)) dg))
    (ht : ∀ (s : Shared) (H : Hp) (C : Addr) (cl : List (Str × Addr)) (fp : List Addr), PTs (X.blk s H scope (compEnvC scope cl C X.env) fp) ifs (upT K G0 dt))
    (he : ∀ (s : Shared) (H : Hp) (C : Addr) (cl : List (Str × Addr)) (fp : List Addr), PE (X.blk s H scope (compEnvC scope cl C X.env) fp) elt (up K G0 de)) (hs : ∀ x, foldedSetIterable iter X.env x = pure x := by intro _; rfl) :
    PS X (.Assign [.Name y py] (.ListComp elt [⟨tg, iter, ifs, 0⟩] scope pos) spos) (upS K G0 (dAsg (dLc di dg dt de (own.map (·.2))) (dgName i))) := ps_mono (ps_setLc hc hN hy hyl hsw hi ok hg ht he hs) fun D σ H h => by
  obtain ⟨ρ, M, G, Dd, s0, rl, l, h, k1, k2, k3, k4⟩ := h
  exact up_lc ⟨ρ, M, G, _, s0, rl, l, h, fun d M1 G1 v H1 s1 r1 p1 q1 => k1 _ M1 G1 _ H1 s1 r1 ((l.mono s1).set i p1) q1⟩
end
end Dq
/-! The deep layer, part 12: tuples put together, slices, tuple(), all, any, zip. -/
namespace Dq
open PySem PySem.Spec PyProof.Rows L2
section
variable {X : Cx} {G0 : Hp} {K : PySem.W.Frag} {x y : Str} {p p2 px py pos : Pos} {o e a b c elt iter tg : Expr} {es ifs : List Expr} {ad : DA} {de da db od : DE} {dt : DT} {ts us : DS} {di : DI}
/-- +: tuples too -/
def rAddA : RD2 := fun x y M Q => match x, y with
  | .tup xs, .tup ys => xs.length + ys.length ≤ 16777216 ∧ Q (.tup (xs ++ ys)) M
  | x, y => Dq.rAdd x y M Q
theorem addA_ok : OpR X (binaryOp .Add) (up2 X.K rAddA) := by
  intro pins s σ H x y v u Q I rx ry h
  obtain ⟨M, G, dx, dy, Qd, rl, p1, p2, q, k⟩ := h
  unfold rAddA at q
  split at q
  · rename_i xs ys
    obtain ⟨hl, q⟩ := q
    have q1 := p1
    have q2 := p2
    unfold Rep at q1 q2
    obtain ⟨a, vs, rfl, h1, r1⟩ := q1
    obtain ⟨b, ws, rfl, h2, r2⟩ := q2
    refine op_catA pins s σ H _ _ v u Q I rx ry ⟨a, b, vs, ws, rfl, rfl, sameT rl.sub h1, sameT rl.sub h2, by rw [← r1.length, ← r2.length, sizeLine_eq]; exact hl, fun e => ?_, fun _ e => ?_, fun _ _ p hp => ?_⟩
    · have e2 : xs = [] := List.eq_nil_of_length_eq_zero (by rw [r1.length, e]; rfl)
      subst e2
      exact k (.tup ys) M G _ H (Same.refl _) rl p2 q
    · have e2 : ys = [] := List.eq_nil_of_length_eq_zero (by rw [r2.length, e]; rfl)
      subst e2
      exact k (.tup xs) M G _ H (Same.refl _) rl p1 (by rw [List.append_nil] at q; exact q)
    · have g := rl.free hp
      refine k _ M (upd G p (.tup (vs ++ ws))) _ _ (same_upd g) (rl.laid hp _) ?_ q
      unfold Rep
      exact ⟨p, _, rfl, .inl (.inl upd_same), (r1.append r2).mono (same_upd g)⟩
  · exact add_ok pins s σ H x y v u Q I rx ry ⟨M, G, dx, dy, Qd, rl, p1, p2, q, k⟩
/-! ### slices -/
def cutD (xs : List D) (lo hi : Option Int) : List D := (xs.drop (HT.sIx xs.length 0 lo)).take (HT.sIx xs.length xs.length hi - HT.sIx xs.length 0 lo)
theorem reps_cut {G : Hp} {xs : List D} {vs : List V} {lo hi : Option Int} (r : Reps K G xs vs) : Reps K G (cutD xs lo hi) (cutV vs lo hi) := by
  unfold cutD cutV
  rw [← r.length]
  exact (r.drop _).take _
def rSlc (d : D) (lo hi : Option Int) (M : Mm) (Q : DK) : Prop := match d with
  | .tup xs => Q (.tup (cutD xs lo hi)) M
  | .lst xs => Q (.lst (cutD xs lo hi)) M
  | .str z => z.length ≤ 16777216 ∧ Q (.str (cutS z lo hi)) M
  | _ => False
abbrev DPo := Ds → Mm → (Option Int → Mm → Prop) → Prop
def upP (K : PySem.W.Frag) (G0 : Hp) (dp : DPo) : TO := fun σ H Q => ∃ ρ M G Qd, Same K G0 G ∧ RelH K M G H ∧ Locs K ρ G σ ∧ dp ρ M Qd ∧ ∀ l M' G' H', Same K G G' → RelH K M' G' H' → Qd l M' → Q l H'
def dNoPart : DPo := fun _ M Q => Q none M
def dPart (e : DE) : DPo := fun ρ M Q => e ρ M fun d M1 => match d with | .int i => Q (some i) M1 | _ => False
theorem po_mono {e : Option Expr} {t t' : TO} (h : PO X e t) (i : ∀ σ H Q, t' σ H Q → t σ H Q) : PO X e t' := ⟨fun pins s σ H Q I q => h.run pins s σ H Q I (i σ H Q q)⟩
theorem dp_none : PO X none (upP K G0 dNoPart) := po_mono po_none fun σ H Q h => by
  obtain ⟨ρ, M, G, Qd, s0, rl, l, h, k⟩ := h
  exact k none M G H (Same.refl _) rl h
theorem dp_some (h : PE X e (up K G0 de)) : PO X (some e) (upP K G0 (dPart de)) := po_mono (po_some h) fun σ H Q h => by
  obtain ⟨ρ, M, G, Qd, s0, rl, l, h, k⟩ := h
  refine ⟨ρ, M, G, _, s0, rl, l, h, fun d M1 G1 v H1 s1 r1 p1 q1 => ?_⟩
  split at q1
  · rename_i i
    exact ⟨i, rep_int p1, k _ M1 G1 H1 s1 r1 q1⟩
  · exact q1.elim
def dSlc (e : DE) (lo hi : DPo) : DE := fun ρ M Q => e ρ M fun d M1 => lo ρ M1 fun l M2 => hi ρ M2 fun u M3 => rSlc d l u M3 Q
theorem sl_ok : SlR X (fun x lo hi H Q => ∃ M G d Qd, RelH X.K M G H ∧ Rep X.K G d x ∧ rSlc d lo hi M Qd ∧ ∀ d M' G' v H', Same X.K G G' → RelH X.K M' G' H' → Rep X.K G' d v → Qd d M' → Q v H') := by
  intro pins s σ H x v vl vu lo hi sl Q I rx hs pl pu h
  obtain ⟨M, G, d, Qd, rl, p, q, k⟩ := h
  cases d with
  | tup xs =>
    have p' := p
    unfold Rep at p'
    obtain ⟨a, vs, rfl, h1, r1⟩ := p'
    refine sl_tupA pins s σ H _ v vl vu lo hi sl Q I rx hs pl pu ⟨a, vs, rfl, sameT rl.sub h1, fun hw => ?_, fun _ l hl => ?_⟩
    · have e : cutD xs lo hi = xs := by
        unfold cutD
        rw [r1.length, hw.1, hw.2, List.drop_zero, Nat.sub_zero, ← r1.length, List.take_length]
      have q : Qd (.tup (cutD xs lo hi)) M := q
      rw [e] at q
      exact k _ M G _ H (Same.refl _) rl p q
    · have g := rl.free hl
      refine k _ M (upd G l (.tup (cutV vs lo hi))) _ _ (same_upd g) (rl.laid hl _) ?_ q
      unfold Rep
      exact ⟨l, _, rfl, .inl (.inl upd_same), (reps_cut r1).mono (same_upd g)⟩
  | lst xs =>
    have p' := p
    unfold Rep at p'
    obtain ⟨a, vs, rfl, h1, r1⟩ := p'
    refine sl_list pins s σ H _ v vl vu lo hi sl Q I rx hs pl pu ⟨a, vs, rfl, SqL.of (rl.sub0 _ _ h1), fun l hl => ?_⟩
    have g := rl.free hl
    refine k _ M (upd G l (.lst (cutV vs lo hi))) _ _ (same_upd g) (rl.laid hl _) ?_ q
    unfold Rep
    exact ⟨l, _, rfl, upd_same, (reps_cut r1).mono (same_upd g)⟩
  | str z =>
    have e := rep_str p
    subst e
    exact sl_str pins s σ H _ v vl vu lo hi sl Q I rx hs pl pu ⟨z, rfl, by rw [sizeLine_eq]; exact q.1, k _ M G _ H (Same.refl _) rl (flat_rep rfl) q.2⟩
  | _ => exact q.elim
theorem de_slc {lo hi : Option Expr} {dl dh : DPo} (he : PE X e (up X.K G0 de)) (hl : PO X lo (upP X.K G0 dl)) (hh : PO X hi (upP X.K G0 dh)) : PE X (.Subscript e (.Slice lo hi none p2) pos) (up X.K G0 (dSlc de dl dh)) :=
  pe_mono (pe_slice sl_ok he hl hh) fun σ H Q h => by
    obtain ⟨ρ, M, G, Qd, s0, rl, l, h, k⟩ := h
    refine ⟨ρ, M, G, _, s0, rl, l, h, fun d M1 G1 v H1 s1 r1 p1 q1 => ?_⟩
    refine ⟨ρ, M1, G1, _, s0.trans s1, r1, l.mono s1, q1, fun lo M2 G2 H2 s2 r2 q2 => ?_⟩
    refine ⟨ρ, M2, G2, _, (s0.trans s1).trans s2, r2, (l.mono s1).mono s2, q2, fun hi M3 G3 H3 s3 r3 q3 => ?_⟩
    exact ⟨M3, G3, d, Qd, r3, (p1.mono s2).mono s3, q3, fun d M' G' v H' s4 r4 p4 q4 => k d M' G' v H' (((s1.trans s2).trans s3).trans s4) r4 p4 q4⟩
/-! ### tuple(..), all, any -/
def cTuple : RDC := fun ds M Q => match ds with | [d] => (match items d with | some xs => Q (.tup xs) M | none => False) | _ => False
theorem tuple_ok : CallR X (.type "tuple") (upC X.K cTuple) := call_mono call_tuple_of fun xs H Q q => by
  obtain ⟨M, G, ds, Qd, rl, rp, q, k⟩ := q
  unfold cTuple at q
  split at q
  · rename_i d
    obtain ⟨v, e, p⟩ := reps1 rp
    subst e
    cases z : items d with
    | none => rw [z] at q; exact q.elim
    | some xs =>
      rw [z] at q
      obtain ⟨a, vs, ea, hq, r⟩ := items_rep z p
      subst ea
      refine ⟨a, vs, rfl, ?_⟩
      rcases hq with hq | hq
      · refine .inl ⟨rl.sub.seq hq, fun l hl => ?_⟩
        have g := rl.free hl
        refine k _ M (upd G l (.tup vs)) _ _ (same_upd g) (rl.laid hl _) ?_ q
        unfold Rep
        exact ⟨l, vs, rfl, .inl (.inl upd_same), r.mono (same_upd g)⟩
      · refine .inr ⟨sameT rl.sub hq, k _ M G _ H (Same.refl _) rl ?_ q⟩
        unfold Rep
        exact ⟨a, vs, rfl, hq, r⟩
  · exact q.elim
def blsOf : List D → Option (List Bool)
  | [] => some []
  | .bl b :: r => (blsOf r).map (b :: ·)
  | _ => none
theorem reps_bls {G : Hp} : ∀ {xs : List D} {bs : List Bool} {vs : List V}, blsOf xs = some bs → Reps K G xs vs → vs = bs.map V.bl
  | [], _, _, h, r => by cases h; unfold Reps at r; rw [r]; rfl
  | .bl b :: xs, bs, _, h, r => by
    unfold blsOf at h
    cases z : blsOf xs with
    | none => rw [z] at h; cases h
    | some l =>
      rw [z] at h
      cases h
      unfold Reps at r
      obtain ⟨v, ws, rfl, p, r⟩ := r
      rw [rep_bl p, reps_bls z r]
      rfl
  | .non :: _, _, _, h, _ => by simp [blsOf] at h
  | .int _ :: _, _, _, h, _ => by simp [blsOf] at h
  | .str _ :: _, _, _, h, _ => by simp [blsOf] at h
  | .ref _ :: _, _, _, h, _ => by simp [blsOf] at h
  | .ty _ :: _, _, _, h, _ => by simp [blsOf] at h
  | .tup _ :: _, _, _, h, _ => by simp [blsOf] at h
  | .lst _ :: _, _, _, h, _ => by simp [blsOf] at h
  | .scr _ :: _, _, _, h, _ => by simp [blsOf] at h
  | .dic _ :: _, _, _, h, _ => by simp [blsOf] at h
def cAllB (f : List Bool → Bool) : RDC := fun ds M Q => match ds with | [.lst xs] => (match blsOf xs with | some bs => Q (.bl (f bs)) M | none => False) | _ => False
theorem bls_in {xs : List V} {H : Hp} {Q : VK} {f : List Bool → Bool} (q : upC X.K (cAllB f) xs H Q) : ∃ (a : Addr) (bs : List Bool), xs = [V.ref a] ∧ SqL X.K H a (bs.map V.bl) ∧ Q (.bl (f bs)) H := by
  obtain ⟨M, G, ds, Qd, rl, rp, q, k⟩ := q
  unfold cAllB at q
  split at q
  · rename_i l
    obtain ⟨v, e, p⟩ := reps1 rp
    subst e
    cases z : blsOf l with
    | none => rw [z] at q; exact q.elim
    | some bs =>
      rw [z] at q
      unfold Rep at p
      obtain ⟨a, vs, rfl, h, r⟩ := p
      have e := reps_bls z r
      subst e
      exact ⟨a, bs, rfl, SqL.of (rl.sub0 _ _ h), k _ M G _ H (Same.refl _) rl (flat_rep rfl) q⟩
  · exact q.elim
theorem all_ok (hc : X.calm = true) : CallR X (.builtin "all") (upC X.K (cAllB fun bs => bs.all id)) := call_mono (cr_all hc) fun _ _ _ q => bls_in q
theorem any_ok (hc : X.calm = true) : CallR X (.builtin "any") (upC X.K (cAllB fun bs => bs.any id)) := call_mono (cr_any hc) fun _ _ _ q => bls_in q
end
end Dq
/-! The deep layer, part 13: lambdas without parameters, handed to a def that calls them. -/
namespace Dq
open PySem PySem.Spec PyProof.Rows L2
open LamX (TabS TabB CodeO LamS lamEnv lamCx)
section
variable {X : Cx} {pins : List (Addr × Obj)} {σ : St} {H : Hp} {s : Shared}
theorem snoc3 (ps : Array Value) (x y z : Value) : (ps ++ #[x, y, z]).toList = ps.toList ++ [x, y, z] := by simp
/-- a lambda is made; all that is told stays, but for the table at P -/
theorem lam_new {c P : Addr} {params : Arguments} {body : Expr} {scope : Scope} {pos : Pos} {E : Value → Shared → Prop} {R : Value → Shared → Prop} (I : Inv X pins σ H s) (tb : TabB X.base X.mg c P) (hcd : X.env.code = .ref c) (hT : TabS H P (X.env.qual ++ "<lambda>"))
    (nodef : defaultsOf params X.env = ([], [])) (fr : ∀ y ∈ scope.names, y.2 = .free → ∃ d, X.env.cells.lookup y.1 = some d)
    (k : ∀ (f d : Addr) (pm ct : Value) (H1 : Hp) (s1 : Shared), Inv X pins σ H1 s1 → (∀ b u, b ≠ P → H b = some u → H1 b = some u) → TabS H1 P (X.env.qual ++ "<lambda>") →
      s1.heap.get? f = some (PySem.W.kla_obj "<lambda>" (X.env.qual ++ "<lambda>") params body scope (cloFrom X.env.cells scope.names []) pm d ct) → H1 f = none → f ∉ frs X.stack → H1 d = some (CodeO d (X.env.qual ++ "<lambda>")) → R (.ref f) s1) :
    wpAny (model X.prog X.w) X.A (eval (.Lambda params body scope pos) X.env) R E s := by
  obtain ⟨ps, hP, tr, names⟩ := hT
  have heapP : s.heap.get? P = some { cls := .none, data := .fields ps } := I.hok P _ hP
  have bm := tb.bm.keeps I.bk
  have off : ∀ f, s.heap.objs.size ≤ f → f ∉ frs X.stack := by
    intro f hf mem
    rcases List.mem_cons.mp (I.stkSub _ mem) with e | e
    · have small := I.lt
      rw [← e] at small
      exact absurd (Nat.lt_of_lt_of_le small hf) (Nat.lt_irrefl _)
    · exact I.nofs hf e
  refine PySem.W.kla_eval nodef ?_
  cases found : codeAmong pos ps.toList with
  | some cv =>
    obtain ⟨d, e, cd⟩ := names pos cv found
    subst e
    refine PySem.W.kla_makeFunctionHit (mg := X.mg) (c := c) (P := P) (ps := ps) (closure_ok fr) I.ok.glob (I.mod.glob.keeps I.bk) hcd (tb.code.keeps I.bk) heapP tr found bm ?_
    intro ct h2 tk old big
    exact k _ d ((X.mg "__name__").getD .none) ct H _ (I.kept (t' := tk) fun b o z => Heap.get?_push_of_some _ (old b o z)) (fun _ _ _ z => z) ⟨ps, hP, tr, names⟩ (Heap.get?_push_size _ rfl) (I.hok.fresh big) (off _ big) cd
  | none =>
    refine PySem.W.kla_makeFunction (mg := X.mg) (c := c) (P := P) (ps := ps) (closure_ok fr) I.ok.glob (I.mod.glob.keeps I.bk) hcd (tb.code.keeps I.bk) heapP tr found tb.gP bm ?_
    rintro d ct h2 tk old ge lt ⟨d2, od, vs, t, e2, ho, hdat, hnm⟩ table
    cases e2
    have dn : H d = none := I.hok.fresh ge
    have big : s.heap.objs.size ≤ h2.objs.size := by omega
    have keep : ∀ b u, b ≠ P → H b = some u → upd (upd H P (.tbl (ps ++ #[rawInt pos.line, rawInt pos.col, .ref d]))) d (CodeO d (X.env.qual ++ "<lambda>")) b = some u := by
      intro b u nb z
      rw [upd_ne (ne_of_none z dn), upd_ne nb]
      exact z
    have J := LamX.inv_table (t' := tk) (more := #[rawInt pos.line, rawInt pos.col, .ref d]) (h' := h2.push (PySem.W.kla_obj "<lambda>" (X.env.qual ++ "<lambda>") params body scope (cloFrom X.env.cells scope.names []) ((X.mg "__name__").getD .none) d ct)) I hP
      (fun b o nb z => Heap.get?_push_of_some _ (old b o nb z)) (Heap.get?_push_of_some _ table) ge ⟨od, vs, t, Heap.get?_push_of_some _ ho, hdat, hnm⟩
    have notP : ∀ b q, H b = some (CodeO b q) → b ≠ P := fun b q z e => by
      rw [e, hP] at z
      exact LamX.codeO_ne ps (Option.some.inj z).symm
    refine k h2.objs.size d ((X.mg "__name__").getD .none) ct _ _ J keep ⟨_, by rw [upd_ne (ne_of_none hP dn), upd_same], by rw [snoc3]; exact PySem.TriplesOk_snoc _ _ _ _ tr, fun p2 cv among => ?_⟩ (Heap.get?_push_size _ rfl) ?_ (off _ big) upd_same
    · rw [snoc3] at among
      rcases LamX.among_app _ tr among with z | z
      · obtain ⟨d0, e1, e2⟩ := names p2 cv z
        exact ⟨d0, e1, keep _ _ (notP _ _ e2) e2⟩
      · exact ⟨d, z, upd_same⟩
    · rw [upd_ne (Nat.ne_of_gt lt), upd_ne (Nat.ne_of_gt (Nat.lt_of_lt_of_le (Heap.lt_size heapP) big))]
      exact I.hok.fresh big
/-- the part that never changes, after a lambda was made -/
theorem rel_lam {K : PySem.W.Frag} {M : Mm} {G H1 : Hp} {P : Addr} {q : Str} (r : RelH K M G H) (hq : (tabList K).lookup P = some q) (keep : ∀ b u, b ≠ P → H b = some u → H1 b = some u) (hT : TabS H1 P q) : ∃ G1, Same K G G1 ∧ RelH K M G1 H1 ∧ TabS G1 P q ∧ ∀ d, H1 d = some (CodeO d q) → G1 d = some (CodeO d q) := by
  have hP := r.tabs P q hq
  obtain ⟨ps0, gp, _⟩ := id hP
  have hp := r.sub0 _ _ gp
  have mP : ∀ b o, M b = some o → b ≠ P := fun b o e z => by
    have := (r.mem b o e).1
    rw [z, gp] at this
    cases this
  have same : ∀ b o, M b = some o → H1 b = H b := fun b o e => by
    obtain ⟨u, eu⟩ := (r.mem b o e).2.there
    rw [eu]
    exact keep b u (mP b o e) eu
  have cm : ∀ d, H1 d = some (CodeO d q) → M d = none := fun d e => by
    cases z : M d with
    | none => rfl
    | some o =>
      rw [same d o z] at e
      have w := (r.mem d o z).2
      cases o with
      | lst xs => obtain ⟨vs, e1, _⟩ := w; rw [e] at e1; unfold CodeO at e1; cases e1
      | dic xs => obtain ⟨vs, e1, _⟩ := w; rw [e] at e1; unfold CodeO at e1; cases e1
  have gm : ∀ b u, G b = some u → M b = none := fun b u e => by
    cases z : M b with
    | none => rfl
    | some o => have := (r.mem b o z).1; rw [e] at this; cases this
  have at1 : ∀ b, M b = none → (fun b => if (M b).isSome = true then none else H1 b : Hp) b = H1 b := fun b e => by
    show (if (M b).isSome = true then none else H1 b) = H1 b
    rw [e]
    rfl
  have tabAt : ∀ (Pz : Addr) (qz : Str), TabS G Pz qz → Pz ≠ P → TabS (fun b => if (M b).isSome = true then none else H1 b) Pz qz := fun Pz qz ⟨ps, e1, e2, e3⟩ ne => by
    refine ⟨ps, by rw [at1 _ (gm _ _ e1)]; exact keep _ _ ne (r.sub0 _ _ e1), e2, fun pos cv am => ?_⟩
    obtain ⟨d, f1, f2⟩ := e3 pos cv am
    refine ⟨d, f1, ?_⟩
    rw [at1 _ (gm _ _ f2)]
    refine keep _ _ (fun z => ?_) (r.sub0 _ _ f2)
    rw [z, gp] at f2
    exact LamX.codeO_ne ps0 (Option.some.inj f2).symm
  have tabP : TabS (fun b => if (M b).isSome = true then none else H1 b) P q := by
    obtain ⟨ps, e1, e2, e3⟩ := hT
    refine ⟨ps, by rw [at1 _ (gm _ _ gp)]; exact e1, e2, fun pos cv am => ?_⟩
    obtain ⟨d, f1, f2⟩ := e3 pos cv am
    exact ⟨d, f1, by rw [at1 _ (cm d f2)]; exact f2⟩
  have sG : Same K G (fun b => if (M b).isSome = true then none else H1 b) := by
    refine ⟨fun b u e n => ?_, fun Pz qz lk hz => ?_⟩
    · exact (at1 _ (gm _ _ e)).trans (keep _ _ (fun z => n ps0 (Option.some.inj (e.symm.trans (by rw [z]; exact gp)))) (r.sub0 _ _ e))
    · by_cases e : Pz = P
      · subst e
        rw [hq] at lk
        cases lk
        exact tabP
      · exact tabAt Pz qz hz e
  refine ⟨_, sG, ⟨fun b u e => ?_, fun Pz qz lk => sG.tab Pz qz lk (r.tabs Pz qz lk), fun b o e => ⟨?_, (r.mem b o e).2.keep sG (same b o e)⟩⟩, tabP, fun d e => (at1 _ (cm d e)).trans e⟩
  · have e' : (if (M b).isSome = true then none else H1 b) = some u := e
    split at e'
    · cases e'
    · exact e'
  · show (if (M b).isSome = true then none else H1 b) = none
    rw [e]
    rfl
/-! ### what such a lambda does, read at its maker's slots -/
/-- with the wanted exception -/
abbrev Lam := DX → Mm → DK → Prop
def tLamB (K : PySem.W.Frag) (G0 : Hp) (de : DXS → DE) (E : XK) : TE := fun σ H Q => ∃ (ρ : Ds) (M : Mm) (G : Hp) (Qd : DK) (Ed : DX), Same K G0 G ∧ RelH K M G H ∧ Locs K ρ G σ ∧ de (fun C fs _ M' => Ed C fs M') ρ M Qd ∧ (∀ d M' G' v H', Same K G G' → RelH K M' G' H' → Rep K G' d v → Qd d M' → Q v H') ∧
  (∀ C fs M' G' d H', Same K G G' → RelH K M' G' H' → XdR K G' H' d fs → Ed C fs M' → E (.ref C) d H')
section
variable {Ng : List Str} {qg : Str} {sg : Scope} {g f c' : Addr} {cdg pm ctv : Value} {params : Arguments} {body : Expr} {scope : Scope} {k i : Nat} {a : Str} {pn : List (Addr × Obj)} {xe : Value → Shared → Prop} {W : WX} {p1 p2 : Pos}
/-- a() within the def that got it -/
theorem act_d {tb : XK → TE} {Eg : XK} (I : Inv X pins σ H s) (L : LamS X.env.scope scope) (hf : s.heap.get? f = some (PySem.W.kla_obj "<lambda>" (X.env.qual ++ "<lambda>") params body scope (cloFrom X.env.cells scope.names []) pm c' ctv)) (hfn : H f = none) (hfr : f ∉ frs X.stack)
    (nobind : bindArgs (PySem.W.kla_fn "<lambda>" (X.env.qual ++ "<lambda>") params body scope (cloFrom X.env.cells scope.names []) pm (.ref c') ctv) ⟨[], []⟩ = pure []) (hr : RoomG (k + 1) (X.A.deeper (envOfC qg sg s.heap.objs.size g cdg)))
    (tk : Takes ((cxOf (L2.CX X.prog X.w) X.prog X.w X.K X.mg X.base Ng qg sg g cdg X.A X.stack s H Eg).tr pn xe) W)
    (hbody : ∀ (E : XK) (A : Around) (outer : List Env) (s : Shared) (H : Hp), RoomG k (A.deeper (lamEnv X scope s.heap.objs.size f c')) → PE (lamCx X A outer s H E scope f c') body (tb E))
    (hN : Ng[i]? = some a) (hv : Vis sg a) (hd : (a == ("__debug__" : Str)) = false := by decide) (hcd : (a == ("__classdict__" : Str)) = false := by decide) :
    PE ((cxOf (L2.CX X.prog X.w) X.prog X.w X.K X.mg X.base Ng qg sg g cdg X.A X.stack s H Eg).tr pn xe) (.Call (.Name a p1) [] [] p2)
      (fun σZ HZ Q => σZ[i]? = some (some (.ref f)) ∧ HZ c' = some (CodeO c' (X.env.qual ++ "<lambda>")) ∧ tb (fun cls d H' => W cls d σZ H') σ HZ Q) := by
  refine ⟨fun pz sz σz hz Q J ⟨at_, code, read⟩ => ?_⟩
  refine wpAny_Call_Name_kw (thn ((pe_var (pos := p1) (i := i) hN hv hd hcd).run pz sz σz hz (fun v H1 => v = .ref f ∧ H1 = hz) J ⟨.ref f, at_, rfl, rfl⟩) ?_)
  rintro u s1 ⟨v, H1, J1, rv, ev, eH⟩
  subst ev
  rw [eH] at J1
  obtain rfl : u = Value.ref f := rv
  have lamObj := J1.base.keep f _ hf hfn hfr fun z => nomatch (show f ∈ ([] : List Addr) from z)
  refine PySem.W.callWith_F0 ⟨_, _, _, _, lamObj⟩ ?_
  obtain ⟨⟨oc, vs, t, hoc, hdc, hvc⟩, _, _⟩ := J1.hok c' _ code
  have run : codeAny (model X.prog X.w) (X.A.deeper (envOfC qg sg s.heap.objs.size g cdg)) (.call (.ref f) ⟨[], []⟩) (CR (L2.CX X.prog X.w) (envOfC qg sg s.heap.objs.size g cdg :: X.stack) X.prog X.w hz s1 Q fun cls d H' => W cls d σz H') s1 := by
    refine PySem.W.kla_callFunE hr.room.depth lamObj rfl L.co L.gen rfl ⟨c', oc, vs, t, rfl, hoc, hdc, hvc⟩ ?_
    rw [nobind]
    refine wpAny_pure (wpAny_newFunctionEnv (fun y hy => (L.own y hy).2) (fun y hy => absurd hy (by simp)) (fun h1 ns sb => ⟨J1.nolimit.fresh _ sb, ?_⟩) L.kind)
    show codeAny _ _ (.expr body (lamEnv X scope s1.heap.objs.size f c')) _ _
    have old : ∀ b o, s1.heap.get? b = some o → h1.get? b = some o := fun b o z => sb.extBut b o (Nat.ne_of_lt (Heap.lt_size z)) (Heap.get?_push_of_some _ z)
    have I0 := LamX.lam_start2 (E := fun cls d H' => W cls d σz H') (f := f) (c' := c') (tk := s1.toks + ([] : List (Str × Value)).length) I L J1.env0 hr.room.hd J1.base ns old
    refine PySem.W.kla_codeExpr (wpAny_mono ((hbody _ _ _ s1 hz (hr.deeper _)).run [] _ _ hz Q I0 read) (fun v s' hq => ?_) fun e s' z => z)
    obtain ⟨w', H', I', rv, q⟩ := hq
    exact ⟨w', H', I'.os, I'.bare, I'.base, I'.hok, rv, q⟩
  refine wpAny_call (codeAny_mono run fun res s2 h => ?_)
  match res, h with
  | .error e, h => exact tk e s2 (XE.of_call J1 (fun _ _ _ z => z) h)
  | .ok (.ret u), h => exact J1.after h
end
end
end Dq
/-! The deep layer, part 14: x(lambda: e), x a def that calls what it gets. -/
namespace Dq
open PySem PySem.Spec PyProof.Rows L2
open LamX (TabS TabB CodeO LamS lamEnv lamCx)
/-- a(), a the slot i -/
def dAct (i : Nat) (f : Addr) (lam : Lam) (Wd : DXS) : DE := fun ρ M Q => slot ρ i = some (.ref f) ∧ lam (fun C fs M' => Wd C fs ρ M') M Q
/-- the promise of a def that calls its argument -/
abbrev LSp := Lam → Mm → DK → DX → Prop
structure FnL (P : Program) (w : World) (K : PySem.W.Frag) (mg : Str → Option Value) (base : Heap) (k : Nat) (g : Addr) (fd : FuncData) (a : Str) (sp : LSp) : Prop where
  run : ∀ (A : Around) (outer : List Env) (s : Shared) (H : Hp) (args : Args) (f : Addr) (lam : Lam) (M : Mm) (G : Hp) (Qd : DK) (Ed : DX) (Q : VK) (E : XK), RoomG k A → Env0 P w K mg base A outer s H → BindsTo s fd args [(a, .ref f)] → RelH K M G H → sp lam M Qd Ed →
    (∀ d M' G' v H', Same K G G' → RelH K M' G' H' → Rep K G' d v → Qd d M' → Q v H') → (∀ C fs M' G' d H', Same K G G' → RelH K M' G' H' → XdR K G' H' d fs → Ed C fs M' → E (.ref C) d H') →
    (∀ (N : List Str) (qual : Str) (sg : Scope) (cdg : Value) (Eg : XK) (pn : List (Addr × Obj)) (xe : Value → Shared → Prop) (Wd : DXS) (G1 : Hp) (p1 p2 : Pos), Same K G G1 → N[0]? = some a → Vis sg a → Takes ((cxOf (L2.CX P w) P w K mg base N qual sg g cdg A outer s H Eg).tr pn xe) (upW K G1 Wd) →
      PE ((cxOf (L2.CX P w) P w K mg base N qual sg g cdg A outer s H Eg).tr pn xe) (.Call (.Name a p1) [] [] p2) (up K G1 (dAct 0 f lam Wd))) →
    codeAny (model P w) A (.call (.ref g) args) (CR (L2.CX P w) outer P w H s Q E) s
theorem fnL_of {P : Program} {w : World} {K : PySem.W.Frag} {mg : Str → Option Value} {base : Heap} {k : Nat} {x qual a : Str} {st : Stmt} {g : Addr} {fd : FuncData} {N : List Str} {sp : LSp} (F : Fun K x qual st g fd) (S : FnScope N [a] (defScope st)) (h0 : N[0]? = some a) (hv : Vis (defScope st) a) (B : Addr → Lam → DXS → DS)
    (der : ∀ (cdv : Value) (A : Around) (outer : List Env) (s : Shared) (H : Hp) (E : XK) (G0 : Hp) (Wd : DXS) (f : Addr) (lam : Lam), RoomG k (A.deeper (envOfC qual (defScope st) s.heap.objs.size g cdv)) →
      Takes (cxOf (L2.CX P w) P w K mg base N qual (defScope st) g cdv A outer s H E) (upW K G0 Wd) → PassesOwn (model P w) (cxOf (L2.CX P w) P w K mg base N qual (defScope st) g cdv A outer s H E).A (cxOf (L2.CX P w) P w K mg base N qual (defScope st) g cdv A outer s H E).env (cxOf (L2.CX P w) P w K mg base N qual (defScope st) g cdv A outer s H E).xe →
      (∀ (pn : List (Addr × Obj)) (xe : Value → Shared → Prop) (Wd : DXS) (G1 : Hp) (p1 p2 : Pos), Same K G0 G1 → Takes ((cxOf (L2.CX P w) P w K mg base N qual (defScope st) g cdv A outer s H E).tr pn xe) (upW K G1 Wd) →
        PE ((cxOf (L2.CX P w) P w K mg base N qual (defScope st) g cdv A outer s H E).tr pn xe) (.Call (.Name a p1) [] [] p2) (up K G1 (dAct 0 f lam Wd))) →
      PSs (cxOf (L2.CX P w) P w K mg base N qual (defScope st) g cdv A outer s H E) (defBody st) (upS K G0 (B f lam Wd)))
    (pure : ∀ f lam M Q E, sp lam M Q E → B f lam (fun C fs _ M' => E C fs M') { nx := fun _ M' => Q .non M', rt := Q } (dstart N [.ref f]) M) : FnL P w K mg base (k + 1) g fd a sp := by
  obtain ⟨oc, od, kV, doc, pm, an, cdv, ct, osl, rfl, lk, hcd⟩ := F.ex
  refine ⟨?_⟩
  intro A outer s H args f lam M G Qd Ed Q E hr e0 hb rl hsp kq ke act
  have rp : Reps K G [.ref f] [.ref f] := .cons (flat_rep rfl) .nil
  have rv : Vals [V.ref f] [Value.ref f] := .cons rfl .nil
  have hin : K.In s.heap := e0.mod.kin.keeps fun b o z => (e0.bs b o z).1
  have lim := e0.mod.nolimit.keeps (h' := s.heap) fun b o z => (e0.bs b o z).1
  have knd : ∀ y ∈ ([a] : List Str).zip [Value.ref f], (defScope st).names.lookup y.1 = some .local ∨ ((defScope st).names.lookup y.1 = some .cell ∧ ((cellsFrom (s.heap.objs.size + 1) (defScope st).names []).lookup y.1).isSome = true) := by
    rintro ⟨n, v⟩ hy
    exact (S.par n (List.of_mem_zip hy).1).imp (fun q => q) fun q => ⟨q, PySem.W.cellsFrom_some _ _ _ (.inl q)⟩
  refine codeAny_call_function hr.room.depth (hin _ _ lk) rfl S.co S.gen rfl (PySem.W.codeRec_of hin hcd) (hb _ _ _ _ ?_)
  refine wpAny_newFunctionEnv_cells S.kind knd fun env he s1 xx => ?_
  subst he
  refine ⟨lim.keeps xx.toInCall.keep, codeAny_func ?_⟩
  have I := inv_start (CX := L2.CX P w) (E := E) (P := P) (w := w) (K := K) (mg := mg) (base := base) S hr.room.hd e0 (vs := [.ref f]) rfl rv xx
  have tk := takes_of (X := cxOf (L2.CX P w) P w K mg base N qual (defScope st) g cdv A outer s H E) (E := E) rfl rfl rfl rfl
  have tk2 : Takes (cxOf (L2.CX P w) P w K mg base N qual (defScope st) g cdv A outer s H E) (upW K G fun C fs _ M' => Ed C fs M') := tk.imp fun c d σ H' ⟨C, fs, ρ, M', G', s1, r1, _, e1, x1, q1⟩ => by
    subst e1
    exact ke C fs M' G' d H' s1 r1 x1 q1
  refine wpAny_mono ((der cdv A outer s H E G _ f lam (hr.deeper _) tk2 (passes_of rfl) (fun pn xe Wd G1 p1 p2 sG tk' => act N qual (defScope st) cdv E pn xe Wd G1 p1 p2 sG h0 hv tk')).run [] s1 _ H { nx := fun _ H' => Q .non H', rt := Q } I ⟨dstart N [.ref f], M, G, _, Same.refl _, rl, locs_start rp, pure _ _ _ _ _ hsp, ?_, ?_, ?_, ?_⟩) (fun fl s' hs => ?_) fun e s' hs => hs
  · exact fun ρ' M' G' σ' H' s r l q => kq .non M' G' .non H' s r (flat_rep rfl) q
  · exact fun d M' G' v H' s r p q => kq d M' G' v H' s r p q
  · exact fun _ _ _ _ _ _ _ _ q => q
  · exact fun _ _ _ _ _ _ _ _ q => q
  · cases fl with
    | ret u =>
      obtain ⟨v, σ', H', J, rv', q⟩ := hs
      exact ⟨v, H', J.os, J.bare, J.base, J.hok, rv', q⟩
    | next =>
      obtain ⟨σ', H', J, q⟩ := hs
      exact ⟨.non, H', J.os, J.bare, J.base, J.hok, rfl, q⟩
    | brk => obtain ⟨_, _, _, q⟩ := hs; exact q.elim
    | cont => obtain ⟨_, _, _, q⟩ := hs; exact q.elim
section
variable {X : Cx} {G0 : Hp} {c P g : Addr} {fd : FuncData} {a x : Str} {sp : LSp} {k j : Nat} {params : Arguments} {body : Expr} {scope : Scope} {p lpos pos : Pos} {de : DXS → DE} {Wd : DXS}
theorem lam_body (der : ∀ (A : Around) (outer : List Env) (s : Shared) (H : Hp) (E : XK) (f c' : Addr) (G0 : Hp) (Wd : DXS), RoomG j (A.deeper (lamEnv X scope s.heap.objs.size f c')) → Takes (lamCx X A outer s H E scope f c') (upW X.K G0 Wd) → PE (lamCx X A outer s H E scope f c') body (up X.K G0 (de Wd)))
    (G0 : Hp) (E : XK) (A : Around) (outer : List Env) (s : Shared) (H : Hp) (f c' : Addr) (hr : RoomG j (A.deeper (lamEnv X scope s.heap.objs.size f c'))) : PE (lamCx X A outer s H E scope f c') body (tLamB X.K G0 de E) := by
  refine ⟨fun pins s' σ H' Q I h => ?_⟩
  obtain ⟨ρ, M, G, Qd, Ed, s0, rl, l, h, kq, ke⟩ := h
  have tk := takes_of (X := lamCx X A outer s H E scope f c') (E := E) rfl rfl rfl rfl
  have tk2 : Takes (lamCx X A outer s H E scope f c') (upW X.K G fun C fs _ M' => Ed C fs M') := tk.imp fun c d σ H' ⟨C, fs, ρ, M', G', s1, r1, _, e1, x1, q1⟩ => by
    subst e1
    exact ke C fs M' G' d H' s1 r1 x1 q1
  exact (der A outer s H E f c' G _ hr tk2).run pins s' σ H' Q I ⟨ρ, M, G, Qd, Same.refl _, rl, l, h, kq⟩
/-- x(lambda: e) -/
def dLam (sp : LSp) (de : DXS → DE) (Wd : DXS) : DE := fun ρ M Q => sp (fun Ed M' Q' => de (fun C fs _ M'' => Ed C fs M'') ρ M' Q') M Q fun C fs M' => Wd C fs ρ M'
theorem de_lam (F : FnL X.prog X.w X.K X.mg X.base k g fd a sp) (hr : RoomG k X.A) (hr2 : RoomG (j + 2) X.A) (hg : Gl X x) (hm : X.mg x = some (.ref g)) (hk : PySem.W.keepIn X.K (.ref g) = true) (hb : Binds X.K fd [a] []) (tk : Takes X (upW X.K G0 Wd))
    (tb : TabB X.base X.mg c P) (hcode : X.env.code = .ref c) (hq : (tabList X.K).lookup P = some (X.env.qual ++ "<lambda>")) (L : LamS X.env.scope scope) (hdef : defaultsOf params X.env = ([], []))
    (nobind : ∀ (q : Str) (cl : List (Str × Addr)) (pm cv ctv : Value), bindArgs (PySem.W.kla_fn "<lambda>" q params body scope cl pm cv ctv) ⟨[], []⟩ = pure [])
    (der : ∀ (A : Around) (outer : List Env) (s : Shared) (H : Hp) (E : XK) (f c' : Addr) (G0 : Hp) (Wd : DXS), RoomG j (A.deeper (lamEnv X scope s.heap.objs.size f c')) → Takes (lamCx X A outer s H E scope f c') (upW X.K G0 Wd) → PE (lamCx X A outer s H E scope f c') body (up X.K G0 (de Wd)))
    (hdb : (x == ("__debug__" : Str)) = false := by decide) (hd : (a == ("__debug__" : Str)) = false := by decide) (hcd : (a == ("__classdict__" : Str)) = false := by decide) :
    PE X (.Call (.Name x p) [.Lambda params body scope lpos] [] pos) (up X.K G0 (dLam sp de Wd)) := by
  refine ⟨fun pins s σ H Q I h => ?_⟩
  obtain ⟨ρ, M, G, Qd, s0, rl, l, h, kk⟩ := h
  have tG := rl.tabs P _ hq
  refine wpAny_Call_Name_kw (ld_glob I hg hm ?_ hdb)
  refine PySem.W.callWith_K (h₀ := X.base) I.ok.mod.kin hk ?_ (by rfl) (by rfl)
  show wpAny _ _ (spliced ((false, eval (.Lambda params body scope lpos) X.env) :: backTo pos (starEach [] X.env))) _ _ s
  refine Calls.spliced_cons (lam_new I tb hcode (tG.ext rl.sub0) hdef (L.has I.ok) fun f d pm ct H1 s1 I1 keep T1 hf hfn hfr hco => ?_)
  obtain ⟨G1, sG, r1, t1, cG⟩ := rel_lam rl hq keep T1
  refine Calls.spliced_nil ⟨I1.kIn, ?_⟩
  refine wpAny_call (codeAny_mono (F.run X.A X.stack s1 H1 ⟨[.ref f], []⟩ f (fun Ed M' Q' => de (fun C fs _ M'' => Ed C fs M'') ρ M' Q') M G1 Qd _ Q (fun cls d H' => upW X.K G0 Wd cls d σ H') hr I1.env0 (hb s1 [.ref f] I1.kIn rfl) r1 h ?_ ?_ ?_) fun res s2 hq2 => ?_)
  · exact fun e M' G' v H' s2 r2 p2 q2 => kk e M' G' v H' (sG.trans s2) r2 p2 q2
  · exact fun C fs M' G' e H' s2 r2 x2 q2 => ⟨C, fs, ρ, M', G', (s0.trans sG).trans s2, r2, (l.mono sG).mono s2, rfl, x2, q2⟩
  · intro N qual sg cdg Eg pn xe Wz G2 p1 p2 sGG hN hv tkz
    refine pe_mono (act_d (tb := tLamB X.K G1 de) I1 L hf hfn hfr (nobind _ _ _ _ _) (hr2.deeper _) tkz (fun E A outer s H hr' => lam_body der G1 E A outer s H f d hr') hN hv hd hcd) fun σz hz Qz hh => ?_
    obtain ⟨ρz, Mz, Gz, Qd', sz, rz, lz, ⟨hs, hl⟩, kz⟩ := hh
    obtain ⟨v, e1, pv⟩ := lz.loc 0 _ (slot_some hs)
    rw [rep_ref pv] at e1
    refine ⟨e1, rz.sub0 _ _ ((sGG.trans sz).base _ _ (cG d hco) fun ps z => LamX.codeO_ne ps z), ρ, Mz, Gz, Qd', fun C fs M' => Wz C fs ρz M', sGG.trans sz, rz, (l.mono sG).mono (sGG.trans sz), hl, kz, ?_⟩
    exact fun C fs M' G' e H' s2 r2 x2 q2 => ⟨C, fs, ρz, M', G', sz.trans s2, r2, lz.mono s2, rfl, x2, q2⟩
  · match res, hq2 with
    | .error e, h2 => exact tk e s2 (XE.of_call I1 (fun _ _ _ z => z) h2)
    | .ok (.ret u), h2 => exact I1.after h2
end
end Dq
/-! The deep layer, part 15: defs that make lambdas, defs that call them, packed. -/
namespace Dq
open PySem PySem.Spec PyProof.Rows L2
open PySem.W (keepIn)
open LamX (TabS TabB CodeO LamS lamEnv lamCx)
section
variable {P : Program} {w : World} {K : PySem.W.Frag} {mg : Str → Option Value} {base : Heap} {ps : List Str} {x qual a : Str} {k j : Nat} {sp : DSp} {lsp : LSp} {st : Stmt}
/-- a def that calls what it gets -/
def FdL (P : Program) (w : World) (K : PySem.W.Frag) (mg : Str → Option Value) (base : Heap) (k : Nat) (x a : Str) (sp : LSp) : Prop :=
  ∃ g fd, mg x = some (.ref g) ∧ keepIn K (.ref g) = true ∧ Binds K fd [a] [] ∧ FnL P w K mg base k g fd a sp
theorem Dn.okL (D : Dn K mg x qual st [a]) (h : ∀ f fd, Fun K x qual st f fd → FnL P w K mg base k f fd a lsp) : FdL P w K mg base k x a lsp := by
  obtain ⟨f, fd, h1, h2, h3⟩ := D
  exact ⟨f, fd, h1, h2.kp, h3, h f fd h2⟩
/-- a def in which lambdas are made: its code object, the table -/
def Lm (K : PySem.W.Frag) (mg : Str → Option Value) (base : Heap) (f : Addr) (qual : Str) : Prop := ∃ c T, (∀ oc od fd sl, K.lookup f = some ⟨oc, od, .func fd, sl⟩ → fd.code = .ref c) ∧ TabB base mg c T ∧ (tabList K).lookup T = some (qual ++ ".<locals>." ++ "<lambda>")
def lamChk (K : PySem.W.Frag) (f : Addr) (qual : Str) : Bool := (tabFull K).any fun e => decide (e.2.a = f) && (decide ((tabList K).lookup e.1 = some (qual ++ ".<locals>." ++ "<lambda>")) && (match K.lookup f with | some ⟨_, _, .func fd, _⟩ => decide (fd.code = .ref e.2.c) | _ => false))
theorem lm_of {f : Addr} (h : lamChk K f qual = true) (tb : ∀ e ∈ tabFull K, TabB base mg e.2.c e.1) : Lm K mg base f qual := by
  obtain ⟨e, he, h⟩ := List.any_eq_true.mp h
  simp only [Bool.and_eq_true, decide_eq_true_eq] at h
  obtain ⟨_, h2, h3⟩ := h
  refine ⟨e.2.c, e.1, fun oc od fd sl lk => ?_, tb e he, h2⟩
  rw [lk] at h3
  exact of_decide_eq_true h3
def DnL (K : PySem.W.Frag) (mg : Str → Option Value) (base : Heap) (x qual : Str) (st : Stmt) (ps : List Str) : Prop := ∃ f fd, mg x = some (.ref f) ∧ Fun K x qual st f fd ∧ Binds K fd ps [] ∧ Lm K mg base f qual
theorem DnL.ok (D : DnL K mg base x qual st ps) (h : ∀ f fd c T, Fun K x qual st f fd → fd.code = .ref c → TabB base mg c T → (tabList K).lookup T = some (qual ++ ".<locals>." ++ "<lambda>") → FnD P w K mg base k f fd ps sp) : Fd P w K mg base k x ps sp := by
  obtain ⟨f, fd, h1, h2, h3, c, T, h4, h5, h6⟩ := D
  obtain ⟨oc, od, kV, doc, pm, an, cdv, ct, osl, e, lk, _⟩ := id h2.ex
  exact ⟨f, fd, h1, h2.kp, h3, h f fd c T h2 (h4 _ _ _ _ lk) h5 h6⟩
end
section
variable {X : Cx} {G0 : Hp} {c P g : Addr} {a x : Str} {sp : LSp} {k j : Nat} {params : Arguments} {body : Expr} {scope : Scope} {p lpos pos : Pos} {de : DXS → DE} {Wd : DXS}
theorem de_lamF (F : FdL X.prog X.w X.K X.mg X.base k x a sp) (hr : RoomG k X.A) (hr2 : RoomG (j + 2) X.A) (hg : Gl X x) (tk : Takes X (upW X.K G0 Wd)) (tb : TabB X.base X.mg c P) (hcode : X.env.code = .ref c) {ql : Str} (hql : X.env.qual = ql) (hq : (tabList X.K).lookup P = some (ql ++ "<lambda>"))
    (L : LamS X.env.scope scope) (hdef : defaultsOf params X.env = ([], [])) (nobind : ∀ (q : Str) (cl : List (Str × Addr)) (pm cv ctv : Value), bindArgs (PySem.W.kla_fn "<lambda>" q params body scope cl pm cv ctv) ⟨[], []⟩ = pure [])
    (der : ∀ (A : Around) (outer : List Env) (s : Shared) (H : Hp) (E : XK) (f c' : Addr) (G0 : Hp) (Wd : DXS), RoomG j (A.deeper (lamEnv X scope s.heap.objs.size f c')) → Takes (lamCx X A outer s H E scope f c') (upW X.K G0 Wd) → PE (lamCx X A outer s H E scope f c') body (up X.K G0 (de Wd)))
    (hdb : (x == ("__debug__" : Str)) = false := by decide) (hd : (a == ("__debug__" : Str)) = false := by decide) (hcd : (a == ("__classdict__" : Str)) = false := by decide) :
    PE X (.Call (.Name x p) [.Lambda params body scope lpos] [] pos) (up X.K G0 (dLam sp de Wd)) := by
  obtain ⟨g, fd, h1, h2, h3, h4⟩ := F
  exact de_lam h4 hr hr2 hg h1 h2 h3 tk tb hcode (by rw [hql]; exact hq) L hdef nobind der hdb hd hcd
end
end Dq
/-! The deep layer, part 16: is None, True, False of anything; zip. -/
namespace Dq
open PySem PySem.Spec PyProof.Rows L2
section
variable {X : Cx} {G0 : Hp} {K : PySem.W.Frag} {x y : Str} {p p2 px py pos tpos : Pos} {o e e2 a b c elt iter tg : Expr} {es ifs elts : List Expr} {ad : DA} {de da db od : DE} {dt : DT} {ts us : DS} {di : DI}
def isBl (x : D) (b : Bool) : Bool := match x with | .bl a => decide (a = b) | _ => false
/-- is: None, True or False at the right -/
def rIsC (neg : Bool) : RD2 := fun x y M Q => match y with
  | .non => Q (.bl (if neg then !isNon x else isNon x)) M
  | .bl b => Q (.bl (if neg then !isBl x b else isBl x b)) M
  | _ => False
theorem rep_cases {G : Hp} {d : D} {v : V} {u : Value} {b : Bool} (h : Rep K G d v) (r : RelV v u) : (∃ a, d = .bl a ∧ u = .bool a) ∨ (isBl d b = false ∧ (u = .none ∨ (∃ i t, u = .int i t) ∨ (∃ i t, u = .str i t) ∨ (∃ i, u = .ref i) ∨ ∃ i, u = .type i)) := by
  cases d with
  | bl a => unfold Rep at h; subst h; cases (show u = Value.bool a from r); exact .inl ⟨a, rfl, rfl⟩
  | non => unfold Rep at h; subst h; cases (show u = Value.none from r); exact .inr ⟨rfl, .inl rfl⟩
  | int i => unfold Rep at h; subst h; obtain ⟨t, e⟩ := (show ∃ t, u = Value.int i t from r); exact .inr ⟨rfl, .inr (.inl ⟨i, t, e⟩)⟩
  | str i => unfold Rep at h; subst h; obtain ⟨t, e⟩ := (show ∃ t, u = Value.str i t from r); exact .inr ⟨rfl, .inr (.inr (.inl ⟨i, t, e⟩))⟩
  | ref i => unfold Rep at h; subst h; exact .inr ⟨rfl, .inr (.inr (.inr (.inl ⟨i, r⟩)))⟩
  | ty i => unfold Rep at h; subst h; exact .inr ⟨rfl, .inr (.inr (.inr (.inr ⟨i, r⟩)))⟩
  | tup xs => unfold Rep at h; obtain ⟨i, vs, rfl, _⟩ := h; exact .inr ⟨rfl, .inr (.inr (.inr (.inl ⟨i, r⟩)))⟩
  | lst xs => unfold Rep at h; obtain ⟨i, vs, rfl, _⟩ := h; exact .inr ⟨rfl, .inr (.inr (.inr (.inl ⟨i, r⟩)))⟩
  | scr xs => unfold Rep at h; obtain ⟨i, rfl, _⟩ := h; exact .inr ⟨rfl, .inr (.inr (.inr (.inl ⟨i, r⟩)))⟩
  | dic xs => unfold Rep at h; obtain ⟨i, vs, rfl, _⟩ := h; exact .inr ⟨rfl, .inr (.inr (.inr (.inl ⟨i, r⟩)))⟩
theorem isC_ok : OpR X (compareOp .Is) (up2 X.K (rIsC false)) := by
  intro pins s σ H x y v u Q I rx ry h
  obtain ⟨M, G, dx, dy, Qd, rl, p1, p2, q, k⟩ := h
  unfold rIsC at q
  split at q
  · exact isN_ok pins s σ H x y v u Q I rx ry ⟨M, G, dx, .non, Qd, rl, p1, p2, q, k⟩
  · rename_i b
    have ey := rep_bl p2
    subst ey
    cases (show u = Value.bool b from ry)
    rcases rep_cases (b := b) p1 rx with ⟨a, rfl, rfl⟩ | ⟨e, hv⟩
    · have ex := rep_bl p1
      subst ex
      exact isBl_ok pins s σ H _ _ _ _ Q I rx ry ⟨M, G, .bl a, .bl b, Qd, rl, p1, p2, q, k⟩
    · have q : Qd (.bl (isBl dx b)) M := q
      rw [e] at q
      have fin : EP X pins σ Q (.bool false) s := ⟨.bl false, H, I, rfl, k _ M G _ H (Same.refl _) rl (flat_rep rfl) q⟩
      rcases hv with rfl | ⟨i, t, rfl⟩ | ⟨i, t, rfl⟩ | ⟨i, rfl⟩ | ⟨i, rfl⟩
      · exact wpAny_is_other rfl (fun z => nomatch z) fin
      · exact wpAny_is_other rfl (fun z => nomatch z) fin
      · exact wpAny_is_other rfl (fun z => nomatch z) fin
      · exact wpAny_is_other rfl (fun z => nomatch z) fin
      · exact wpAny_is_other rfl (fun z => nomatch z) fin
  · exact q.elim
theorem isNotC_ok : OpR X (compareOp .IsNot) (up2 X.K (rIsC true)) := by
  intro pins s σ H x y v u Q I rx ry h
  obtain ⟨M, G, dx, dy, Qd, rl, p1, p2, q, k⟩ := h
  unfold rIsC at q
  split at q
  · exact notN_ok pins s σ H x y v u Q I rx ry ⟨M, G, dx, .non, Qd, rl, p1, p2, q, k⟩
  · rename_i b
    have ey := rep_bl p2
    subst ey
    cases (show u = Value.bool b from ry)
    have q : Qd (.bl (!isBl dx b)) M := q
    rcases rep_cases (b := b) p1 rx with ⟨a, rfl, rfl⟩ | ⟨e, hv⟩
    · have ex := rep_bl p1
      subst ex
      exact op_notBl pins s σ H _ _ _ _ Q I rx ry ⟨a, b, rfl, rfl, k _ M G _ H (Same.refl _) rl (flat_rep rfl) q⟩
    · rw [e] at q
      have fin : EP X pins σ Q (.bool true) s := ⟨.bl true, H, I, rfl, k _ M G _ H (Same.refl _) rl (flat_rep rfl) q⟩
      rcases hv with rfl | ⟨i, t, rfl⟩ | ⟨i, t, rfl⟩ | ⟨i, rfl⟩ | ⟨i, rfl⟩
      · exact wpAny_isNot_other rfl (fun z => nomatch z) fin
      · exact wpAny_isNot_other rfl (fun z => nomatch z) fin
      · exact wpAny_isNot_other rfl (fun z => nomatch z) fin
      · exact wpAny_isNot_other rfl (fun z => nomatch z) fin
      · exact wpAny_isNot_other rfl (fun z => nomatch z) fin
  · exact q.elim
/-! ### zip of two lists, of two tuples -/
def pairsD (xs ys : List D) : List D := (xs.zip ys).map fun p => .tup [p.1, p.2]
def dZip (a : DA) : DI := fun ρ M Q => a ρ M fun ds M1 => match ds with
  | [.lst xs, .lst ys] => Q (pairsD xs ys) M1
  | [.tup xs, .tup ys] => Q (pairsD xs ys) M1
  | _ => False
theorem pairs_get {xs ys : List D} {i : Nat} {d : D} (h : (pairsD xs ys)[i]? = some d) : ∃ x y, xs[i]? = some x ∧ ys[i]? = some y ∧ d = .tup [x, y] := by
  unfold pairsD at h
  rw [List.getElem?_map] at h
  cases e : (xs.zip ys)[i]? with
  | none => rw [e] at h; cases h
  | some p =>
    rw [e] at h
    cases h
    have := List.getElem?_zip_eq_some.mp e
    exact ⟨p.1, p.2, this.1, this.2, rfl⟩
theorem pairs_len {xs ys : List D} : (pairsD xs ys).length = min xs.length ys.length := by unfold pairsD; simp
theorem walks_zipL {p q : Addr} {vs ws : List V} {xs ys : List D} {G : Hp} (h1 : SqL K G p vs) (h2 : SqL K G q ws) (r1 : Reps K G xs vs) (r2 : Reps K G ys ws) : WalksD K (Itz K p q) (pairsD xs ys) G where
  go := fun i H s hi => by
    rw [pairs_len] at hi
    exact ⟨vs, ws, vs[i]'(by rw [← r1.length]; omega), ws[i]'(by rw [← r2.length]; omega), s.seq h1, s.seq h2, List.getElem?_eq_getElem _, List.getElem?_eq_getElem _⟩
  stop := fun i H s hi => by
    rw [pairs_len] at hi
    exact ⟨vs, ws, s.seq h1, s.seq h2, by rw [← r1.length, ← r2.length]; omega⟩
  yld := fun i H x H' d s hd y => by
    obtain ⟨T, v, u, rfl, hT, rfl, y1, y2⟩ := y
    obtain ⟨a, b, e1, e2, rfl⟩ := pairs_get hd
    obtain ⟨v', f1, g1⟩ := r1.get e1
    obtain ⟨u', f2, g2⟩ := r2.get e2
    have z1 := y1 vs (s.seq h1)
    have z2 := y2 ws (s.seq h2)
    rw [f1] at z1
    rw [f2] at z2
    cases z1
    cases z2
    refine .inr ⟨T, .tup [v, u], hT, rfl, fun G1 s1 hn => ?_⟩
    unfold Rep
    exact ⟨T, _, rfl, .inl (.inl upd_same), (Reps.cons g1 (.cons g2 .nil)).mono (s1.trans (same_upd hn))⟩
theorem walks_zipT {p q : Addr} {vs ws : List V} {xs ys : List D} {G : Hp} (h1 : SqT K G p vs) (h2 : SqT K G q ws) (r1 : Reps K G xs vs) (r2 : Reps K G ys ws) : WalksD K (RZ.ItzT K p q) (pairsD xs ys) G where
  go := fun i H s hi => by
    rw [pairs_len] at hi
    exact ⟨vs, ws, vs[i]'(by rw [← r1.length]; omega), ws[i]'(by rw [← r2.length]; omega), sameT s h1, sameT s h2, List.getElem?_eq_getElem _, List.getElem?_eq_getElem _⟩
  stop := fun i H s hi => by
    rw [pairs_len] at hi
    exact ⟨vs, ws, sameT s h1, sameT s h2, by rw [← r1.length, ← r2.length]; omega⟩
  yld := fun i H x H' d s hd y => by
    obtain ⟨T, v, u, rfl, hT, rfl, y1, y2⟩ := y
    obtain ⟨a, b, e1, e2, rfl⟩ := pairs_get hd
    obtain ⟨v', f1, g1⟩ := r1.get e1
    obtain ⟨u', f2, g2⟩ := r2.get e2
    have z1 := y1 vs (sameT s h1)
    have z2 := y2 ws (sameT s h2)
    rw [f1] at z1
    rw [f2] at z2
    cases z1
    cases z2
    refine .inr ⟨T, .tup [v, u], hT, rfl, fun G1 s1 hn => ?_⟩
    unfold Rep
    exact ⟨T, _, rfl, .inl (.inl upd_same), (Reps.cons g1 (.cons g2 .nil)).mono (s1.trans (same_upd hn))⟩
theorem di_zip {kk : Nat} (hg : Gl X "zip") (hm : X.mg "zip" = none) (ha : PA X [e, e2] (upA X.K G0 ad)) (hs : starEach [e, e2] X.env = (false, eval e X.env) :: starEach [e2] X.env := by rfl) (hpl : (backTo pos (starEach [e2] X.env)).any (·.1) = false := by rfl) :
    PI X (.Tuple elts kk tpos) (.Call (.Name "zip" p) [e, e2] [] pos) (upI X.K G0 (dZip ad)) := pi_mono (RZ.pi_zipA hg hm ha hs hpl) fun σ H R h => by
  obtain ⟨ρ, M, G, Qd, s0, rl, l, h, kk⟩ := h
  refine ⟨ρ, M, G, _, s0, rl, l, h, fun ds M1 G1 vs H1 s1 r1 p1 q1 => ?_⟩
  split at q1
  · rename_i xs ys
    obtain ⟨v1, v2, rfl, q2, q3⟩ := reps2 p1
    unfold Rep at q2 q3
    obtain ⟨a, vs, rfl, h1, w1⟩ := q2
    obtain ⟨b, ws, rfl, h2, w2⟩ := q3
    refine ⟨a, b, vs, ws, rfl, .inl ⟨r1.sub.seq (SqL.of h1), r1.sub.seq (SqL.of h2), kk _ M1 G1 H1 _ s1 r1 (walks_zipL (SqL.of h1) (SqL.of h2) w1 w2) q1⟩⟩
  · rename_i xs ys
    obtain ⟨v1, v2, rfl, q2, q3⟩ := reps2 p1
    unfold Rep at q2 q3
    obtain ⟨a, vs, rfl, h1, w1⟩ := q2
    obtain ⟨b, ws, rfl, h2, w2⟩ := q3
    refine ⟨a, b, vs, ws, rfl, .inr ⟨sameT r1.sub h1, sameT r1.sub h2, kk _ M1 G1 H1 _ s1 r1 (walks_zipT h1 h2 w1 w2) q1⟩⟩
  · exact q1.elim
end
end Dq
/-! The deep layer, part 17: isinstance by one type, by two types. -/
namespace Dq
open PySem PySem.Spec PyProof.Rows L2
section
variable {X : Cx}
def cIs1 : RDC := fun ds M Q => match ds with
  | [d, .ty c] => (match isTy d c with | some k => Q (.bl k) M | none => False)
  | _ => False
def cIs2 : RDC := fun ds M Q => match ds with
  | [d, .tup [.ty a, .ty b]] => (match isTys d [.ty a, .ty b] with | some k => Q (.bl k) M | none => False)
  | _ => False
theorem is1_ok : CallR X (.builtin "isinstance") (upC X.K cIs1) := call_mono is_ok fun xs H Q h => by
  obtain ⟨M, G, ds, Qd, rl, rp, q, k⟩ := h
  refine ⟨M, G, ds, Qd, rl, rp, ?_, k⟩
  unfold cIs1 at q
  split at q
  · rename_i d c
    exact ⟨⟨d, c, rfl⟩, q⟩
  · exact q.elim
theorem is2_ok : CallR X (.builtin "isinstance") (upC X.K cIs2) := call_mono isT_ok fun xs H Q h => by
  obtain ⟨M, G, ds, Qd, rl, rp, q, k⟩ := h
  refine ⟨M, G, ds, Qd, rl, rp, ?_, k⟩
  unfold cIs2 at q
  split at q
  · rename_i d a b
    exact ⟨⟨d, _, _, rfl⟩, q⟩
  · exact q.elim
/-- {} -/
def dDic0 : DE := fun _ M Q => ∀ p, M p = none → Q (.ref p) (M.set p (.dic []))
theorem de_dic0 {G0 : Hp} {K : PySem.W.Frag} {pos : Pos} : PE X (.Dict [] [] pos) (up K G0 dDic0) := pe_mono pe_dnewK fun σ H Q h => by
  obtain ⟨ρ, M, G, Qd, s0, rl, l, h, k⟩ := h
  exact fun p hp => k (.ref p) _ G _ _ (Same.refl _) (rl.newM (m := .dic []) hp ⟨[], upd_same, RepK.nil⟩) (flat_rep rfl) (h p (rl.freeM hp))
end
end Dq
set_option maxHeartbeats 2000000
/-! The deep layer, part 18: zip over two sources of any two kinds; here: of a list and a tuple. -/
namespace Dq
open PySem PySem.Spec PyProof.Rows L2
/-- an iterator `it` over the source at `l`, in whatever way it stands in the heap -/
structure Src (P : Program) (w : World) (I : Heap → Nat → Prop) (L : Heap → Array Value → Prop) (it l : Addr) : Prop where
  item : ∀ {A : Around} {E : Value → Shared → Prop} {s : Shared} {k : Nat} {ys : Array Value} {y : Value} {Q : Value → Shared → Prop}, I s.heap k → L s.heap ys → ys[k]? = some y → (∀ g, I g (k + 1) → Heap.SameBut it s.heap g → Q y { s with heap := g }) → wpAny (model P w) A (Builtin.SmallTypes.nextOf (.ref it)) Q E s
  last : ∀ {A : Around} {E : Value → Shared → Prop} {s : Shared} {k : Nat} {ys : Array Value} {Q : Value → Shared → Prop}, A.handled = none → I s.heap k → L s.heap ys → ys[k]? = none → (∀ g e, Heap.ExtBut it s.heap g → (∃ o, g.get? e = some o ∧ o.cls = .type "StopIteration") → E (.ref e) { s with heap := g }) → wpAny (model P w) A (Builtin.SmallTypes.nextOf (.ref it)) Q E s
  kI : ∀ {h g : Heap} {k : Nat}, I h k → (∀ o, h.get? it = some o → g.get? it = some o) → I g k
  kL : ∀ {h g : Heap} {ys : Array Value}, L h ys → (∀ o, h.get? l = some o → g.get? l = some o) → L g ys
theorem srcL {P : Program} {w : World} {it l : Addr} : Src P w (fun h k => h.IsListIter it l k) (fun h ys => h.IsList l ys) it l :=
  ⟨fun a b c d => wpAny_nextOf_list_item a b c d, fun a b c d e => wpAny_nextOf_list_end a b c d e, fun x e => x.at e, fun x e => x.at e⟩
theorem srcT {P : Program} {w : World} {it l : Addr} : Src P w (fun h k => h.IsTupleIter it l k) (fun h ys => h.IsTuple l ys) it l :=
  ⟨fun a b c d => RZ.nextOf_tuple_item a b c d, fun a b c d e => RZ.nextOf_tuple_end a b c d e, fun x e => x.at e, fun x e => x.at e⟩
section
variable {P : Program} {w : World} {A : Around} {E : Value → Shared → Prop} {s : Shared} {I1 I2 : Heap → Nat → Prop} {L1 L2 : Heap → Array Value → Prop} {zp ti to j1 j2 m1 m2 : Addr} {p q : Nat} {us vs : Array Value} {u v a b : Value}
/-- one step of zip -/
theorem zs_item {Q : Value → Shared → Prop} (S1 : Src P w I1 L1 j1 m1) (S2 : Src P w I2 L2 j2 m2) (D : ZipApart zp ti to j1 j2 m1 m2) (hz : IsZip s.heap zp ti to .none) (ht : IsPair s.heap ti (.ref j1) (.ref j2)) (ho : IsPair s.heap to a b)
    (i1 : I1 s.heap p) (i2 : I2 s.heap q) (l1 : L1 s.heap us) (l2 : L2 s.heap vs) (hu : us[p]? = some u) (hv : vs[q]? = some v)
    (fin : ∀ g, IsZip g zp ti to (rawInt s.heap.objs.size) → IsPair g to u v → I1 g (p + 1) → I2 g (q + 1) → IsPair g s.heap.objs.size u v → (∀ c o, c ≠ zp → c ≠ to → c ≠ j1 → c ≠ j2 → s.heap.get? c = some o → g.get? c = some o) → Q (.ref s.heap.objs.size) { s with heap := g }) :
    wpAny (model P w) A (Builtin.«zip.__next__» ⟨[.ref zp], []⟩) (fun r t => ∃ x, r = .done (.ret x) ∧ Q x t) E s := by
  show wpAny _ _ (field (.ref zp) 2 >>= _) _ _ _
  refine wpAny_bind (wpAny_field hz rfl (x := .bool false) rfl ?_)
  show wpAny _ _ (field (.ref zp) 3 >>= _) _ _ _
  refine wpAny_bind (wpAny_field hz rfl (x := .ref ti) rfl (wpAny_bind (wpAny_seqItems ht rfl ?_)))
  show wpAny _ _ (Builtin.SmallTypes.ownedTupleIsFree (.ref zp) >>= _) _ _ _
  refine wpAny_bind ?_
  unfold Builtin.SmallTypes.ownedTupleIsFree
  refine wpAny_bind (wpAny_field hz rfl (x := .none) rfl (wpAny_pure ?_))
  simp only [if_true]
  refine wpAny_bind (wpAny_rule (wpAny_bind (wpAny_field hz rfl (x := .ref to) rfl ?_)))
  refine wpAny_bind (wpAny_setField_rec hz (by simp) fun g1 z1 b1 => ?_)
  replace z1 : IsZip g1 zp ti to .ellipsis := z1
  have e1 := b1.extBut
  refine wpAny_bind ?_
  simp only [List.zipIdx_cons, List.zipIdx_nil, List.forIn_cons, List.forIn_nil]
  refine wpAny_bind (wpAny_bind (wpAny_onRaise ?_))
  show wpAny _ _ (Builtin.SmallTypes.nextOf (.ref j1) >>= _) _ _ _
  refine wpAny_bind (S1.item (S1.kI i1 fun o x => e1 _ o D.i1z x) (S1.kL l1 fun o x => e1 _ o D.l1z x) hu fun g2 n1 b2 => wpAny_pure ?_)
  have e2 := b2.extBut
  have o2 : IsPair g2 to a b := e2 _ _ D.TOi1 (e1 _ _ D.TOz ho)
  refine wpAny_bind (wpAny_seqItems o2 rfl (wpAny_bind (wpAny_updateSeq_pair o2 fun g3 o3 b3 => ?_)))
  replace o3 : IsPair g3 to u b := o3
  have e3 := b3.extBut
  refine wpAny_bind (wpAny_letGo (wpAny_pure (wpAny_bind (wpAny_bind (wpAny_onRaise ?_)))))
  show wpAny _ _ (Builtin.SmallTypes.nextOf (.ref j2) >>= _) _ _ _
  refine wpAny_bind (S2.item (S2.kI i2 fun o x => e3 _ o D.TOi2.symm (e2 _ o D.i12.symm (e1 _ o D.i2z x))) (S2.kL l2 fun o x => e3 _ o D.l2TO (e2 _ o D.l2i1 (e1 _ o D.l2z x))) hv fun g4 n2 b4 => wpAny_pure ?_)
  have e4 := b4.extBut
  have o4 : IsPair g4 to u b := e4 _ _ D.TOi2 o3
  refine wpAny_bind (wpAny_seqItems o4 rfl (wpAny_bind (wpAny_updateSeq_pair o4 fun g5 o5 b5 => ?_)))
  replace o5 : IsPair g5 to u v := o5
  have e5 := b5.extBut
  refine wpAny_bind (wpAny_letGo (wpAny_pure (wpAny_pure (wpAny_bind (wpAny_seqItems o5 rfl (wpAny_bind (wpAny_newTuple ?_)))))))
  have hs : g5.objs.size = s.heap.objs.size := by rw [b5.1, b4.1, b3.1, b2.1, b1.1]
  have z5 : IsZip g5 zp ti to .ellipsis := e5 _ _ D.TOz.symm (e4 _ _ D.i2z.symm (e3 _ _ D.TOz.symm (e2 _ _ D.i1z.symm z1)))
  have keep : ∀ c o, c ≠ zp → c ≠ to → c ≠ j1 → c ≠ j2 → s.heap.get? c = some o → g5.get? c = some o := fun c o c1 c2 c3 c4 x => e5 _ _ c2 (e4 _ _ c4 (e3 _ _ c2 (e2 _ _ c3 (e1 _ _ c1 x))))
  have n1' := S1.kI n1 (g := g5) fun o x => e5 _ o D.TOi1.symm (e4 _ o D.i12 (e3 _ o D.TOi1.symm x))
  have n2' := S2.kI n2 (g := g5) fun o x => e5 _ o D.TOi2.symm x
  have lz : zp < g5.objs.size := Heap.lt_size z5
  show wpAny _ _ (Builtin.SmallTypes.ownedTupleHandOut (.ref zp) (.ref g5.objs.size) >>= _) _ _ _
  refine wpAny_bind ?_
  unfold Builtin.SmallTypes.ownedTupleHandOut
  have z6 : IsZip (g5.push { cls := .type "tuple", data := .seq #[u, v] }) zp ti to .ellipsis := Heap.get?_push_of_some _ z5
  refine wpAny_bind (wpAny_setField_rec z6 (by simp) fun g7 z7 b7 => ?_)
  replace z7 : IsZip g7 zp ti to (rawInt g5.objs.size) := z7
  refine wpAny_setField_rec z7 (by simp) fun g8 z8 b8 => ?_
  replace z8 : IsZip g8 zp ti to (rawInt g5.objs.size) := z8
  have up : ∀ c o, c ≠ zp → g5.get? c = some o → g8.get? c = some o := fun c o c1 x => b8.extBut _ _ c1 (b7.extBut _ _ c1 (Heap.get?_push_of_some _ x))
  have t8 : IsPair g8 g5.objs.size u v := b8.extBut _ _ (Nat.ne_of_gt lz) (b7.extBut _ _ (Nat.ne_of_gt lz) (Heap.get?_push_size _ rfl))
  rw [hs] at z8 t8
  refine wpAny_pure ⟨_, rfl, ?_⟩
  show Q (.ref g5.objs.size) _
  rw [hs]
  exact fin g8 z8 (up _ _ D.TOz o5) (S1.kI n1' fun o x => up _ o D.i1z x) (S2.kI n2' fun o x => up _ o D.i2z x) t8 fun c o c1 c2 c3 c4 x => up c o c1 (keep c o c1 c2 c3 c4 x)
/-- the end of zip -/
theorem zs_last {Q : Fin → Shared → Prop} (hh : A.handled = none) (S1 : Src P w I1 L1 j1 m1) (S2 : Src P w I2 L2 j2 m2) (D : ZipApart zp ti to j1 j2 m1 m2) (hz : IsZip s.heap zp ti to .none) (ht : IsPair s.heap ti (.ref j1) (.ref j2)) (ho : IsPair s.heap to a b)
    (i1 : I1 s.heap p) (i2 : I2 s.heap q) (l1 : L1 s.heap us) (l2 : L2 s.heap vs) (hend : us[p]? = none ∨ vs[q]? = none)
    (fin : ∀ g e, (∀ c o, c ≠ zp → c ≠ to → c ≠ j1 → c ≠ j2 → s.heap.get? c = some o → g.get? c = some o) → (∃ o, g.get? e = some o ∧ o.cls = .type "StopIteration") → E (.ref e) { s with heap := g }) :
    wpAny (model P w) A (Builtin.«zip.__next__» ⟨[.ref zp], []⟩) Q E s := by
  show wpAny _ _ (field (.ref zp) 2 >>= _) _ _ _
  refine wpAny_bind (wpAny_field hz rfl (x := .bool false) rfl ?_)
  show wpAny _ _ (field (.ref zp) 3 >>= _) _ _ _
  refine wpAny_bind (wpAny_field hz rfl (x := .ref ti) rfl (wpAny_bind (wpAny_seqItems ht rfl ?_)))
  show wpAny _ _ (Builtin.SmallTypes.ownedTupleIsFree (.ref zp) >>= _) _ _ _
  refine wpAny_bind ?_
  unfold Builtin.SmallTypes.ownedTupleIsFree
  refine wpAny_bind (wpAny_field hz rfl (x := .none) rfl (wpAny_pure ?_))
  simp only [if_true]
  refine wpAny_bind (wpAny_rule (wpAny_bind (wpAny_field hz rfl (x := .ref to) rfl ?_)))
  refine wpAny_bind (wpAny_setField_rec hz (by simp) fun g1 z1 b1 => ?_)
  replace z1 : IsZip g1 zp ti to .ellipsis := z1
  have e1 := b1.extBut
  refine wpAny_bind ?_
  simp only [List.zipIdx_cons, List.zipIdx_nil, List.forIn_cons, List.forIn_nil]
  refine wpAny_bind (wpAny_bind (wpAny_onRaise ?_))
  show wpAny _ _ (Builtin.SmallTypes.nextOf (.ref j1) >>= _) _ _ _
  have i1' := S1.kI i1 (g := g1) fun o x => e1 _ o D.i1z x
  have l1' := S1.kL l1 (g := g1) fun o x => e1 _ o D.l1z x
  cases hu : us[p]? with
  | none =>
    refine wpAny_bind (S1.last hh i1' l1' hu fun g2 e b2 he => ?_)
    obtain ⟨oe, h1, h2⟩ := he
    have z2 : IsZip g2 zp ti to .ellipsis := b2 _ _ D.i1z.symm z1
    have ne : e ≠ zp := fun x => by rw [x] at h1; rw [z2] at h1; cases h1; simp at h2
    exact wpAny_setField_rec z2 (by simp) fun g3 _ b3 => fin g3 e (fun c o c1 _ c3 _ x => b3.extBut _ _ c1 (b2 _ _ c3 (e1 _ _ c1 x))) ⟨oe, b3.extBut _ _ ne h1, h2⟩
  | some u =>
    have hv : vs[q]? = none := hend.resolve_left (by rw [hu]; exact fun x => nomatch x)
    refine wpAny_bind (S1.item i1' l1' hu fun g2 n1 b2 => wpAny_pure ?_)
    have e2 := b2.extBut
    have o2 : IsPair g2 to a b := e2 _ _ D.TOi1 (e1 _ _ D.TOz ho)
    refine wpAny_bind (wpAny_seqItems o2 rfl (wpAny_bind (wpAny_updateSeq_pair o2 fun g3 o3 b3 => ?_)))
    have e3 := b3.extBut
    refine wpAny_bind (wpAny_letGo (wpAny_pure (wpAny_bind (wpAny_bind (wpAny_onRaise ?_)))))
    show wpAny _ _ (Builtin.SmallTypes.nextOf (.ref j2) >>= _) _ _ _
    refine wpAny_bind (S2.last hh (S2.kI i2 fun o x => e3 _ o D.TOi2.symm (e2 _ o D.i12.symm (e1 _ o D.i2z x))) (S2.kL l2 fun o x => e3 _ o D.l2TO (e2 _ o D.l2i1 (e1 _ o D.l2z x))) hv fun g4 e b4 he => ?_)
    obtain ⟨oe, h1, h2⟩ := he
    have z4 : IsZip g4 zp ti to .ellipsis := b4 _ _ D.i2z.symm (e3 _ _ D.TOz.symm (e2 _ _ D.i1z.symm z1))
    have ne : e ≠ zp := fun x => by rw [x] at h1; rw [z4] at h1; cases h1; simp at h2
    exact wpAny_setField_rec z4 (by simp) fun g5 _ b5 => fin g5 e (fun c o c1 c2 c3 c4 x => b5.extBut _ _ c1 (b4 _ _ c4 (e3 _ _ c2 (e2 _ _ c3 (e1 _ _ c1 x))))) ⟨oe, b5.extBut _ _ ne h1, h2⟩
theorem zs_next {Q : Option Value → Shared → Prop} (S1 : Src P w I1 L1 j1 m1) (S2 : Src P w I2 L2 j2 m2) (D : ZipApart zp ti to j1 j2 m1 m2) (hz : IsZip s.heap zp ti to .none) (ht : IsPair s.heap ti (.ref j1) (.ref j2)) (ho : IsPair s.heap to a b)
    (i1 : I1 s.heap p) (i2 : I2 s.heap q) (l1 : L1 s.heap us) (l2 : L2 s.heap vs) (hu : us[p]? = some u) (hv : vs[q]? = some v)
    (fin : ∀ g, IsZip g zp ti to (rawInt s.heap.objs.size) → IsPair g to u v → I1 g (p + 1) → I2 g (q + 1) → IsPair g s.heap.objs.size u v → (∀ c o, c ≠ zp → c ≠ to → c ≠ j1 → c ≠ j2 → s.heap.get? c = some o → g.get? c = some o) → Q (some (.ref s.heap.objs.size)) { s with heap := g }) :
    wpAny (model P w) A (pyNext (.ref zp)) Q E s := by
  have hT : s.TypeIs (.ref zp) "zip" := ⟨_, hz, rfl⟩
  unfold pyNext
  exact wpAny_bind (wpAny_attempt (wpAny_callSpecial?_slot (name := Str.ofString "__next__") hT F.slot_zip_next (wpAny_call_entry F.slot_zip_next hT F.entry_zip_next (zs_item S1 S2 D hz ht ho i1 i2 l1 l2 hu hv fun g x1 x2 x3 x4 x5 x6 => wpAny_pure (fin g x1 x2 x3 x4 x5 x6)) (F.args_zip_next_1 _))))
theorem zs_stop {Q : Option Value → Shared → Prop} (hh : A.handled = none) (S1 : Src P w I1 L1 j1 m1) (S2 : Src P w I2 L2 j2 m2) (D : ZipApart zp ti to j1 j2 m1 m2) (hz : IsZip s.heap zp ti to .none) (ht : IsPair s.heap ti (.ref j1) (.ref j2)) (ho : IsPair s.heap to a b)
    (i1 : I1 s.heap p) (i2 : I2 s.heap q) (l1 : L1 s.heap us) (l2 : L2 s.heap vs) (hend : us[p]? = none ∨ vs[q]? = none)
    (fin : ∀ g, (∀ c o, c ≠ zp → c ≠ to → c ≠ j1 → c ≠ j2 → s.heap.get? c = some o → g.get? c = some o) → Q none { s with heap := g }) : wpAny (model P w) A (pyNext (.ref zp)) Q E s := by
  have hT : s.TypeIs (.ref zp) "zip" := ⟨_, hz, rfl⟩
  unfold pyNext
  refine wpAny_bind (wpAny_attempt (wpAny_callSpecial?_slot (name := Str.ofString "__next__") hT F.slot_zip_next (wpAny_call_entry F.slot_zip_next hT F.entry_zip_next (zs_last hh S1 S2 D hz ht ho i1 i2 l1 l2 hend fun g e hk he => ?_) (F.args_zip_next_1 _))))
  obtain ⟨o, h1, h2⟩ := he
  exact wpAny_bind (wpAny_isInstance (T := "StopIteration") (b := true) ⟨o, h1, h2⟩ isSubtype_stop (wpAny_pure (fin _ hk)))
end
abbrev mzH (c : String) (h : Heap) (l : Addr) : Heap := h.push { cls := .type c, data := .fields #[.ref l, .int 0 0] }
abbrev mzP (h : Heap) (n m : Nat) : Heap := h.push { cls := .type "tuple", data := .seq #[.ref n, .ref m] }
abbrev mzO (h : Heap) : Heap := h.push { cls := .type "tuple", data := .seq #[.none, .none] }
abbrev mzZ (h : Heap) (n m : Nat) : Heap := h.push { cls := .type "zip", data := .fields #[.none, .bool false, .bool false, .ref n, .ref m] }
abbrev mz4 (h : Heap) (l m : Addr) : Heap := mzO (mzP (mzH "tuple_iterator" (mzH "list_iterator" h l) m) h.objs.size (mzH "list_iterator" h l).objs.size)
abbrev mz5 (h : Heap) (l m : Addr) : Heap := mzZ (mz4 h l m) (mzH "tuple_iterator" (mzH "list_iterator" h l) m).objs.size (mzP (mzH "tuple_iterator" (mzH "list_iterator" h l) m) h.objs.size (mzH "list_iterator" h l).objs.size).objs.size
theorem mz_new (l m : Addr) (us vs : Array Value) :
    Meets (Builtin.«zip.__new__» ⟨[.type "zip", .ref l, .ref m], []⟩) (fun _ R s => s.heap.IsList l us ∧ s.heap.IsTuple m vs ∧ R (.ok (.ret (.ref (mz4 s.heap l m).objs.size))) { s with heap := mz5 s.heap l m }) :=
  .of_wp fun prog w A R s h => by
    obtain ⟨hp, g, d, tk, os⟩ := s
    obtain ⟨h1, h2, h⟩ := h
    have hsub := sub_zip
    have k1 : Heap.IsList (Shared.heap ⟨hp, g, d, tk, os⟩) l us := h1
    have k2 : Heap.IsTuple (Shared.heap ⟨hp.push { cls := .type "list_iterator", data := .fields #[.ref l, .int 0 0] }, g, d, tk, os⟩) m vs := Heap.IsTuple.push h2 _
    wp_walk using wpAny_pyIter_list k1, wpAny_pyIter_tuple k2
    exact ⟨_, rfl, h⟩
theorem call_mz {P : Program} {w : World} {A : Around} {E : Value → Shared → Prop} {s : Shared} {l m : Addr} {us vs : Array Value} {Q : Value → Shared → Prop} (h1 : s.heap.IsList l us) (h2 : s.heap.IsTuple m vs)
    (fin : ∀ g, IsZip g (s.heap.objs.size + 4) (s.heap.objs.size + 2) (s.heap.objs.size + 3) .none → IsPair g (s.heap.objs.size + 2) (.ref s.heap.objs.size) (.ref (s.heap.objs.size + 1)) → IsPair g (s.heap.objs.size + 3) .none .none → g.IsListIter s.heap.objs.size l 0 → g.IsTupleIter (s.heap.objs.size + 1) m 0 →
      (∀ c o, s.heap.get? c = some o → g.get? c = some o) → Q (.ref (s.heap.objs.size + 4)) { s with heap := g }) : wpAny (model P w) A (call (.type "zip") [.ref l, .ref m]) Q E s := by
  refine callType_new F.called_zip (by decide) (F.typeCall_zip_2 _ _) (F.newCall_zip_2 _ _) (fun o => F.args_object_init_3 o _ _) F.entry_zip_new (mz_new l m us vs) ⟨h1, h2, ?_⟩
  have sz : (mz5 s.heap l m) = mzZ (mzO (mzP (mzH "tuple_iterator" (mzH "list_iterator" s.heap l) m) s.heap.objs.size (s.heap.objs.size + 1))) (s.heap.objs.size + 2) (s.heap.objs.size + 3) := by simp only [mz5, mz4, mzO, mzP, mzH, Heap.size_push]
  have s4 : (mz4 s.heap l m).objs.size = s.heap.objs.size + 4 := by simp only [mz4, mzO, mzP, mzH, Heap.size_push]
  have p0 : ∀ (h : Heap) (o o' : Obj) (c : Nat), h.get? c = some o → (h.push o').get? c = some o := fun h o o' c x => Heap.get?_push_of_some _ x
  have q0 : ∀ (h : Heap) (o : Obj) (n : Nat), n = h.objs.size → o.isFreed = false → (h.push o).get? n = some o := fun h o n e f => by
    subst e
    exact Heap.get?_push_size _ f
  rw [s4, sz]
  refine ⟨⟨_, q0 _ _ _ (by simp only [Heap.size_push]) rfl, rfl⟩, fin _ ?_ ?_ ?_ ?_ ?_ ?_⟩
  · exact q0 _ _ _ (by simp only [Heap.size_push]) rfl
  · exact p0 _ _ _ _ (p0 _ _ _ _ (q0 _ _ _ (by simp only [Heap.size_push]) rfl))
  · exact p0 _ _ _ _ (q0 _ _ _ (by simp only [Heap.size_push]) rfl)
  · exact ⟨_, p0 _ _ _ _ (p0 _ _ _ _ (p0 _ _ _ _ (p0 _ _ _ _ (q0 _ _ _ rfl rfl)))), rfl, rfl⟩
  · exact ⟨_, p0 _ _ _ _ (p0 _ _ _ _ (p0 _ _ _ _ (q0 _ _ _ (by simp only [Heap.size_push]) rfl))), rfl, rfl⟩
  · exact fun c o x => p0 _ _ _ _ (p0 _ _ _ _ (p0 _ _ _ _ (p0 _ _ _ _ (p0 _ _ _ _ x))))
/-! ### the walk -/
def ItM (K : PySem.W.Frag) (a b : Addr) : It :=
  ⟨fun i H => ∃ (us vs : List V) (u v : V), SqL K H a us ∧ SqT K H b vs ∧ us[i]? = some u ∧ vs[i]? = some v,
    fun i H x H' => ∃ T u v, x = .ref T ∧ H T = none ∧ H' = upd H T (.tup [u, v]) ∧ (∀ us, SqL K H a us → us[i]? = some u) ∧ ∀ vs, SqT K H b vs → vs[i]? = some v,
    fun i H => ∃ us vs : List V, SqL K H a us ∧ SqT K H b vs ∧ (us.length ≤ i ∨ vs.length ≤ i)⟩
theorem mem5 {a b c d e x : Addr} (h : x ∈ [a, b, c, d, e]) : x = a ∨ x = b ∨ x = c ∨ x = d ∨ x = e := by simpa using h
theorem turn_mz {P : Program} {w : World} {K : PySem.W.Frag} {elts : List Expr} {kk : Nat} {tpos : Pos} {a b z t o j1 j2 : Addr} (D : ZipApart z t o j1 j2 a b) :
    Turn P w K (.Tuple elts kk tpos) (ItM K a b) [z, t, o, j1, j2] z (fun i h => IsZip h z t o .none ∧ IsPair h t (.ref j1) (.ref j2) ∧ (∃ x y, IsPair h o x y) ∧ h.IsListIter j1 a i ∧ h.IsTupleIter j2 b i) where
  mem := List.mem_cons_self
  obj := fun i h st c hc => by
    obtain ⟨q1, q2, ⟨x, y, q3⟩, ⟨o1, q4, _, d1⟩, ⟨o2, q5, _, d2⟩⟩ := st
    rcases mem5 hc with rfl | rfl | rfl | rfl | rfl
    · exact ⟨_, q1, fun v q => nomatch q⟩
    · exact ⟨_, q2, fun v q => nomatch q⟩
    · exact ⟨_, q3, fun v q => nomatch q⟩
    · exact ⟨o1, q4, fun v q => by rw [d1] at q; cases q⟩
    · exact ⟨o2, q5, fun v q => by rw [d2] at q; cases q⟩
  keep := fun i h g ⟨q1, q2, ⟨x, y, q3⟩, q4, q5⟩ k => ⟨k z (by simp) _ q1, k t (by simp) _ q2, ⟨x, y, k o (by simp) _ q3⟩, q4.at fun u q => k j1 (by simp) u q, q5.at fun u q => k j2 (by simp) u q⟩
  item := by
    intro X hP hw hK hc i pins s σ H E I hf ⟨q1, q2, ⟨x0, y0, q3⟩, q4, q5⟩ ⟨us, vs, u, v, sa, sb, hu, hv⟩
    subst hP hw hK
    obtain ⟨as, ra, pa, _⟩ := I.list sa
    obtain ⟨bs, rb, pb, _⟩ := I.tuple sb
    obtain ⟨u', gu, ru⟩ := ra.get hu
    obtain ⟨v', gv, rv⟩ := rb.get hv
    have lz : z < s.heap.objs.size := Heap.lt_size q1
    refine zs_next srcL srcT D q1 q2 q3 q4 q5 pa.isList pb (u := u') (v := v') (by simpa using gu) (by simpa using gv) fun g z' o' n1 n2 hT hk => ⟨_, rfl, wpAny_letOwnedTupleGo_zip (s := { s with heap := g }) z' fun g2 z'' sbt => ?_⟩
    have hT2 : g2.get? s.heap.objs.size = some { cls := .type "tuple", data := .seq #[u', v'] } := (sbt.2 _ (Nat.ne_of_gt lz)).trans hT
    have new : ObjOk X.prog X.w (upd H s.heap.objs.size (.tup [u, v])) g2 s.heap.objs.size (.tup [u, v]) := ⟨by show 2 ≤ sizeLine; decide, [u', v'], .cons ru (.cons rv .nil), ⟨_, hT2, rfl, _, rfl⟩⟩
    have J : Inv X pins σ (upd H s.heap.objs.size (.tup [u, v])) { s with heap := g2 } := I.turnedNew (t' := s.toks) (ch := [z, t, o, j1, j2]) (fun c ob hb q => (sbt.2 c fun x => hb (by simp [x])).trans (hk c ob (fun x => hb (by simp [x])) (fun x => hb (by simp [x])) (fun x => hb (by simp [x])) (fun x => hb (by simp [x])) q)) hf (Nat.le_refl _) new
    refine ⟨.ref s.heap.objs.size, _, J, rfl, ⟨_, u, v, rfl, I.hok.fresh (Nat.le_refl _), rfl, fun l hl => by rw [I.list_inj hl sa]; exact hu, fun l hl => by rw [I.tuple_inj hl sb]; exact hv⟩, ⟨z'', ?_, ⟨u', v', ?_⟩, ?_, ?_⟩, fun c hcm => ?_⟩
    · exact (sbt.2 _ D.TIz).trans (hk _ _ D.TIz D.TITO D.TIi1 D.TIi2 q2)
    · exact (sbt.2 _ D.TOz).trans o'
    · exact n1.at fun ob q => (sbt.2 _ D.i1z).trans q
    · exact n2.at fun ob q => (sbt.2 _ D.i2z).trans q
    · have lt : c < s.heap.objs.size := by
        obtain ⟨_, e4, _⟩ := q4
        obtain ⟨_, e5, _⟩ := q5
        rcases mem5 hcm with rfl | rfl | rfl | rfl | rfl
        · exact lz
        · exact Heap.lt_size q2
        · exact Heap.lt_size q3
        · exact Heap.lt_size e4
        · exact Heap.lt_size e5
      rw [upd_ne (Nat.ne_of_lt lt)]
      exact (hf c hcm).1
  done := by
    intro X hP hw hK hc i pins s σ H E I hf ⟨q1, q2, ⟨x0, y0, q3⟩, q4, q5⟩ ⟨us, vs, sa, sb, hend⟩
    subst hP hw hK
    obtain ⟨as, ra, pa, _⟩ := I.list sa
    obtain ⟨bs, rb, pb, _⟩ := I.tuple sb
    have n1 := ra.length
    have n2 := rb.length
    have he : as.toArray[i]? = none ∨ bs.toArray[i]? = none := hend.imp (fun q => by simp; omega) fun q => by simp; omega
    exact zs_stop (I.ok.hd hc) srcL srcT D q1 q2 q3 q4 q5 pa.isList pb he fun g hk => ⟨rfl, I.turnedL (t' := s.toks) (ch := [z, t, o, j1, j2]) (fun c ob hb q => hk c ob (fun x => hb (by simp [x])) (fun x => hb (by simp [x])) (fun x => hb (by simp [x])) (fun x => hb (by simp [x])) q) hf⟩
  self := fun A i s Q E st h => wpAny_pyIter_zip st.1 h
def iZipM (K : PySem.W.Frag) (ta : TA) : TI := fun σ H R => ta σ H fun vs H1 => ∃ a b xs ys, vs = [.ref a, .ref b] ∧ ((SqL K H1 a xs ∧ SqL K H1 b ys ∧ R (Itz K a b) H1) ∨ (SqT K H1 a xs ∧ SqT K H1 b ys ∧ R (RZ.ItzT K a b) H1) ∨ (SqL K H1 a xs ∧ SqT K H1 b ys ∧ R (ItM K a b) H1))
theorem pi_zipM {X : Cx} {e e2 : Expr} {ta : TA} {p pos tpos : Pos} {elts : List Expr} {kk : Nat} (hg : Gl X "zip") (hm : X.mg "zip" = none) (ha : PA X [e, e2] ta)
    (hs : starEach [e, e2] X.env = (false, eval e X.env) :: starEach [e2] X.env := by rfl) (hpl : (backTo pos (starEach [e2] X.env)).any (·.1) = false := by rfl) :
    PI X (.Tuple elts kk tpos) (.Call (.Name "zip" p) [e, e2] [] pos) (iZipM X.K ta) := by
  refine ⟨fun pins s σ H R I h => ?_⟩
  refine Call_ (ld_blt I hg hm PyProof.Rows.boot_zip (PyProof.Rows.callWith_type1 (thn (ha.run pos pins s σ H _ I h) fun us s1 ⟨vs, H1, J, r1, q1⟩ => ?_) hs hpl))
  obtain ⟨a, b, xs, ys, ex, q1⟩ := q1
  subst ex
  rcases r1 with _ | ⟨ra, _ | ⟨rb, _ | _⟩⟩
  · cases ra
    cases rb
    have fr : ∀ c, c ∈ [s1.heap.objs.size + 4, s1.heap.objs.size + 2, s1.heap.objs.size + 3, s1.heap.objs.size, s1.heap.objs.size + 1] → FpOk X pins H1 c := fun c hc => by
      have le : s1.heap.objs.size ≤ c := by rcases mem5 hc with rfl | rfl | rfl | rfl | rfl <;> omega
      exact J.fpOk le (J.hok.fresh le)
    rcases q1 with ⟨sa, sb, q⟩ | ⟨sa, sb, q⟩ | ⟨sa, sb, q⟩
    · obtain ⟨as, rva, pa, _⟩ := J.list sa
      obtain ⟨bs, rvb, pb, _⟩ := J.list sb
      exact call_zip_2 pa.isList pb.isList fun g hz ht ho h1 h2 _ hk => wpAny_pyIter_zip hz ⟨_, _, _, _, H1, rfl, J.kept (t' := s1.toks) hk, turn_zip (PySem.W.ktu_apart s1.heap.objs.size a b pa.lt pb.lt), ⟨hz, ht, ⟨_, _, ho⟩, h1, h2⟩, fr, q⟩
    · obtain ⟨as, rva, pa, _⟩ := J.tuple sa
      obtain ⟨bs, rvb, pb, _⟩ := J.tuple sb
      obtain ⟨o1, x1, _⟩ := id pa
      obtain ⟨o2, x2, _⟩ := id pb
      exact RZ.call_zipT pa pb fun g hz ht ho h1 h2 _ hk => wpAny_pyIter_zip hz ⟨_, _, _, _, H1, rfl, J.kept (t' := s1.toks) hk, RZ.turn_zipT (PySem.W.ktu_apart s1.heap.objs.size a b (Heap.lt_size x1) (Heap.lt_size x2)), ⟨hz, ht, ⟨_, _, ho⟩, h1, h2⟩, fr, q⟩
    · obtain ⟨as, rva, pa, _⟩ := J.list sa
      obtain ⟨bs, rvb, pb, _⟩ := J.tuple sb
      obtain ⟨o2, x2, _⟩ := id pb
      exact call_mz pa.isList pb fun g hz ht ho h1 h2 hk => wpAny_pyIter_zip hz ⟨_, _, _, _, H1, rfl, J.kept (t' := s1.toks) hk, turn_mz (PySem.W.ktu_apart s1.heap.objs.size a b pa.lt (Heap.lt_size x2)), ⟨hz, ht, ⟨_, _, ho⟩, h1, h2⟩, fr, q⟩
/-! ### its reading -/
def dZipM (a : DA) : DI := fun ρ M Q => a ρ M fun ds M1 => match ds with
  | [.lst xs, .lst ys] => Q (pairsD xs ys) M1
  | [.tup xs, .tup ys] => Q (pairsD xs ys) M1
  | [.lst xs, .tup ys] => Q (pairsD xs ys) M1
  | _ => False
theorem walks_zipM {K : PySem.W.Frag} {p q : Addr} {vs ws : List V} {xs ys : List D} {G : Hp} (h1 : SqL K G p vs) (h2 : SqT K G q ws) (r1 : Reps K G xs vs) (r2 : Reps K G ys ws) : WalksD K (ItM K p q) (pairsD xs ys) G where
  go := fun i H s hi => by
    rw [pairs_len] at hi
    exact ⟨vs, ws, vs[i]'(by rw [← r1.length]; omega), ws[i]'(by rw [← r2.length]; omega), s.seq h1, sameT s h2, List.getElem?_eq_getElem _, List.getElem?_eq_getElem _⟩
  stop := fun i H s hi => by
    rw [pairs_len] at hi
    exact ⟨vs, ws, s.seq h1, sameT s h2, by rw [← r1.length, ← r2.length]; omega⟩
  yld := fun i H x H' d s hd y => by
    obtain ⟨T, v, u, rfl, hT, rfl, y1, y2⟩ := y
    obtain ⟨a, b, e1, e2, rfl⟩ := pairs_get hd
    obtain ⟨v', f1, g1⟩ := r1.get e1
    obtain ⟨u', f2, g2⟩ := r2.get e2
    have z1 := y1 vs (s.seq h1)
    have z2 := y2 ws (sameT s h2)
    rw [f1] at z1
    rw [f2] at z2
    cases z1
    cases z2
    refine .inr ⟨T, .tup [v, u], hT, rfl, fun G1 s1 hn => ?_⟩
    unfold Rep
    exact ⟨T, _, rfl, .inl (.inl upd_same), (Reps.cons g1 (.cons g2 .nil)).mono (s1.trans (same_upd hn))⟩
theorem di_zipM {X : Cx} {G0 : Hp} {e e2 : Expr} {elts : List Expr} {ad : DA} {p pos tpos : Pos} {kk : Nat} (hg : Gl X "zip") (hm : X.mg "zip" = none) (ha : PA X [e, e2] (upA X.K G0 ad)) (hs : starEach [e, e2] X.env = (false, eval e X.env) :: starEach [e2] X.env := by rfl) (hpl : (backTo pos (starEach [e2] X.env)).any (·.1) = false := by rfl) :
    PI X (.Tuple elts kk tpos) (.Call (.Name "zip" p) [e, e2] [] pos) (upI X.K G0 (dZipM ad)) := pi_mono (pi_zipM hg hm ha hs hpl) fun σ H R h => by
  obtain ⟨ρ, M, G, Qd, s0, rl, l, h, kk⟩ := h
  refine ⟨ρ, M, G, _, s0, rl, l, h, fun ds M1 G1 vs H1 s1 r1 p1 q1 => ?_⟩
  split at q1
  · obtain ⟨v1, v2, rfl, q2, q3⟩ := reps2 p1
    unfold Rep at q2 q3
    obtain ⟨a, vs, rfl, h1, w1⟩ := q2
    obtain ⟨b, ws, rfl, h2, w2⟩ := q3
    exact ⟨a, b, vs, ws, rfl, .inl ⟨r1.sub.seq (SqL.of h1), r1.sub.seq (SqL.of h2), kk _ M1 G1 H1 _ s1 r1 (walks_zipL (SqL.of h1) (SqL.of h2) w1 w2) q1⟩⟩
  · obtain ⟨v1, v2, rfl, q2, q3⟩ := reps2 p1
    unfold Rep at q2 q3
    obtain ⟨a, vs, rfl, h1, w1⟩ := q2
    obtain ⟨b, ws, rfl, h2, w2⟩ := q3
    exact ⟨a, b, vs, ws, rfl, .inr (.inl ⟨sameT r1.sub h1, sameT r1.sub h2, kk _ M1 G1 H1 _ s1 r1 (walks_zipT h1 h2 w1 w2) q1⟩)⟩
  · obtain ⟨v1, v2, rfl, q2, q3⟩ := reps2 p1
    unfold Rep at q2 q3
    obtain ⟨a, vs, rfl, h1, w1⟩ := q2
    obtain ⟨b, ws, rfl, h2, w2⟩ := q3
    exact ⟨a, b, vs, ws, rfl, .inr (.inr ⟨r1.sub.seq (SqL.of h1), sameT r1.sub h2, kk _ M1 G1 H1 _ s1 r1 (walks_zipM (SqL.of h1) h2 w1 w2) q1⟩)⟩
  · exact q1.elim
/-! ### calls of what stands in a slot -/
/-- a def at the address f -/
def FdV (P : Program) (w : World) (K : PySem.W.Frag) (mg : Str → Option Value) (base : Heap) (k : Nat) (f : Addr) (ps : List Str) (sp : DSp) : Prop := ∃ fd, PySem.W.keepIn K (.ref f) = true ∧ Binds K fd ps [] ∧ FnD P w K mg base k f fd ps sp
theorem Fd.at {P : Program} {w : World} {K : PySem.W.Frag} {mg : Str → Option Value} {base : Heap} {k : Nat} {x : Str} {ps : List Str} {sp : DSp} (F : Fd P w K mg base k x ps sp) : ∃ f, mg x = some (.ref f) ∧ FdV P w K mg base k f ps sp := by
  obtain ⟨g, fd, h1, h2, h3, h4⟩ := F
  exact ⟨g, h1, fd, h2, h3, h4⟩
theorem FdV.mono {P : Program} {w : World} {K : PySem.W.Frag} {mg : Str → Option Value} {base : Heap} {j k : Nat} {f : Addr} {ps : List Str} {sp : DSp} (F : FdV P w K mg base j f ps sp) (h : j ≤ k) : FdV P w K mg base k f ps sp := let ⟨fd, h1, h2, h3⟩ := F; ⟨fd, h1, h2, h3.mono h⟩
/-- e(..), what e tells is a def of the table -/
def dCallV (fs : List (Addr × DSp)) (Wd : DXS) (c : DE) (a : DA) : DE := fun ρ M Q => c ρ M fun d M0 => ∃ f sp, d = .ref f ∧ (f, sp) ∈ fs ∧ dCallF sp Wd a ρ M0 Q
theorem de_callV {X : Cx} {G0 : Hp} {fs : List (Addr × DSp)} {k : Nat} {ps : List Str} {Wd : DXS} {x : Str} {e : Expr} {es : List Expr} {p pos : Pos} {dc : DE} {ad : DA} (F : ∀ f sp, (f, sp) ∈ fs → FdV X.prog X.w X.K X.mg X.base k f ps sp) (hr : RoomG k X.A) (tk : Takes X (upW X.K G0 Wd))
    (hc : PE X (.Name x p) (up X.K G0 dc)) (ha : PA X (e :: es) (upA X.K G0 ad)) (he : starEach (e :: es) X.env = (false, eval e X.env) :: starEach es X.env := by rfl) (hpl : (backTo pos (starEach es X.env)).any (·.1) = false := by rfl) :
    PE X (.Call (.Name x p) (e :: es) [] pos) (up X.K G0 (dCallV fs Wd dc ad)) := by
  refine ⟨fun pins s σ H Q I h => wpAny_Call_Name_kw ?_⟩
  obtain ⟨ρ, M, G, Qd, s0, rl, l, h, kk⟩ := h
  refine thn (hc.run pins s σ H (fun v H1 => ∃ f sp M1 G1, v = .ref f ∧ (f, sp) ∈ fs ∧ Same X.K G G1 ∧ RelH X.K M1 G1 H1 ∧ dCallF sp Wd ad ρ M1 Qd) I ⟨ρ, M, G, _, s0, rl, l, h, fun d M1 G1 v H1 s1 r1 p1 ⟨f, sp, e1, hm, q1⟩ => ?_⟩) ?_
  · subst e1
    exact ⟨f, sp, M1, G1, rep_ref p1, hm, s1, r1, q1⟩
  · rintro u t ⟨v, H1, J, rv, f, sp, M1, G1, e1, hm, s1, r1, q1⟩
    subst e1
    cases rv
    obtain ⟨fd, hk, hb, hF⟩ := F f sp hm
    refine PySem.W.callWith_K (h₀ := X.base) J.ok.mod.kin hk (thn (ha.run pos pins t σ H1 _ J (up_callF (ta := tNil) (Q := Q) rfl ⟨ρ, M1, G1, Qd, s0.trans s1, r1, l.mono s1, q1, fun d M' G' v H' s2 r2 p2 q2 => kk d M' G' v H' (s1.trans s2) r2 p2 q2⟩)) ?_) he hpl
    rintro uu s2 ⟨vs, H2, J2, r, q⟩
    exact ⟨J2.kIn, run_fnD hF hr hb tk J2 r q⟩
end Dq
/-! The deep layer, part 19: == []; comprehensions that only look. -/
namespace Dq
open PySem PySem.Spec PyProof.Rows L2
/-- x == [] for a list of anything -/
def rEqE : RD2 := fun x y M Q => match x, y with
  | .lst xs, .lst [] => Q (.bl xs.isEmpty) M
  | x, y => rEq' x y M Q
theorem eqE_ok {X : Cx} (hu : X.A.units + 64 < cLine) : OpR X (compareOp .Eq) (up2 X.K rEqE) := by
  intro pins s σ H x y v u Q I rx ry h
  obtain ⟨M, G, dx, dy, Qd, rl, p1, p2, q, k⟩ := h
  unfold rEqE at q
  split at q
  · rename_i xs
    cases xs with
    | nil => exact eq_ok hu pins s σ H x y v u Q I rx ry ⟨M, G, .lst [], .lst [], Qd, rl, p1, p2, ⟨_, _, rfl, rfl, rfl, rfl, q⟩, k⟩
    | cons z zs =>
      unfold Rep at p1 p2
      obtain ⟨a, vs, rfl, h1, w1⟩ := p1
      obtain ⟨b, ws, rfl, h2, w2⟩ := p2
      cases rx
      cases ry
      obtain ⟨as, ra, pa, _⟩ := I.list (SqL.of (rl.sub.lst h1))
      obtain ⟨bs, rb, pb, _⟩ := I.list (SqL.of (rl.sub.lst h2))
      have l1 := ra.length
      have l2 := rb.length
      have l3 := w1.length
      have l4 := w2.length
      refine PySem.SeqAt.eq_list_lengthsAt pa.isList pb.isList ?_ (by omega) ⟨.bl false, H, I, rfl, k _ M G _ H (Same.refl _) rl (flat_rep rfl) q⟩
      simp only [List.length_cons, List.length_nil] at l3 l4
      simp only [List.size_toArray, bne_iff_ne, ne_eq]
      omega
  · exact eq_ok hu pins s σ H x y v u Q I rx ry ⟨M, G, dx, dy, Qd, rl, p1, p2, q, k⟩
theorem frz_lst {p : Addr} {l : List D} {M : Mm} {Q : DK} (hp : M p = none) (h : Q (.lst l) M) : frz (.ref p) (M.set p (.lst l)) Q := by
  unfold frz
  simp only [Mm.set_same]
  rw [Mm.del_set hp]
  exact h
/-- a comprehension over one name whose test and item look at the turn's thing only -/
theorem lcL_sel {i : Nat} {dt : DT} {de : DE} {p : Addr} {ρ : Ds} {M : Mm} {Q : Mm → Prop} (f : D → Option D) :
    ∀ (xs acc : List D), acc.length + xs.length < 16777216 →
    (∀ x ∈ xs, ∀ acc' (R : Bool → Mm → Prop), R (f x).isSome (M.set p (.lst acc')) → dt (ρ.set i (some x)) (M.set p (.lst acc')) R) →
    (∀ x ∈ xs, ∀ y, f x = some y → ∀ acc' (R : DK), R y (M.set p (.lst acc')) → de (ρ.set i (some x)) (M.set p (.lst acc')) R) →
    Q (M.set p (.lst (acc ++ xs.filterMap f))) → dLcL (dgName i) dt de p ρ xs (M.set p (.lst acc)) Q
  | [], acc, _, _, _, hq => by
    simp only [List.filterMap_nil, List.append_nil] at hq
    exact hq
  | x :: xs, acc, hl, ht, he, hq => by
    have rest : ∀ acc', acc'.length + xs.length < 16777216 → Q (M.set p (.lst (acc' ++ xs.filterMap f))) → dLcL (dgName i) dt de p ρ xs (M.set p (.lst acc')) Q := fun acc' h1 h2 =>
      lcL_sel f xs acc' h1 (fun y hy => ht y (List.mem_cons_of_mem _ hy)) (fun y hy => he y (List.mem_cons_of_mem _ hy)) h2
    rw [List.length_cons] at hl
    unfold dLcL
    refine ht x List.mem_cons_self acc _ ?_
    cases e : f x with
    | none =>
      rw [List.filterMap_cons_none e] at hq
      exact rest acc (by omega) hq
    | some y =>
      rw [List.filterMap_cons_some e] at hq
      refine he x List.mem_cons_self y e acc _ ?_
      simp only [Mm.set_same]
      refine ⟨by omega, ?_⟩
      rw [Mm.set_set]
      exact rest (acc ++ [y]) (by rw [List.length_append]; simp; omega) (by rw [List.append_assoc]; exact hq)
theorem lc_sel {i : Nat} {dt : DT} {de : DE} {ρ : Ds} {M : Mm} {Q : DK} {xs : List D} (f : D → Option D) (hl : xs.length < 16777216)
    (ht : ∀ x ∈ xs, ∀ M' (R : Bool → Mm → Prop), R (f x).isSome M' → dt (ρ.set i (some x)) M' R)
    (he : ∀ x ∈ xs, ∀ y, f x = some y → ∀ M' (R : DK), R y M' → de (ρ.set i (some x)) M' R)
    (h : Q (.lst (xs.filterMap f)) M) : ∀ p, M p = none → dLcL (dgName i) dt de p ρ xs (M.set p (.lst [])) fun M2 => frz (.ref p) M2 Q := fun p hp =>
  lcL_sel f xs [] (by simpa using hl) (fun x hx acc' R => ht x hx _ R) (fun x hx y e acc' R => he x hx y e _ R) (frz_lst hp h)
end Dq
set_option maxHeartbeats 4000000
/-! The deep layer, part 20: what an error is, told by its class and its fields. -/
namespace Dq
open PySem PySem.Spec PyProof.Rows L2
open PySem.W (findIn typeIn keepIn)
def AnyF (d : D) : Prop := ∃ p, D.px d = some p ∧ Okp 100000 20 p
def sh (x : D) : Str := match D.px x with | some p => p.shown | none => ""
def due : Nat → D → D → D → D
  | 0, a, b, _ => .tup [.str "number", a, .str (sh b)]
  | 1, a, b, _ => .tup [.str "row", a, .str (sh b)]
  | 2, a, _, _ => .tup [.str "table", a]
  | 3, a, _, _ => .tup [.str "tree", a]
  | 4, a, _, _ => .tup [.str "plan", a]
  | 5, a, _, _ => .tup [.str "book", a]
  | 6, a, _, _ => .tup [.str "badname", .str (sh a)]
  | 7, a, b, _ => .tup [.str "text", a, b]
  | 8, a, b, _ => .tup [.str "place", a, .str (sh b)]
  | 9, a, _, _ => .tup [.str "noname", .str (sh a)]
  | 10, a, _, _ => .tup [.str "taken", .str (sh a)]
  | 11, a, _, _ => .tup [.str "unlike", a]
  | 12, a, _, _ => .tup [.str "notthere", a]
  | 13, a, b, d => .tup [.str "many", a, b, d]
  | 14, a, b, _ => .tup [.str "kept", a, b]
  | 15, _, _, _ => .tup [.str "undo"]
  | _, _, _, _ => .tup [.str "redo"]
def flK : Nat → D → D → D → List (Str × D)
  | 0, a, b, _ => [("what", a), ("number", b)]
  | 1, a, b, _ => [("what", a), ("row", b)]
  | 2, a, _, _ => [("what", a)]
  | 3, a, _, _ => [("what", a)]
  | 4, a, _, _ => [("what", a)]
  | 5, a, _, _ => [("what", a)]
  | 6, a, _, _ => [("name", a)]
  | 7, a, b, _ => [("line", a), ("word", b)]
  | 8, a, b, _ => [("what", a), ("index", b)]
  | 9, a, _, _ => [("name", a)]
  | 10, a, _, _ => [("name", a)]
  | 11, a, _, _ => [("what", a)]
  | 12, a, _, _ => [("paper", a)]
  | 13, a, b, d => [("what", a), ("many", b), ("limit", d)]
  | 14, a, b, _ => [("promise", a), ("witness", b)]
  | _, _, _, _ => []
def spKinds (c : Nat → Addr) : ESp := fun q C fl ds M Q _ => ds = [.ref q] ∧ ∃ (k : Nat) (a b d : D), k < 17 ∧ C = c (k + 1) ∧ fl = flK k a b d ∧ AnyF a ∧ AnyF b ∧ Q (.lst [due k a b d]) M
def spMoreKinds (c : Nat → Addr) : ESp := fun q C fl ds M Q _ => ds = [.ref q] ∧ ∃ (k : Nat) (a b d : D), k < 17 ∧ C = c (k + 1) ∧ fl = flK k a b d ∧ AnyF a ∧ AnyF b ∧ Q (.lst (if k ≤ 8 then [] else [due k a b d])) M
theorem len_kinds {c : Nat → Addr} : ∀ q C fl ds M Q E, spKinds c q C fl ds M Q E → ds.length = (["e"] : List Str).length := by rintro q C fl ds M Q E ⟨rfl, _⟩; rfl
theorem in_kinds {c : Nat → Addr} : ∀ q C fl ds M Q E, spKinds c q C fl ds M Q E → C ∈ allC c 18 := by rintro _ _ _ _ _ _ _ ⟨rfl, k, _, _, _, hk, rfl, _⟩; exact mem_allC (by omega)
theorem len_more_kinds {c : Nat → Addr} : ∀ q C fl ds M Q E, spMoreKinds c q C fl ds M Q E → ds.length = (["e"] : List Str).length := by rintro q C fl ds M Q E ⟨rfl, _⟩; rfl
theorem in_more_kinds {c : Nat → Addr} : ∀ q C fl ds M Q E, spMoreKinds c q C fl ds M Q E → C ∈ allC c 18 := by rintro _ _ _ _ _ _ _ ⟨rfl, k, _, _, _, hk, rfl, _⟩; exact mem_allC (by omega)
theorem isE_at {c : Nat → Addr} {n i j : Nat} {q : Addr} {ρ : Ds} {M : Mm} {Q : Bool → Mm → Prop} (inj : Inj c n) (hi : i < n) (hj : j < n) (h0 : i ≠ 0) (hs : slot ρ 0 = some (.ref q)) (h : Q (decide (j = i) || decide (j = 0)) M) :
    dTest (dCall (cIsE q (rErr (allC c n) (c i) (upsC c (c i)))) (dCons (dVar 0) (dCons (dC (.ref (c j))) dNil))) ρ M Q := by
  unfold dTest dCall dCons dVar dC dNil
  simp only [hs]
  refine ⟨rfl, ?_⟩
  rw [rErr_at inj hi hj h0]
  exact h
theorem is_yes {c : Nat → Addr} {n i : Nat} {q p : Addr} {M : Mm} {D : DEnds} {ad : DA} {u : DS} (inj : Inj c n) (hi : i < n) (h0 : i ≠ 0)
    (h : ad [some (.ref q), some (.ref p)] (M.set p (.lst [])) fun ds M2 => match ds, M2 p with | [x], some (.lst xs) => xs.length < 16777216 ∧ u D [some (.ref q), some (.ref p)] (M2.set p (.lst (xs ++ [x]))) | _, _ => False) :
    dSeq (dIf (dTest (dCall (cIsE q (rErr (allC c n) (c i) (upsC c (c i)))) (dCons (dVar 0) (dCons (dC (.ref (c i))) dNil)))) (dDrop (dApp (dVar 1) ad)) dNext) u D [some (.ref q), some (.ref p)] (M.set p (.lst [])) := by
  unfold dSeq dIf
  refine isE_at inj hi hi h0 rfl ?_
  rw [decide_eq_true rfl]
  exact ⟨⟨_, Mm.set_same⟩, h⟩
theorem is_no {c : Nat → Addr} {n i j : Nat} {q : Addr} {ρ : Ds} {M : Mm} {D : DEnds} {t u : DS} (inj : Inj c n) (hi : i < n) (hj : j < n) (h0 : i ≠ 0) (h1 : j ≠ i) (h2 : j ≠ 0) (hs : slot ρ 0 = some (.ref q)) (h : u D ρ M) :
    dSeq (dIf (dTest (dCall (cIsE q (rErr (allC c n) (c i) (upsC c (c i)))) (dCons (dVar 0) (dCons (dC (.ref (c j))) dNil)))) t dNext) u D ρ M := by
  unfold dSeq dIf
  refine isE_at inj hi hj h0 hs ?_
  rw [decide_eq_false h1, decide_eq_false h2]
  exact h
theorem fld_at {q : Addr} {fl : List (Str × D)} {n : Str} {ρ : Ds} {M : Mm} {Q : DK} {x : D} (hs : slot ρ 0 = some (.ref q)) (h : fl.lookup n = some x) (k : Q x M) : dFld q fl n (dVar 0) ρ M Q := by
  unfold dFld dVar
  simp only [hs, h]
  exact ⟨trivial, k⟩
theorem repr_at {d : D} {M : Mm} {Q : DK} (ha : AnyF d) (h : Q (.str (sh d)) M) : cRepr [d] M Q := by
  obtain ⟨p, e, ok⟩ := ha
  unfold sh at h
  rw [e] at h
  exact ⟨p, 100000, e, ok.mono (Nat.le_refl _) (by decide), by decide, h⟩
/-- found.append((..)) upon the empty list at p -/
theorem app_at {p : Addr} {x : D} {M : Mm} {R : Mm → Prop} (h : R (M.set p (.lst [x]))) : (match ([x] : List D), (M.set p (.lst [])) p with | [x], some (.lst xs) => xs.length < 16777216 ∧ R ((M.set p (.lst [])).set p (.lst (xs ++ [x]))) | _, _ => False) := by
  rw [Mm.set_same]
  show _ ∧ R ((M.set p (.lst [])).set p (.lst [x]))
  rw [Mm.set_set]
  exact ⟨by decide, h⟩
theorem var1 {x : Option D} {y : D} {r : Ds} {M : Mm} {Q : DK} : dVar 1 (x :: some y :: r) M Q = Q y M := rfl
theorem frz_at {p : Addr} {l : List D} {M : Mm} {Q : DK} (hp : M p = none) (h : Q (.lst l) M) : frz (.ref p) (M.set p (.lst l)) Q := by
  unfold frz
  simp only [Mm.set_same]
  rw [Mm.del_set hp]
  exact h
theorem sz {n : Nat} (h : n ≤ 1000) : n ≤ sizeLine := by rw [sizeLine_eq]; omega
theorem found_at {q : Addr} {M : Mm} {D : DEnds} {u : DS} (h : ∀ p, M p = none → u D [some (.ref q), some (.ref p)] (M.set p (.lst []))) : dSeq (dAsg (dLstM dNil) (dgName 1)) u D [some (.ref q), none] M :=
  ⟨sz (by decide), fun p hp => h p hp⟩
theorem kinds_end {q p C : Addr} {fl : List (Str × D)} {l : List D} {M : Mm} {Q : DK} {sp : ESp} (hp : M p = none) (h : sp q C fl [.ref q] M (fun y M2 => rAdd (.lst l) y M2 Q) fun _ _ _ => False) :
    dBin rAdd (dFrz (dVar 1)) (dCallE sp q C fl (fun _ _ _ _ => False) (dCons (dVar 0) dNil)) [some (.ref q), some (.ref p)] (M.set p (.lst l)) Q := by
  unfold dBin dFrz
  rw [var1]
  exact frz_at hp h
def bMoreKinds (c : Nat → Addr)  (q C : Addr) (fl : List (Str × D)) : DXS → DS := fun Wd => (dSeq (dAsg (dLstM dNil) (dgName 1))
  (dSeq (dIf (dTest (dCall (cIsE q (rErr (allC c 18) C (upsC c C))) (dCons (dVar 0) (dCons (dC (.ref (c 10))) dNil)))) (dDrop (dApp (dVar 1) (dCons (dTup (dCons (dC (.str "noname")) (dCons (dCall cRepr (dCons (dFld q fl "name" (dVar 0)) dNil)) dNil))) dNil))) dNext)
  (dSeq (dIf (dTest (dCall (cIsE q (rErr (allC c 18) C (upsC c C))) (dCons (dVar 0) (dCons (dC (.ref (c 11))) dNil)))) (dDrop (dApp (dVar 1) (dCons (dTup (dCons (dC (.str "taken")) (dCons (dCall cRepr (dCons (dFld q fl "name" (dVar 0)) dNil)) dNil))) dNil))) dNext)
  (dSeq (dIf (dTest (dCall (cIsE q (rErr (allC c 18) C (upsC c C))) (dCons (dVar 0) (dCons (dC (.ref (c 12))) dNil)))) (dDrop (dApp (dVar 1) (dCons (dTup (dCons (dC (.str "unlike")) (dCons (dFld q fl "what" (dVar 0)) dNil))) dNil))) dNext)
  (dSeq (dIf (dTest (dCall (cIsE q (rErr (allC c 18) C (upsC c C))) (dCons (dVar 0) (dCons (dC (.ref (c 13))) dNil)))) (dDrop (dApp (dVar 1) (dCons (dTup (dCons (dC (.str "notthere")) (dCons (dFld q fl "paper" (dVar 0)) dNil))) dNil))) dNext)
  (dSeq (dIf (dTest (dCall (cIsE q (rErr (allC c 18) C (upsC c C))) (dCons (dVar 0) (dCons (dC (.ref (c 14))) dNil)))) (dDrop (dApp (dVar 1) (dCons (dTup (dCons (dC (.str "many")) (dCons (dFld q fl "what" (dVar 0)) (dCons (dFld q fl "many" (dVar 0)) (dCons (dFld q fl "limit" (dVar 0)) dNil))))) dNil))) dNext)
  (dSeq (dIf (dTest (dCall (cIsE q (rErr (allC c 18) C (upsC c C))) (dCons (dVar 0) (dCons (dC (.ref (c 15))) dNil)))) (dDrop (dApp (dVar 1) (dCons (dTup (dCons (dC (.str "kept")) (dCons (dFld q fl "promise" (dVar 0)) (dCons (dFld q fl "witness" (dVar 0)) dNil)))) dNil))) dNext)
  (dSeq (dIf (dTest (dCall (cIsE q (rErr (allC c 18) C (upsC c C))) (dCons (dVar 0) (dCons (dC (.ref (c 16))) dNil)))) (dDrop (dApp (dVar 1) (dCons (dTup (dCons (dC (.str "undo")) dNil)) dNil))) dNext)
  (dSeq (dIf (dTest (dCall (cIsE q (rErr (allC c 18) C (upsC c C))) (dCons (dVar 0) (dCons (dC (.ref (c 17))) dNil)))) (dDrop (dApp (dVar 1) (dCons (dTup (dCons (dC (.str "redo")) dNil)) dNil))) dNext)
  (dRet (dFrz (dVar 1))))))))))))
def bKinds (c : Nat → Addr) (sp : ESp) (q C : Addr) (fl : List (Str × D)) : DXS → DS := fun Wd => (dSeq (dAsg (dLstM dNil) (dgName 1))
  (dSeq (dIf (dTest (dCall (cIsE q (rErr (allC c 18) C (upsC c C))) (dCons (dVar 0) (dCons (dC (.ref (c 1))) dNil)))) (dDrop (dApp (dVar 1) (dCons (dTup (dCons (dC (.str "number")) (dCons (dFld q fl "what" (dVar 0)) (dCons (dCall cRepr (dCons (dFld q fl "number" (dVar 0)) dNil)) dNil)))) dNil))) dNext)
  (dSeq (dIf (dTest (dCall (cIsE q (rErr (allC c 18) C (upsC c C))) (dCons (dVar 0) (dCons (dC (.ref (c 2))) dNil)))) (dDrop (dApp (dVar 1) (dCons (dTup (dCons (dC (.str "row")) (dCons (dFld q fl "what" (dVar 0)) (dCons (dCall cRepr (dCons (dFld q fl "row" (dVar 0)) dNil)) dNil)))) dNil))) dNext)
  (dSeq (dIf (dTest (dCall (cIsE q (rErr (allC c 18) C (upsC c C))) (dCons (dVar 0) (dCons (dC (.ref (c 3))) dNil)))) (dDrop (dApp (dVar 1) (dCons (dTup (dCons (dC (.str "table")) (dCons (dFld q fl "what" (dVar 0)) dNil))) dNil))) dNext)
  (dSeq (dIf (dTest (dCall (cIsE q (rErr (allC c 18) C (upsC c C))) (dCons (dVar 0) (dCons (dC (.ref (c 4))) dNil)))) (dDrop (dApp (dVar 1) (dCons (dTup (dCons (dC (.str "tree")) (dCons (dFld q fl "what" (dVar 0)) dNil))) dNil))) dNext)
  (dSeq (dIf (dTest (dCall (cIsE q (rErr (allC c 18) C (upsC c C))) (dCons (dVar 0) (dCons (dC (.ref (c 5))) dNil)))) (dDrop (dApp (dVar 1) (dCons (dTup (dCons (dC (.str "plan")) (dCons (dFld q fl "what" (dVar 0)) dNil))) dNil))) dNext)
  (dSeq (dIf (dTest (dCall (cIsE q (rErr (allC c 18) C (upsC c C))) (dCons (dVar 0) (dCons (dC (.ref (c 6))) dNil)))) (dDrop (dApp (dVar 1) (dCons (dTup (dCons (dC (.str "book")) (dCons (dFld q fl "what" (dVar 0)) dNil))) dNil))) dNext)
  (dSeq (dIf (dTest (dCall (cIsE q (rErr (allC c 18) C (upsC c C))) (dCons (dVar 0) (dCons (dC (.ref (c 7))) dNil)))) (dDrop (dApp (dVar 1) (dCons (dTup (dCons (dC (.str "badname")) (dCons (dCall cRepr (dCons (dFld q fl "name" (dVar 0)) dNil)) dNil))) dNil))) dNext)
  (dSeq (dIf (dTest (dCall (cIsE q (rErr (allC c 18) C (upsC c C))) (dCons (dVar 0) (dCons (dC (.ref (c 8))) dNil)))) (dDrop (dApp (dVar 1) (dCons (dTup (dCons (dC (.str "text")) (dCons (dFld q fl "line" (dVar 0)) (dCons (dFld q fl "word" (dVar 0)) dNil)))) dNil))) dNext)
  (dSeq (dIf (dTest (dCall (cIsE q (rErr (allC c 18) C (upsC c C))) (dCons (dVar 0) (dCons (dC (.ref (c 9))) dNil)))) (dDrop (dApp (dVar 1) (dCons (dTup (dCons (dC (.str "place")) (dCons (dFld q fl "what" (dVar 0)) (dCons (dCall cRepr (dCons (dFld q fl "index" (dVar 0)) dNil)) dNil)))) dNil))) dNext)
  (dRet (dBin rAdd (dFrz (dVar 1)) (dCallE sp q C fl (fun _ _ _ _ => False) (dCons (dVar 0) dNil))))))))))))))
theorem pure_more_kinds {c : Nat → Addr} (inj : Inj c 18) : ∀ q C fl ds M Q E, spMoreKinds c q C fl ds M Q E → bMoreKinds c q C fl (fun C fs _ M' => E C fs M') { nx := fun _ M' => Q .non M', rt := Q } (dstart ["e", "found"] ds) M := by
  rintro q C fl ds M Q E ⟨rfl, k, a, b, d, hk, rfl, rfl, ha, hb, h⟩
  have e0 : dstart ["e", "found"] [.ref q] = [some (.ref q), none] := rfl
  rw [e0]
  unfold bMoreKinds
  refine found_at fun p hp => ?_
  match k, hk with
  | 0, _ =>
    refine is_no inj (i := 1) (j := 10) (by decide) (by decide) (by decide) (by decide) (by decide) (by rfl) ?_
    refine is_no inj (i := 1) (j := 11) (by decide) (by decide) (by decide) (by decide) (by decide) (by rfl) ?_
    refine is_no inj (i := 1) (j := 12) (by decide) (by decide) (by decide) (by decide) (by decide) (by rfl) ?_
    refine is_no inj (i := 1) (j := 13) (by decide) (by decide) (by decide) (by decide) (by decide) (by rfl) ?_
    refine is_no inj (i := 1) (j := 14) (by decide) (by decide) (by decide) (by decide) (by decide) (by rfl) ?_
    refine is_no inj (i := 1) (j := 15) (by decide) (by decide) (by decide) (by decide) (by decide) (by rfl) ?_
    refine is_no inj (i := 1) (j := 16) (by decide) (by decide) (by decide) (by decide) (by decide) (by rfl) ?_
    refine is_no inj (i := 1) (j := 17) (by decide) (by decide) (by decide) (by decide) (by decide) (by rfl) ?_
    exact frz_at hp h
  | 1, _ =>
    refine is_no inj (i := 2) (j := 10) (by decide) (by decide) (by decide) (by decide) (by decide) (by rfl) ?_
    refine is_no inj (i := 2) (j := 11) (by decide) (by decide) (by decide) (by decide) (by decide) (by rfl) ?_
    refine is_no inj (i := 2) (j := 12) (by decide) (by decide) (by decide) (by decide) (by decide) (by rfl) ?_
    refine is_no inj (i := 2) (j := 13) (by decide) (by decide) (by decide) (by decide) (by decide) (by rfl) ?_
    refine is_no inj (i := 2) (j := 14) (by decide) (by decide) (by decide) (by decide) (by decide) (by rfl) ?_
    refine is_no inj (i := 2) (j := 15) (by decide) (by decide) (by decide) (by decide) (by decide) (by rfl) ?_
    refine is_no inj (i := 2) (j := 16) (by decide) (by decide) (by decide) (by decide) (by decide) (by rfl) ?_
    refine is_no inj (i := 2) (j := 17) (by decide) (by decide) (by decide) (by decide) (by decide) (by rfl) ?_
    exact frz_at hp h
  | 2, _ =>
    refine is_no inj (i := 3) (j := 10) (by decide) (by decide) (by decide) (by decide) (by decide) (by rfl) ?_
    refine is_no inj (i := 3) (j := 11) (by decide) (by decide) (by decide) (by decide) (by decide) (by rfl) ?_
    refine is_no inj (i := 3) (j := 12) (by decide) (by decide) (by decide) (by decide) (by decide) (by rfl) ?_
    refine is_no inj (i := 3) (j := 13) (by decide) (by decide) (by decide) (by decide) (by decide) (by rfl) ?_
    refine is_no inj (i := 3) (j := 14) (by decide) (by decide) (by decide) (by decide) (by decide) (by rfl) ?_
    refine is_no inj (i := 3) (j := 15) (by decide) (by decide) (by decide) (by decide) (by decide) (by rfl) ?_
    refine is_no inj (i := 3) (j := 16) (by decide) (by decide) (by decide) (by decide) (by decide) (by rfl) ?_
    refine is_no inj (i := 3) (j := 17) (by decide) (by decide) (by decide) (by decide) (by decide) (by rfl) ?_
    exact frz_at hp h
  | 3, _ =>
    refine is_no inj (i := 4) (j := 10) (by decide) (by decide) (by decide) (by decide) (by decide) (by rfl) ?_
    refine is_no inj (i := 4) (j := 11) (by decide) (by decide) (by decide) (by decide) (by decide) (by rfl) ?_
    refine is_no inj (i := 4) (j := 12) (by decide) (by decide) (by decide) (by decide) (by decide) (by rfl) ?_
    refine is_no inj (i := 4) (j := 13) (by decide) (by decide) (by decide) (by decide) (by decide) (by rfl) ?_
    refine is_no inj (i := 4) (j := 14) (by decide) (by decide) (by decide) (by decide) (by decide) (by rfl) ?_
    refine is_no inj (i := 4) (j := 15) (by decide) (by decide) (by decide) (by decide) (by decide) (by rfl) ?_
    refine is_no inj (i := 4) (j := 16) (by decide) (by decide) (by decide) (by decide) (by decide) (by rfl) ?_
    refine is_no inj (i := 4) (j := 17) (by decide) (by decide) (by decide) (by decide) (by decide) (by rfl) ?_
    exact frz_at hp h
  | 4, _ =>
    refine is_no inj (i := 5) (j := 10) (by decide) (by decide) (by decide) (by decide) (by decide) (by rfl) ?_
    refine is_no inj (i := 5) (j := 11) (by decide) (by decide) (by decide) (by decide) (by decide) (by rfl) ?_
    refine is_no inj (i := 5) (j := 12) (by decide) (by decide) (by decide) (by decide) (by decide) (by rfl) ?_
    refine is_no inj (i := 5) (j := 13) (by decide) (by decide) (by decide) (by decide) (by decide) (by rfl) ?_
    refine is_no inj (i := 5) (j := 14) (by decide) (by decide) (by decide) (by decide) (by decide) (by rfl) ?_
    refine is_no inj (i := 5) (j := 15) (by decide) (by decide) (by decide) (by decide) (by decide) (by rfl) ?_
    refine is_no inj (i := 5) (j := 16) (by decide) (by decide) (by decide) (by decide) (by decide) (by rfl) ?_
    refine is_no inj (i := 5) (j := 17) (by decide) (by decide) (by decide) (by decide) (by decide) (by rfl) ?_
    exact frz_at hp h
  | 5, _ =>
    refine is_no inj (i := 6) (j := 10) (by decide) (by decide) (by decide) (by decide) (by decide) (by rfl) ?_
    refine is_no inj (i := 6) (j := 11) (by decide) (by decide) (by decide) (by decide) (by decide) (by rfl) ?_
    refine is_no inj (i := 6) (j := 12) (by decide) (by decide) (by decide) (by decide) (by decide) (by rfl) ?_
    refine is_no inj (i := 6) (j := 13) (by decide) (by decide) (by decide) (by decide) (by decide) (by rfl) ?_
    refine is_no inj (i := 6) (j := 14) (by decide) (by decide) (by decide) (by decide) (by decide) (by rfl) ?_
    refine is_no inj (i := 6) (j := 15) (by decide) (by decide) (by decide) (by decide) (by decide) (by rfl) ?_
    refine is_no inj (i := 6) (j := 16) (by decide) (by decide) (by decide) (by decide) (by decide) (by rfl) ?_
    refine is_no inj (i := 6) (j := 17) (by decide) (by decide) (by decide) (by decide) (by decide) (by rfl) ?_
    exact frz_at hp h
  | 6, _ =>
    refine is_no inj (i := 7) (j := 10) (by decide) (by decide) (by decide) (by decide) (by decide) (by rfl) ?_
    refine is_no inj (i := 7) (j := 11) (by decide) (by decide) (by decide) (by decide) (by decide) (by rfl) ?_
    refine is_no inj (i := 7) (j := 12) (by decide) (by decide) (by decide) (by decide) (by decide) (by rfl) ?_
    refine is_no inj (i := 7) (j := 13) (by decide) (by decide) (by decide) (by decide) (by decide) (by rfl) ?_
    refine is_no inj (i := 7) (j := 14) (by decide) (by decide) (by decide) (by decide) (by decide) (by rfl) ?_
    refine is_no inj (i := 7) (j := 15) (by decide) (by decide) (by decide) (by decide) (by decide) (by rfl) ?_
    refine is_no inj (i := 7) (j := 16) (by decide) (by decide) (by decide) (by decide) (by decide) (by rfl) ?_
    refine is_no inj (i := 7) (j := 17) (by decide) (by decide) (by decide) (by decide) (by decide) (by rfl) ?_
    exact frz_at hp h
  | 7, _ =>
    refine is_no inj (i := 8) (j := 10) (by decide) (by decide) (by decide) (by decide) (by decide) (by rfl) ?_
    refine is_no inj (i := 8) (j := 11) (by decide) (by decide) (by decide) (by decide) (by decide) (by rfl) ?_
    refine is_no inj (i := 8) (j := 12) (by decide) (by decide) (by decide) (by decide) (by decide) (by rfl) ?_
    refine is_no inj (i := 8) (j := 13) (by decide) (by decide) (by decide) (by decide) (by decide) (by rfl) ?_
    refine is_no inj (i := 8) (j := 14) (by decide) (by decide) (by decide) (by decide) (by decide) (by rfl) ?_
    refine is_no inj (i := 8) (j := 15) (by decide) (by decide) (by decide) (by decide) (by decide) (by rfl) ?_
    refine is_no inj (i := 8) (j := 16) (by decide) (by decide) (by decide) (by decide) (by decide) (by rfl) ?_
    refine is_no inj (i := 8) (j := 17) (by decide) (by decide) (by decide) (by decide) (by decide) (by rfl) ?_
    exact frz_at hp h
  | 8, _ =>
    refine is_no inj (i := 9) (j := 10) (by decide) (by decide) (by decide) (by decide) (by decide) (by rfl) ?_
    refine is_no inj (i := 9) (j := 11) (by decide) (by decide) (by decide) (by decide) (by decide) (by rfl) ?_
    refine is_no inj (i := 9) (j := 12) (by decide) (by decide) (by decide) (by decide) (by decide) (by rfl) ?_
    refine is_no inj (i := 9) (j := 13) (by decide) (by decide) (by decide) (by decide) (by decide) (by rfl) ?_
    refine is_no inj (i := 9) (j := 14) (by decide) (by decide) (by decide) (by decide) (by decide) (by rfl) ?_
    refine is_no inj (i := 9) (j := 15) (by decide) (by decide) (by decide) (by decide) (by decide) (by rfl) ?_
    refine is_no inj (i := 9) (j := 16) (by decide) (by decide) (by decide) (by decide) (by decide) (by rfl) ?_
    refine is_no inj (i := 9) (j := 17) (by decide) (by decide) (by decide) (by decide) (by decide) (by rfl) ?_
    exact frz_at hp h
  | 9, _ =>
    refine is_yes inj (i := 10) (by decide) (by decide) ?_
    simp only [dCons, dTup, dNil, dCall, dC]
    refine fld_at rfl rfl ?_
    refine repr_at ha ?_
    refine ⟨sz (by simp), ?_⟩
    refine app_at ?_
    refine is_no inj (i := 10) (j := 11) (by decide) (by decide) (by decide) (by decide) (by decide) (by rfl) ?_
    refine is_no inj (i := 10) (j := 12) (by decide) (by decide) (by decide) (by decide) (by decide) (by rfl) ?_
    refine is_no inj (i := 10) (j := 13) (by decide) (by decide) (by decide) (by decide) (by decide) (by rfl) ?_
    refine is_no inj (i := 10) (j := 14) (by decide) (by decide) (by decide) (by decide) (by decide) (by rfl) ?_
    refine is_no inj (i := 10) (j := 15) (by decide) (by decide) (by decide) (by decide) (by decide) (by rfl) ?_
    refine is_no inj (i := 10) (j := 16) (by decide) (by decide) (by decide) (by decide) (by decide) (by rfl) ?_
    refine is_no inj (i := 10) (j := 17) (by decide) (by decide) (by decide) (by decide) (by decide) (by rfl) ?_
    exact frz_at hp h
  | 10, _ =>
    refine is_no inj (i := 11) (j := 10) (by decide) (by decide) (by decide) (by decide) (by decide) (by rfl) ?_
    refine is_yes inj (i := 11) (by decide) (by decide) ?_
    simp only [dCons, dTup, dNil, dCall, dC]
    refine fld_at rfl rfl ?_
    refine repr_at ha ?_
    refine ⟨sz (by simp), ?_⟩
    refine app_at ?_
    refine is_no inj (i := 11) (j := 12) (by decide) (by decide) (by decide) (by decide) (by decide) (by rfl) ?_
    refine is_no inj (i := 11) (j := 13) (by decide) (by decide) (by decide) (by decide) (by decide) (by rfl) ?_
    refine is_no inj (i := 11) (j := 14) (by decide) (by decide) (by decide) (by decide) (by decide) (by rfl) ?_
    refine is_no inj (i := 11) (j := 15) (by decide) (by decide) (by decide) (by decide) (by decide) (by rfl) ?_
    refine is_no inj (i := 11) (j := 16) (by decide) (by decide) (by decide) (by decide) (by decide) (by rfl) ?_
    refine is_no inj (i := 11) (j := 17) (by decide) (by decide) (by decide) (by decide) (by decide) (by rfl) ?_
    exact frz_at hp h
  | 11, _ =>
    refine is_no inj (i := 12) (j := 10) (by decide) (by decide) (by decide) (by decide) (by decide) (by rfl) ?_
    refine is_no inj (i := 12) (j := 11) (by decide) (by decide) (by decide) (by decide) (by decide) (by rfl) ?_
    refine is_yes inj (i := 12) (by decide) (by decide) ?_
    simp only [dCons, dTup, dNil, dCall, dC]
    refine fld_at rfl rfl ?_
    refine ⟨sz (by simp), ?_⟩
    refine app_at ?_
    refine is_no inj (i := 12) (j := 13) (by decide) (by decide) (by decide) (by decide) (by decide) (by rfl) ?_
    refine is_no inj (i := 12) (j := 14) (by decide) (by decide) (by decide) (by decide) (by decide) (by rfl) ?_
    refine is_no inj (i := 12) (j := 15) (by decide) (by decide) (by decide) (by decide) (by decide) (by rfl) ?_
    refine is_no inj (i := 12) (j := 16) (by decide) (by decide) (by decide) (by decide) (by decide) (by rfl) ?_
    refine is_no inj (i := 12) (j := 17) (by decide) (by decide) (by decide) (by decide) (by decide) (by rfl) ?_
    exact frz_at hp h
  | 12, _ =>
    refine is_no inj (i := 13) (j := 10) (by decide) (by decide) (by decide) (by decide) (by decide) (by rfl) ?_
    refine is_no inj (i := 13) (j := 11) (by decide) (by decide) (by decide) (by decide) (by decide) (by rfl) ?_
    refine is_no inj (i := 13) (j := 12) (by decide) (by decide) (by decide) (by decide) (by decide) (by rfl) ?_
    refine is_yes inj (i := 13) (by decide) (by decide) ?_
    simp only [dCons, dTup, dNil, dCall, dC]
    refine fld_at rfl rfl ?_
    refine ⟨sz (by simp), ?_⟩
    refine app_at ?_
    refine is_no inj (i := 13) (j := 14) (by decide) (by decide) (by decide) (by decide) (by decide) (by rfl) ?_
    refine is_no inj (i := 13) (j := 15) (by decide) (by decide) (by decide) (by decide) (by decide) (by rfl) ?_
    refine is_no inj (i := 13) (j := 16) (by decide) (by decide) (by decide) (by decide) (by decide) (by rfl) ?_
    refine is_no inj (i := 13) (j := 17) (by decide) (by decide) (by decide) (by decide) (by decide) (by rfl) ?_
    exact frz_at hp h
  | 13, _ =>
    refine is_no inj (i := 14) (j := 10) (by decide) (by decide) (by decide) (by decide) (by decide) (by rfl) ?_
    refine is_no inj (i := 14) (j := 11) (by decide) (by decide) (by decide) (by decide) (by decide) (by rfl) ?_
    refine is_no inj (i := 14) (j := 12) (by decide) (by decide) (by decide) (by decide) (by decide) (by rfl) ?_
    refine is_no inj (i := 14) (j := 13) (by decide) (by decide) (by decide) (by decide) (by decide) (by rfl) ?_
    refine is_yes inj (i := 14) (by decide) (by decide) ?_
    simp only [dCons, dTup, dNil, dCall, dC]
    refine fld_at rfl rfl ?_
    refine fld_at rfl rfl ?_
    refine fld_at rfl rfl ?_
    refine ⟨sz (by simp), ?_⟩
    refine app_at ?_
    refine is_no inj (i := 14) (j := 15) (by decide) (by decide) (by decide) (by decide) (by decide) (by rfl) ?_
    refine is_no inj (i := 14) (j := 16) (by decide) (by decide) (by decide) (by decide) (by decide) (by rfl) ?_
    refine is_no inj (i := 14) (j := 17) (by decide) (by decide) (by decide) (by decide) (by decide) (by rfl) ?_
    exact frz_at hp h
  | 14, _ =>
    refine is_no inj (i := 15) (j := 10) (by decide) (by decide) (by decide) (by decide) (by decide) (by rfl) ?_
    refine is_no inj (i := 15) (j := 11) (by decide) (by decide) (by decide) (by decide) (by decide) (by rfl) ?_
    refine is_no inj (i := 15) (j := 12) (by decide) (by decide) (by decide) (by decide) (by decide) (by rfl) ?_
    refine is_no inj (i := 15) (j := 13) (by decide) (by decide) (by decide) (by decide) (by decide) (by rfl) ?_
    refine is_no inj (i := 15) (j := 14) (by decide) (by decide) (by decide) (by decide) (by decide) (by rfl) ?_
    refine is_yes inj (i := 15) (by decide) (by decide) ?_
    simp only [dCons, dTup, dNil, dCall, dC]
    refine fld_at rfl rfl ?_
    refine fld_at rfl rfl ?_
    refine ⟨sz (by simp), ?_⟩
    refine app_at ?_
    refine is_no inj (i := 15) (j := 16) (by decide) (by decide) (by decide) (by decide) (by decide) (by rfl) ?_
    refine is_no inj (i := 15) (j := 17) (by decide) (by decide) (by decide) (by decide) (by decide) (by rfl) ?_
    exact frz_at hp h
  | 15, _ =>
    refine is_no inj (i := 16) (j := 10) (by decide) (by decide) (by decide) (by decide) (by decide) (by rfl) ?_
    refine is_no inj (i := 16) (j := 11) (by decide) (by decide) (by decide) (by decide) (by decide) (by rfl) ?_
    refine is_no inj (i := 16) (j := 12) (by decide) (by decide) (by decide) (by decide) (by decide) (by rfl) ?_
    refine is_no inj (i := 16) (j := 13) (by decide) (by decide) (by decide) (by decide) (by decide) (by rfl) ?_
    refine is_no inj (i := 16) (j := 14) (by decide) (by decide) (by decide) (by decide) (by decide) (by rfl) ?_
    refine is_no inj (i := 16) (j := 15) (by decide) (by decide) (by decide) (by decide) (by decide) (by rfl) ?_
    refine is_yes inj (i := 16) (by decide) (by decide) ?_
    simp only [dCons, dTup, dNil, dCall, dC]
    refine ⟨sz (by simp), ?_⟩
    refine app_at ?_
    refine is_no inj (i := 16) (j := 17) (by decide) (by decide) (by decide) (by decide) (by decide) (by rfl) ?_
    exact frz_at hp h
  | 16, _ =>
    refine is_no inj (i := 17) (j := 10) (by decide) (by decide) (by decide) (by decide) (by decide) (by rfl) ?_
    refine is_no inj (i := 17) (j := 11) (by decide) (by decide) (by decide) (by decide) (by decide) (by rfl) ?_
    refine is_no inj (i := 17) (j := 12) (by decide) (by decide) (by decide) (by decide) (by decide) (by rfl) ?_
    refine is_no inj (i := 17) (j := 13) (by decide) (by decide) (by decide) (by decide) (by decide) (by rfl) ?_
    refine is_no inj (i := 17) (j := 14) (by decide) (by decide) (by decide) (by decide) (by decide) (by rfl) ?_
    refine is_no inj (i := 17) (j := 15) (by decide) (by decide) (by decide) (by decide) (by decide) (by rfl) ?_
    refine is_no inj (i := 17) (j := 16) (by decide) (by decide) (by decide) (by decide) (by decide) (by rfl) ?_
    refine is_yes inj (i := 17) (by decide) (by decide) ?_
    simp only [dCons, dTup, dNil, dCall, dC]
    refine ⟨sz (by simp), ?_⟩
    refine app_at ?_
    exact frz_at hp h
  | _ + 17, hk => exact absurd hk (by omega)
theorem pure_kinds {c : Nat → Addr} (inj : Inj c 18) : ∀ q C fl ds M Q E, spKinds c q C fl ds M Q E → bKinds c (spMoreKinds c) q C fl (fun C fs _ M' => E C fs M') { nx := fun _ M' => Q .non M', rt := Q } (dstart ["e", "found"] ds) M := by
  rintro q C fl ds M Q E ⟨rfl, k, a, b, d, hk, rfl, rfl, ha, hb, h⟩
  have e0 : dstart ["e", "found"] [.ref q] = [some (.ref q), none] := rfl
  rw [e0]
  unfold bKinds
  refine found_at fun p hp => ?_
  match k, hk with
  | 0, _ =>
    refine is_yes inj (i := 1) (by decide) (by decide) ?_
    simp only [dCons, dTup, dNil, dCall, dC]
    refine fld_at rfl rfl ?_
    refine fld_at rfl rfl ?_
    refine repr_at hb ?_
    refine ⟨sz (by simp), ?_⟩
    refine app_at ?_
    refine is_no inj (i := 1) (j := 2) (by decide) (by decide) (by decide) (by decide) (by decide) (by rfl) ?_
    refine is_no inj (i := 1) (j := 3) (by decide) (by decide) (by decide) (by decide) (by decide) (by rfl) ?_
    refine is_no inj (i := 1) (j := 4) (by decide) (by decide) (by decide) (by decide) (by decide) (by rfl) ?_
    refine is_no inj (i := 1) (j := 5) (by decide) (by decide) (by decide) (by decide) (by decide) (by rfl) ?_
    refine is_no inj (i := 1) (j := 6) (by decide) (by decide) (by decide) (by decide) (by decide) (by rfl) ?_
    refine is_no inj (i := 1) (j := 7) (by decide) (by decide) (by decide) (by decide) (by decide) (by rfl) ?_
    refine is_no inj (i := 1) (j := 8) (by decide) (by decide) (by decide) (by decide) (by decide) (by rfl) ?_
    refine is_no inj (i := 1) (j := 9) (by decide) (by decide) (by decide) (by decide) (by decide) (by rfl) ?_
    exact kinds_end hp ⟨rfl, 0, a, b, d, by decide, rfl, rfl, ha, hb, sz (by simp), h⟩
  | 1, _ =>
    refine is_no inj (i := 2) (j := 1) (by decide) (by decide) (by decide) (by decide) (by decide) (by rfl) ?_
    refine is_yes inj (i := 2) (by decide) (by decide) ?_
    simp only [dCons, dTup, dNil, dCall, dC]
    refine fld_at rfl rfl ?_
    refine fld_at rfl rfl ?_
    refine repr_at hb ?_
    refine ⟨sz (by simp), ?_⟩
    refine app_at ?_
    refine is_no inj (i := 2) (j := 3) (by decide) (by decide) (by decide) (by decide) (by decide) (by rfl) ?_
    refine is_no inj (i := 2) (j := 4) (by decide) (by decide) (by decide) (by decide) (by decide) (by rfl) ?_
    refine is_no inj (i := 2) (j := 5) (by decide) (by decide) (by decide) (by decide) (by decide) (by rfl) ?_
    refine is_no inj (i := 2) (j := 6) (by decide) (by decide) (by decide) (by decide) (by decide) (by rfl) ?_
    refine is_no inj (i := 2) (j := 7) (by decide) (by decide) (by decide) (by decide) (by decide) (by rfl) ?_
    refine is_no inj (i := 2) (j := 8) (by decide) (by decide) (by decide) (by decide) (by decide) (by rfl) ?_
    refine is_no inj (i := 2) (j := 9) (by decide) (by decide) (by decide) (by decide) (by decide) (by rfl) ?_
    exact kinds_end hp ⟨rfl, 1, a, b, d, by decide, rfl, rfl, ha, hb, sz (by simp), h⟩
  | 2, _ =>
    refine is_no inj (i := 3) (j := 1) (by decide) (by decide) (by decide) (by decide) (by decide) (by rfl) ?_
    refine is_no inj (i := 3) (j := 2) (by decide) (by decide) (by decide) (by decide) (by decide) (by rfl) ?_
    refine is_yes inj (i := 3) (by decide) (by decide) ?_
    simp only [dCons, dTup, dNil, dCall, dC]
    refine fld_at rfl rfl ?_
    refine ⟨sz (by simp), ?_⟩
    refine app_at ?_
    refine is_no inj (i := 3) (j := 4) (by decide) (by decide) (by decide) (by decide) (by decide) (by rfl) ?_
    refine is_no inj (i := 3) (j := 5) (by decide) (by decide) (by decide) (by decide) (by decide) (by rfl) ?_
    refine is_no inj (i := 3) (j := 6) (by decide) (by decide) (by decide) (by decide) (by decide) (by rfl) ?_
    refine is_no inj (i := 3) (j := 7) (by decide) (by decide) (by decide) (by decide) (by decide) (by rfl) ?_
    refine is_no inj (i := 3) (j := 8) (by decide) (by decide) (by decide) (by decide) (by decide) (by rfl) ?_
    refine is_no inj (i := 3) (j := 9) (by decide) (by decide) (by decide) (by decide) (by decide) (by rfl) ?_
    exact kinds_end hp ⟨rfl, 2, a, b, d, by decide, rfl, rfl, ha, hb, sz (by simp), h⟩
  | 3, _ =>
    refine is_no inj (i := 4) (j := 1) (by decide) (by decide) (by decide) (by decide) (by decide) (by rfl) ?_
    refine is_no inj (i := 4) (j := 2) (by decide) (by decide) (by decide) (by decide) (by decide) (by rfl) ?_
    refine is_no inj (i := 4) (j := 3) (by decide) (by decide) (by decide) (by decide) (by decide) (by rfl) ?_
    refine is_yes inj (i := 4) (by decide) (by decide) ?_
    simp only [dCons, dTup, dNil, dCall, dC]
    refine fld_at rfl rfl ?_
    refine ⟨sz (by simp), ?_⟩
    refine app_at ?_
    refine is_no inj (i := 4) (j := 5) (by decide) (by decide) (by decide) (by decide) (by decide) (by rfl) ?_
    refine is_no inj (i := 4) (j := 6) (by decide) (by decide) (by decide) (by decide) (by decide) (by rfl) ?_
    refine is_no inj (i := 4) (j := 7) (by decide) (by decide) (by decide) (by decide) (by decide) (by rfl) ?_
    refine is_no inj (i := 4) (j := 8) (by decide) (by decide) (by decide) (by decide) (by decide) (by rfl) ?_
    refine is_no inj (i := 4) (j := 9) (by decide) (by decide) (by decide) (by decide) (by decide) (by rfl) ?_
    exact kinds_end hp ⟨rfl, 3, a, b, d, by decide, rfl, rfl, ha, hb, sz (by simp), h⟩
  | 4, _ =>
    refine is_no inj (i := 5) (j := 1) (by decide) (by decide) (by decide) (by decide) (by decide) (by rfl) ?_
    refine is_no inj (i := 5) (j := 2) (by decide) (by decide) (by decide) (by decide) (by decide) (by rfl) ?_
    refine is_no inj (i := 5) (j := 3) (by decide) (by decide) (by decide) (by decide) (by decide) (by rfl) ?_
    refine is_no inj (i := 5) (j := 4) (by decide) (by decide) (by decide) (by decide) (by decide) (by rfl) ?_
    refine is_yes inj (i := 5) (by decide) (by decide) ?_
    simp only [dCons, dTup, dNil, dCall, dC]
    refine fld_at rfl rfl ?_
    refine ⟨sz (by simp), ?_⟩
    refine app_at ?_
    refine is_no inj (i := 5) (j := 6) (by decide) (by decide) (by decide) (by decide) (by decide) (by rfl) ?_
    refine is_no inj (i := 5) (j := 7) (by decide) (by decide) (by decide) (by decide) (by decide) (by rfl) ?_
    refine is_no inj (i := 5) (j := 8) (by decide) (by decide) (by decide) (by decide) (by decide) (by rfl) ?_
    refine is_no inj (i := 5) (j := 9) (by decide) (by decide) (by decide) (by decide) (by decide) (by rfl) ?_
    exact kinds_end hp ⟨rfl, 4, a, b, d, by decide, rfl, rfl, ha, hb, sz (by simp), h⟩
  | 5, _ =>
    refine is_no inj (i := 6) (j := 1) (by decide) (by decide) (by decide) (by decide) (by decide) (by rfl) ?_
    refine is_no inj (i := 6) (j := 2) (by decide) (by decide) (by decide) (by decide) (by decide) (by rfl) ?_
    refine is_no inj (i := 6) (j := 3) (by decide) (by decide) (by decide) (by decide) (by decide) (by rfl) ?_
    refine is_no inj (i := 6) (j := 4) (by decide) (by decide) (by decide) (by decide) (by decide) (by rfl) ?_
    refine is_no inj (i := 6) (j := 5) (by decide) (by decide) (by decide) (by decide) (by decide) (by rfl) ?_
    refine is_yes inj (i := 6) (by decide) (by decide) ?_
    simp only [dCons, dTup, dNil, dCall, dC]
    refine fld_at rfl rfl ?_
    refine ⟨sz (by simp), ?_⟩
    refine app_at ?_
    refine is_no inj (i := 6) (j := 7) (by decide) (by decide) (by decide) (by decide) (by decide) (by rfl) ?_
    refine is_no inj (i := 6) (j := 8) (by decide) (by decide) (by decide) (by decide) (by decide) (by rfl) ?_
    refine is_no inj (i := 6) (j := 9) (by decide) (by decide) (by decide) (by decide) (by decide) (by rfl) ?_
    exact kinds_end hp ⟨rfl, 5, a, b, d, by decide, rfl, rfl, ha, hb, sz (by simp), h⟩
  | 6, _ =>
    refine is_no inj (i := 7) (j := 1) (by decide) (by decide) (by decide) (by decide) (by decide) (by rfl) ?_
    refine is_no inj (i := 7) (j := 2) (by decide) (by decide) (by decide) (by decide) (by decide) (by rfl) ?_
    refine is_no inj (i := 7) (j := 3) (by decide) (by decide) (by decide) (by decide) (by decide) (by rfl) ?_
    refine is_no inj (i := 7) (j := 4) (by decide) (by decide) (by decide) (by decide) (by decide) (by rfl) ?_
    refine is_no inj (i := 7) (j := 5) (by decide) (by decide) (by decide) (by decide) (by decide) (by rfl) ?_
    refine is_no inj (i := 7) (j := 6) (by decide) (by decide) (by decide) (by decide) (by decide) (by rfl) ?_
    refine is_yes inj (i := 7) (by decide) (by decide) ?_
    simp only [dCons, dTup, dNil, dCall, dC]
    refine fld_at rfl rfl ?_
    refine repr_at ha ?_
    refine ⟨sz (by simp), ?_⟩
    refine app_at ?_
    refine is_no inj (i := 7) (j := 8) (by decide) (by decide) (by decide) (by decide) (by decide) (by rfl) ?_
    refine is_no inj (i := 7) (j := 9) (by decide) (by decide) (by decide) (by decide) (by decide) (by rfl) ?_
    exact kinds_end hp ⟨rfl, 6, a, b, d, by decide, rfl, rfl, ha, hb, sz (by simp), h⟩
  | 7, _ =>
    refine is_no inj (i := 8) (j := 1) (by decide) (by decide) (by decide) (by decide) (by decide) (by rfl) ?_
    refine is_no inj (i := 8) (j := 2) (by decide) (by decide) (by decide) (by decide) (by decide) (by rfl) ?_
    refine is_no inj (i := 8) (j := 3) (by decide) (by decide) (by decide) (by decide) (by decide) (by rfl) ?_
    refine is_no inj (i := 8) (j := 4) (by decide) (by decide) (by decide) (by decide) (by decide) (by rfl) ?_
    refine is_no inj (i := 8) (j := 5) (by decide) (by decide) (by decide) (by decide) (by decide) (by rfl) ?_
    refine is_no inj (i := 8) (j := 6) (by decide) (by decide) (by decide) (by decide) (by decide) (by rfl) ?_
    refine is_no inj (i := 8) (j := 7) (by decide) (by decide) (by decide) (by decide) (by decide) (by rfl) ?_
    refine is_yes inj (i := 8) (by decide) (by decide) ?_
    simp only [dCons, dTup, dNil, dCall, dC]
    refine fld_at rfl rfl ?_
    refine fld_at rfl rfl ?_
    refine ⟨sz (by simp), ?_⟩
    refine app_at ?_
    refine is_no inj (i := 8) (j := 9) (by decide) (by decide) (by decide) (by decide) (by decide) (by rfl) ?_
    exact kinds_end hp ⟨rfl, 7, a, b, d, by decide, rfl, rfl, ha, hb, sz (by simp), h⟩
  | 8, _ =>
    refine is_no inj (i := 9) (j := 1) (by decide) (by decide) (by decide) (by decide) (by decide) (by rfl) ?_
    refine is_no inj (i := 9) (j := 2) (by decide) (by decide) (by decide) (by decide) (by decide) (by rfl) ?_
    refine is_no inj (i := 9) (j := 3) (by decide) (by decide) (by decide) (by decide) (by decide) (by rfl) ?_
    refine is_no inj (i := 9) (j := 4) (by decide) (by decide) (by decide) (by decide) (by decide) (by rfl) ?_
    refine is_no inj (i := 9) (j := 5) (by decide) (by decide) (by decide) (by decide) (by decide) (by rfl) ?_
    refine is_no inj (i := 9) (j := 6) (by decide) (by decide) (by decide) (by decide) (by decide) (by rfl) ?_
    refine is_no inj (i := 9) (j := 7) (by decide) (by decide) (by decide) (by decide) (by decide) (by rfl) ?_
    refine is_no inj (i := 9) (j := 8) (by decide) (by decide) (by decide) (by decide) (by decide) (by rfl) ?_
    refine is_yes inj (i := 9) (by decide) (by decide) ?_
    simp only [dCons, dTup, dNil, dCall, dC]
    refine fld_at rfl rfl ?_
    refine fld_at rfl rfl ?_
    refine repr_at hb ?_
    refine ⟨sz (by simp), ?_⟩
    refine app_at ?_
    exact kinds_end hp ⟨rfl, 8, a, b, d, by decide, rfl, rfl, ha, hb, sz (by simp), h⟩
  | 9, _ =>
    refine is_no inj (i := 10) (j := 1) (by decide) (by decide) (by decide) (by decide) (by decide) (by rfl) ?_
    refine is_no inj (i := 10) (j := 2) (by decide) (by decide) (by decide) (by decide) (by decide) (by rfl) ?_
    refine is_no inj (i := 10) (j := 3) (by decide) (by decide) (by decide) (by decide) (by decide) (by rfl) ?_
    refine is_no inj (i := 10) (j := 4) (by decide) (by decide) (by decide) (by decide) (by decide) (by rfl) ?_
    refine is_no inj (i := 10) (j := 5) (by decide) (by decide) (by decide) (by decide) (by decide) (by rfl) ?_
    refine is_no inj (i := 10) (j := 6) (by decide) (by decide) (by decide) (by decide) (by decide) (by rfl) ?_
    refine is_no inj (i := 10) (j := 7) (by decide) (by decide) (by decide) (by decide) (by decide) (by rfl) ?_
    refine is_no inj (i := 10) (j := 8) (by decide) (by decide) (by decide) (by decide) (by decide) (by rfl) ?_
    refine is_no inj (i := 10) (j := 9) (by decide) (by decide) (by decide) (by decide) (by decide) (by rfl) ?_
    exact kinds_end hp ⟨rfl, 9, a, b, d, by decide, rfl, rfl, ha, hb, sz (by simp), h⟩
  | 10, _ =>
    refine is_no inj (i := 11) (j := 1) (by decide) (by decide) (by decide) (by decide) (by decide) (by rfl) ?_
    refine is_no inj (i := 11) (j := 2) (by decide) (by decide) (by decide) (by decide) (by decide) (by rfl) ?_
    refine is_no inj (i := 11) (j := 3) (by decide) (by decide) (by decide) (by decide) (by decide) (by rfl) ?_
    refine is_no inj (i := 11) (j := 4) (by decide) (by decide) (by decide) (by decide) (by decide) (by rfl) ?_
    refine is_no inj (i := 11) (j := 5) (by decide) (by decide) (by decide) (by decide) (by decide) (by rfl) ?_
    refine is_no inj (i := 11) (j := 6) (by decide) (by decide) (by decide) (by decide) (by decide) (by rfl) ?_
    refine is_no inj (i := 11) (j := 7) (by decide) (by decide) (by decide) (by decide) (by decide) (by rfl) ?_
    refine is_no inj (i := 11) (j := 8) (by decide) (by decide) (by decide) (by decide) (by decide) (by rfl) ?_
    refine is_no inj (i := 11) (j := 9) (by decide) (by decide) (by decide) (by decide) (by decide) (by rfl) ?_
    exact kinds_end hp ⟨rfl, 10, a, b, d, by decide, rfl, rfl, ha, hb, sz (by simp), h⟩
  | 11, _ =>
    refine is_no inj (i := 12) (j := 1) (by decide) (by decide) (by decide) (by decide) (by decide) (by rfl) ?_
    refine is_no inj (i := 12) (j := 2) (by decide) (by decide) (by decide) (by decide) (by decide) (by rfl) ?_
    refine is_no inj (i := 12) (j := 3) (by decide) (by decide) (by decide) (by decide) (by decide) (by rfl) ?_
    refine is_no inj (i := 12) (j := 4) (by decide) (by decide) (by decide) (by decide) (by decide) (by rfl) ?_
    refine is_no inj (i := 12) (j := 5) (by decide) (by decide) (by decide) (by decide) (by decide) (by rfl) ?_
    refine is_no inj (i := 12) (j := 6) (by decide) (by decide) (by decide) (by decide) (by decide) (by rfl) ?_
    refine is_no inj (i := 12) (j := 7) (by decide) (by decide) (by decide) (by decide) (by decide) (by rfl) ?_
    refine is_no inj (i := 12) (j := 8) (by decide) (by decide) (by decide) (by decide) (by decide) (by rfl) ?_
    refine is_no inj (i := 12) (j := 9) (by decide) (by decide) (by decide) (by decide) (by decide) (by rfl) ?_
    exact kinds_end hp ⟨rfl, 11, a, b, d, by decide, rfl, rfl, ha, hb, sz (by simp), h⟩
  | 12, _ =>
    refine is_no inj (i := 13) (j := 1) (by decide) (by decide) (by decide) (by decide) (by decide) (by rfl) ?_
    refine is_no inj (i := 13) (j := 2) (by decide) (by decide) (by decide) (by decide) (by decide) (by rfl) ?_
    refine is_no inj (i := 13) (j := 3) (by decide) (by decide) (by decide) (by decide) (by decide) (by rfl) ?_
    refine is_no inj (i := 13) (j := 4) (by decide) (by decide) (by decide) (by decide) (by decide) (by rfl) ?_
    refine is_no inj (i := 13) (j := 5) (by decide) (by decide) (by decide) (by decide) (by decide) (by rfl) ?_
    refine is_no inj (i := 13) (j := 6) (by decide) (by decide) (by decide) (by decide) (by decide) (by rfl) ?_
    refine is_no inj (i := 13) (j := 7) (by decide) (by decide) (by decide) (by decide) (by decide) (by rfl) ?_
    refine is_no inj (i := 13) (j := 8) (by decide) (by decide) (by decide) (by decide) (by decide) (by rfl) ?_
    refine is_no inj (i := 13) (j := 9) (by decide) (by decide) (by decide) (by decide) (by decide) (by rfl) ?_
    exact kinds_end hp ⟨rfl, 12, a, b, d, by decide, rfl, rfl, ha, hb, sz (by simp), h⟩
  | 13, _ =>
    refine is_no inj (i := 14) (j := 1) (by decide) (by decide) (by decide) (by decide) (by decide) (by rfl) ?_
    refine is_no inj (i := 14) (j := 2) (by decide) (by decide) (by decide) (by decide) (by decide) (by rfl) ?_
    refine is_no inj (i := 14) (j := 3) (by decide) (by decide) (by decide) (by decide) (by decide) (by rfl) ?_
    refine is_no inj (i := 14) (j := 4) (by decide) (by decide) (by decide) (by decide) (by decide) (by rfl) ?_
    refine is_no inj (i := 14) (j := 5) (by decide) (by decide) (by decide) (by decide) (by decide) (by rfl) ?_
    refine is_no inj (i := 14) (j := 6) (by decide) (by decide) (by decide) (by decide) (by decide) (by rfl) ?_
    refine is_no inj (i := 14) (j := 7) (by decide) (by decide) (by decide) (by decide) (by decide) (by rfl) ?_
    refine is_no inj (i := 14) (j := 8) (by decide) (by decide) (by decide) (by decide) (by decide) (by rfl) ?_
    refine is_no inj (i := 14) (j := 9) (by decide) (by decide) (by decide) (by decide) (by decide) (by rfl) ?_
    exact kinds_end hp ⟨rfl, 13, a, b, d, by decide, rfl, rfl, ha, hb, sz (by simp), h⟩
  | 14, _ =>
    refine is_no inj (i := 15) (j := 1) (by decide) (by decide) (by decide) (by decide) (by decide) (by rfl) ?_
    refine is_no inj (i := 15) (j := 2) (by decide) (by decide) (by decide) (by decide) (by decide) (by rfl) ?_
    refine is_no inj (i := 15) (j := 3) (by decide) (by decide) (by decide) (by decide) (by decide) (by rfl) ?_
    refine is_no inj (i := 15) (j := 4) (by decide) (by decide) (by decide) (by decide) (by decide) (by rfl) ?_
    refine is_no inj (i := 15) (j := 5) (by decide) (by decide) (by decide) (by decide) (by decide) (by rfl) ?_
    refine is_no inj (i := 15) (j := 6) (by decide) (by decide) (by decide) (by decide) (by decide) (by rfl) ?_
    refine is_no inj (i := 15) (j := 7) (by decide) (by decide) (by decide) (by decide) (by decide) (by rfl) ?_
    refine is_no inj (i := 15) (j := 8) (by decide) (by decide) (by decide) (by decide) (by decide) (by rfl) ?_
    refine is_no inj (i := 15) (j := 9) (by decide) (by decide) (by decide) (by decide) (by decide) (by rfl) ?_
    exact kinds_end hp ⟨rfl, 14, a, b, d, by decide, rfl, rfl, ha, hb, sz (by simp), h⟩
  | 15, _ =>
    refine is_no inj (i := 16) (j := 1) (by decide) (by decide) (by decide) (by decide) (by decide) (by rfl) ?_
    refine is_no inj (i := 16) (j := 2) (by decide) (by decide) (by decide) (by decide) (by decide) (by rfl) ?_
    refine is_no inj (i := 16) (j := 3) (by decide) (by decide) (by decide) (by decide) (by decide) (by rfl) ?_
    refine is_no inj (i := 16) (j := 4) (by decide) (by decide) (by decide) (by decide) (by decide) (by rfl) ?_
    refine is_no inj (i := 16) (j := 5) (by decide) (by decide) (by decide) (by decide) (by decide) (by rfl) ?_
    refine is_no inj (i := 16) (j := 6) (by decide) (by decide) (by decide) (by decide) (by decide) (by rfl) ?_
    refine is_no inj (i := 16) (j := 7) (by decide) (by decide) (by decide) (by decide) (by decide) (by rfl) ?_
    refine is_no inj (i := 16) (j := 8) (by decide) (by decide) (by decide) (by decide) (by decide) (by rfl) ?_
    refine is_no inj (i := 16) (j := 9) (by decide) (by decide) (by decide) (by decide) (by decide) (by rfl) ?_
    exact kinds_end hp ⟨rfl, 15, a, b, d, by decide, rfl, rfl, ha, hb, sz (by simp), h⟩
  | 16, _ =>
    refine is_no inj (i := 17) (j := 1) (by decide) (by decide) (by decide) (by decide) (by decide) (by rfl) ?_
    refine is_no inj (i := 17) (j := 2) (by decide) (by decide) (by decide) (by decide) (by decide) (by rfl) ?_
    refine is_no inj (i := 17) (j := 3) (by decide) (by decide) (by decide) (by decide) (by decide) (by rfl) ?_
    refine is_no inj (i := 17) (j := 4) (by decide) (by decide) (by decide) (by decide) (by decide) (by rfl) ?_
    refine is_no inj (i := 17) (j := 5) (by decide) (by decide) (by decide) (by decide) (by decide) (by rfl) ?_
    refine is_no inj (i := 17) (j := 6) (by decide) (by decide) (by decide) (by decide) (by decide) (by rfl) ?_
    refine is_no inj (i := 17) (j := 7) (by decide) (by decide) (by decide) (by decide) (by decide) (by rfl) ?_
    refine is_no inj (i := 17) (j := 8) (by decide) (by decide) (by decide) (by decide) (by decide) (by rfl) ?_
    refine is_no inj (i := 17) (j := 9) (by decide) (by decide) (by decide) (by decide) (by decide) (by rfl) ?_
    exact kinds_end hp ⟨rfl, 16, a, b, d, by decide, rfl, rfl, ha, hb, sz (by simp), h⟩
  | _ + 17, hk => exact absurd hk (by omega)
end Dq
set_option maxHeartbeats 4000000
namespace K02
open PySem PySem.Spec PyProof.Rows L2 Dq
open PySem.W (findIn typeIn keepIn)

def b_is_integer (c : Nat → Addr)  : DXS → DS := fun Wd => (dRet (dAndV (dCall cIs1 (dCons (dVar 0) (dCons (dC (.ty "int")) dNil))) (dUn (fun d M Q => match d with | .bl b => Q (.bl (!b)) M | _ => False) (dCall cIs1 (dCons (dVar 0) (dCons (dC (.ty "bool")) dNil))))))
def b_is_ratio (c : Nat → Addr) (sp_is_integer : DSp) : DXS → DS := fun Wd => (dSeq (dIf (dNot (dTest (dCall cIs1 (dCons (dVar 0) (dCons (dC (.ty "tuple")) dNil))))) (dRet (dCallF sp_is_integer Wd (dCons (dVar 0) dNil))) dNext)
  (dSeq (dIf (dOr (dTest (dBin rNe' (dCall cLen (dCons (dVar 0) dNil)) (dC (.int 2)))) (dOr (dNot (dTest (dCallF sp_is_integer Wd (dCons (dBin rIx (dVar 0) (dC (.int 0))) dNil)))) (dNot (dTest (dCallF sp_is_integer Wd (dCons (dBin rIx (dVar 0) (dC (.int 1))) dNil)))))) (dRet (dC (.bl false))) dNext)
  (dRet (dAndV (dBin (rI2 (fun _ _ => True) fun i j => .bl (decide (j < i))) (dBin rIx (dVar 0) (dC (.int 1))) (dC (.int 1))) (dBin rEq' (dCall cGcd (dCons (dBin rIx (dVar 0) (dC (.int 0))) (dCons (dBin rIx (dVar 0) (dC (.int 1))) dNil))) (dC (.int 1)))))))
def b_pair (c : Nat → Addr)  : DXS → DS := fun Wd => (dRet (dIfE (dTest (dCall cIs1 (dCons (dVar 0) (dCons (dC (.ty "int")) dNil)))) (dTup (dCons (dVar 0) (dCons (dC (.int 1)) dNil))) (dVar 0)))
def b_in_lowest (c : Nat → Addr)  : DXS → DS := fun Wd => (dSeq (dAsg (dIfE (dTest (dBin (rI2 (fun _ _ => True) fun i j => .bl (decide (j < i))) (dVar 1) (dC (.int 0)))) (dCall cGcd (dCons (dVar 0) (dCons (dVar 1) dNil))) (dUn rNeg (dCall cGcd (dCons (dVar 0) (dCons (dVar 1) dNil))))) (dgName 2))
  (dRet (dIfE (dTest (dBin rEq' (dVar 1) (dVar 2))) (dBin (rI2 CDivA fun i j => .int (i.fdiv j)) (dVar 0) (dVar 2)) (dTup (dCons (dBin (rI2 CDivA fun i j => .int (i.fdiv j)) (dVar 0) (dVar 2)) (dCons (dBin (rI2 CDivA fun i j => .int (i.fdiv j)) (dVar 1) (dVar 2)) dNil))))))
def b_ratio (c : Nat → Addr) (sp_is_integer : DSp) (sp_in_lowest : DSp) : DXS → DS := fun Wd => (dSeq (dIf (dNot (dTest (dCallF sp_is_integer Wd (dCons (dVar 0) dNil)))) (dRaise (c 1) ["what", "number"] Wd (dCons (dC (.str "top")) (dCons (dVar 0) dNil))) dNext)
  (dSeq (dIf (dOr (dNot (dTest (dCallF sp_is_integer Wd (dCons (dVar 1) dNil)))) (dTest (dBin rEq' (dVar 1) (dC (.int 0))))) (dRaise (c 1) ["what", "number"] Wd (dCons (dC (.str "bottom")) (dCons (dVar 1) dNil))) dNext)
  (dRet (dCallF sp_in_lowest Wd (dCons (dVar 0) (dCons (dVar 1) dNil))))))
def b_need_ratios (c : Nat → Addr) (sp_is_ratio : DSp) : DXS → DS := fun Wd => (dSeq (dIf (dNot (dTest (dCallF sp_is_ratio Wd (dCons (dVar 0) dNil)))) (dRaise (c 1) ["what", "number"] Wd (dCons (dC (.str "one")) (dCons (dVar 0) dNil))) dNext)
  (dIf (dNot (dTest (dCallF sp_is_ratio Wd (dCons (dVar 1) dNil)))) (dRaise (c 1) ["what", "number"] Wd (dCons (dC (.str "other")) (dCons (dVar 1) dNil))) dNext))
def b_plus (c : Nat → Addr) (sp_need_ratios : DSp) (sp_added : DSp) : DXS → DS := fun Wd => (dSeq (dDrop (dCallF sp_need_ratios Wd (dCons (dVar 0) (dCons (dVar 1) dNil))))
  (dRet (dCallF sp_added Wd (dCons (dVar 0) (dCons (dVar 1) dNil)))))
def b_added (c : Nat → Addr) (sp_pair : DSp) (sp_in_lowest : DSp) : DXS → DS := fun Wd => (dSeq (dIf (dAnd (dTest (dCall cIs1 (dCons (dVar 0) (dCons (dC (.ty "int")) dNil)))) (dTest (dCall cIs1 (dCons (dVar 1) (dCons (dC (.ty "int")) dNil))))) (dRet (dBin rAddA (dVar 0) (dVar 1))) dNext)
  (dSeq (dAsg (dTup (dCons (dCallF sp_pair Wd (dCons (dVar 0) dNil)) (dCons (dCallF sp_pair Wd (dCons (dVar 1) dNil)) dNil))) (dgTup 2 (dgCons (dgTup 2 (dgCons (dgName 2) (dgCons (dgName 3) dgNil))) (dgCons (dgTup 2 (dgCons (dgName 4) (dgCons (dgName 5) dgNil))) dgNil))))
  (dRet (dCallF sp_in_lowest Wd (dCons (dBin rAddA (dBin (rI2 CMulW fun i j => .int (i * j)) (dVar 2) (dVar 5)) (dBin (rI2 CMulW fun i j => .int (i * j)) (dVar 4) (dVar 3))) (dCons (dBin (rI2 CMulW fun i j => .int (i * j)) (dVar 3) (dVar 5)) dNil))))))
def b_minus (c : Nat → Addr) (sp_need_ratios : DSp) (sp_added : DSp) (sp_opposite : DSp) : DXS → DS := fun Wd => (dSeq (dDrop (dCallF sp_need_ratios Wd (dCons (dVar 0) (dCons (dVar 1) dNil))))
  (dRet (dCallF sp_added Wd (dCons (dVar 0) (dCons (dCallF sp_opposite Wd (dCons (dVar 1) dNil)) dNil)))))
def b_opposite (c : Nat → Addr)  : DXS → DS := fun Wd => (dRet (dIfE (dTest (dCall cIs1 (dCons (dVar 0) (dCons (dC (.ty "int")) dNil)))) (dUn rNeg (dVar 0)) (dTup (dCons (dUn rNeg (dBin rIx (dVar 0) (dC (.int 0)))) (dCons (dBin rIx (dVar 0) (dC (.int 1))) dNil)))))
def b_times (c : Nat → Addr) (sp_need_ratios : DSp) (sp_multiplied : DSp) : DXS → DS := fun Wd => (dSeq (dDrop (dCallF sp_need_ratios Wd (dCons (dVar 0) (dCons (dVar 1) dNil))))
  (dRet (dCallF sp_multiplied Wd (dCons (dVar 0) (dCons (dVar 1) dNil)))))
def b_multiplied (c : Nat → Addr) (sp_pair : DSp) (sp_in_lowest : DSp) : DXS → DS := fun Wd => (dSeq (dIf (dAnd (dTest (dCall cIs1 (dCons (dVar 0) (dCons (dC (.ty "int")) dNil)))) (dTest (dCall cIs1 (dCons (dVar 1) (dCons (dC (.ty "int")) dNil))))) (dRet (dBin (rI2 CMulW fun i j => .int (i * j)) (dVar 0) (dVar 1))) dNext)
  (dSeq (dAsg (dTup (dCons (dCallF sp_pair Wd (dCons (dVar 0) dNil)) (dCons (dCallF sp_pair Wd (dCons (dVar 1) dNil)) dNil))) (dgTup 2 (dgCons (dgTup 2 (dgCons (dgName 2) (dgCons (dgName 3) dgNil))) (dgCons (dgTup 2 (dgCons (dgName 4) (dgCons (dgName 5) dgNil))) dgNil))))
  (dRet (dCallF sp_in_lowest Wd (dCons (dBin (rI2 CMulW fun i j => .int (i * j)) (dVar 2) (dVar 4)) (dCons (dBin (rI2 CMulW fun i j => .int (i * j)) (dVar 3) (dVar 5)) dNil))))))
def b_over (c : Nat → Addr) (sp_need_ratios : DSp) (sp_divided : DSp) : DXS → DS := fun Wd => (dSeq (dDrop (dCallF sp_need_ratios Wd (dCons (dVar 0) (dCons (dVar 1) dNil))))
  (dSeq (dIf (dTest (dBin rEq' (dVar 1) (dC (.int 0)))) (dRaise (c 1) ["what", "number"] Wd (dCons (dC (.str "other")) (dCons (dVar 1) dNil))) dNext)
  (dRet (dCallF sp_divided Wd (dCons (dVar 0) (dCons (dVar 1) dNil))))))
def b_divided (c : Nat → Addr) (sp_pair : DSp) (sp_in_lowest : DSp) : DXS → DS := fun Wd => (dSeq (dAsg (dTup (dCons (dCallF sp_pair Wd (dCons (dVar 0) dNil)) (dCons (dCallF sp_pair Wd (dCons (dVar 1) dNil)) dNil))) (dgTup 2 (dgCons (dgTup 2 (dgCons (dgName 2) (dgCons (dgName 3) dgNil))) (dgCons (dgTup 2 (dgCons (dgName 4) (dgCons (dgName 5) dgNil))) dgNil))))
  (dRet (dCallF sp_in_lowest Wd (dCons (dBin (rI2 CMulW fun i j => .int (i * j)) (dVar 2) (dVar 5)) (dCons (dBin (rI2 CMulW fun i j => .int (i * j)) (dVar 3) (dVar 4)) dNil)))))
def b_sign (c : Nat → Addr) (sp_is_ratio : DSp) (sp_sign_of : DSp) : DXS → DS := fun Wd => (dSeq (dIf (dNot (dTest (dCallF sp_is_ratio Wd (dCons (dVar 0) dNil)))) (dRaise (c 1) ["what", "number"] Wd (dCons (dC (.str "one")) (dCons (dVar 0) dNil))) dNext)
  (dRet (dCallF sp_sign_of Wd (dCons (dVar 0) dNil))))
def b_sign_of (c : Nat → Addr)  : DXS → DS := fun Wd => (dSeq (dAsg (dIfE (dTest (dCall cIs1 (dCons (dVar 0) (dCons (dC (.ty "int")) dNil)))) (dVar 0) (dBin rIx (dVar 0) (dC (.int 0)))) (dgName 1))
  (dRet (dIfE (dTest (dBin (rI2 (fun _ _ => True) fun i j => .bl (decide (j < i))) (dVar 1) (dC (.int 0)))) (dC (.int 1)) (dIfE (dTest (dBin (rI2 (fun _ _ => True) fun i j => .bl (decide (i < j))) (dVar 1) (dC (.int 0)))) (dUn rNeg (dC (.int 1))) (dC (.int 0))))))
def b_below (c : Nat → Addr) (sp_need_ratios : DSp) (sp_is_below : DSp) : DXS → DS := fun Wd => (dSeq (dDrop (dCallF sp_need_ratios Wd (dCons (dVar 0) (dCons (dVar 1) dNil))))
  (dRet (dCallF sp_is_below Wd (dCons (dVar 0) (dCons (dVar 1) dNil)))))
def b_is_below (c : Nat → Addr) (sp_pair : DSp) : DXS → DS := fun Wd => (dSeq (dAsg (dTup (dCons (dCallF sp_pair Wd (dCons (dVar 0) dNil)) (dCons (dCallF sp_pair Wd (dCons (dVar 1) dNil)) dNil))) (dgTup 2 (dgCons (dgTup 2 (dgCons (dgName 2) (dgCons (dgName 3) dgNil))) (dgCons (dgTup 2 (dgCons (dgName 4) (dgCons (dgName 5) dgNil))) dgNil))))
  (dRet (dBin (rI2 (fun _ _ => True) fun i j => .bl (decide (i < j))) (dBin (rI2 CMulW fun i j => .int (i * j)) (dVar 2) (dVar 5)) (dBin (rI2 CMulW fun i j => .int (i * j)) (dVar 4) (dVar 3)))))
def b_dot (c : Nat → Addr) (sp_is_ratio : DSp) (sp_summed : DSp) : DXS → DS := fun Wd => (dSeq (dIf (dOr (dNot (dTest (dCall cIs2 (dCons (dVar 0) (dCons (dTup (dCons (dC (.ty "list")) (dCons (dC (.ty "tuple")) dNil))) dNil))))) (dNot (dTest (dCall (cAllB fun bs => bs.all id) (dCons (dLc (dSeqI (dVar 0)) (dgName 2) dYes (dCallF sp_is_ratio (fun _ _ _ _ => False) (dCons (dVar 2) dNil)) [2]) dNil))))) (dRaise (c 2) ["what", "row"] Wd (dCons (dC (.str "row")) (dCons (dVar 0) dNil))) dNext)
  (dSeq (dIf (dOr (dNot (dTest (dCall cIs2 (dCons (dVar 1) (dCons (dTup (dCons (dC (.ty "list")) (dCons (dC (.ty "tuple")) dNil))) dNil))))) (dNot (dTest (dCall (cAllB fun bs => bs.all id) (dCons (dLc (dSeqI (dVar 1)) (dgName 2) dYes (dCallF sp_is_ratio (fun _ _ _ _ => False) (dCons (dVar 2) dNil)) [2]) dNil))))) (dRaise (c 2) ["what", "row"] Wd (dCons (dC (.str "other")) (dCons (dVar 1) dNil))) dNext)
  (dSeq (dIf (dTest (dBin rNe' (dCall cLen (dCons (dVar 0) dNil)) (dCall cLen (dCons (dVar 1) dNil)))) (dRaise (c 12) ["what"] Wd (dCons (dC (.str "other")) dNil)) dNext)
  (dRet (dCallF sp_summed Wd (dCons (dVar 0) (dCons (dVar 1) dNil)))))))
def b_summed (c : Nat → Addr) (sp_pair : DSp) (sp_in_lowest : DSp) : DXS → DS := fun Wd => (dSeq (dAsg (dTup (dCons (dC (.int 0)) (dCons (dC (.int 1)) dNil))) (dgTup 2 (dgCons (dgName 2) (dgCons (dgName 3) dgNil))))
  (dSeq (dFor (dZipM (dCons (dVar 0) (dCons (dVar 1) dNil))) (dgTup 2 (dgCons (dgName 4) (dgCons (dgName 5) dgNil))) (dSeq (dIf (dOr (dTest (dBin rEq' (dVar 4) (dC (.int 0)))) (dTest (dBin rEq' (dVar 5) (dC (.int 0))))) dCont dNext)
  (dSeq (dAsg (dTup (dCons (dCallF sp_pair Wd (dCons (dVar 4) dNil)) (dCons (dCallF sp_pair Wd (dCons (dVar 5) dNil)) dNil))) (dgTup 2 (dgCons (dgTup 2 (dgCons (dgName 6) (dgCons (dgName 7) dgNil))) (dgCons (dgTup 2 (dgCons (dgName 8) (dgCons (dgName 9) dgNil))) dgNil))))
  (dSeq (dAsg (dBin (rI2 CMulW fun i j => .int (i * j)) (dVar 7) (dVar 9)) (dgName 7))
  (dIf (dTest (dBin rEq' (dVar 7) (dVar 3))) (dAsg (dBin rAddA (dVar 2) (dBin (rI2 CMulW fun i j => .int (i * j)) (dVar 6) (dVar 8))) (dgName 2)) (dSeq (dAsg (dBin rAddA (dBin (rI2 CMulW fun i j => .int (i * j)) (dVar 2) (dVar 7)) (dBin (rI2 CMulW fun i j => .int (i * j)) (dBin (rI2 CMulW fun i j => .int (i * j)) (dVar 6) (dVar 8)) (dVar 3))) (dgName 2))
  (dAsg (dBin (rI2 CMulW fun i j => .int (i * j)) (dVar 3) (dVar 7)) (dgName 3))))))))
  (dRet (dCallF sp_in_lowest Wd (dCons (dVar 2) (dCons (dVar 3) dNil))))))
def b_l_pen (c : Nat → Addr)  : DXS → DS := fun Wd => (dSeq (dAsg (dC (.int 0)) (dgName 1))
  (dSeq (dFor (dSeqI (dVar 0)) (dgName 2) (dAsg (dBin (rI2 (fun _ j => 0 < j) fun i j => .int (i % j)) (dCall cInt (dCons (dBin rAdd (dBin (rI2 CMulW fun i j => .int (i * j)) (dVar 1) (dC (.int 47))) (dVar 2)) dNil)) (dC (.int 1000000007))) (dgName 1)))
  (dRet (dDicM [(Sum.inr "cells", (dCall cList (dCons (dVar 0) dNil))), (Sum.inr "at", (dC (.int 0))), (Sum.inr "digits", (dC (.int 0))), (Sum.inr "count", (dC (.int 0))), (Sum.inr "fold", (dVar 1))]))))
def b_l_draw (c : Nat → Addr)  : DXS → DS := fun Wd => (dSeq (dDput (dVar 0) (dC (.str "count")) (dBin rAdd (dBin rDix (dVar 0) (dC (.str "count"))) (dC (.int 1))))
  (dSeq (dIf (dAnd (dTest (dBin rEq' (dBin rDix (dVar 0) (dC (.str "digits"))) (dC (.int 0)))) (dTest (dBin (rI2 (fun _ _ => True) fun i j => .bl (decide (i < j))) (dBin rDix (dVar 0) (dC (.str "at"))) (dCall cLen (dCons (dBin rDix (dVar 0) (dC (.str "cells"))) dNil))))) (dSeq (dAsg (dBin rIx (dBin rDix (dVar 0) (dC (.str "cells"))) (dBin rDix (dVar 0) (dC (.str "at")))) (dgName 2))
  (dSeq (dDput (dVar 0) (dC (.str "at")) (dBin rAdd (dBin rDix (dVar 0) (dC (.str "at"))) (dC (.int 1))))
  (dIf (dTest (dBin (rI2 (fun _ _ => True) fun i j => .bl (decide (j ≤ i))) (dVar 2) (dBin (rI2 CPow fun i j => .int (i ^ j.toNat)) (dC (.int 10)) (dC (.int 18))))) (dDput (dVar 0) (dC (.str "digits")) (dBin (rI2 (fun _ _ => True) fun i j => .int (i - j)) (dVar 2) (dBin (rI2 CPow fun i j => .int (i ^ j.toNat)) (dC (.int 10)) (dC (.int 18))))) (dDput (dVar 0) (dC (.str "fold")) (dBin (rI2 (fun _ j => 0 < j) fun i j => .int (i % j)) (dCall cInt (dCons (dBin rAdd (dBin (rI2 CMulW fun i j => .int (i * j)) (dBin rDix (dVar 0) (dC (.str "fold"))) (dC (.int 69069))) (dVar 2)) dNil)) (dC (.int 2147483587))))))) dNext)
  (dSeq (dIf (dTest (dBin (rI2 (fun _ _ => True) fun i j => .bl (decide (j < i))) (dBin rDix (dVar 0) (dC (.str "digits"))) (dC (.int 0)))) (dSeq (dAsg (dBin (rI2 (fun _ j => 0 < j) fun i j => .int (i % j)) (dCall cInt (dCons (dBin rDix (dVar 0) (dC (.str "digits"))) dNil)) (dVar 1)) (dgName 3))
  (dSeq (dDput (dVar 0) (dC (.str "digits")) (dBin (rI2 CDivW fun i j => .int (i / j)) (dBin rDix (dVar 0) (dC (.str "digits"))) (dVar 1)))
  (dRet (dVar 3)))) dNext)
  (dSeq (dAsg (dBin (rI2 (fun _ j => 0 < j) fun i j => .int (i % j)) (dCall cInt (dCons (dBin rAdd (dBin rAdd (dBin (rI2 CMulW fun i j => .int (i * j)) (dBin rDix (dVar 0) (dC (.str "fold"))) (dC (.int 48271))) (dBin (rI2 CMulW fun i j => .int (i * j)) (dBin rDix (dVar 0) (dC (.str "count"))) (dC (.int 7919)))) (dC (.int 13))) dNil)) (dC (.int 2147483647))) (dgName 4))
  (dSeq (dAsg (dBin (rI2 (fun _ j => 0 < j) fun i j => .int (i % j)) (dCall cInt (dCons (dBin rAdd (dBin rAdd (dBin (rI2 CMulW fun i j => .int (i * j)) (dVar 4) (dVar 4)) (dBin (rI2 CMulW fun i j => .int (i * j)) (dC (.int 31)) (dVar 4))) (dBin rDix (dVar 0) (dC (.str "count")))) dNil)) (dC (.int 2147483629))) (dgName 4))
  (dSeq (dDput (dVar 0) (dC (.str "fold")) (dBin (rI2 (fun _ j => 0 < j) fun i j => .int (i % j)) (dCall cInt (dCons (dBin rAdd (dBin (rI2 CMulW fun i j => .int (i * j)) (dVar 4) (dC (.int 16807))) (dC (.int 7))) dNil)) (dC (.int 2147483647))))
  (dRet (dBin (rI2 (fun _ j => 0 < j) fun i j => .int (i % j)) (dCall cInt (dCons (dBin (rI2 CDivW fun i j => .int (i / j)) (dVar 4) (dC (.int 64))) dNil)) (dVar 1)))))))))
def b_l_pick (c : Nat → Addr) (sp_l_draw : DSp) : DXS → DS := fun Wd => (dRet (dBin rIx (dVar 1) (dCallF sp_l_draw Wd (dCons (dVar 0) (dCons (dCall cLen (dCons (dVar 1) dNil)) dNil)))))
def b_l_is (c : Nat → Addr) (sp_l_is : DSp) : DXS → DS := fun Wd => (dSeq (dIf (dTest (dCall cIs1 (dCons (dVar 1) (dCons (dC (.ty "tuple")) dNil)))) (dSeq (dIf (dOr (dNot (dTest (dCall cIs1 (dCons (dVar 0) (dCons (dC (.ty "tuple")) dNil))))) (dTest (dBin rNe' (dCall cLen (dCons (dVar 0) dNil)) (dCall cLen (dCons (dVar 1) dNil))))) (dRet (dC (.bl false))) dNext)
  (dRet (dBin rEqE (dLc (dRng1 (dCons (dCall cLen (dCons (dVar 1) dNil)) dNil)) (dgName 2) (dNot (dTest (dCallF sp_l_is (fun _ _ _ _ => False) (dCons (dBin rIx (dVar 0) (dVar 2)) (dCons (dBin rIx (dVar 1) (dVar 2)) dNil))))) (dVar 2) [2]) (dLst dNil)))) dNext)
  (dSeq (dIf (dTest (dBin (rIsC false) (dVar 1) (dC .non))) (dRet (dBin (rIsC false) (dVar 0) (dC .non))) dNext)
  (dSeq (dIf (dTest (dBin (rIsC false) (dVar 1) (dC (.bl true)))) (dRet (dBin (rIsC false) (dVar 0) (dC (.bl true)))) dNext)
  (dSeq (dIf (dTest (dBin (rIsC false) (dVar 1) (dC (.bl false)))) (dRet (dBin (rIsC false) (dVar 0) (dC (.bl false)))) dNext)
  (dSeq (dIf (dTest (dCall cIs1 (dCons (dVar 1) (dCons (dC (.ty "str")) dNil)))) (dRet (dAndV (dCall cIs1 (dCons (dVar 0) (dCons (dC (.ty "str")) dNil))) (dBin rEq' (dVar 0) (dVar 1)))) dNext)
  (dRet (dAndV (dCall cIs1 (dCons (dVar 0) (dCons (dC (.ty "int")) dNil))) (dAndV (dUn (fun d M Q => match d with | .bl b => Q (.bl (!b)) M | _ => False) (dCall cIs1 (dCons (dVar 0) (dCons (dC (.ty "bool")) dNil)))) (dBin rEq' (dVar 0) (dVar 1))))))))))
def b_l_says (c : Nat → Addr)  : DXS → DS := fun Wd => (dRet (dIfE (dTest (dVar 1)) (dBin (rIsC false) (dVar 0) (dC (.bl true))) (dBin (rIsC false) (dVar 0) (dC (.bl false)))))
def b_l_divisor (c : Nat → Addr)  : DXS → DS := fun Wd => (dSeq (dPar [0, 1] (dCons (dCall cAbs (dCons (dVar 0) dNil)) (dCons (dCall cAbs (dCons (dVar 1) dNil)) dNil)))
  (dSeq (dWhile (dTest (dBin rNe' (dVar 1) (dC (.int 0)))) (dPar [0, 1] (dCons (dVar 1) (dCons (dBin (rI2 (fun _ j => 0 < j) fun i j => .int (i % j)) (dCall cInt (dCons (dVar 0) dNil)) (dVar 1)) dNil))))
  (dRet (dVar 0))))
def b_l_low (c : Nat → Addr) (sp_l_divisor : DSp) : DXS → DS := fun Wd => (dSeq (dAsg (dCallF sp_l_divisor Wd (dCons (dVar 0) (dCons (dVar 1) dNil))) (dgName 2))
  (dSeq (dIf (dTest (dBin (rI2 (fun _ _ => True) fun i j => .bl (decide (i < j))) (dVar 1) (dC (.int 0)))) (dAsg (dUn rNeg (dVar 2)) (dgName 2)) dNext)
  (dRet (dIfE (dTest (dBin rEq' (dVar 1) (dVar 2))) (dBin (rI2 CDivA fun i j => .int (i.fdiv j)) (dVar 0) (dVar 2)) (dTup (dCons (dBin (rI2 CDivA fun i j => .int (i.fdiv j)) (dVar 0) (dVar 2)) (dCons (dBin (rI2 CDivA fun i j => .int (i.fdiv j)) (dVar 1) (dVar 2)) dNil)))))))
def b_l_pair (c : Nat → Addr)  : DXS → DS := fun Wd => (dRet (dIfE (dTest (dCall cIs1 (dCons (dVar 0) (dCons (dC (.ty "int")) dNil)))) (dTup (dCons (dVar 0) (dCons (dC (.int 1)) dNil))) (dVar 0)))
def b_l_plus (c : Nat → Addr) (sp_l_low : DSp) (sp_l_pair : DSp) : DXS → DS := fun Wd => (dSeq (dPar [2, 3] (dCons (dCallF sp_l_pair Wd (dCons (dVar 0) dNil)) (dCons (dCallF sp_l_pair Wd (dCons (dVar 1) dNil)) dNil)))
  (dRet (dCallF sp_l_low Wd (dCons (dBin rAddA (dBin (rI2 CMulW fun i j => .int (i * j)) (dBin rIx (dVar 2) (dC (.int 0))) (dBin rIx (dVar 3) (dC (.int 1)))) (dBin (rI2 CMulW fun i j => .int (i * j)) (dBin rIx (dVar 3) (dC (.int 0))) (dBin rIx (dVar 2) (dC (.int 1))))) (dCons (dBin (rI2 CMulW fun i j => .int (i * j)) (dBin rIx (dVar 2) (dC (.int 1))) (dBin rIx (dVar 3) (dC (.int 1)))) dNil)))))
def b_l_opposite (c : Nat → Addr)  : DXS → DS := fun Wd => (dRet (dIfE (dTest (dCall cIs1 (dCons (dVar 0) (dCons (dC (.ty "int")) dNil)))) (dUn rNeg (dVar 0)) (dTup (dCons (dUn rNeg (dBin rIx (dVar 0) (dC (.int 0)))) (dCons (dBin rIx (dVar 0) (dC (.int 1))) dNil)))))
def b_l_minus (c : Nat → Addr) (sp_l_plus : DSp) (sp_l_opposite : DSp) : DXS → DS := fun Wd => (dRet (dCallF sp_l_plus Wd (dCons (dVar 0) (dCons (dCallF sp_l_opposite Wd (dCons (dVar 1) dNil)) dNil))))
def b_l_times (c : Nat → Addr) (sp_l_low : DSp) (sp_l_pair : DSp) : DXS → DS := fun Wd => (dSeq (dPar [2, 3] (dCons (dCallF sp_l_pair Wd (dCons (dVar 0) dNil)) (dCons (dCallF sp_l_pair Wd (dCons (dVar 1) dNil)) dNil)))
  (dRet (dCallF sp_l_low Wd (dCons (dBin (rI2 CMulW fun i j => .int (i * j)) (dBin rIx (dVar 2) (dC (.int 0))) (dBin rIx (dVar 3) (dC (.int 0)))) (dCons (dBin (rI2 CMulW fun i j => .int (i * j)) (dBin rIx (dVar 2) (dC (.int 1))) (dBin rIx (dVar 3) (dC (.int 1)))) dNil)))))
def b_l_over (c : Nat → Addr) (sp_l_low : DSp) (sp_l_pair : DSp) : DXS → DS := fun Wd => (dSeq (dPar [2, 3] (dCons (dCallF sp_l_pair Wd (dCons (dVar 0) dNil)) (dCons (dCallF sp_l_pair Wd (dCons (dVar 1) dNil)) dNil)))
  (dRet (dCallF sp_l_low Wd (dCons (dBin (rI2 CMulW fun i j => .int (i * j)) (dBin rIx (dVar 2) (dC (.int 0))) (dBin rIx (dVar 3) (dC (.int 1)))) (dCons (dBin (rI2 CMulW fun i j => .int (i * j)) (dBin rIx (dVar 2) (dC (.int 1))) (dBin rIx (dVar 3) (dC (.int 0)))) dNil)))))
def b_l_sign (c : Nat → Addr) (sp_l_pair : DSp) : DXS → DS := fun Wd => (dSeq (dAsg (dBin rIx (dCallF sp_l_pair Wd (dCons (dVar 0) dNil)) (dC (.int 0))) (dgName 1))
  (dRet (dBin (rI2 (fun _ _ => True) fun i j => .int (i - j)) (dCall cInt (dCons (dBin (rI2 (fun _ _ => True) fun i j => .bl (decide (j < i))) (dVar 1) (dC (.int 0))) dNil)) (dCall cInt (dCons (dBin (rI2 (fun _ _ => True) fun i j => .bl (decide (i < j))) (dVar 1) (dC (.int 0))) dNil)))))
def b_l_less (c : Nat → Addr) (sp_l_pair : DSp) : DXS → DS := fun Wd => (dSeq (dPar [2, 3] (dCons (dCallF sp_l_pair Wd (dCons (dVar 0) dNil)) (dCons (dCallF sp_l_pair Wd (dCons (dVar 1) dNil)) dNil)))
  (dRet (dBin (rI2 (fun _ _ => True) fun i j => .bl (decide (i < j))) (dBin (rI2 CMulW fun i j => .int (i * j)) (dBin rIx (dVar 2) (dC (.int 0))) (dBin rIx (dVar 3) (dC (.int 1)))) (dBin (rI2 CMulW fun i j => .int (i * j)) (dBin rIx (dVar 3) (dC (.int 0))) (dBin rIx (dVar 2) (dC (.int 1)))))))
def b_l_dot (c : Nat → Addr) (sp_l_low : DSp) (sp_l_pair : DSp) : DXS → DS := fun Wd => (dSeq (dAsg (dTup (dCons (dC (.int 0)) (dCons (dC (.int 1)) dNil))) (dgTup 2 (dgCons (dgName 2) (dgCons (dgName 3) dgNil))))
  (dSeq (dFor (dZipM (dCons (dVar 0) (dCons (dVar 1) dNil))) (dgTup 2 (dgCons (dgName 4) (dgCons (dgName 5) dgNil))) (dSeq (dPar [6, 7] (dCons (dCallF sp_l_pair Wd (dCons (dVar 4) dNil)) (dCons (dCallF sp_l_pair Wd (dCons (dVar 5) dNil)) dNil)))
  (dSeq (dAsg (dBin (rI2 CMulW fun i j => .int (i * j)) (dBin rIx (dVar 6) (dC (.int 1))) (dBin rIx (dVar 7) (dC (.int 1)))) (dgName 8))
  (dIf (dTest (dBin rEq' (dVar 8) (dVar 3))) (dAsg (dBin rAddA (dVar 2) (dBin (rI2 CMulW fun i j => .int (i * j)) (dBin rIx (dVar 6) (dC (.int 0))) (dBin rIx (dVar 7) (dC (.int 0))))) (dgName 2)) (dPar [2, 3] (dCons (dBin rAddA (dBin (rI2 CMulW fun i j => .int (i * j)) (dVar 2) (dVar 8)) (dBin (rI2 CMulW fun i j => .int (i * j)) (dBin (rI2 CMulW fun i j => .int (i * j)) (dBin rIx (dVar 6) (dC (.int 0))) (dBin rIx (dVar 7) (dC (.int 0)))) (dVar 3))) (dCons (dBin (rI2 CMulW fun i j => .int (i * j)) (dVar 3) (dVar 8)) dNil)))))))
  (dRet (dCallF sp_l_low Wd (dCons (dVar 2) (dCons (dVar 3) dNil))))))
def b_l_is_list (c : Nat → Addr)  : DXS → DS := fun Wd => (dRet (dCall cIs2 (dCons (dVar 0) (dCons (dTup (dCons (dC (.ty "list")) (dCons (dC (.ty "tuple")) dNil))) dNil))))
def b_l_is_ratio (c : Nat → Addr) (sp_l_divisor : DSp) (sp_l_is_whole : DSp) : DXS → DS := fun Wd => (dSeq (dIf (dTest (dCall cIs1 (dCons (dVar 0) (dCons (dC (.ty "tuple")) dNil)))) (dSeq (dIf (dOr (dTest (dBin rNe' (dCall cLen (dCons (dVar 0) dNil)) (dC (.int 2)))) (dOr (dNot (dTest (dCallF sp_l_is_whole Wd (dCons (dBin rIx (dVar 0) (dC (.int 0))) dNil)))) (dNot (dTest (dCallF sp_l_is_whole Wd (dCons (dBin rIx (dVar 0) (dC (.int 1))) dNil)))))) (dRet (dC (.bl false))) dNext)
  (dRet (dAndV (dBin (rI2 (fun _ _ => True) fun i j => .bl (decide (j < i))) (dBin rIx (dVar 0) (dC (.int 1))) (dC (.int 1))) (dBin rEq' (dCallF sp_l_divisor Wd (dCons (dBin rIx (dVar 0) (dC (.int 0))) (dCons (dBin rIx (dVar 0) (dC (.int 1))) dNil))) (dC (.int 1)))))) dNext)
  (dRet (dCallF sp_l_is_whole Wd (dCons (dVar 0) dNil))))
def b_l_is_whole (c : Nat → Addr)  : DXS → DS := fun Wd => (dRet (dAndV (dCall cIs1 (dCons (dVar 0) (dCons (dC (.ty "int")) dNil))) (dUn (fun d M Q => match d with | .bl b => Q (.bl (!b)) M | _ => False) (dCall cIs1 (dCons (dVar 0) (dCons (dC (.ty "bool")) dNil))))))
def b_l_is_any_row (c : Nat → Addr) (sp_l_is_list : DSp) (sp_l_is_ratio : DSp) : DXS → DS := fun Wd => (dSeq (dIf (dOr (dNot (dTest (dCallF sp_l_is_list Wd (dCons (dVar 0) dNil)))) (dTest (dBin rNe' (dCall cLen (dCons (dVar 0) dNil)) (dVar 1)))) (dRet (dC (.bl false))) dNext)
  (dRet (dBin rEqE (dLc (dSeqI (dVar 0)) (dgName 2) (dNot (dTest (dCallF sp_l_is_ratio (fun _ _ _ _ => False) (dCons (dVar 2) dNil)))) (dVar 2) [2]) (dLst dNil))))
def b_l_number (c : Nat → Addr) (sp_l_draw : DSp) (sp_l_low : DSp) (sp_l_wide : DSp) : DXS → DS := fun Wd => (dSeq (dIf (dTest (dBin rEq' (dVar 1) (dC (.int 0)))) (dRet (dBin (rI2 (fun _ _ => True) fun i j => .int (i - j)) (dCallF sp_l_draw Wd (dCons (dVar 0) (dCons (dC (.int 7)) dNil))) (dC (.int 3)))) dNext)
  (dSeq (dIf (dTest (dBin rEq' (dVar 1) (dC (.int 1)))) (dRet (dCallF sp_l_low Wd (dCons (dBin (rI2 (fun _ _ => True) fun i j => .int (i - j)) (dCallF sp_l_draw Wd (dCons (dVar 0) (dCons (dC (.int 19)) dNil))) (dC (.int 9))) (dCons (dBin rAddA (dC (.int 1)) (dCallF sp_l_draw Wd (dCons (dVar 0) (dCons (dC (.int 6)) dNil)))) dNil)))) dNext)
  (dSeq (dIf (dTest (dBin rEq' (dVar 1) (dC (.int 2)))) (dRet (dCallF sp_l_low Wd (dCons (dBin (rI2 (fun _ _ => True) fun i j => .int (i - j)) (dCallF sp_l_draw Wd (dCons (dVar 0) (dCons (dC (.int 1999)) dNil))) (dC (.int 999))) (dCons (dBin rAddA (dC (.int 1)) (dCallF sp_l_draw Wd (dCons (dVar 0) (dCons (dC (.int 97)) dNil)))) dNil)))) dNext)
  (dRet (dCallF sp_l_low Wd (dCons (dBin (rI2 CMulW fun i j => .int (i * j)) (dBin (rI2 (fun _ _ => True) fun i j => .int (i - j)) (dC (.int 1)) (dBin (rI2 CMulW fun i j => .int (i * j)) (dC (.int 2)) (dCallF sp_l_draw Wd (dCons (dVar 0) (dCons (dC (.int 2)) dNil))))) (dCallF sp_l_wide Wd (dCons (dVar 0) (dCons (dC (.int 40)) dNil)))) (dCons (dBin rAddA (dC (.int 1)) (dCallF sp_l_wide Wd (dCons (dVar 0) (dCons (dC (.int 39)) dNil)))) dNil)))))))
def b_l_wide (c : Nat → Addr) (sp_l_draw : DSp) : DXS → DS := fun Wd => (dSeq (dAsg (dTup (dCons (dC (.int 0)) (dCons (dC (.int 1)) dNil))) (dgTup 2 (dgCons (dgName 2) (dgCons (dgName 3) dgNil))))
  (dSeq (dFor (dRng1 (dCons (dBin (rI2 CDivA fun i j => .int (i.fdiv j)) (dBin rAddA (dVar 1) (dC (.int 5))) (dC (.int 6))) dNil)) (dgName 4) (dAsg (dBin rAddA (dBin (rI2 CMulW fun i j => .int (i * j)) (dVar 2) (dBin (rI2 CPow fun i j => .int (i ^ j.toNat)) (dC (.int 10)) (dC (.int 6)))) (dCallF sp_l_draw Wd (dCons (dVar 0) (dCons (dBin (rI2 CPow fun i j => .int (i ^ j.toNat)) (dC (.int 10)) (dC (.int 6))) dNil)))) (dgName 2)))
  (dSeq (dFor (dRng1 (dCons (dVar 1) dNil)) (dgName 4) (dAsg (dBin (rI2 CMulW fun i j => .int (i * j)) (dVar 3) (dC (.int 10))) (dgName 3)))
  (dRet (dBin (rI2 (fun _ j => 0 < j) fun i j => .int (i % j)) (dCall cInt (dCons (dVar 2) dNil)) (dVar 3))))))
def b_l_size (c : Nat → Addr) (sp_l_pick : DSp) : DXS → DS := fun Wd => (dRet (dCallF sp_l_pick Wd (dCons (dVar 0) (dCons (dLst (dCons (dC (.int 0)) (dCons (dC (.int 0)) (dCons (dC (.int 0)) (dCons (dC (.int 1)) (dCons (dC (.int 1)) (dCons (dC (.int 2)) dNil))))))) dNil))))
def b_l_row (c : Nat → Addr) (sp_l_draw : DSp) (sp_l_number : DSp) : DXS → DS := fun Wd => (dRet (dCall cTuple (dCons (dLc (dRng1 (dCons (dVar 1) dNil)) (dgName 3) dYes (dIfE (dTest (dBin (rI2 (fun _ _ => True) fun i j => .bl (decide (j < i))) (dCallF sp_l_draw (fun _ _ _ _ => False) (dCons (dVar 0) (dCons (dC (.int 4)) dNil))) (dC (.int 0)))) (dCallF sp_l_number (fun _ _ _ _ => False) (dCons (dVar 0) (dCons (dVar 2) dNil))) (dC (.int 0))) [3]) dNil)))
def b_l_odd (c : Nat → Addr) (sp_l_pick : DSp) : DXS → DS := fun Wd => (dRet (dCallF sp_l_pick Wd (dCons (dVar 0) (dCons (dLst (dCons (dC .non) (dCons (dC (.bl true)) (dCons (dC (.bl false)) (dCons (dC (.str "1")) (dCons (dC (.str "")) (dCons (dTup (dCons (dC (.int 1)) (dCons (dC (.int 1)) dNil))) (dCons (dTup (dCons (dC (.int 2)) (dCons (dC (.int 4)) dNil))) (dCons (dTup (dCons (dC (.int 1)) (dCons (dC (.int 0)) dNil))) (dCons (dTup (dCons (dC (.int 1)) (dCons (dUn rNeg (dC (.int 2))) dNil))) (dCons (dLst (dCons (dC (.int 1)) (dCons (dC (.int 2)) dNil))) (dCons (dTup (dCons (dC (.int 1)) (dCons (dC (.int 2)) (dCons (dC (.int 3)) dNil)))) (dCons (dTup (dCons (dC (.bl true)) (dCons (dC (.int 2)) dNil))) (dCons (dTup dNil) (dCons (dTup (dCons (dC (.int 0)) (dCons (dC (.int 3)) dNil))) (dCons (dFrz dDic0) dNil)))))))))))))))) dNil))))
def b_l_bent_row (c : Nat → Addr) (sp_l_draw : DSp) (sp_l_pick : DSp) (sp_l_odd : DSp) : DXS → DS := fun Wd => (dSeq (dAsg (dCallF sp_l_draw Wd (dCons (dVar 0) (dCons (dC (.int 4)) dNil))) (dgName 2))
  (dSeq (dIf (dAnd (dTest (dBin rEq' (dVar 2) (dC (.int 0)))) (dTest (dBin (rI2 (fun _ _ => True) fun i j => .bl (decide (j < i))) (dCall cLen (dCons (dVar 1) dNil)) (dC (.int 0))))) (dRet (dSlc (dVar 1) dNoPart (dPart (dUn rNeg (dC (.int 1)))))) dNext)
  (dSeq (dIf (dTest (dBin rEq' (dVar 2) (dC (.int 1)))) (dRet (dBin rAddA (dVar 1) (dTup (dCons (dCallF sp_l_draw Wd (dCons (dVar 0) (dCons (dC (.int 3)) dNil))) dNil)))) dNext)
  (dSeq (dIf (dAnd (dTest (dBin rEq' (dVar 2) (dC (.int 2)))) (dTest (dBin (rI2 (fun _ _ => True) fun i j => .bl (decide (j < i))) (dCall cLen (dCons (dVar 1) dNil)) (dC (.int 0))))) (dSeq (dAsg (dCallF sp_l_draw Wd (dCons (dVar 0) (dCons (dCall cLen (dCons (dVar 1) dNil)) dNil))) (dgName 3))
  (dRet (dBin rAddA (dBin rAddA (dSlc (dVar 1) dNoPart (dPart (dVar 3))) (dTup (dCons (dCallF sp_l_odd Wd (dCons (dVar 0) dNil)) dNil))) (dSlc (dVar 1) (dPart (dBin rAddA (dVar 3) (dC (.int 1)))) dNoPart)))) dNext)
  (dRet (dCallF sp_l_pick Wd (dCons (dVar 0) (dCons (dLst (dCons (dC .non) (dCons (dC (.int 3)) (dCons (dC (.str "row")) (dCons (dC (.bl true)) (dCons (dFrz dDic0) dNil)))))) dNil))))))))
def b_l_fault (c : Nat → Addr) (sp_l_kinds : ESp) (f : Addr) (lam : Lam) : DXS → DS := fun Wd => (dSeq (dAsg (dC .non) (dgName 1))
  (dSeq (dTryAs (fun C => decide (C ∈ (allC c 18))) 2 (fun Wd => (dDrop (dAct 0 f lam Wd))) (fun q C fl => (dSeq (dAsg (dCallE sp_l_kinds q C fl (fun _ _ _ _ => False) (dCons (dVar 2) dNil)) (dgName 1))
  (dAsg (dIfE (dAnd (dTest (dBin rEq' (dCall cLen (dCons (dVar 1) dNil)) (dC (.int 1)))) (dTest (dCall (cIsE q (rErr (allC c 18) C (upsC c C))) (dCons (dVar 2) (dCons (dC (.ty "ValueError")) dNil))))) (dBin rIx (dVar 1) (dC (.int 0))) (dTup (dCons (dC (.str "several")) (dCons (dCall cLen (dCons (dVar 1) dNil)) dNil)))) (dgName 1)))) (fun _ _ _ _ => False))
  (dRet (dVar 1))))
def b_l_kinds (c : Nat → Addr) (sp_l_more_kinds : ESp) (q C : Addr) (fl : List (Str × D)) : DXS → DS := fun Wd => (dSeq (dAsg (dLstM dNil) (dgName 1))
  (dSeq (dIf (dTest (dCall (cIsE q (rErr (allC c 18) C (upsC c C))) (dCons (dVar 0) (dCons (dC (.ref (c 1))) dNil)))) (dDrop (dApp (dVar 1) (dCons (dTup (dCons (dC (.str "number")) (dCons (dFld q fl "what" (dVar 0)) (dCons (dCall cRepr (dCons (dFld q fl "number" (dVar 0)) dNil)) dNil)))) dNil))) dNext)
  (dSeq (dIf (dTest (dCall (cIsE q (rErr (allC c 18) C (upsC c C))) (dCons (dVar 0) (dCons (dC (.ref (c 2))) dNil)))) (dDrop (dApp (dVar 1) (dCons (dTup (dCons (dC (.str "row")) (dCons (dFld q fl "what" (dVar 0)) (dCons (dCall cRepr (dCons (dFld q fl "row" (dVar 0)) dNil)) dNil)))) dNil))) dNext)
  (dSeq (dIf (dTest (dCall (cIsE q (rErr (allC c 18) C (upsC c C))) (dCons (dVar 0) (dCons (dC (.ref (c 3))) dNil)))) (dDrop (dApp (dVar 1) (dCons (dTup (dCons (dC (.str "table")) (dCons (dFld q fl "what" (dVar 0)) dNil))) dNil))) dNext)
  (dSeq (dIf (dTest (dCall (cIsE q (rErr (allC c 18) C (upsC c C))) (dCons (dVar 0) (dCons (dC (.ref (c 4))) dNil)))) (dDrop (dApp (dVar 1) (dCons (dTup (dCons (dC (.str "tree")) (dCons (dFld q fl "what" (dVar 0)) dNil))) dNil))) dNext)
  (dSeq (dIf (dTest (dCall (cIsE q (rErr (allC c 18) C (upsC c C))) (dCons (dVar 0) (dCons (dC (.ref (c 5))) dNil)))) (dDrop (dApp (dVar 1) (dCons (dTup (dCons (dC (.str "plan")) (dCons (dFld q fl "what" (dVar 0)) dNil))) dNil))) dNext)
  (dSeq (dIf (dTest (dCall (cIsE q (rErr (allC c 18) C (upsC c C))) (dCons (dVar 0) (dCons (dC (.ref (c 6))) dNil)))) (dDrop (dApp (dVar 1) (dCons (dTup (dCons (dC (.str "book")) (dCons (dFld q fl "what" (dVar 0)) dNil))) dNil))) dNext)
  (dSeq (dIf (dTest (dCall (cIsE q (rErr (allC c 18) C (upsC c C))) (dCons (dVar 0) (dCons (dC (.ref (c 7))) dNil)))) (dDrop (dApp (dVar 1) (dCons (dTup (dCons (dC (.str "badname")) (dCons (dCall cRepr (dCons (dFld q fl "name" (dVar 0)) dNil)) dNil))) dNil))) dNext)
  (dSeq (dIf (dTest (dCall (cIsE q (rErr (allC c 18) C (upsC c C))) (dCons (dVar 0) (dCons (dC (.ref (c 8))) dNil)))) (dDrop (dApp (dVar 1) (dCons (dTup (dCons (dC (.str "text")) (dCons (dFld q fl "line" (dVar 0)) (dCons (dFld q fl "word" (dVar 0)) dNil)))) dNil))) dNext)
  (dSeq (dIf (dTest (dCall (cIsE q (rErr (allC c 18) C (upsC c C))) (dCons (dVar 0) (dCons (dC (.ref (c 9))) dNil)))) (dDrop (dApp (dVar 1) (dCons (dTup (dCons (dC (.str "place")) (dCons (dFld q fl "what" (dVar 0)) (dCons (dCall cRepr (dCons (dFld q fl "index" (dVar 0)) dNil)) dNil)))) dNil))) dNext)
  (dRet (dBin rAdd (dFrz (dVar 1)) (dCallE sp_l_more_kinds q C fl (fun _ _ _ _ => False) (dCons (dVar 0) dNil))))))))))))))
def b_l_more_kinds (c : Nat → Addr)  (q C : Addr) (fl : List (Str × D)) : DXS → DS := fun Wd => (dSeq (dAsg (dLstM dNil) (dgName 1))
  (dSeq (dIf (dTest (dCall (cIsE q (rErr (allC c 18) C (upsC c C))) (dCons (dVar 0) (dCons (dC (.ref (c 10))) dNil)))) (dDrop (dApp (dVar 1) (dCons (dTup (dCons (dC (.str "noname")) (dCons (dCall cRepr (dCons (dFld q fl "name" (dVar 0)) dNil)) dNil))) dNil))) dNext)
  (dSeq (dIf (dTest (dCall (cIsE q (rErr (allC c 18) C (upsC c C))) (dCons (dVar 0) (dCons (dC (.ref (c 11))) dNil)))) (dDrop (dApp (dVar 1) (dCons (dTup (dCons (dC (.str "taken")) (dCons (dCall cRepr (dCons (dFld q fl "name" (dVar 0)) dNil)) dNil))) dNil))) dNext)
  (dSeq (dIf (dTest (dCall (cIsE q (rErr (allC c 18) C (upsC c C))) (dCons (dVar 0) (dCons (dC (.ref (c 12))) dNil)))) (dDrop (dApp (dVar 1) (dCons (dTup (dCons (dC (.str "unlike")) (dCons (dFld q fl "what" (dVar 0)) dNil))) dNil))) dNext)
  (dSeq (dIf (dTest (dCall (cIsE q (rErr (allC c 18) C (upsC c C))) (dCons (dVar 0) (dCons (dC (.ref (c 13))) dNil)))) (dDrop (dApp (dVar 1) (dCons (dTup (dCons (dC (.str "notthere")) (dCons (dFld q fl "paper" (dVar 0)) dNil))) dNil))) dNext)
  (dSeq (dIf (dTest (dCall (cIsE q (rErr (allC c 18) C (upsC c C))) (dCons (dVar 0) (dCons (dC (.ref (c 14))) dNil)))) (dDrop (dApp (dVar 1) (dCons (dTup (dCons (dC (.str "many")) (dCons (dFld q fl "what" (dVar 0)) (dCons (dFld q fl "many" (dVar 0)) (dCons (dFld q fl "limit" (dVar 0)) dNil))))) dNil))) dNext)
  (dSeq (dIf (dTest (dCall (cIsE q (rErr (allC c 18) C (upsC c C))) (dCons (dVar 0) (dCons (dC (.ref (c 15))) dNil)))) (dDrop (dApp (dVar 1) (dCons (dTup (dCons (dC (.str "kept")) (dCons (dFld q fl "promise" (dVar 0)) (dCons (dFld q fl "witness" (dVar 0)) dNil)))) dNil))) dNext)
  (dSeq (dIf (dTest (dCall (cIsE q (rErr (allC c 18) C (upsC c C))) (dCons (dVar 0) (dCons (dC (.ref (c 16))) dNil)))) (dDrop (dApp (dVar 1) (dCons (dTup (dCons (dC (.str "undo")) dNil)) dNil))) dNext)
  (dSeq (dIf (dTest (dCall (cIsE q (rErr (allC c 18) C (upsC c C))) (dCons (dVar 0) (dCons (dC (.ref (c 17))) dNil)))) (dDrop (dApp (dVar 1) (dCons (dTup (dCons (dC (.str "redo")) dNil)) dNil))) dNext)
  (dRet (dFrz (dVar 1))))))))))))
def b_l_made_right (c : Nat → Addr) (sp_is_ratio : DSp) (sp_ratio : DSp) (sp_l_draw : DSp) (sp_l_pick : DSp) (sp_l_is : DSp) (sp_l_says : DSp) (sp_l_low : DSp) (sp_l_is_ratio : DSp) (sp_l_number : DSp) (sp_l_odd : DSp) (sp_l_fault : LSp) : DXS → DS := fun Wd => (dSeq (dAsg (dCallF sp_l_pick Wd (dCons (dVar 0) (dCons (dLst (dCons (dC (.int 1)) (dCons (dUn rNeg (dC (.int 1))) (dCons (dC (.int 2)) (dCons (dUn rNeg (dC (.int 6))) (dCons (dBin (rI2 CPow fun i j => .int (i ^ j.toNat)) (dC (.int 10)) (dC (.int 20))) dNil)))))) dNil))) (dgName 1))
  (dSeq (dAsg (dTup (dCons (dBin (rI2 (fun _ _ => True) fun i j => .int (i - j)) (dCallF sp_l_draw Wd (dCons (dVar 0) (dCons (dC (.int 999)) dNil))) (dC (.int 499))) (dCons (dBin rAddA (dC (.int 1)) (dCallF sp_l_draw Wd (dCons (dVar 0) (dCons (dC (.int 99)) dNil)))) dNil))) (dgTup 2 (dgCons (dgName 2) (dgCons (dgName 3) dgNil))))
  (dSeq (dIf (dOr (dNot (dTest (dCallF sp_l_is Wd (dCons (dCallF sp_ratio Wd (dCons (dBin (rI2 CMulW fun i j => .int (i * j)) (dVar 2) (dVar 1)) (dCons (dBin (rI2 CMulW fun i j => .int (i * j)) (dVar 3) (dVar 1)) dNil))) (dCons (dCallF sp_l_low Wd (dCons (dVar 2) (dCons (dVar 3) dNil))) dNil))))) (dTest (dBin (rIsC true) (dCallF sp_is_ratio Wd (dCons (dCallF sp_l_low Wd (dCons (dVar 2) (dCons (dVar 3) dNil))) dNil)) (dC (.bl true))))) (dRet (dC (.bl false))) dNext)
  (dSeq (dAsg (dCallF sp_l_pick Wd (dCons (dVar 0) (dCons (dLst (dCons (dCallF sp_l_odd Wd (dCons (dVar 0) dNil)) (dCons (dCallF sp_l_number Wd (dCons (dVar 0) (dCons (dC (.int 3)) dNil))) (dCons (dTup (dCons (dBin (rI2 CMulW fun i j => .int (i * j)) (dVar 2) (dVar 1)) (dCons (dBin (rI2 CMulW fun i j => .int (i * j)) (dVar 3) (dVar 1)) dNil))) (dCons (dLst (dCons (dVar 2) (dCons (dVar 3) dNil))) (dCons (dVar 2) dNil)))))) dNil))) (dgName 4))
  (dSeq (dIf (dNot (dTest (dCallF sp_l_says Wd (dCons (dCallF sp_is_ratio Wd (dCons (dVar 4) dNil)) (dCons (dCallF sp_l_is_ratio Wd (dCons (dVar 4) dNil)) dNil))))) (dRet (dC (.bl false))) dNext)
  (dSeq (dAsg (dCallF sp_l_pick Wd (dCons (dVar 0) (dCons (dLst (dCons (dC .non) (dCons (dC (.bl true)) (dCons (dC (.str "1")) (dCons (dTup (dCons (dC (.int 1)) (dCons (dC (.int 2)) dNil))) (dCons (dLst (dCons (dC (.int 1)) dNil)) dNil)))))) dNil))) (dgName 5))
  (dSeq (dIf (dTest (dBin rNe' (dLam sp_l_fault (fun Wd => (dCallF sp_ratio Wd (dCons (dVar 5) (dCons (dC (.int 0)) dNil)))) Wd) (dTup (dCons (dC (.str "number")) (dCons (dC (.str "top")) (dCons (dCall cRepr (dCons (dVar 5) dNil)) dNil)))))) (dRet (dC (.bl false))) dNext)
  (dSeq (dAsg (dCallF sp_l_pick Wd (dCons (dVar 0) (dCons (dLst (dCons (dC (.int 0)) (dCons (dC .non) (dCons (dC (.bl false)) (dCons (dTup (dCons (dC (.int 1)) (dCons (dC (.int 2)) dNil))) dNil))))) dNil))) (dgName 5))
  (dRet (dBin rEq' (dLam sp_l_fault (fun Wd => (dCallF sp_ratio Wd (dCons (dVar 2) (dCons (dVar 5) dNil)))) Wd) (dTup (dCons (dC (.str "number")) (dCons (dC (.str "bottom")) (dCons (dCall cRepr (dCons (dVar 5) dNil)) dNil))))))))))))))
def b_l_reckoned_right (c : Nat → Addr) (sp_plus : DSp) (sp_minus : DSp) (sp_times : DSp) (sp_over : DSp) (sp_sign : DSp) (sp_below : DSp) (sp_l_is : DSp) (sp_l_says : DSp) (sp_l_plus : DSp) (sp_l_minus : DSp) (sp_l_times : DSp) (sp_l_over : DSp) (sp_l_sign : DSp) (sp_l_less : DSp) (sp_l_fault : LSp) : DXS → DS := fun Wd => (dSeq (dIf (dOr (dNot (dTest (dCallF sp_l_is Wd (dCons (dCallF sp_plus Wd (dCons (dVar 0) (dCons (dVar 1) dNil))) (dCons (dCallF sp_l_plus Wd (dCons (dVar 0) (dCons (dVar 1) dNil))) dNil))))) (dNot (dTest (dCallF sp_l_is Wd (dCons (dCallF sp_minus Wd (dCons (dVar 0) (dCons (dVar 1) dNil))) (dCons (dCallF sp_l_minus Wd (dCons (dVar 0) (dCons (dVar 1) dNil))) dNil)))))) (dRet (dC (.bl false))) dNext)
  (dSeq (dIf (dOr (dNot (dTest (dCallF sp_l_is Wd (dCons (dCallF sp_times Wd (dCons (dVar 0) (dCons (dVar 1) dNil))) (dCons (dCallF sp_l_times Wd (dCons (dVar 0) (dCons (dVar 1) dNil))) dNil))))) (dNot (dTest (dCallF sp_l_says Wd (dCons (dCallF sp_below Wd (dCons (dVar 0) (dCons (dVar 1) dNil))) (dCons (dCallF sp_l_less Wd (dCons (dVar 0) (dCons (dVar 1) dNil))) dNil)))))) (dRet (dC (.bl false))) dNext)
  (dSeq (dIf (dNot (dTest (dCallF sp_l_is Wd (dCons (dCallF sp_sign Wd (dCons (dVar 0) dNil)) (dCons (dCallF sp_l_sign Wd (dCons (dVar 0) dNil)) dNil))))) (dRet (dC (.bl false))) dNext)
  (dSeq (dIf (dTest (dBin rEq' (dVar 1) (dC (.int 0)))) (dRet (dBin rEq' (dLam sp_l_fault (fun Wd => (dCallF sp_over Wd (dCons (dVar 0) (dCons (dVar 1) dNil)))) Wd) (dTup (dCons (dC (.str "number")) (dCons (dC (.str "other")) (dCons (dC (.str "0")) dNil)))))) dNext)
  (dRet (dCallF sp_l_is Wd (dCons (dCallF sp_over Wd (dCons (dVar 0) (dCons (dVar 1) dNil))) (dCons (dCallF sp_l_over Wd (dCons (dVar 0) (dCons (dVar 1) dNil))) dNil))))))))
def b_l_refused_right (c : Nat → Addr) (g_plus g_minus g_times g_over g_below : Addr) (sp_plus : DSp) (sp_minus : DSp) (sp_times : DSp) (sp_over : DSp) (sp_sign : DSp) (sp_below : DSp) (sp_l_fault : LSp) : DXS → DS := fun Wd => (dSeq (dFor (dSeqI (dTup (dCons (dC (.ref g_plus)) (dCons (dC (.ref g_minus)) (dCons (dC (.ref g_times)) (dCons (dC (.ref g_over)) (dCons (dC (.ref g_below)) dNil))))))) (dgName 2) (dSeq (dIf (dTest (dBin rNe' (dLam sp_l_fault (fun Wd => (dCallV [(g_plus, sp_plus), (g_minus, sp_minus), (g_times, sp_times), (g_over, sp_over), (g_below, sp_below)] Wd (dVar 2) (dCons (dVar 1) (dCons (dVar 1) dNil)))) Wd) (dTup (dCons (dC (.str "number")) (dCons (dC (.str "one")) (dCons (dCall cRepr (dCons (dVar 1) dNil)) dNil)))))) (dRet (dC (.bl false))) dNext)
  (dIf (dTest (dBin rNe' (dLam sp_l_fault (fun Wd => (dCallV [(g_plus, sp_plus), (g_minus, sp_minus), (g_times, sp_times), (g_over, sp_over), (g_below, sp_below)] Wd (dVar 2) (dCons (dVar 0) (dCons (dVar 1) dNil)))) Wd) (dTup (dCons (dC (.str "number")) (dCons (dC (.str "other")) (dCons (dCall cRepr (dCons (dVar 1) dNil)) dNil)))))) (dRet (dC (.bl false))) dNext)))
  (dRet (dBin rEq' (dLam sp_l_fault (fun Wd => (dCallF sp_sign Wd (dCons (dVar 1) dNil))) Wd) (dTup (dCons (dC (.str "number")) (dCons (dC (.str "one")) (dCons (dCall cRepr (dCons (dVar 1) dNil)) dNil)))))))
def b_l_rows_right (c : Nat → Addr) (sp_dot : DSp) (sp_l_draw : DSp) (sp_l_is : DSp) (sp_l_dot : DSp) (sp_l_is_list : DSp) (sp_l_is_any_row : DSp) (sp_l_size : DSp) (sp_l_row : DSp) (sp_l_bent_row : DSp) (sp_l_fault : LSp) : DXS → DS := fun Wd => (dSeq (dAsg (dCallF sp_l_draw Wd (dCons (dVar 0) (dCons (dC (.int 5)) dNil))) (dgName 1))
  (dSeq (dPar [2, 3] (dCons (dCallF sp_l_row Wd (dCons (dVar 0) (dCons (dVar 1) (dCons (dCallF sp_l_size Wd (dCons (dVar 0) dNil)) dNil)))) (dCons (dCallF sp_l_row Wd (dCons (dVar 0) (dCons (dVar 1) (dCons (dCallF sp_l_size Wd (dCons (dVar 0) dNil)) dNil)))) dNil)))
  (dSeq (dIf (dNot (dTest (dCallF sp_l_is Wd (dCons (dCallF sp_dot Wd (dCons (dCall cList (dCons (dVar 2) dNil)) (dCons (dVar 3) dNil))) (dCons (dCallF sp_l_dot Wd (dCons (dVar 2) (dCons (dVar 3) dNil))) dNil))))) (dRet (dC (.bl false))) dNext)
  (dSeq (dAsg (dTup (dCons (dCallF sp_l_bent_row Wd (dCons (dVar 0) (dCons (dVar 2) dNil))) (dCons (dCallF sp_l_bent_row Wd (dCons (dVar 0) (dCons (dVar 3) dNil))) dNil))) (dgTup 2 (dgCons (dgName 4) (dgCons (dgName 5) dgNil))))
  (dSeq (dIf (dOr (dNot (dTest (dCallF sp_l_is_list Wd (dCons (dVar 4) dNil)))) (dNot (dTest (dCallF sp_l_is_any_row Wd (dCons (dVar 4) (dCons (dCall cLen (dCons (dVar 4) dNil)) dNil)))))) (dRet (dBin rEq' (dLam sp_l_fault (fun Wd => (dCallF sp_dot Wd (dCons (dVar 4) (dCons (dVar 5) dNil)))) Wd) (dTup (dCons (dC (.str "row")) (dCons (dC (.str "row")) (dCons (dCall cRepr (dCons (dVar 4) dNil)) dNil)))))) dNext)
  (dSeq (dIf (dOr (dNot (dTest (dCallF sp_l_is_list Wd (dCons (dVar 5) dNil)))) (dNot (dTest (dCallF sp_l_is_any_row Wd (dCons (dVar 5) (dCons (dCall cLen (dCons (dVar 5) dNil)) dNil)))))) (dRet (dBin rEq' (dLam sp_l_fault (fun Wd => (dCallF sp_dot Wd (dCons (dVar 4) (dCons (dVar 5) dNil)))) Wd) (dTup (dCons (dC (.str "row")) (dCons (dC (.str "other")) (dCons (dCall cRepr (dCons (dVar 5) dNil)) dNil)))))) dNext)
  (dRet (dBin rEq' (dLam sp_l_fault (fun Wd => (dCallF sp_dot Wd (dCons (dVar 4) (dCons (dVar 5) dNil)))) Wd) (dIfE (dTest (dBin rNe' (dCall cLen (dCons (dVar 4) dNil)) (dCall cLen (dCons (dVar 5) dNil)))) (dTup (dCons (dC (.str "unlike")) (dCons (dC (.str "other")) dNil))) (dC .non))))))))))
def b_law (c : Nat → Addr) (sp_l_pen : DSp) (sp_l_pick : DSp) (sp_l_number : DSp) (sp_l_size : DSp) (sp_l_odd : DSp) (sp_l_made_right : DSp) (sp_l_reckoned_right : DSp) (sp_l_refused_right : DSp) (sp_l_rows_right : DSp) : DXS → DS := fun Wd => (dSeq (dAsg (dCallF sp_l_pen Wd (dCons (dVar 0) dNil)) (dgName 1))
  (dSeq (dFor (dRng1 (dCons (dC (.int 4)) dNil)) (dgName 2) (dSeq (dPar [3, 4] (dCons (dCallF sp_l_number Wd (dCons (dVar 1) (dCons (dCallF sp_l_size Wd (dCons (dVar 1) dNil)) dNil))) (dCons (dCallF sp_l_number Wd (dCons (dVar 1) (dCons (dCallF sp_l_size Wd (dCons (dVar 1) dNil)) dNil))) dNil)))
  (dSeq (dIf (dOr (dNot (dTest (dCallF sp_l_made_right Wd (dCons (dVar 1) dNil)))) (dNot (dTest (dCallF sp_l_reckoned_right Wd (dCons (dVar 3) (dCons (dCallF sp_l_pick Wd (dCons (dVar 1) (dCons (dLst (dCons (dVar 4) (dCons (dC (.int 0)) (dCons (dVar 3) dNil)))) dNil))) dNil)))))) (dRet (dC (.bl false))) dNext)
  (dIf (dOr (dNot (dTest (dCallF sp_l_refused_right Wd (dCons (dVar 3) (dCons (dCallF sp_l_odd Wd (dCons (dVar 1) dNil)) dNil))))) (dNot (dTest (dCallF sp_l_rows_right Wd (dCons (dVar 1) dNil))))) (dRet (dC (.bl false))) dNext))))
  (dRet (dC (.bl true)))))
end K02
set_option maxHeartbeats 4000000
namespace K02
open PySem PySem.Spec PyProof.Rows L2 Dq
open PySem.W (findIn typeIn keepIn)

def top (i : Nat) : Stmt := PySem.Challenge.pw_hiddenmoves_k02_ratios.main.body.getD i (.Pass ⟨0, 0, 0, 0⟩)
def allF : List Str := ["what", "number", "row", "name", "line", "word", "index", "paper", "many", "limit", "promise", "witness"]
structure Txt (P : Program) (w : World) (K : PySem.W.Frag) (mg : Str → Option Value) (base : Heap) (c : Nat → Addr) : Prop where
  inj : Inj c 18
  err : ∀ C, C ∈ allC c 18 → Err K C (upsC c C) allF
  b_int : mg "int" = none
  b_bool : mg "bool" = none
  b_str : mg "str" = none
  b_tuple : mg "tuple" = none
  b_list : mg "list" = none
  b_len : mg "len" = none
  b_repr : mg "repr" = none
  b_range : mg "range" = none
  b_isinstance : mg "isinstance" = none
  b_ValueError : mg "ValueError" = none
  b_abs : mg "abs" = none
  b_all : mg "all" = none
  b_zip : mg "zip" = none
  b_gcd : mg "gcd" = some (.builtin "math.gcd")
  m_HiddenError : mg "HiddenError" = some (.ref (c 0))
  m_BadNumber : mg "BadNumber" = some (.ref (c 1))
  i_BadNumber : Ei P w K mg base "BadNumber" (c 1) (upsC c (c 1)) ["what", "number"]
  m_BadRow : mg "BadRow" = some (.ref (c 2))
  i_BadRow : Ei P w K mg base "BadRow" (c 2) (upsC c (c 2)) ["what", "row"]
  m_BadTable : mg "BadTable" = some (.ref (c 3))
  i_BadTable : Ei P w K mg base "BadTable" (c 3) (upsC c (c 3)) ["what"]
  m_BadTree : mg "BadTree" = some (.ref (c 4))
  i_BadTree : Ei P w K mg base "BadTree" (c 4) (upsC c (c 4)) ["what"]
  m_BadPlan : mg "BadPlan" = some (.ref (c 5))
  i_BadPlan : Ei P w K mg base "BadPlan" (c 5) (upsC c (c 5)) ["what"]
  m_BadBook : mg "BadBook" = some (.ref (c 6))
  i_BadBook : Ei P w K mg base "BadBook" (c 6) (upsC c (c 6)) ["what"]
  m_BadName : mg "BadName" = some (.ref (c 7))
  i_BadName : Ei P w K mg base "BadName" (c 7) (upsC c (c 7)) ["name"]
  m_BadText : mg "BadText" = some (.ref (c 8))
  i_BadText : Ei P w K mg base "BadText" (c 8) (upsC c (c 8)) ["line", "word"]
  m_NoPlace : mg "NoPlace" = some (.ref (c 9))
  i_NoPlace : Ei P w K mg base "NoPlace" (c 9) (upsC c (c 9)) ["what", "index"]
  m_NoName : mg "NoName" = some (.ref (c 10))
  i_NoName : Ei P w K mg base "NoName" (c 10) (upsC c (c 10)) ["name"]
  m_TakenName : mg "TakenName" = some (.ref (c 11))
  i_TakenName : Ei P w K mg base "TakenName" (c 11) (upsC c (c 11)) ["name"]
  m_Unlike : mg "Unlike" = some (.ref (c 12))
  i_Unlike : Ei P w K mg base "Unlike" (c 12) (upsC c (c 12)) ["what"]
  m_NotThere : mg "NotThere" = some (.ref (c 13))
  i_NotThere : Ei P w K mg base "NotThere" (c 13) (upsC c (c 13)) ["paper"]
  m_TooMany : mg "TooMany" = some (.ref (c 14))
  i_TooMany : Ei P w K mg base "TooMany" (c 14) (upsC c (c 14)) ["what", "many", "limit"]
  m_NotKept : mg "NotKept" = some (.ref (c 15))
  i_NotKept : Ei P w K mg base "NotKept" (c 15) (upsC c (c 15)) ["promise", "witness"]
  m_NothingToUndo : mg "NothingToUndo" = some (.ref (c 16))
  i_NothingToUndo : E0 K mg "NothingToUndo" (c 16) (upsC c (c 16))
  m_NothingToRedo : mg "NothingToRedo" = some (.ref (c 17))
  i_NothingToRedo : E0 K mg "NothingToRedo" (c 17) (upsC c (c 17))
section
variable {P : Program} {w : World} {K : PySem.W.Frag} {mg : Str → Option Value} {base : Heap} {c : Nat → Addr}
theorem de_fldX {X : Cx} {G0 : Hp} {C : Addr} {ups : List Addr} {q : Addr × Obj} {fl : List (Str × D)} {n : Str} {e : Expr} {de : DE} {pos : Pos} (E : Err X.K C ups allF) (h : ExcAt X.K G0 q C fl) (hq : q ∈ X.pn) (he : PE X e (up X.K G0 de)) (hn : n ∈ allF := by decide +kernel) (hb : attributeBase e n X.env (eval e X.env) = eval e X.env := by rfl) :
    PE X (.Attribute e n pos) (up X.K G0 (dFld q.1 fl n de)) := de_fld E h hq hn he hb
theorem roomE_hot {k : Nat} {A : Around} {v : Option Value} (hr : RoomG k A) : RoomE k (A.mark v) := ⟨⟨hr.room.dp, hr.room.un⟩, hr.gd⟩
theorem catch_ok (T : Txt P w K mg base c) (C : Addr) : PySem.W.exmOne K (.ref C) (.ref (c 0)) = some (decide (C ∈ allC c 18)) ∨ ∀ (fl : List (Str × D)) (ρ : Ds) (M : Mm), ¬ False ∧ decide (C ∈ allC c 18) = false := by
  by_cases h : C ∈ allC c 18
  · refine .inl ?_
    rw [(T.err C h).exm (T.err (c 0) (mem_allC (by decide))), decide_eq_true h]
    unfold isOf upsC
    by_cases e : c 0 = C
    · rw [decide_eq_true e]; rfl
    · rw [if_neg (fun z => e z.symm)]; simp
  · exact .inr fun _ _ _ => ⟨fun z => z, decide_eq_false h⟩
abbrev s_is_integer : Stmt := top 21
theorem sc_is_integer : FnScope ["value"] ["value"] (defScope s_is_integer) := ⟨rfl, rfl, rfl, by decide +kernel, rfl, by decide +kernel, by decide +kernel⟩
theorem fd_is_integer {sp : DSp} (T : Txt P w K mg base c) (D : Dn K mg "is_integer" "is_integer" s_is_integer ["value"])  (len : ∀ ds M Q E, sp ds M Q E → ds.length = (["value"] : List Str).length)
    (pure : ∀ ds M Q E, sp ds M Q E → b_is_integer c  (fun C fs _ M' => E C fs M') { nx := fun _ M' => Q .non M', rt := Q } (dstart ["value"] ds) M) : Fd P w K mg base 1 "is_integer" ["value"] sp :=
  D.ok fun f fd F => fnD_of F sc_is_integer len (b_is_integer c ) (fun cdv A outer s H E G0 Wd hr tk hp => by
    have hu := hr.room.units
    have hu1 : (A.deeper (envOfC "is_integer" (defScope s_is_integer) s.heap.objs.size f cdv)).units + 1 < cLine := by omega
    have hg0 := hr.gd
    have hall : ∀ C ∈ allC c 18, ∃ u f, Err K C u f := fun C h => ⟨_, _, T.err C h⟩
    exact (ds_one (ds_ret (de_and (de_callB is1_ok (by rfl) T.b_isinstance (by decide +kernel) (da_cons (dv 0) (da_cons (de_tyN T.b_int (by decide +kernel)) da_nil))) (de_one (de_not (de_callB is1_ok (by rfl) T.b_isinstance (by decide +kernel) (da_cons (dv 0) (da_cons (de_tyN T.b_bool (by decide +kernel)) da_nil))))))))) (pure)
abbrev s_is_ratio : Stmt := top 22
theorem sc_is_ratio : FnScope ["value"] ["value"] (defScope s_is_ratio) := ⟨rfl, rfl, rfl, by decide +kernel, rfl, by decide +kernel, by decide +kernel⟩
theorem fd_is_ratio {sp : DSp} (T : Txt P w K mg base c) (D : Dn K mg "is_ratio" "is_ratio" s_is_ratio ["value"]) {sp_is_integer : DSp} (F_is_integer : Fd P w K mg base 1 "is_integer" ["value"] sp_is_integer) (len : ∀ ds M Q E, sp ds M Q E → ds.length = (["value"] : List Str).length)
    (pure : ∀ ds M Q E, sp ds M Q E → b_is_ratio c sp_is_integer (fun C fs _ M' => E C fs M') { nx := fun _ M' => Q .non M', rt := Q } (dstart ["value"] ds) M) : Fd P w K mg base 2 "is_ratio" ["value"] sp :=
  D.ok fun f fd F => fnD_of F sc_is_ratio len (b_is_ratio c sp_is_integer) (fun cdv A outer s H E G0 Wd hr tk hp => by
    have hu := hr.room.units
    have hu1 : (A.deeper (envOfC "is_ratio" (defScope s_is_ratio) s.heap.objs.size f cdv)).units + 1 < cLine := by omega
    have hg0 := hr.gd
    have hall : ∀ C ∈ allC c 18, ∃ u f, Err K C u f := fun C h => ⟨_, _, T.err C h⟩
    exact (ds_cons (ds_if (dt_not (dt_val (de_callB is1_ok (by rfl) T.b_isinstance (by decide +kernel) (da_cons (dv 0) (da_cons (de_tyN T.b_tuple (by decide +kernel)) da_nil))))) (ds_one (ds_ret (de_callF F_is_integer (hr.mono (by decide)) (by rfl) tk (da_cons (dv 0) da_nil)))) ds_nil)
    (ds_cons (ds_if (PW.pt (dw_or (dt_cmp (ne_ok hu) (de_callB len_ok (by rfl) T.b_len (by decide +kernel) (da_cons (dv 0) da_nil)) de_int rfl) (dw_or (dt_not (dt_val (de_callF F_is_integer (hr.mono (by decide)) (by rfl) tk (da_cons (de_ix (dv 0) de_int (fun _ _ => rfl)) da_nil)))) (dw_or1 (dt_not (dt_val (de_callF F_is_integer (hr.mono (by decide)) (by rfl) tk (da_cons (de_ix (dv 0) de_int (fun _ _ => rfl)) da_nil)))))))) (ds_one (ds_ret de_bl)) ds_nil)
    (ds_one (ds_ret (de_and (de_cmp gt_ok (de_ix (dv 0) de_int (fun _ _ => rfl)) de_int rfl) (de_one (de_cmp (eq_ok hu) (de_callFun gcd_ok (by rfl) T.b_gcd (da_cons (de_ix (dv 0) de_int (fun _ _ => rfl)) (da_cons (de_ix (dv 0) de_int (fun _ _ => rfl)) da_nil))) de_int rfl)))))))) (pure)
abbrev s_pair : Stmt := top 23
theorem sc_pair : FnScope ["number"] ["number"] (defScope s_pair) := ⟨rfl, rfl, rfl, by decide +kernel, rfl, by decide +kernel, by decide +kernel⟩
theorem fd_pair {sp : DSp} (T : Txt P w K mg base c) (D : Dn K mg "pair" "pair" s_pair ["number"])  (len : ∀ ds M Q E, sp ds M Q E → ds.length = (["number"] : List Str).length)
    (pure : ∀ ds M Q E, sp ds M Q E → b_pair c  (fun C fs _ M' => E C fs M') { nx := fun _ M' => Q .non M', rt := Q } (dstart ["number"] ds) M) : Fd P w K mg base 1 "pair" ["number"] sp :=
  D.ok fun f fd F => fnD_of F sc_pair len (b_pair c ) (fun cdv A outer s H E G0 Wd hr tk hp => by
    have hu := hr.room.units
    have hu1 : (A.deeper (envOfC "pair" (defScope s_pair) s.heap.objs.size f cdv)).units + 1 < cLine := by omega
    have hg0 := hr.gd
    have hall : ∀ C ∈ allC c 18, ∃ u f, Err K C u f := fun C h => ⟨_, _, T.err C h⟩
    exact (ds_one (ds_ret (de_ife (dt_val (de_callB is1_ok (by rfl) T.b_isinstance (by decide +kernel) (da_cons (dv 0) (da_cons (de_tyN T.b_int (by decide +kernel)) da_nil)))) (de_tup (da_cons (dv 0) (da_cons de_int da_nil))) (dv 0))))) (pure)
abbrev s_in_lowest : Stmt := top 24
theorem sc_in_lowest : FnScope ["top", "bottom", "by"] ["top", "bottom"] (defScope s_in_lowest) := ⟨rfl, rfl, rfl, by decide +kernel, rfl, by decide +kernel, by decide +kernel⟩
theorem fd_in_lowest {sp : DSp} (T : Txt P w K mg base c) (D : Dn K mg "in_lowest" "in_lowest" s_in_lowest ["top", "bottom"])  (len : ∀ ds M Q E, sp ds M Q E → ds.length = (["top", "bottom"] : List Str).length)
    (pure : ∀ ds M Q E, sp ds M Q E → b_in_lowest c  (fun C fs _ M' => E C fs M') { nx := fun _ M' => Q .non M', rt := Q } (dstart ["top", "bottom", "by"] ds) M) : Fd P w K mg base 1 "in_lowest" ["top", "bottom"] sp :=
  D.ok fun f fd F => fnD_of F sc_in_lowest len (b_in_lowest c ) (fun cdv A outer s H E G0 Wd hr tk hp => by
    have hu := hr.room.units
    have hu1 : (A.deeper (envOfC "in_lowest" (defScope s_in_lowest) s.heap.objs.size f cdv)).units + 1 < cLine := by omega
    have hg0 := hr.gd
    have hall : ∀ C ∈ allC c 18, ∃ u f, Err K C u f := fun C h => ⟨_, _, T.err C h⟩
    exact (ds_cons (ds_set (i := 2) sc_in_lowest.nd rfl (by first | exact .inl rfl | exact .inr rfl) (de_ife (dt_cmp gt_ok (dv 1) de_int rfl) (de_callFun gcd_ok (by rfl) T.b_gcd (da_cons (dv 0) (da_cons (dv 1) da_nil))) (de_un neg_ok (de_callFun gcd_ok (by rfl) T.b_gcd (da_cons (dv 0) (da_cons (dv 1) da_nil))))))
    (ds_one (ds_ret (de_ife (dt_cmp (eq_ok hu) (dv 1) (dv 2) rfl) (de_bin fdivA_ok (dv 0) (dv 2)) (de_tup (da_cons (de_bin fdivA_ok (dv 0) (dv 2)) (da_cons (de_bin fdivA_ok (dv 1) (dv 2)) da_nil)))))))) (pure)
abbrev s_ratio : Stmt := top 25
theorem sc_ratio : FnScope ["top", "bottom"] ["top", "bottom"] (defScope s_ratio) := ⟨rfl, rfl, rfl, by decide +kernel, rfl, by decide +kernel, by decide +kernel⟩
theorem fd_ratio {sp : DSp} (T : Txt P w K mg base c) (D : Dn K mg "ratio" "ratio" s_ratio ["top", "bottom"]) {sp_is_integer : DSp} (F_is_integer : Fd P w K mg base 1 "is_integer" ["value"] sp_is_integer) {sp_in_lowest : DSp} (F_in_lowest : Fd P w K mg base 1 "in_lowest" ["top", "bottom"] sp_in_lowest) (len : ∀ ds M Q E, sp ds M Q E → ds.length = (["top", "bottom"] : List Str).length)
    (pure : ∀ ds M Q E, sp ds M Q E → b_ratio c sp_is_integer sp_in_lowest (fun C fs _ M' => E C fs M') { nx := fun _ M' => Q .non M', rt := Q } (dstart ["top", "bottom"] ds) M) : Fd P w K mg base 3 "ratio" ["top", "bottom"] sp :=
  D.ok fun f fd F => fnD_of F sc_ratio len (b_ratio c sp_is_integer sp_in_lowest) (fun cdv A outer s H E G0 Wd hr tk hp => by
    have hu := hr.room.units
    have hu1 : (A.deeper (envOfC "ratio" (defScope s_ratio) s.heap.objs.size f cdv)).units + 1 < cLine := by omega
    have hg0 := hr.gd
    have hall : ∀ C ∈ allC c 18, ∃ u f, Err K C u f := fun C h => ⟨_, _, T.err C h⟩
    exact (ds_cons (ds_if (dt_not (dt_val (de_callF F_is_integer (hr.mono (by decide)) (by rfl) tk (da_cons (dv 0) da_nil)))) (ds_one (ds_raiseI (T.i_BadNumber) rfl tk (hr.mono (by decide)) (da_cons de_str (da_cons (dv 0) da_nil)))) ds_nil)
    (ds_cons (ds_if (PW.pt (dw_or (dt_not (dt_val (de_callF F_is_integer (hr.mono (by decide)) (by rfl) tk (da_cons (dv 1) da_nil)))) (dw_or1 (dt_cmp (eq_ok hu) (dv 1) de_int rfl)))) (ds_one (ds_raiseI (T.i_BadNumber) rfl tk (hr.mono (by decide)) (da_cons de_str (da_cons (dv 1) da_nil)))) ds_nil)
    (ds_one (ds_ret (de_callF F_in_lowest (hr.mono (by decide)) (by rfl) tk (da_cons (dv 0) (da_cons (dv 1) da_nil)))))))) (pure)
abbrev s_need_ratios : Stmt := top 26
theorem sc_need_ratios : FnScope ["one", "other"] ["one", "other"] (defScope s_need_ratios) := ⟨rfl, rfl, rfl, by decide +kernel, rfl, by decide +kernel, by decide +kernel⟩
theorem fd_need_ratios {sp : DSp} (T : Txt P w K mg base c) (D : Dn K mg "need_ratios" "need_ratios" s_need_ratios ["one", "other"]) {sp_is_ratio : DSp} (F_is_ratio : Fd P w K mg base 2 "is_ratio" ["value"] sp_is_ratio) (len : ∀ ds M Q E, sp ds M Q E → ds.length = (["one", "other"] : List Str).length)
    (pure : ∀ ds M Q E, sp ds M Q E → b_need_ratios c sp_is_ratio (fun C fs _ M' => E C fs M') { nx := fun _ M' => Q .non M', rt := Q } (dstart ["one", "other"] ds) M) : Fd P w K mg base 3 "need_ratios" ["one", "other"] sp :=
  D.ok fun f fd F => fnD_of F sc_need_ratios len (b_need_ratios c sp_is_ratio) (fun cdv A outer s H E G0 Wd hr tk hp => by
    have hu := hr.room.units
    have hu1 : (A.deeper (envOfC "need_ratios" (defScope s_need_ratios) s.heap.objs.size f cdv)).units + 1 < cLine := by omega
    have hg0 := hr.gd
    have hall : ∀ C ∈ allC c 18, ∃ u f, Err K C u f := fun C h => ⟨_, _, T.err C h⟩
    exact (ds_cons (ds_if (dt_not (dt_val (de_callF F_is_ratio (hr.mono (by decide)) (by rfl) tk (da_cons (dv 0) da_nil)))) (ds_one (ds_raiseI (T.i_BadNumber) rfl tk (hr.mono (by decide)) (da_cons de_str (da_cons (dv 0) da_nil)))) ds_nil)
    (ds_one (ds_if (dt_not (dt_val (de_callF F_is_ratio (hr.mono (by decide)) (by rfl) tk (da_cons (dv 1) da_nil)))) (ds_one (ds_raiseI (T.i_BadNumber) rfl tk (hr.mono (by decide)) (da_cons de_str (da_cons (dv 1) da_nil)))) ds_nil)))) (pure)
abbrev s_plus : Stmt := top 27
theorem sc_plus : FnScope ["one", "other"] ["one", "other"] (defScope s_plus) := ⟨rfl, rfl, rfl, by decide +kernel, rfl, by decide +kernel, by decide +kernel⟩
theorem fd_plus {sp : DSp} (T : Txt P w K mg base c) (D : Dn K mg "plus" "plus" s_plus ["one", "other"]) {sp_need_ratios : DSp} (F_need_ratios : Fd P w K mg base 3 "need_ratios" ["one", "other"] sp_need_ratios) {sp_added : DSp} (F_added : Fd P w K mg base 2 "added" ["one", "other"] sp_added) (len : ∀ ds M Q E, sp ds M Q E → ds.length = (["one", "other"] : List Str).length)
    (pure : ∀ ds M Q E, sp ds M Q E → b_plus c sp_need_ratios sp_added (fun C fs _ M' => E C fs M') { nx := fun _ M' => Q .non M', rt := Q } (dstart ["one", "other"] ds) M) : Fd P w K mg base 4 "plus" ["one", "other"] sp :=
  D.ok fun f fd F => fnD_of F sc_plus len (b_plus c sp_need_ratios sp_added) (fun cdv A outer s H E G0 Wd hr tk hp => by
    have hu := hr.room.units
    have hu1 : (A.deeper (envOfC "plus" (defScope s_plus) s.heap.objs.size f cdv)).units + 1 < cLine := by omega
    have hg0 := hr.gd
    have hall : ∀ C ∈ allC c 18, ∃ u f, Err K C u f := fun C h => ⟨_, _, T.err C h⟩
    exact (ds_cons (ds_expr (de_callF F_need_ratios (hr.mono (by decide)) (by rfl) tk (da_cons (dv 0) (da_cons (dv 1) da_nil))))
    (ds_one (ds_ret (de_callF F_added (hr.mono (by decide)) (by rfl) tk (da_cons (dv 0) (da_cons (dv 1) da_nil))))))) (pure)
abbrev s_added : Stmt := top 28
theorem sc_added : FnScope ["one", "other", "top", "bottom", "high", "low"] ["one", "other"] (defScope s_added) := ⟨rfl, rfl, rfl, by decide +kernel, rfl, by decide +kernel, by decide +kernel⟩
theorem fd_added {sp : DSp} (T : Txt P w K mg base c) (D : Dn K mg "added" "added" s_added ["one", "other"]) {sp_pair : DSp} (F_pair : Fd P w K mg base 1 "pair" ["number"] sp_pair) {sp_in_lowest : DSp} (F_in_lowest : Fd P w K mg base 1 "in_lowest" ["top", "bottom"] sp_in_lowest) (len : ∀ ds M Q E, sp ds M Q E → ds.length = (["one", "other"] : List Str).length)
    (pure : ∀ ds M Q E, sp ds M Q E → b_added c sp_pair sp_in_lowest (fun C fs _ M' => E C fs M') { nx := fun _ M' => Q .non M', rt := Q } (dstart ["one", "other", "top", "bottom", "high", "low"] ds) M) : Fd P w K mg base 2 "added" ["one", "other"] sp :=
  D.ok fun f fd F => fnD_of F sc_added len (b_added c sp_pair sp_in_lowest) (fun cdv A outer s H E G0 Wd hr tk hp => by
    have hu := hr.room.units
    have hu1 : (A.deeper (envOfC "added" (defScope s_added) s.heap.objs.size f cdv)).units + 1 < cLine := by omega
    have hg0 := hr.gd
    have hall : ∀ C ∈ allC c 18, ∃ u f, Err K C u f := fun C h => ⟨_, _, T.err C h⟩
    exact (ds_cons (ds_if (PW.pt (dw_and (dt_val (de_callB is1_ok (by rfl) T.b_isinstance (by decide +kernel) (da_cons (dv 0) (da_cons (de_tyN T.b_int (by decide +kernel)) da_nil)))) (dw_and1 (dt_val (de_callB is1_ok (by rfl) T.b_isinstance (by decide +kernel) (da_cons (dv 1) (da_cons (de_tyN T.b_int (by decide +kernel)) da_nil))))))) (ds_one (ds_ret (de_bin addA_ok (dv 0) (dv 1)))) ds_nil)
    (ds_cons (ds_asg (de_tup (da_cons (de_callF F_pair (hr.mono (by decide)) (by rfl) tk (da_cons (dv 0) da_nil)) (da_cons (de_callF F_pair (hr.mono (by decide)) (by rfl) tk (da_cons (dv 1) da_nil)) da_nil))) (dg_tup rfl rfl (dgs_cons (dg_tup rfl rfl (dgs_cons (dg_name (i := 2) sc_added.nd rfl (by first | exact .inl rfl | exact .inr rfl)) (dgs_cons (dg_name (i := 3) sc_added.nd rfl (by first | exact .inl rfl | exact .inr rfl)) dgs_nil))) (dgs_cons (dg_tup rfl rfl (dgs_cons (dg_name (i := 4) sc_added.nd rfl (by first | exact .inl rfl | exact .inr rfl)) (dgs_cons (dg_name (i := 5) sc_added.nd rfl (by first | exact .inl rfl | exact .inr rfl)) dgs_nil))) dgs_nil))))
    (ds_one (ds_ret (de_callF F_in_lowest (hr.mono (by decide)) (by rfl) tk (da_cons (de_bin addA_ok (de_bin mul_ok (dv 2) (dv 5)) (de_bin mul_ok (dv 4) (dv 3))) (da_cons (de_bin mul_ok (dv 3) (dv 5)) da_nil)))))))) (pure)
abbrev s_minus : Stmt := top 29
theorem sc_minus : FnScope ["one", "other"] ["one", "other"] (defScope s_minus) := ⟨rfl, rfl, rfl, by decide +kernel, rfl, by decide +kernel, by decide +kernel⟩
theorem fd_minus {sp : DSp} (T : Txt P w K mg base c) (D : Dn K mg "minus" "minus" s_minus ["one", "other"]) {sp_need_ratios : DSp} (F_need_ratios : Fd P w K mg base 3 "need_ratios" ["one", "other"] sp_need_ratios) {sp_added : DSp} (F_added : Fd P w K mg base 2 "added" ["one", "other"] sp_added) {sp_opposite : DSp} (F_opposite : Fd P w K mg base 1 "opposite" ["number"] sp_opposite) (len : ∀ ds M Q E, sp ds M Q E → ds.length = (["one", "other"] : List Str).length)
    (pure : ∀ ds M Q E, sp ds M Q E → b_minus c sp_need_ratios sp_added sp_opposite (fun C fs _ M' => E C fs M') { nx := fun _ M' => Q .non M', rt := Q } (dstart ["one", "other"] ds) M) : Fd P w K mg base 4 "minus" ["one", "other"] sp :=
  D.ok fun f fd F => fnD_of F sc_minus len (b_minus c sp_need_ratios sp_added sp_opposite) (fun cdv A outer s H E G0 Wd hr tk hp => by
    have hu := hr.room.units
    have hu1 : (A.deeper (envOfC "minus" (defScope s_minus) s.heap.objs.size f cdv)).units + 1 < cLine := by omega
    have hg0 := hr.gd
    have hall : ∀ C ∈ allC c 18, ∃ u f, Err K C u f := fun C h => ⟨_, _, T.err C h⟩
    exact (ds_cons (ds_expr (de_callF F_need_ratios (hr.mono (by decide)) (by rfl) tk (da_cons (dv 0) (da_cons (dv 1) da_nil))))
    (ds_one (ds_ret (de_callF F_added (hr.mono (by decide)) (by rfl) tk (da_cons (dv 0) (da_cons (de_callF F_opposite (hr.mono (by decide)) (by rfl) tk (da_cons (dv 1) da_nil)) da_nil))))))) (pure)
abbrev s_opposite : Stmt := top 30
theorem sc_opposite : FnScope ["number"] ["number"] (defScope s_opposite) := ⟨rfl, rfl, rfl, by decide +kernel, rfl, by decide +kernel, by decide +kernel⟩
theorem fd_opposite {sp : DSp} (T : Txt P w K mg base c) (D : Dn K mg "opposite" "opposite" s_opposite ["number"])  (len : ∀ ds M Q E, sp ds M Q E → ds.length = (["number"] : List Str).length)
    (pure : ∀ ds M Q E, sp ds M Q E → b_opposite c  (fun C fs _ M' => E C fs M') { nx := fun _ M' => Q .non M', rt := Q } (dstart ["number"] ds) M) : Fd P w K mg base 1 "opposite" ["number"] sp :=
  D.ok fun f fd F => fnD_of F sc_opposite len (b_opposite c ) (fun cdv A outer s H E G0 Wd hr tk hp => by
    have hu := hr.room.units
    have hu1 : (A.deeper (envOfC "opposite" (defScope s_opposite) s.heap.objs.size f cdv)).units + 1 < cLine := by omega
    have hg0 := hr.gd
    have hall : ∀ C ∈ allC c 18, ∃ u f, Err K C u f := fun C h => ⟨_, _, T.err C h⟩
    exact (ds_one (ds_ret (de_ife (dt_val (de_callB is1_ok (by rfl) T.b_isinstance (by decide +kernel) (da_cons (dv 0) (da_cons (de_tyN T.b_int (by decide +kernel)) da_nil)))) (de_un neg_ok (dv 0)) (de_tup (da_cons (de_un neg_ok (de_ix (dv 0) de_int (fun _ _ => rfl))) (da_cons (de_ix (dv 0) de_int (fun _ _ => rfl)) da_nil))))))) (pure)
abbrev s_times : Stmt := top 31
theorem sc_times : FnScope ["one", "other"] ["one", "other"] (defScope s_times) := ⟨rfl, rfl, rfl, by decide +kernel, rfl, by decide +kernel, by decide +kernel⟩
theorem fd_times {sp : DSp} (T : Txt P w K mg base c) (D : Dn K mg "times" "times" s_times ["one", "other"]) {sp_need_ratios : DSp} (F_need_ratios : Fd P w K mg base 3 "need_ratios" ["one", "other"] sp_need_ratios) {sp_multiplied : DSp} (F_multiplied : Fd P w K mg base 2 "multiplied" ["one", "other"] sp_multiplied) (len : ∀ ds M Q E, sp ds M Q E → ds.length = (["one", "other"] : List Str).length)
    (pure : ∀ ds M Q E, sp ds M Q E → b_times c sp_need_ratios sp_multiplied (fun C fs _ M' => E C fs M') { nx := fun _ M' => Q .non M', rt := Q } (dstart ["one", "other"] ds) M) : Fd P w K mg base 4 "times" ["one", "other"] sp :=
  D.ok fun f fd F => fnD_of F sc_times len (b_times c sp_need_ratios sp_multiplied) (fun cdv A outer s H E G0 Wd hr tk hp => by
    have hu := hr.room.units
    have hu1 : (A.deeper (envOfC "times" (defScope s_times) s.heap.objs.size f cdv)).units + 1 < cLine := by omega
    have hg0 := hr.gd
    have hall : ∀ C ∈ allC c 18, ∃ u f, Err K C u f := fun C h => ⟨_, _, T.err C h⟩
    exact (ds_cons (ds_expr (de_callF F_need_ratios (hr.mono (by decide)) (by rfl) tk (da_cons (dv 0) (da_cons (dv 1) da_nil))))
    (ds_one (ds_ret (de_callF F_multiplied (hr.mono (by decide)) (by rfl) tk (da_cons (dv 0) (da_cons (dv 1) da_nil))))))) (pure)
abbrev s_multiplied : Stmt := top 32
theorem sc_multiplied : FnScope ["one", "other", "top", "bottom", "high", "low"] ["one", "other"] (defScope s_multiplied) := ⟨rfl, rfl, rfl, by decide +kernel, rfl, by decide +kernel, by decide +kernel⟩
theorem fd_multiplied {sp : DSp} (T : Txt P w K mg base c) (D : Dn K mg "multiplied" "multiplied" s_multiplied ["one", "other"]) {sp_pair : DSp} (F_pair : Fd P w K mg base 1 "pair" ["number"] sp_pair) {sp_in_lowest : DSp} (F_in_lowest : Fd P w K mg base 1 "in_lowest" ["top", "bottom"] sp_in_lowest) (len : ∀ ds M Q E, sp ds M Q E → ds.length = (["one", "other"] : List Str).length)
    (pure : ∀ ds M Q E, sp ds M Q E → b_multiplied c sp_pair sp_in_lowest (fun C fs _ M' => E C fs M') { nx := fun _ M' => Q .non M', rt := Q } (dstart ["one", "other", "top", "bottom", "high", "low"] ds) M) : Fd P w K mg base 2 "multiplied" ["one", "other"] sp :=
  D.ok fun f fd F => fnD_of F sc_multiplied len (b_multiplied c sp_pair sp_in_lowest) (fun cdv A outer s H E G0 Wd hr tk hp => by
    have hu := hr.room.units
    have hu1 : (A.deeper (envOfC "multiplied" (defScope s_multiplied) s.heap.objs.size f cdv)).units + 1 < cLine := by omega
    have hg0 := hr.gd
    have hall : ∀ C ∈ allC c 18, ∃ u f, Err K C u f := fun C h => ⟨_, _, T.err C h⟩
    exact (ds_cons (ds_if (PW.pt (dw_and (dt_val (de_callB is1_ok (by rfl) T.b_isinstance (by decide +kernel) (da_cons (dv 0) (da_cons (de_tyN T.b_int (by decide +kernel)) da_nil)))) (dw_and1 (dt_val (de_callB is1_ok (by rfl) T.b_isinstance (by decide +kernel) (da_cons (dv 1) (da_cons (de_tyN T.b_int (by decide +kernel)) da_nil))))))) (ds_one (ds_ret (de_bin mul_ok (dv 0) (dv 1)))) ds_nil)
    (ds_cons (ds_asg (de_tup (da_cons (de_callF F_pair (hr.mono (by decide)) (by rfl) tk (da_cons (dv 0) da_nil)) (da_cons (de_callF F_pair (hr.mono (by decide)) (by rfl) tk (da_cons (dv 1) da_nil)) da_nil))) (dg_tup rfl rfl (dgs_cons (dg_tup rfl rfl (dgs_cons (dg_name (i := 2) sc_multiplied.nd rfl (by first | exact .inl rfl | exact .inr rfl)) (dgs_cons (dg_name (i := 3) sc_multiplied.nd rfl (by first | exact .inl rfl | exact .inr rfl)) dgs_nil))) (dgs_cons (dg_tup rfl rfl (dgs_cons (dg_name (i := 4) sc_multiplied.nd rfl (by first | exact .inl rfl | exact .inr rfl)) (dgs_cons (dg_name (i := 5) sc_multiplied.nd rfl (by first | exact .inl rfl | exact .inr rfl)) dgs_nil))) dgs_nil))))
    (ds_one (ds_ret (de_callF F_in_lowest (hr.mono (by decide)) (by rfl) tk (da_cons (de_bin mul_ok (dv 2) (dv 4)) (da_cons (de_bin mul_ok (dv 3) (dv 5)) da_nil)))))))) (pure)
abbrev s_over : Stmt := top 33
theorem sc_over : FnScope ["one", "other"] ["one", "other"] (defScope s_over) := ⟨rfl, rfl, rfl, by decide +kernel, rfl, by decide +kernel, by decide +kernel⟩
theorem fd_over {sp : DSp} (T : Txt P w K mg base c) (D : Dn K mg "over" "over" s_over ["one", "other"]) {sp_need_ratios : DSp} (F_need_ratios : Fd P w K mg base 3 "need_ratios" ["one", "other"] sp_need_ratios) {sp_divided : DSp} (F_divided : Fd P w K mg base 2 "divided" ["one", "other"] sp_divided) (len : ∀ ds M Q E, sp ds M Q E → ds.length = (["one", "other"] : List Str).length)
    (pure : ∀ ds M Q E, sp ds M Q E → b_over c sp_need_ratios sp_divided (fun C fs _ M' => E C fs M') { nx := fun _ M' => Q .non M', rt := Q } (dstart ["one", "other"] ds) M) : Fd P w K mg base 4 "over" ["one", "other"] sp :=
  D.ok fun f fd F => fnD_of F sc_over len (b_over c sp_need_ratios sp_divided) (fun cdv A outer s H E G0 Wd hr tk hp => by
    have hu := hr.room.units
    have hu1 : (A.deeper (envOfC "over" (defScope s_over) s.heap.objs.size f cdv)).units + 1 < cLine := by omega
    have hg0 := hr.gd
    have hall : ∀ C ∈ allC c 18, ∃ u f, Err K C u f := fun C h => ⟨_, _, T.err C h⟩
    exact (ds_cons (ds_expr (de_callF F_need_ratios (hr.mono (by decide)) (by rfl) tk (da_cons (dv 0) (da_cons (dv 1) da_nil))))
    (ds_cons (ds_if (dt_cmp (eq_ok hu) (dv 1) de_int rfl) (ds_one (ds_raiseI (T.i_BadNumber) rfl tk (hr.mono (by decide)) (da_cons de_str (da_cons (dv 1) da_nil)))) ds_nil)
    (ds_one (ds_ret (de_callF F_divided (hr.mono (by decide)) (by rfl) tk (da_cons (dv 0) (da_cons (dv 1) da_nil)))))))) (pure)
abbrev s_divided : Stmt := top 34
theorem sc_divided : FnScope ["one", "other", "top", "bottom", "high", "low"] ["one", "other"] (defScope s_divided) := ⟨rfl, rfl, rfl, by decide +kernel, rfl, by decide +kernel, by decide +kernel⟩
theorem fd_divided {sp : DSp} (T : Txt P w K mg base c) (D : Dn K mg "divided" "divided" s_divided ["one", "other"]) {sp_pair : DSp} (F_pair : Fd P w K mg base 1 "pair" ["number"] sp_pair) {sp_in_lowest : DSp} (F_in_lowest : Fd P w K mg base 1 "in_lowest" ["top", "bottom"] sp_in_lowest) (len : ∀ ds M Q E, sp ds M Q E → ds.length = (["one", "other"] : List Str).length)
    (pure : ∀ ds M Q E, sp ds M Q E → b_divided c sp_pair sp_in_lowest (fun C fs _ M' => E C fs M') { nx := fun _ M' => Q .non M', rt := Q } (dstart ["one", "other", "top", "bottom", "high", "low"] ds) M) : Fd P w K mg base 2 "divided" ["one", "other"] sp :=
  D.ok fun f fd F => fnD_of F sc_divided len (b_divided c sp_pair sp_in_lowest) (fun cdv A outer s H E G0 Wd hr tk hp => by
    have hu := hr.room.units
    have hu1 : (A.deeper (envOfC "divided" (defScope s_divided) s.heap.objs.size f cdv)).units + 1 < cLine := by omega
    have hg0 := hr.gd
    have hall : ∀ C ∈ allC c 18, ∃ u f, Err K C u f := fun C h => ⟨_, _, T.err C h⟩
    exact (ds_cons (ds_asg (de_tup (da_cons (de_callF F_pair (hr.mono (by decide)) (by rfl) tk (da_cons (dv 0) da_nil)) (da_cons (de_callF F_pair (hr.mono (by decide)) (by rfl) tk (da_cons (dv 1) da_nil)) da_nil))) (dg_tup rfl rfl (dgs_cons (dg_tup rfl rfl (dgs_cons (dg_name (i := 2) sc_divided.nd rfl (by first | exact .inl rfl | exact .inr rfl)) (dgs_cons (dg_name (i := 3) sc_divided.nd rfl (by first | exact .inl rfl | exact .inr rfl)) dgs_nil))) (dgs_cons (dg_tup rfl rfl (dgs_cons (dg_name (i := 4) sc_divided.nd rfl (by first | exact .inl rfl | exact .inr rfl)) (dgs_cons (dg_name (i := 5) sc_divided.nd rfl (by first | exact .inl rfl | exact .inr rfl)) dgs_nil))) dgs_nil))))
    (ds_one (ds_ret (de_callF F_in_lowest (hr.mono (by decide)) (by rfl) tk (da_cons (de_bin mul_ok (dv 2) (dv 5)) (da_cons (de_bin mul_ok (dv 3) (dv 4)) da_nil))))))) (pure)
abbrev s_sign : Stmt := top 35
theorem sc_sign : FnScope ["one"] ["one"] (defScope s_sign) := ⟨rfl, rfl, rfl, by decide +kernel, rfl, by decide +kernel, by decide +kernel⟩
theorem fd_sign {sp : DSp} (T : Txt P w K mg base c) (D : Dn K mg "sign" "sign" s_sign ["one"]) {sp_is_ratio : DSp} (F_is_ratio : Fd P w K mg base 2 "is_ratio" ["value"] sp_is_ratio) {sp_sign_of : DSp} (F_sign_of : Fd P w K mg base 1 "sign_of" ["number"] sp_sign_of) (len : ∀ ds M Q E, sp ds M Q E → ds.length = (["one"] : List Str).length)
    (pure : ∀ ds M Q E, sp ds M Q E → b_sign c sp_is_ratio sp_sign_of (fun C fs _ M' => E C fs M') { nx := fun _ M' => Q .non M', rt := Q } (dstart ["one"] ds) M) : Fd P w K mg base 3 "sign" ["one"] sp :=
  D.ok fun f fd F => fnD_of F sc_sign len (b_sign c sp_is_ratio sp_sign_of) (fun cdv A outer s H E G0 Wd hr tk hp => by
    have hu := hr.room.units
    have hu1 : (A.deeper (envOfC "sign" (defScope s_sign) s.heap.objs.size f cdv)).units + 1 < cLine := by omega
    have hg0 := hr.gd
    have hall : ∀ C ∈ allC c 18, ∃ u f, Err K C u f := fun C h => ⟨_, _, T.err C h⟩
    exact (ds_cons (ds_if (dt_not (dt_val (de_callF F_is_ratio (hr.mono (by decide)) (by rfl) tk (da_cons (dv 0) da_nil)))) (ds_one (ds_raiseI (T.i_BadNumber) rfl tk (hr.mono (by decide)) (da_cons de_str (da_cons (dv 0) da_nil)))) ds_nil)
    (ds_one (ds_ret (de_callF F_sign_of (hr.mono (by decide)) (by rfl) tk (da_cons (dv 0) da_nil)))))) (pure)
abbrev s_sign_of : Stmt := top 36
theorem sc_sign_of : FnScope ["number", "top"] ["number"] (defScope s_sign_of) := ⟨rfl, rfl, rfl, by decide +kernel, rfl, by decide +kernel, by decide +kernel⟩
theorem fd_sign_of {sp : DSp} (T : Txt P w K mg base c) (D : Dn K mg "sign_of" "sign_of" s_sign_of ["number"])  (len : ∀ ds M Q E, sp ds M Q E → ds.length = (["number"] : List Str).length)
    (pure : ∀ ds M Q E, sp ds M Q E → b_sign_of c  (fun C fs _ M' => E C fs M') { nx := fun _ M' => Q .non M', rt := Q } (dstart ["number", "top"] ds) M) : Fd P w K mg base 1 "sign_of" ["number"] sp :=
  D.ok fun f fd F => fnD_of F sc_sign_of len (b_sign_of c ) (fun cdv A outer s H E G0 Wd hr tk hp => by
    have hu := hr.room.units
    have hu1 : (A.deeper (envOfC "sign_of" (defScope s_sign_of) s.heap.objs.size f cdv)).units + 1 < cLine := by omega
    have hg0 := hr.gd
    have hall : ∀ C ∈ allC c 18, ∃ u f, Err K C u f := fun C h => ⟨_, _, T.err C h⟩
    exact (ds_cons (ds_set (i := 1) sc_sign_of.nd rfl (by first | exact .inl rfl | exact .inr rfl) (de_ife (dt_val (de_callB is1_ok (by rfl) T.b_isinstance (by decide +kernel) (da_cons (dv 0) (da_cons (de_tyN T.b_int (by decide +kernel)) da_nil)))) (dv 0) (de_ix (dv 0) de_int (fun _ _ => rfl))))
    (ds_one (ds_ret (de_ife (dt_cmp gt_ok (dv 1) de_int rfl) de_int (de_ife (dt_cmp lt_ok (dv 1) de_int rfl) (de_un neg_ok de_int) de_int)))))) (pure)
abbrev s_below : Stmt := top 37
theorem sc_below : FnScope ["one", "other"] ["one", "other"] (defScope s_below) := ⟨rfl, rfl, rfl, by decide +kernel, rfl, by decide +kernel, by decide +kernel⟩
theorem fd_below {sp : DSp} (T : Txt P w K mg base c) (D : Dn K mg "below" "below" s_below ["one", "other"]) {sp_need_ratios : DSp} (F_need_ratios : Fd P w K mg base 3 "need_ratios" ["one", "other"] sp_need_ratios) {sp_is_below : DSp} (F_is_below : Fd P w K mg base 2 "is_below" ["one", "other"] sp_is_below) (len : ∀ ds M Q E, sp ds M Q E → ds.length = (["one", "other"] : List Str).length)
    (pure : ∀ ds M Q E, sp ds M Q E → b_below c sp_need_ratios sp_is_below (fun C fs _ M' => E C fs M') { nx := fun _ M' => Q .non M', rt := Q } (dstart ["one", "other"] ds) M) : Fd P w K mg base 4 "below" ["one", "other"] sp :=
  D.ok fun f fd F => fnD_of F sc_below len (b_below c sp_need_ratios sp_is_below) (fun cdv A outer s H E G0 Wd hr tk hp => by
    have hu := hr.room.units
    have hu1 : (A.deeper (envOfC "below" (defScope s_below) s.heap.objs.size f cdv)).units + 1 < cLine := by omega
    have hg0 := hr.gd
    have hall : ∀ C ∈ allC c 18, ∃ u f, Err K C u f := fun C h => ⟨_, _, T.err C h⟩
    exact (ds_cons (ds_expr (de_callF F_need_ratios (hr.mono (by decide)) (by rfl) tk (da_cons (dv 0) (da_cons (dv 1) da_nil))))
    (ds_one (ds_ret (de_callF F_is_below (hr.mono (by decide)) (by rfl) tk (da_cons (dv 0) (da_cons (dv 1) da_nil))))))) (pure)
abbrev s_is_below : Stmt := top 38
theorem sc_is_below : FnScope ["one", "other", "top", "bottom", "high", "low"] ["one", "other"] (defScope s_is_below) := ⟨rfl, rfl, rfl, by decide +kernel, rfl, by decide +kernel, by decide +kernel⟩
theorem fd_is_below {sp : DSp} (T : Txt P w K mg base c) (D : Dn K mg "is_below" "is_below" s_is_below ["one", "other"]) {sp_pair : DSp} (F_pair : Fd P w K mg base 1 "pair" ["number"] sp_pair) (len : ∀ ds M Q E, sp ds M Q E → ds.length = (["one", "other"] : List Str).length)
    (pure : ∀ ds M Q E, sp ds M Q E → b_is_below c sp_pair (fun C fs _ M' => E C fs M') { nx := fun _ M' => Q .non M', rt := Q } (dstart ["one", "other", "top", "bottom", "high", "low"] ds) M) : Fd P w K mg base 2 "is_below" ["one", "other"] sp :=
  D.ok fun f fd F => fnD_of F sc_is_below len (b_is_below c sp_pair) (fun cdv A outer s H E G0 Wd hr tk hp => by
    have hu := hr.room.units
    have hu1 : (A.deeper (envOfC "is_below" (defScope s_is_below) s.heap.objs.size f cdv)).units + 1 < cLine := by omega
    have hg0 := hr.gd
    have hall : ∀ C ∈ allC c 18, ∃ u f, Err K C u f := fun C h => ⟨_, _, T.err C h⟩
    exact (ds_cons (ds_asg (de_tup (da_cons (de_callF F_pair (hr.mono (by decide)) (by rfl) tk (da_cons (dv 0) da_nil)) (da_cons (de_callF F_pair (hr.mono (by decide)) (by rfl) tk (da_cons (dv 1) da_nil)) da_nil))) (dg_tup rfl rfl (dgs_cons (dg_tup rfl rfl (dgs_cons (dg_name (i := 2) sc_is_below.nd rfl (by first | exact .inl rfl | exact .inr rfl)) (dgs_cons (dg_name (i := 3) sc_is_below.nd rfl (by first | exact .inl rfl | exact .inr rfl)) dgs_nil))) (dgs_cons (dg_tup rfl rfl (dgs_cons (dg_name (i := 4) sc_is_below.nd rfl (by first | exact .inl rfl | exact .inr rfl)) (dgs_cons (dg_name (i := 5) sc_is_below.nd rfl (by first | exact .inl rfl | exact .inr rfl)) dgs_nil))) dgs_nil))))
    (ds_one (ds_ret (de_cmp lt_ok (de_bin mul_ok (dv 2) (dv 5)) (de_bin mul_ok (dv 4) (dv 3)) rfl))))) (pure)
abbrev s_dot : Stmt := top 39
theorem sc_dot : FnScope ["row", "other", "one"] ["row", "other"] (defScope s_dot) := ⟨rfl, rfl, rfl, by decide +kernel, rfl, by decide +kernel, by decide +kernel⟩
theorem fd_dot {sp : DSp} (T : Txt P w K mg base c) (D : Dn K mg "dot" "dot" s_dot ["row", "other"]) {sp_is_ratio : DSp} (F_is_ratio : Fd P w K mg base 2 "is_ratio" ["value"] sp_is_ratio) {sp_summed : DSp} (F_summed : Fd P w K mg base 2 "summed" ["row", "other"] sp_summed) (len : ∀ ds M Q E, sp ds M Q E → ds.length = (["row", "other"] : List Str).length)
    (pure : ∀ ds M Q E, sp ds M Q E → b_dot c sp_is_ratio sp_summed (fun C fs _ M' => E C fs M') { nx := fun _ M' => Q .non M', rt := Q } (dstart ["row", "other", "one"] ds) M) : Fd P w K mg base 3 "dot" ["row", "other"] sp :=
  D.ok fun f fd F => fnD_of F sc_dot len (b_dot c sp_is_ratio sp_summed) (fun cdv A outer s H E G0 Wd hr tk hp => by
    have hu := hr.room.units
    have hu1 : (A.deeper (envOfC "dot" (defScope s_dot) s.heap.objs.size f cdv)).units + 1 < cLine := by omega
    have hg0 := hr.gd
    have hall : ∀ C ∈ allC c 18, ∃ u f, Err K C u f := fun C h => ⟨_, _, T.err C h⟩
    exact (ds_cons (ds_if (PW.pt (dw_or (dt_not (dt_val (de_callB is2_ok (by rfl) T.b_isinstance (by decide +kernel) (da_cons (dv 0) (da_cons (de_tup (da_cons (de_tyN T.b_list (by decide +kernel)) (da_cons (de_tyN T.b_tuple (by decide +kernel)) da_nil))) da_nil))))) (dw_or1 (dt_not (dt_val (de_callB (all_ok rfl) (by rfl) T.b_all (by decide +kernel) (da_cons (de_lc (own := [("one", 2)]) rfl sc_dot.nd (di_seq rfl (dv 0)) (by exact blkOk_by (N := ["row", "other", "one"]) (sc := defScope s_dot) (by decide +kernel)) (fun _ _ _ _ _ => (dgw_name (i := 2) sc_dot.nd rfl (by simp) (by first | exact .inl rfl | exact .inr rfl))) (fun _ _ _ _ _ => dts_nil) (fun _ _ _ _ _ => (de_callF F_is_ratio (hr.mono (by decide)) (by rfl) takesF (da_cons (dv 2) da_nil)))) da_nil))))))) (ds_one (ds_raiseI (T.i_BadRow) rfl tk (hr.mono (by decide)) (da_cons de_str (da_cons (dv 0) da_nil)))) ds_nil)
    (ds_cons (ds_if (PW.pt (dw_or (dt_not (dt_val (de_callB is2_ok (by rfl) T.b_isinstance (by decide +kernel) (da_cons (dv 1) (da_cons (de_tup (da_cons (de_tyN T.b_list (by decide +kernel)) (da_cons (de_tyN T.b_tuple (by decide +kernel)) da_nil))) da_nil))))) (dw_or1 (dt_not (dt_val (de_callB (all_ok rfl) (by rfl) T.b_all (by decide +kernel) (da_cons (de_lc (own := [("one", 2)]) rfl sc_dot.nd (di_seq rfl (dv 1)) (by exact blkOk_by (N := ["row", "other", "one"]) (sc := defScope s_dot) (by decide +kernel)) (fun _ _ _ _ _ => (dgw_name (i := 2) sc_dot.nd rfl (by simp) (by first | exact .inl rfl | exact .inr rfl))) (fun _ _ _ _ _ => dts_nil) (fun _ _ _ _ _ => (de_callF F_is_ratio (hr.mono (by decide)) (by rfl) takesF (da_cons (dv 2) da_nil)))) da_nil))))))) (ds_one (ds_raiseI (T.i_BadRow) rfl tk (hr.mono (by decide)) (da_cons de_str (da_cons (dv 1) da_nil)))) ds_nil)
    (ds_cons (ds_if (dt_cmp (ne_ok hu) (de_callB len_ok (by rfl) T.b_len (by decide +kernel) (da_cons (dv 0) da_nil)) (de_callB len_ok (by rfl) T.b_len (by decide +kernel) (da_cons (dv 1) da_nil)) rfl) (ds_one (ds_raiseI (T.i_Unlike) rfl tk (hr.mono (by decide)) (da_cons de_str da_nil))) ds_nil)
    (ds_one (ds_ret (de_callF F_summed (hr.mono (by decide)) (by rfl) tk (da_cons (dv 0) (da_cons (dv 1) da_nil))))))))) (pure)
abbrev s_summed : Stmt := top 40
theorem sc_summed : FnScope ["row", "other", "top", "bottom", "one", "two", "high", "low", "up", "down"] ["row", "other"] (defScope s_summed) := ⟨rfl, rfl, rfl, by decide +kernel, rfl, by decide +kernel, by decide +kernel⟩
theorem fd_summed {sp : DSp} (T : Txt P w K mg base c) (D : Dn K mg "summed" "summed" s_summed ["row", "other"]) {sp_pair : DSp} (F_pair : Fd P w K mg base 1 "pair" ["number"] sp_pair) {sp_in_lowest : DSp} (F_in_lowest : Fd P w K mg base 1 "in_lowest" ["top", "bottom"] sp_in_lowest) (len : ∀ ds M Q E, sp ds M Q E → ds.length = (["row", "other"] : List Str).length)
    (pure : ∀ ds M Q E, sp ds M Q E → b_summed c sp_pair sp_in_lowest (fun C fs _ M' => E C fs M') { nx := fun _ M' => Q .non M', rt := Q } (dstart ["row", "other", "top", "bottom", "one", "two", "high", "low", "up", "down"] ds) M) : Fd P w K mg base 2 "summed" ["row", "other"] sp :=
  D.ok fun f fd F => fnD_of F sc_summed len (b_summed c sp_pair sp_in_lowest) (fun cdv A outer s H E G0 Wd hr tk hp => by
    have hu := hr.room.units
    have hu1 : (A.deeper (envOfC "summed" (defScope s_summed) s.heap.objs.size f cdv)).units + 1 < cLine := by omega
    have hg0 := hr.gd
    have hall : ∀ C ∈ allC c 18, ∃ u f, Err K C u f := fun C h => ⟨_, _, T.err C h⟩
    exact (ds_cons (ds_asg (de_tup (da_cons de_int (da_cons de_int da_nil))) (dg_tup rfl rfl (dgs_cons (dg_name (i := 2) sc_summed.nd rfl (by first | exact .inl rfl | exact .inr rfl)) (dgs_cons (dg_name (i := 3) sc_summed.nd rfl (by first | exact .inl rfl | exact .inr rfl)) dgs_nil))))
    (ds_cons (ds_for hp rfl (di_zipM (by rfl) T.b_zip (da_cons (dv 0) (da_cons (dv 1) da_nil))) (dg_tup rfl rfl (dgs_cons (dg_name (i := 4) sc_summed.nd rfl (by first | exact .inl rfl | exact .inr rfl)) (dgs_cons (dg_name (i := 5) sc_summed.nd rfl (by first | exact .inl rfl | exact .inr rfl)) dgs_nil))) (ds_cons (ds_if (PW.pt (dw_or (dt_cmp (eq_ok hu) (dv 4) de_int rfl) (dw_or1 (dt_cmp (eq_ok hu) (dv 5) de_int rfl)))) (ds_one ds_cont) ds_nil)
    (ds_cons (ds_asg (de_tup (da_cons (de_callF F_pair (hr.mono (by decide)) (by rfl) tk (da_cons (dv 4) da_nil)) (da_cons (de_callF F_pair (hr.mono (by decide)) (by rfl) tk (da_cons (dv 5) da_nil)) da_nil))) (dg_tup rfl rfl (dgs_cons (dg_tup rfl rfl (dgs_cons (dg_name (i := 6) sc_summed.nd rfl (by first | exact .inl rfl | exact .inr rfl)) (dgs_cons (dg_name (i := 7) sc_summed.nd rfl (by first | exact .inl rfl | exact .inr rfl)) dgs_nil))) (dgs_cons (dg_tup rfl rfl (dgs_cons (dg_name (i := 8) sc_summed.nd rfl (by first | exact .inl rfl | exact .inr rfl)) (dgs_cons (dg_name (i := 9) sc_summed.nd rfl (by first | exact .inl rfl | exact .inr rfl)) dgs_nil))) dgs_nil))))
    (ds_cons (ds_set (i := 7) sc_summed.nd rfl (by first | exact .inl rfl | exact .inr rfl) (de_bin mul_ok (dv 7) (dv 9)))
    (ds_one (ds_if (dt_cmp (eq_ok hu) (dv 7) (dv 3) rfl) (ds_one (ds_set (i := 2) sc_summed.nd rfl (by first | exact .inl rfl | exact .inr rfl) (de_bin addA_ok (dv 2) (de_bin mul_ok (dv 6) (dv 8))))) (ds_cons (ds_set (i := 2) sc_summed.nd rfl (by first | exact .inl rfl | exact .inr rfl) (de_bin addA_ok (de_bin mul_ok (dv 2) (dv 7)) (de_bin mul_ok (de_bin mul_ok (dv 6) (dv 8)) (dv 3))))
    (ds_one (ds_set (i := 3) sc_summed.nd rfl (by first | exact .inl rfl | exact .inr rfl) (de_bin mul_ok (dv 3) (dv 7)))))))))))
    (ds_one (ds_ret (de_callF F_in_lowest (hr.mono (by decide)) (by rfl) tk (da_cons (dv 2) (da_cons (dv 3) da_nil)))))))) (pure)
abbrev s_l_pen : Stmt := top 42
theorem sc_l_pen : FnScope ["script", "fold", "cell"] ["script"] (defScope s_l_pen) := ⟨rfl, rfl, rfl, by decide +kernel, rfl, by decide +kernel, by decide +kernel⟩
theorem fd_l_pen {sp : DSp} (T : Txt P w K mg base c) (D : Dn K mg "_law_pen" "_law_pen" s_l_pen ["script"])  (len : ∀ ds M Q E, sp ds M Q E → ds.length = (["script"] : List Str).length)
    (pure : ∀ ds M Q E, sp ds M Q E → b_l_pen c  (fun C fs _ M' => E C fs M') { nx := fun _ M' => Q .non M', rt := Q } (dstart ["script", "fold", "cell"] ds) M) : Fd P w K mg base 1 "_law_pen" ["script"] sp :=
  D.ok fun f fd F => fnD_of F sc_l_pen len (b_l_pen c ) (fun cdv A outer s H E G0 Wd hr tk hp => by
    have hu := hr.room.units
    have hu1 : (A.deeper (envOfC "_law_pen" (defScope s_l_pen) s.heap.objs.size f cdv)).units + 1 < cLine := by omega
    have hg0 := hr.gd
    have hall : ∀ C ∈ allC c 18, ∃ u f, Err K C u f := fun C h => ⟨_, _, T.err C h⟩
    exact (ds_cons (ds_set (i := 1) sc_l_pen.nd rfl (.inl rfl) de_int)
    (ds_cons (ds_for hp rfl (di_seq rfl (dv 0)) (dg_name (i := 2) sc_l_pen.nd rfl (.inl rfl)) (ds_one (ds_set (i := 1) sc_l_pen.nd rfl (.inl rfl) (de_bin mod_ok (de_callTy int_ok (by rfl) T.b_int (by decide +kernel) (da_cons (de_bin add_ok (de_bin mul_ok (dv 1) de_int) (dv 2)) da_nil)) de_int))))
    (ds_one (ds_ret (tup_disp (dpp_str (de_callTy list_ok (by rfl) T.b_list (by decide +kernel) (da_cons (dv 0) da_nil)) (dpp_str de_int (dpp_str de_int (dpp_str de_int (dpp_str (dv 1) dpp_nil))))) rfl rfl (by simp) (by decide) (by decide +kernel) (by decide))))))) (pure)
abbrev s_l_draw : Stmt := top 43
theorem sc_l_draw : FnScope ["pen", "many", "cell", "digit", "blend"] ["pen", "many"] (defScope s_l_draw) := ⟨rfl, rfl, rfl, by decide +kernel, rfl, by decide +kernel, by decide +kernel⟩
theorem fd_l_draw {sp : DSp} (T : Txt P w K mg base c) (D : Dn K mg "_law_draw" "_law_draw" s_l_draw ["pen", "many"])  (len : ∀ ds M Q E, sp ds M Q E → ds.length = (["pen", "many"] : List Str).length)
    (pure : ∀ ds M Q E, sp ds M Q E → b_l_draw c  (fun C fs _ M' => E C fs M') { nx := fun _ M' => Q .non M', rt := Q } (dstart ["pen", "many", "cell", "digit", "blend"] ds) M) : Fd P w K mg base 1 "_law_draw" ["pen", "many"] sp :=
  D.ok fun f fd F => fnD_of F sc_l_draw len (b_l_draw c ) (fun cdv A outer s H E G0 Wd hr tk hp => by
    have hu := hr.room.units
    have hu1 : (A.deeper (envOfC "_law_draw" (defScope s_l_draw) s.heap.objs.size f cdv)).units + 1 < cLine := by omega
    have hg0 := hr.gd
    have hall : ∀ C ∈ allC c 18, ∃ u f, Err K C u f := fun C h => ⟨_, _, T.err C h⟩
    exact (ds_cons (ds_dput hu1 (dv 0) de_str (de_bin add_ok (de_dix hu1 (dv 0) de_str (fun _ _ => rfl)) de_int) rfl)
    (ds_cons (ds_if (PW.pt (dw_and (dt_cmp (eq_ok hu) (de_dix hu1 (dv 0) de_str (fun _ _ => rfl)) de_int rfl) (dw_and1 (dt_cmp lt_ok (de_dix hu1 (dv 0) de_str (fun _ _ => rfl)) (de_callB len_ok (by rfl) T.b_len (by decide +kernel) (da_cons (de_dix hu1 (dv 0) de_str (fun _ _ => rfl)) da_nil)) rfl)))) (ds_cons (ds_set (i := 2) sc_l_draw.nd rfl (.inl rfl) (de_ix (de_dix hu1 (dv 0) de_str (fun _ _ => rfl)) (de_dix hu1 (dv 0) de_str (fun _ _ => rfl)) (fun _ _ => rfl)))
    (ds_cons (ds_dput hu1 (dv 0) de_str (de_bin add_ok (de_dix hu1 (dv 0) de_str (fun _ _ => rfl)) de_int) rfl)
    (ds_one (ds_if (dt_cmp ge_ok (dv 2) (de_bin pow_ok de_int de_int) rfl) (ds_one (ds_dput hu1 (dv 0) de_str (de_bin sub_ok (dv 2) (de_bin pow_ok de_int de_int)) rfl)) (ds_one (ds_dput hu1 (dv 0) de_str (de_bin mod_ok (de_callTy int_ok (by rfl) T.b_int (by decide +kernel) (da_cons (de_bin add_ok (de_bin mul_ok (de_dix hu1 (dv 0) de_str (fun _ _ => rfl)) de_int) (dv 2)) da_nil)) de_int) rfl)))))) ds_nil)
    (ds_cons (ds_if (dt_cmp gt_ok (de_dix hu1 (dv 0) de_str (fun _ _ => rfl)) de_int rfl) (ds_cons (ds_set (i := 3) sc_l_draw.nd rfl (.inl rfl) (de_bin mod_ok (de_callTy int_ok (by rfl) T.b_int (by decide +kernel) (da_cons (de_dix hu1 (dv 0) de_str (fun _ _ => rfl)) da_nil)) (dv 1)))
    (ds_cons (ds_dput hu1 (dv 0) de_str (de_bin fdiv_ok (de_dix hu1 (dv 0) de_str (fun _ _ => rfl)) (dv 1)) rfl)
    (ds_one (ds_ret (dv 3))))) ds_nil)
    (ds_cons (ds_set (i := 4) sc_l_draw.nd rfl (.inl rfl) (de_bin mod_ok (de_callTy int_ok (by rfl) T.b_int (by decide +kernel) (da_cons (de_bin add_ok (de_bin add_ok (de_bin mul_ok (de_dix hu1 (dv 0) de_str (fun _ _ => rfl)) de_int) (de_bin mul_ok (de_dix hu1 (dv 0) de_str (fun _ _ => rfl)) de_int)) de_int) da_nil)) de_int))
    (ds_cons (ds_set (i := 4) sc_l_draw.nd rfl (.inl rfl) (de_bin mod_ok (de_callTy int_ok (by rfl) T.b_int (by decide +kernel) (da_cons (de_bin add_ok (de_bin add_ok (de_bin mul_ok (dv 4) (dv 4)) (de_bin mul_ok de_int (dv 4))) (de_dix hu1 (dv 0) de_str (fun _ _ => rfl))) da_nil)) de_int))
    (ds_cons (ds_dput hu1 (dv 0) de_str (de_bin mod_ok (de_callTy int_ok (by rfl) T.b_int (by decide +kernel) (da_cons (de_bin add_ok (de_bin mul_ok (dv 4) de_int) de_int) da_nil)) de_int) rfl)
    (ds_one (ds_ret (de_bin mod_ok (de_callTy int_ok (by rfl) T.b_int (by decide +kernel) (da_cons (de_bin fdiv_ok (dv 4) de_int) da_nil)) (dv 1))))))))))) (pure)
abbrev s_l_pick : Stmt := top 44
theorem sc_l_pick : FnScope ["pen", "some"] ["pen", "some"] (defScope s_l_pick) := ⟨rfl, rfl, rfl, by decide +kernel, rfl, by decide +kernel, by decide +kernel⟩
theorem fd_l_pick {sp : DSp} (T : Txt P w K mg base c) (D : Dn K mg "_law_pick" "_law_pick" s_l_pick ["pen", "some"]) {sp_l_draw : DSp} (F_l_draw : Fd P w K mg base 1 "_law_draw" ["pen", "many"] sp_l_draw) (len : ∀ ds M Q E, sp ds M Q E → ds.length = (["pen", "some"] : List Str).length)
    (pure : ∀ ds M Q E, sp ds M Q E → b_l_pick c sp_l_draw (fun C fs _ M' => E C fs M') { nx := fun _ M' => Q .non M', rt := Q } (dstart ["pen", "some"] ds) M) : Fd P w K mg base 2 "_law_pick" ["pen", "some"] sp :=
  D.ok fun f fd F => fnD_of F sc_l_pick len (b_l_pick c sp_l_draw) (fun cdv A outer s H E G0 Wd hr tk hp => by
    have hu := hr.room.units
    have hu1 : (A.deeper (envOfC "_law_pick" (defScope s_l_pick) s.heap.objs.size f cdv)).units + 1 < cLine := by omega
    have hg0 := hr.gd
    have hall : ∀ C ∈ allC c 18, ∃ u f, Err K C u f := fun C h => ⟨_, _, T.err C h⟩
    exact (ds_one (ds_ret (de_ix (dv 1) (de_callF F_l_draw (hr.mono (by decide)) (by rfl) tk (da_cons (dv 0) (da_cons (de_callB len_ok (by rfl) T.b_len (by decide +kernel) (da_cons (dv 1) da_nil)) da_nil))) (fun _ _ => rfl))))) (pure)
abbrev s_l_is : Stmt := top 45
theorem sc_l_is : FnScope ["told", "due", "at"] ["told", "due"] (defScope s_l_is) := ⟨rfl, rfl, rfl, by decide +kernel, rfl, by decide +kernel, by decide +kernel⟩
theorem fd_l_is {kr : Nat} {sp : DSp} (T : Txt P w K mg base c) (D : Dn K mg "_law_is" "_law_is" s_l_is ["told", "due"]) {sp_l_is : DSp} (F_l_is : Fd P w K mg base kr "_law_is" ["told", "due"] sp_l_is) (len : ∀ ds M Q E, sp ds M Q E → ds.length = (["told", "due"] : List Str).length)
    (pure : ∀ ds M Q E, sp ds M Q E → b_l_is c sp_l_is (fun C fs _ M' => E C fs M') { nx := fun _ M' => Q .non M', rt := Q } (dstart ["told", "due", "at"] ds) M) : Fd P w K mg base (kr + 1) "_law_is" ["told", "due"] sp :=
  D.ok fun f fd F => fnD_of F sc_l_is len (b_l_is c sp_l_is) (fun cdv A outer s H E G0 Wd hr tk hp => by
    have hu := hr.room.units
    have hu1 : (A.deeper (envOfC "_law_is" (defScope s_l_is) s.heap.objs.size f cdv)).units + 1 < cLine := by omega
    have hg0 := hr.gd
    have hall : ∀ C ∈ allC c 18, ∃ u f, Err K C u f := fun C h => ⟨_, _, T.err C h⟩
    exact (ds_cons (ds_if (dt_val (de_callB is1_ok (by rfl) T.b_isinstance (by decide +kernel) (da_cons (dv 1) (da_cons (de_tyN T.b_tuple (by decide +kernel)) da_nil)))) (ds_cons (ds_if (PW.pt (dw_or (dt_not (dt_val (de_callB is1_ok (by rfl) T.b_isinstance (by decide +kernel) (da_cons (dv 0) (da_cons (de_tyN T.b_tuple (by decide +kernel)) da_nil))))) (dw_or1 (dt_cmp (ne_ok hu) (de_callB len_ok (by rfl) T.b_len (by decide +kernel) (da_cons (dv 0) da_nil)) (de_callB len_ok (by rfl) T.b_len (by decide +kernel) (da_cons (dv 1) da_nil)) rfl)))) (ds_one (ds_ret de_bl)) ds_nil)
    (ds_one (ds_ret (de_cmp (eqE_ok hu) (de_lc (own := [("at", 2)]) rfl sc_l_is.nd (di_rng1 (by rfl) T.b_range (da_cons (de_callB len_ok (by rfl) T.b_len (by decide +kernel) (da_cons (dv 1) da_nil)) da_nil)) (by exact blkOk_by (N := ["told", "due", "at"]) (sc := defScope s_l_is) (by decide +kernel)) (fun _ _ _ _ _ => (dgw_name (i := 2) sc_l_is.nd rfl (by simp) (by first | exact .inl rfl | exact .inr rfl))) (fun _ _ _ _ _ => (dts_one (dt_not (dt_val (de_callF F_l_is (hr.mono (by omega)) (by rfl) takesF (da_cons (de_ix (dv 0) (dv 2) (fun _ _ => rfl)) (da_cons (de_ix (dv 1) (dv 2) (fun _ _ => rfl)) da_nil))))))) (fun _ _ _ _ _ => (dv 2))) (de_lst da_nil) rfl)))) ds_nil)
    (ds_cons (ds_if (dt_cmp isC_ok (dv 1) de_non rfl) (ds_one (ds_ret (de_cmp isC_ok (dv 0) de_non rfl))) ds_nil)
    (ds_cons (ds_if (dt_cmp isC_ok (dv 1) de_bl rfl) (ds_one (ds_ret (de_cmp isC_ok (dv 0) de_bl rfl))) ds_nil)
    (ds_cons (ds_if (dt_cmp isC_ok (dv 1) de_bl rfl) (ds_one (ds_ret (de_cmp isC_ok (dv 0) de_bl rfl))) ds_nil)
    (ds_cons (ds_if (dt_val (de_callB is1_ok (by rfl) T.b_isinstance (by decide +kernel) (da_cons (dv 1) (da_cons (de_tyN T.b_str (by decide +kernel)) da_nil)))) (ds_one (ds_ret (de_and (de_callB is1_ok (by rfl) T.b_isinstance (by decide +kernel) (da_cons (dv 0) (da_cons (de_tyN T.b_str (by decide +kernel)) da_nil))) (de_one (de_cmp (eq_ok hu) (dv 0) (dv 1) rfl))))) ds_nil)
    (ds_one (ds_ret (de_and (de_callB is1_ok (by rfl) T.b_isinstance (by decide +kernel) (da_cons (dv 0) (da_cons (de_tyN T.b_int (by decide +kernel)) da_nil))) (de_and (de_not (de_callB is1_ok (by rfl) T.b_isinstance (by decide +kernel) (da_cons (dv 0) (da_cons (de_tyN T.b_bool (by decide +kernel)) da_nil)))) (de_one (de_cmp (eq_ok hu) (dv 0) (dv 1) rfl)))))))))))) (pure)
abbrev s_l_says : Stmt := top 46
theorem sc_l_says : FnScope ["told", "due"] ["told", "due"] (defScope s_l_says) := ⟨rfl, rfl, rfl, by decide +kernel, rfl, by decide +kernel, by decide +kernel⟩
theorem fd_l_says {sp : DSp} (T : Txt P w K mg base c) (D : Dn K mg "_law_says" "_law_says" s_l_says ["told", "due"])  (len : ∀ ds M Q E, sp ds M Q E → ds.length = (["told", "due"] : List Str).length)
    (pure : ∀ ds M Q E, sp ds M Q E → b_l_says c  (fun C fs _ M' => E C fs M') { nx := fun _ M' => Q .non M', rt := Q } (dstart ["told", "due"] ds) M) : Fd P w K mg base 1 "_law_says" ["told", "due"] sp :=
  D.ok fun f fd F => fnD_of F sc_l_says len (b_l_says c ) (fun cdv A outer s H E G0 Wd hr tk hp => by
    have hu := hr.room.units
    have hu1 : (A.deeper (envOfC "_law_says" (defScope s_l_says) s.heap.objs.size f cdv)).units + 1 < cLine := by omega
    have hg0 := hr.gd
    have hall : ∀ C ∈ allC c 18, ∃ u f, Err K C u f := fun C h => ⟨_, _, T.err C h⟩
    exact (ds_one (ds_ret (de_ife (dt_val (dv 1)) (de_cmp isC_ok (dv 0) de_bl rfl) (de_cmp isC_ok (dv 0) de_bl rfl))))) (pure)
abbrev s_l_divisor : Stmt := top 47
theorem sc_l_divisor : FnScope ["one", "other"] ["one", "other"] (defScope s_l_divisor) := ⟨rfl, rfl, rfl, by decide +kernel, rfl, by decide +kernel, by decide +kernel⟩
theorem fd_l_divisor {sp : DSp} (T : Txt P w K mg base c) (D : Dn K mg "_law_divisor" "_law_divisor" s_l_divisor ["one", "other"])  (len : ∀ ds M Q E, sp ds M Q E → ds.length = (["one", "other"] : List Str).length)
    (pure : ∀ ds M Q E, sp ds M Q E → b_l_divisor c  (fun C fs _ M' => E C fs M') { nx := fun _ M' => Q .non M', rt := Q } (dstart ["one", "other"] ds) M) : Fd P w K mg base 1 "_law_divisor" ["one", "other"] sp :=
  D.ok fun f fd F => fnD_of F sc_l_divisor len (b_l_divisor c ) (fun cdv A outer s H E G0 Wd hr tk hp => by
    have hu := hr.room.units
    have hu1 : (A.deeper (envOfC "_law_divisor" (defScope s_l_divisor) s.heap.objs.size f cdv)).units + 1 < cLine := by omega
    have hg0 := hr.gd
    have hall : ∀ C ∈ allC c 18, ∃ u f, Err K C u f := fun C h => ⟨_, _, T.err C h⟩
    exact (ds_cons (ds_par (i := 0) (j := 1) rfl sc_l_divisor.nd rfl rfl (by decide) rfl rfl (da_cons (de_callB abs_ok (by rfl) T.b_abs (by decide +kernel) (da_cons (dv 0) da_nil)) (da_cons (de_callB abs_ok (by rfl) T.b_abs (by decide +kernel) (da_cons (dv 1) da_nil)) da_nil)) rfl)
    (ds_cons (ds_while hp (dt_cmp (ne_ok hu) (dv 1) de_int rfl) (ds_one (ds_par (i := 0) (j := 1) rfl sc_l_divisor.nd rfl rfl (by decide) rfl rfl (da_cons (dv 1) (da_cons (de_bin mod_ok (de_callTy int_ok (by rfl) T.b_int (by decide +kernel) (da_cons (dv 0) da_nil)) (dv 1)) da_nil)) rfl)))
    (ds_one (ds_ret (dv 0)))))) (pure)
abbrev s_l_low : Stmt := top 48
theorem sc_l_low : FnScope ["top", "bottom", "by"] ["top", "bottom"] (defScope s_l_low) := ⟨rfl, rfl, rfl, by decide +kernel, rfl, by decide +kernel, by decide +kernel⟩
theorem fd_l_low {sp : DSp} (T : Txt P w K mg base c) (D : Dn K mg "_law_low" "_law_low" s_l_low ["top", "bottom"]) {sp_l_divisor : DSp} (F_l_divisor : Fd P w K mg base 1 "_law_divisor" ["one", "other"] sp_l_divisor) (len : ∀ ds M Q E, sp ds M Q E → ds.length = (["top", "bottom"] : List Str).length)
    (pure : ∀ ds M Q E, sp ds M Q E → b_l_low c sp_l_divisor (fun C fs _ M' => E C fs M') { nx := fun _ M' => Q .non M', rt := Q } (dstart ["top", "bottom", "by"] ds) M) : Fd P w K mg base 2 "_law_low" ["top", "bottom"] sp :=
  D.ok fun f fd F => fnD_of F sc_l_low len (b_l_low c sp_l_divisor) (fun cdv A outer s H E G0 Wd hr tk hp => by
    have hu := hr.room.units
    have hu1 : (A.deeper (envOfC "_law_low" (defScope s_l_low) s.heap.objs.size f cdv)).units + 1 < cLine := by omega
    have hg0 := hr.gd
    have hall : ∀ C ∈ allC c 18, ∃ u f, Err K C u f := fun C h => ⟨_, _, T.err C h⟩
    exact (ds_cons (ds_set (i := 2) sc_l_low.nd rfl (by first | exact .inl rfl | exact .inr rfl) (de_callF F_l_divisor (hr.mono (by decide)) (by rfl) tk (da_cons (dv 0) (da_cons (dv 1) da_nil))))
    (ds_cons (ds_if (dt_cmp lt_ok (dv 1) de_int rfl) (ds_one (ds_set (i := 2) sc_l_low.nd rfl (by first | exact .inl rfl | exact .inr rfl) (de_un neg_ok (dv 2)))) ds_nil)
    (ds_one (ds_ret (de_ife (dt_cmp (eq_ok hu) (dv 1) (dv 2) rfl) (de_bin fdivA_ok (dv 0) (dv 2)) (de_tup (da_cons (de_bin fdivA_ok (dv 0) (dv 2)) (da_cons (de_bin fdivA_ok (dv 1) (dv 2)) da_nil))))))))) (pure)
abbrev s_l_pair : Stmt := top 49
theorem sc_l_pair : FnScope ["number"] ["number"] (defScope s_l_pair) := ⟨rfl, rfl, rfl, by decide +kernel, rfl, by decide +kernel, by decide +kernel⟩
theorem fd_l_pair {sp : DSp} (T : Txt P w K mg base c) (D : Dn K mg "_law_pair" "_law_pair" s_l_pair ["number"])  (len : ∀ ds M Q E, sp ds M Q E → ds.length = (["number"] : List Str).length)
    (pure : ∀ ds M Q E, sp ds M Q E → b_l_pair c  (fun C fs _ M' => E C fs M') { nx := fun _ M' => Q .non M', rt := Q } (dstart ["number"] ds) M) : Fd P w K mg base 1 "_law_pair" ["number"] sp :=
  D.ok fun f fd F => fnD_of F sc_l_pair len (b_l_pair c ) (fun cdv A outer s H E G0 Wd hr tk hp => by
    have hu := hr.room.units
    have hu1 : (A.deeper (envOfC "_law_pair" (defScope s_l_pair) s.heap.objs.size f cdv)).units + 1 < cLine := by omega
    have hg0 := hr.gd
    have hall : ∀ C ∈ allC c 18, ∃ u f, Err K C u f := fun C h => ⟨_, _, T.err C h⟩
    exact (ds_one (ds_ret (de_ife (dt_val (de_callB is1_ok (by rfl) T.b_isinstance (by decide +kernel) (da_cons (dv 0) (da_cons (de_tyN T.b_int (by decide +kernel)) da_nil)))) (de_tup (da_cons (dv 0) (da_cons de_int da_nil))) (dv 0))))) (pure)
abbrev s_l_plus : Stmt := top 50
theorem sc_l_plus : FnScope ["one", "other", "first", "second"] ["one", "other"] (defScope s_l_plus) := ⟨rfl, rfl, rfl, by decide +kernel, rfl, by decide +kernel, by decide +kernel⟩
theorem fd_l_plus {sp : DSp} (T : Txt P w K mg base c) (D : Dn K mg "_law_plus" "_law_plus" s_l_plus ["one", "other"]) {sp_l_low : DSp} (F_l_low : Fd P w K mg base 2 "_law_low" ["top", "bottom"] sp_l_low) {sp_l_pair : DSp} (F_l_pair : Fd P w K mg base 1 "_law_pair" ["number"] sp_l_pair) (len : ∀ ds M Q E, sp ds M Q E → ds.length = (["one", "other"] : List Str).length)
    (pure : ∀ ds M Q E, sp ds M Q E → b_l_plus c sp_l_low sp_l_pair (fun C fs _ M' => E C fs M') { nx := fun _ M' => Q .non M', rt := Q } (dstart ["one", "other", "first", "second"] ds) M) : Fd P w K mg base 3 "_law_plus" ["one", "other"] sp :=
  D.ok fun f fd F => fnD_of F sc_l_plus len (b_l_plus c sp_l_low sp_l_pair) (fun cdv A outer s H E G0 Wd hr tk hp => by
    have hu := hr.room.units
    have hu1 : (A.deeper (envOfC "_law_plus" (defScope s_l_plus) s.heap.objs.size f cdv)).units + 1 < cLine := by omega
    have hg0 := hr.gd
    have hall : ∀ C ∈ allC c 18, ∃ u f, Err K C u f := fun C h => ⟨_, _, T.err C h⟩
    exact (ds_cons (ds_par (i := 2) (j := 3) rfl sc_l_plus.nd rfl rfl (by decide) rfl rfl (da_cons (de_callF F_l_pair (hr.mono (by decide)) (by rfl) tk (da_cons (dv 0) da_nil)) (da_cons (de_callF F_l_pair (hr.mono (by decide)) (by rfl) tk (da_cons (dv 1) da_nil)) da_nil)) rfl)
    (ds_one (ds_ret (de_callF F_l_low (hr.mono (by decide)) (by rfl) tk (da_cons (de_bin addA_ok (de_bin mul_ok (de_ix (dv 2) de_int (fun _ _ => rfl)) (de_ix (dv 3) de_int (fun _ _ => rfl))) (de_bin mul_ok (de_ix (dv 3) de_int (fun _ _ => rfl)) (de_ix (dv 2) de_int (fun _ _ => rfl)))) (da_cons (de_bin mul_ok (de_ix (dv 2) de_int (fun _ _ => rfl)) (de_ix (dv 3) de_int (fun _ _ => rfl))) da_nil))))))) (pure)
abbrev s_l_opposite : Stmt := top 51
theorem sc_l_opposite : FnScope ["number"] ["number"] (defScope s_l_opposite) := ⟨rfl, rfl, rfl, by decide +kernel, rfl, by decide +kernel, by decide +kernel⟩
theorem fd_l_opposite {sp : DSp} (T : Txt P w K mg base c) (D : Dn K mg "_law_opposite" "_law_opposite" s_l_opposite ["number"])  (len : ∀ ds M Q E, sp ds M Q E → ds.length = (["number"] : List Str).length)
    (pure : ∀ ds M Q E, sp ds M Q E → b_l_opposite c  (fun C fs _ M' => E C fs M') { nx := fun _ M' => Q .non M', rt := Q } (dstart ["number"] ds) M) : Fd P w K mg base 1 "_law_opposite" ["number"] sp :=
  D.ok fun f fd F => fnD_of F sc_l_opposite len (b_l_opposite c ) (fun cdv A outer s H E G0 Wd hr tk hp => by
    have hu := hr.room.units
    have hu1 : (A.deeper (envOfC "_law_opposite" (defScope s_l_opposite) s.heap.objs.size f cdv)).units + 1 < cLine := by omega
    have hg0 := hr.gd
    have hall : ∀ C ∈ allC c 18, ∃ u f, Err K C u f := fun C h => ⟨_, _, T.err C h⟩
    exact (ds_one (ds_ret (de_ife (dt_val (de_callB is1_ok (by rfl) T.b_isinstance (by decide +kernel) (da_cons (dv 0) (da_cons (de_tyN T.b_int (by decide +kernel)) da_nil)))) (de_un neg_ok (dv 0)) (de_tup (da_cons (de_un neg_ok (de_ix (dv 0) de_int (fun _ _ => rfl))) (da_cons (de_ix (dv 0) de_int (fun _ _ => rfl)) da_nil))))))) (pure)
abbrev s_l_minus : Stmt := top 52
theorem sc_l_minus : FnScope ["one", "other"] ["one", "other"] (defScope s_l_minus) := ⟨rfl, rfl, rfl, by decide +kernel, rfl, by decide +kernel, by decide +kernel⟩
theorem fd_l_minus {sp : DSp} (T : Txt P w K mg base c) (D : Dn K mg "_law_minus" "_law_minus" s_l_minus ["one", "other"]) {sp_l_plus : DSp} (F_l_plus : Fd P w K mg base 3 "_law_plus" ["one", "other"] sp_l_plus) {sp_l_opposite : DSp} (F_l_opposite : Fd P w K mg base 1 "_law_opposite" ["number"] sp_l_opposite) (len : ∀ ds M Q E, sp ds M Q E → ds.length = (["one", "other"] : List Str).length)
    (pure : ∀ ds M Q E, sp ds M Q E → b_l_minus c sp_l_plus sp_l_opposite (fun C fs _ M' => E C fs M') { nx := fun _ M' => Q .non M', rt := Q } (dstart ["one", "other"] ds) M) : Fd P w K mg base 4 "_law_minus" ["one", "other"] sp :=
  D.ok fun f fd F => fnD_of F sc_l_minus len (b_l_minus c sp_l_plus sp_l_opposite) (fun cdv A outer s H E G0 Wd hr tk hp => by
    have hu := hr.room.units
    have hu1 : (A.deeper (envOfC "_law_minus" (defScope s_l_minus) s.heap.objs.size f cdv)).units + 1 < cLine := by omega
    have hg0 := hr.gd
    have hall : ∀ C ∈ allC c 18, ∃ u f, Err K C u f := fun C h => ⟨_, _, T.err C h⟩
    exact (ds_one (ds_ret (de_callF F_l_plus (hr.mono (by decide)) (by rfl) tk (da_cons (dv 0) (da_cons (de_callF F_l_opposite (hr.mono (by decide)) (by rfl) tk (da_cons (dv 1) da_nil)) da_nil)))))) (pure)
abbrev s_l_times : Stmt := top 53
theorem sc_l_times : FnScope ["one", "other", "first", "second"] ["one", "other"] (defScope s_l_times) := ⟨rfl, rfl, rfl, by decide +kernel, rfl, by decide +kernel, by decide +kernel⟩
theorem fd_l_times {sp : DSp} (T : Txt P w K mg base c) (D : Dn K mg "_law_times" "_law_times" s_l_times ["one", "other"]) {sp_l_low : DSp} (F_l_low : Fd P w K mg base 2 "_law_low" ["top", "bottom"] sp_l_low) {sp_l_pair : DSp} (F_l_pair : Fd P w K mg base 1 "_law_pair" ["number"] sp_l_pair) (len : ∀ ds M Q E, sp ds M Q E → ds.length = (["one", "other"] : List Str).length)
    (pure : ∀ ds M Q E, sp ds M Q E → b_l_times c sp_l_low sp_l_pair (fun C fs _ M' => E C fs M') { nx := fun _ M' => Q .non M', rt := Q } (dstart ["one", "other", "first", "second"] ds) M) : Fd P w K mg base 3 "_law_times" ["one", "other"] sp :=
  D.ok fun f fd F => fnD_of F sc_l_times len (b_l_times c sp_l_low sp_l_pair) (fun cdv A outer s H E G0 Wd hr tk hp => by
    have hu := hr.room.units
    have hu1 : (A.deeper (envOfC "_law_times" (defScope s_l_times) s.heap.objs.size f cdv)).units + 1 < cLine := by omega
    have hg0 := hr.gd
    have hall : ∀ C ∈ allC c 18, ∃ u f, Err K C u f := fun C h => ⟨_, _, T.err C h⟩
    exact (ds_cons (ds_par (i := 2) (j := 3) rfl sc_l_times.nd rfl rfl (by decide) rfl rfl (da_cons (de_callF F_l_pair (hr.mono (by decide)) (by rfl) tk (da_cons (dv 0) da_nil)) (da_cons (de_callF F_l_pair (hr.mono (by decide)) (by rfl) tk (da_cons (dv 1) da_nil)) da_nil)) rfl)
    (ds_one (ds_ret (de_callF F_l_low (hr.mono (by decide)) (by rfl) tk (da_cons (de_bin mul_ok (de_ix (dv 2) de_int (fun _ _ => rfl)) (de_ix (dv 3) de_int (fun _ _ => rfl))) (da_cons (de_bin mul_ok (de_ix (dv 2) de_int (fun _ _ => rfl)) (de_ix (dv 3) de_int (fun _ _ => rfl))) da_nil))))))) (pure)
abbrev s_l_over : Stmt := top 54
theorem sc_l_over : FnScope ["one", "other", "first", "second"] ["one", "other"] (defScope s_l_over) := ⟨rfl, rfl, rfl, by decide +kernel, rfl, by decide +kernel, by decide +kernel⟩
theorem fd_l_over {sp : DSp} (T : Txt P w K mg base c) (D : Dn K mg "_law_over" "_law_over" s_l_over ["one", "other"]) {sp_l_low : DSp} (F_l_low : Fd P w K mg base 2 "_law_low" ["top", "bottom"] sp_l_low) {sp_l_pair : DSp} (F_l_pair : Fd P w K mg base 1 "_law_pair" ["number"] sp_l_pair) (len : ∀ ds M Q E, sp ds M Q E → ds.length = (["one", "other"] : List Str).length)
    (pure : ∀ ds M Q E, sp ds M Q E → b_l_over c sp_l_low sp_l_pair (fun C fs _ M' => E C fs M') { nx := fun _ M' => Q .non M', rt := Q } (dstart ["one", "other", "first", "second"] ds) M) : Fd P w K mg base 3 "_law_over" ["one", "other"] sp :=
  D.ok fun f fd F => fnD_of F sc_l_over len (b_l_over c sp_l_low sp_l_pair) (fun cdv A outer s H E G0 Wd hr tk hp => by
    have hu := hr.room.units
    have hu1 : (A.deeper (envOfC "_law_over" (defScope s_l_over) s.heap.objs.size f cdv)).units + 1 < cLine := by omega
    have hg0 := hr.gd
    have hall : ∀ C ∈ allC c 18, ∃ u f, Err K C u f := fun C h => ⟨_, _, T.err C h⟩
    exact (ds_cons (ds_par (i := 2) (j := 3) rfl sc_l_over.nd rfl rfl (by decide) rfl rfl (da_cons (de_callF F_l_pair (hr.mono (by decide)) (by rfl) tk (da_cons (dv 0) da_nil)) (da_cons (de_callF F_l_pair (hr.mono (by decide)) (by rfl) tk (da_cons (dv 1) da_nil)) da_nil)) rfl)
    (ds_one (ds_ret (de_callF F_l_low (hr.mono (by decide)) (by rfl) tk (da_cons (de_bin mul_ok (de_ix (dv 2) de_int (fun _ _ => rfl)) (de_ix (dv 3) de_int (fun _ _ => rfl))) (da_cons (de_bin mul_ok (de_ix (dv 2) de_int (fun _ _ => rfl)) (de_ix (dv 3) de_int (fun _ _ => rfl))) da_nil))))))) (pure)
abbrev s_l_sign : Stmt := top 55
theorem sc_l_sign : FnScope ["number", "top"] ["number"] (defScope s_l_sign) := ⟨rfl, rfl, rfl, by decide +kernel, rfl, by decide +kernel, by decide +kernel⟩
theorem fd_l_sign {sp : DSp} (T : Txt P w K mg base c) (D : Dn K mg "_law_sign" "_law_sign" s_l_sign ["number"]) {sp_l_pair : DSp} (F_l_pair : Fd P w K mg base 1 "_law_pair" ["number"] sp_l_pair) (len : ∀ ds M Q E, sp ds M Q E → ds.length = (["number"] : List Str).length)
    (pure : ∀ ds M Q E, sp ds M Q E → b_l_sign c sp_l_pair (fun C fs _ M' => E C fs M') { nx := fun _ M' => Q .non M', rt := Q } (dstart ["number", "top"] ds) M) : Fd P w K mg base 2 "_law_sign" ["number"] sp :=
  D.ok fun f fd F => fnD_of F sc_l_sign len (b_l_sign c sp_l_pair) (fun cdv A outer s H E G0 Wd hr tk hp => by
    have hu := hr.room.units
    have hu1 : (A.deeper (envOfC "_law_sign" (defScope s_l_sign) s.heap.objs.size f cdv)).units + 1 < cLine := by omega
    have hg0 := hr.gd
    have hall : ∀ C ∈ allC c 18, ∃ u f, Err K C u f := fun C h => ⟨_, _, T.err C h⟩
    exact (ds_cons (ds_set (i := 1) sc_l_sign.nd rfl (by first | exact .inl rfl | exact .inr rfl) (de_ix (de_callF F_l_pair (hr.mono (by decide)) (by rfl) tk (da_cons (dv 0) da_nil)) de_int (fun _ _ => rfl)))
    (ds_one (ds_ret (de_bin sub_ok (de_callTy int_ok (by rfl) T.b_int (by decide +kernel) (da_cons (de_cmp gt_ok (dv 1) de_int rfl) da_nil)) (de_callTy int_ok (by rfl) T.b_int (by decide +kernel) (da_cons (de_cmp lt_ok (dv 1) de_int rfl) da_nil))))))) (pure)
abbrev s_l_less : Stmt := top 56
theorem sc_l_less : FnScope ["one", "other", "first", "second"] ["one", "other"] (defScope s_l_less) := ⟨rfl, rfl, rfl, by decide +kernel, rfl, by decide +kernel, by decide +kernel⟩
theorem fd_l_less {sp : DSp} (T : Txt P w K mg base c) (D : Dn K mg "_law_less" "_law_less" s_l_less ["one", "other"]) {sp_l_pair : DSp} (F_l_pair : Fd P w K mg base 1 "_law_pair" ["number"] sp_l_pair) (len : ∀ ds M Q E, sp ds M Q E → ds.length = (["one", "other"] : List Str).length)
    (pure : ∀ ds M Q E, sp ds M Q E → b_l_less c sp_l_pair (fun C fs _ M' => E C fs M') { nx := fun _ M' => Q .non M', rt := Q } (dstart ["one", "other", "first", "second"] ds) M) : Fd P w K mg base 2 "_law_less" ["one", "other"] sp :=
  D.ok fun f fd F => fnD_of F sc_l_less len (b_l_less c sp_l_pair) (fun cdv A outer s H E G0 Wd hr tk hp => by
    have hu := hr.room.units
    have hu1 : (A.deeper (envOfC "_law_less" (defScope s_l_less) s.heap.objs.size f cdv)).units + 1 < cLine := by omega
    have hg0 := hr.gd
    have hall : ∀ C ∈ allC c 18, ∃ u f, Err K C u f := fun C h => ⟨_, _, T.err C h⟩
    exact (ds_cons (ds_par (i := 2) (j := 3) rfl sc_l_less.nd rfl rfl (by decide) rfl rfl (da_cons (de_callF F_l_pair (hr.mono (by decide)) (by rfl) tk (da_cons (dv 0) da_nil)) (da_cons (de_callF F_l_pair (hr.mono (by decide)) (by rfl) tk (da_cons (dv 1) da_nil)) da_nil)) rfl)
    (ds_one (ds_ret (de_cmp lt_ok (de_bin mul_ok (de_ix (dv 2) de_int (fun _ _ => rfl)) (de_ix (dv 3) de_int (fun _ _ => rfl))) (de_bin mul_ok (de_ix (dv 3) de_int (fun _ _ => rfl)) (de_ix (dv 2) de_int (fun _ _ => rfl))) rfl))))) (pure)
abbrev s_l_dot : Stmt := top 57
theorem sc_l_dot : FnScope ["row", "other", "top", "bottom", "one", "two", "first", "second", "low"] ["row", "other"] (defScope s_l_dot) := ⟨rfl, rfl, rfl, by decide +kernel, rfl, by decide +kernel, by decide +kernel⟩
theorem fd_l_dot {sp : DSp} (T : Txt P w K mg base c) (D : Dn K mg "_law_dot" "_law_dot" s_l_dot ["row", "other"]) {sp_l_low : DSp} (F_l_low : Fd P w K mg base 2 "_law_low" ["top", "bottom"] sp_l_low) {sp_l_pair : DSp} (F_l_pair : Fd P w K mg base 1 "_law_pair" ["number"] sp_l_pair) (len : ∀ ds M Q E, sp ds M Q E → ds.length = (["row", "other"] : List Str).length)
    (pure : ∀ ds M Q E, sp ds M Q E → b_l_dot c sp_l_low sp_l_pair (fun C fs _ M' => E C fs M') { nx := fun _ M' => Q .non M', rt := Q } (dstart ["row", "other", "top", "bottom", "one", "two", "first", "second", "low"] ds) M) : Fd P w K mg base 3 "_law_dot" ["row", "other"] sp :=
  D.ok fun f fd F => fnD_of F sc_l_dot len (b_l_dot c sp_l_low sp_l_pair) (fun cdv A outer s H E G0 Wd hr tk hp => by
    have hu := hr.room.units
    have hu1 : (A.deeper (envOfC "_law_dot" (defScope s_l_dot) s.heap.objs.size f cdv)).units + 1 < cLine := by omega
    have hg0 := hr.gd
    have hall : ∀ C ∈ allC c 18, ∃ u f, Err K C u f := fun C h => ⟨_, _, T.err C h⟩
    exact (ds_cons (ds_asg (de_tup (da_cons de_int (da_cons de_int da_nil))) (dg_tup rfl rfl (dgs_cons (dg_name (i := 2) sc_l_dot.nd rfl (by first | exact .inl rfl | exact .inr rfl)) (dgs_cons (dg_name (i := 3) sc_l_dot.nd rfl (by first | exact .inl rfl | exact .inr rfl)) dgs_nil))))
    (ds_cons (ds_for hp rfl (di_zipM (by rfl) T.b_zip (da_cons (dv 0) (da_cons (dv 1) da_nil))) (dg_tup rfl rfl (dgs_cons (dg_name (i := 4) sc_l_dot.nd rfl (by first | exact .inl rfl | exact .inr rfl)) (dgs_cons (dg_name (i := 5) sc_l_dot.nd rfl (by first | exact .inl rfl | exact .inr rfl)) dgs_nil))) (ds_cons (ds_par (i := 6) (j := 7) rfl sc_l_dot.nd rfl rfl (by decide) rfl rfl (da_cons (de_callF F_l_pair (hr.mono (by decide)) (by rfl) tk (da_cons (dv 4) da_nil)) (da_cons (de_callF F_l_pair (hr.mono (by decide)) (by rfl) tk (da_cons (dv 5) da_nil)) da_nil)) rfl)
    (ds_cons (ds_set (i := 8) sc_l_dot.nd rfl (by first | exact .inl rfl | exact .inr rfl) (de_bin mul_ok (de_ix (dv 6) de_int (fun _ _ => rfl)) (de_ix (dv 7) de_int (fun _ _ => rfl))))
    (ds_one (ds_if (dt_cmp (eq_ok hu) (dv 8) (dv 3) rfl) (ds_one (ds_set (i := 2) sc_l_dot.nd rfl (by first | exact .inl rfl | exact .inr rfl) (de_bin addA_ok (dv 2) (de_bin mul_ok (de_ix (dv 6) de_int (fun _ _ => rfl)) (de_ix (dv 7) de_int (fun _ _ => rfl)))))) (ds_one (ds_par (i := 2) (j := 3) rfl sc_l_dot.nd rfl rfl (by decide) rfl rfl (da_cons (de_bin addA_ok (de_bin mul_ok (dv 2) (dv 8)) (de_bin mul_ok (de_bin mul_ok (de_ix (dv 6) de_int (fun _ _ => rfl)) (de_ix (dv 7) de_int (fun _ _ => rfl))) (dv 3))) (da_cons (de_bin mul_ok (dv 3) (dv 8)) da_nil)) rfl)))))))
    (ds_one (ds_ret (de_callF F_l_low (hr.mono (by decide)) (by rfl) tk (da_cons (dv 2) (da_cons (dv 3) da_nil)))))))) (pure)
abbrev s_l_is_list : Stmt := top 58
theorem sc_l_is_list : FnScope ["value"] ["value"] (defScope s_l_is_list) := ⟨rfl, rfl, rfl, by decide +kernel, rfl, by decide +kernel, by decide +kernel⟩
theorem fd_l_is_list {sp : DSp} (T : Txt P w K mg base c) (D : Dn K mg "_law_is_list" "_law_is_list" s_l_is_list ["value"])  (len : ∀ ds M Q E, sp ds M Q E → ds.length = (["value"] : List Str).length)
    (pure : ∀ ds M Q E, sp ds M Q E → b_l_is_list c  (fun C fs _ M' => E C fs M') { nx := fun _ M' => Q .non M', rt := Q } (dstart ["value"] ds) M) : Fd P w K mg base 1 "_law_is_list" ["value"] sp :=
  D.ok fun f fd F => fnD_of F sc_l_is_list len (b_l_is_list c ) (fun cdv A outer s H E G0 Wd hr tk hp => by
    have hu := hr.room.units
    have hu1 : (A.deeper (envOfC "_law_is_list" (defScope s_l_is_list) s.heap.objs.size f cdv)).units + 1 < cLine := by omega
    have hg0 := hr.gd
    have hall : ∀ C ∈ allC c 18, ∃ u f, Err K C u f := fun C h => ⟨_, _, T.err C h⟩
    exact (ds_one (ds_ret (de_callB is2_ok (by rfl) T.b_isinstance (by decide +kernel) (da_cons (dv 0) (da_cons (de_tup (da_cons (de_tyN T.b_list (by decide +kernel)) (da_cons (de_tyN T.b_tuple (by decide +kernel)) da_nil))) da_nil)))))) (pure)
abbrev s_l_is_ratio : Stmt := top 59
theorem sc_l_is_ratio : FnScope ["value"] ["value"] (defScope s_l_is_ratio) := ⟨rfl, rfl, rfl, by decide +kernel, rfl, by decide +kernel, by decide +kernel⟩
theorem fd_l_is_ratio {sp : DSp} (T : Txt P w K mg base c) (D : Dn K mg "_law_is_ratio" "_law_is_ratio" s_l_is_ratio ["value"]) {sp_l_divisor : DSp} (F_l_divisor : Fd P w K mg base 1 "_law_divisor" ["one", "other"] sp_l_divisor) {sp_l_is_whole : DSp} (F_l_is_whole : Fd P w K mg base 1 "_law_is_whole" ["value"] sp_l_is_whole) (len : ∀ ds M Q E, sp ds M Q E → ds.length = (["value"] : List Str).length)
    (pure : ∀ ds M Q E, sp ds M Q E → b_l_is_ratio c sp_l_divisor sp_l_is_whole (fun C fs _ M' => E C fs M') { nx := fun _ M' => Q .non M', rt := Q } (dstart ["value"] ds) M) : Fd P w K mg base 2 "_law_is_ratio" ["value"] sp :=
  D.ok fun f fd F => fnD_of F sc_l_is_ratio len (b_l_is_ratio c sp_l_divisor sp_l_is_whole) (fun cdv A outer s H E G0 Wd hr tk hp => by
    have hu := hr.room.units
    have hu1 : (A.deeper (envOfC "_law_is_ratio" (defScope s_l_is_ratio) s.heap.objs.size f cdv)).units + 1 < cLine := by omega
    have hg0 := hr.gd
    have hall : ∀ C ∈ allC c 18, ∃ u f, Err K C u f := fun C h => ⟨_, _, T.err C h⟩
    exact (ds_cons (ds_if (dt_val (de_callB is1_ok (by rfl) T.b_isinstance (by decide +kernel) (da_cons (dv 0) (da_cons (de_tyN T.b_tuple (by decide +kernel)) da_nil)))) (ds_cons (ds_if (PW.pt (dw_or (dt_cmp (ne_ok hu) (de_callB len_ok (by rfl) T.b_len (by decide +kernel) (da_cons (dv 0) da_nil)) de_int rfl) (dw_or (dt_not (dt_val (de_callF F_l_is_whole (hr.mono (by decide)) (by rfl) tk (da_cons (de_ix (dv 0) de_int (fun _ _ => rfl)) da_nil)))) (dw_or1 (dt_not (dt_val (de_callF F_l_is_whole (hr.mono (by decide)) (by rfl) tk (da_cons (de_ix (dv 0) de_int (fun _ _ => rfl)) da_nil)))))))) (ds_one (ds_ret de_bl)) ds_nil)
    (ds_one (ds_ret (de_and (de_cmp gt_ok (de_ix (dv 0) de_int (fun _ _ => rfl)) de_int rfl) (de_one (de_cmp (eq_ok hu) (de_callF F_l_divisor (hr.mono (by decide)) (by rfl) tk (da_cons (de_ix (dv 0) de_int (fun _ _ => rfl)) (da_cons (de_ix (dv 0) de_int (fun _ _ => rfl)) da_nil))) de_int rfl)))))) ds_nil)
    (ds_one (ds_ret (de_callF F_l_is_whole (hr.mono (by decide)) (by rfl) tk (da_cons (dv 0) da_nil)))))) (pure)
abbrev s_l_is_whole : Stmt := top 60
theorem sc_l_is_whole : FnScope ["value"] ["value"] (defScope s_l_is_whole) := ⟨rfl, rfl, rfl, by decide +kernel, rfl, by decide +kernel, by decide +kernel⟩
theorem fd_l_is_whole {sp : DSp} (T : Txt P w K mg base c) (D : Dn K mg "_law_is_whole" "_law_is_whole" s_l_is_whole ["value"])  (len : ∀ ds M Q E, sp ds M Q E → ds.length = (["value"] : List Str).length)
    (pure : ∀ ds M Q E, sp ds M Q E → b_l_is_whole c  (fun C fs _ M' => E C fs M') { nx := fun _ M' => Q .non M', rt := Q } (dstart ["value"] ds) M) : Fd P w K mg base 1 "_law_is_whole" ["value"] sp :=
  D.ok fun f fd F => fnD_of F sc_l_is_whole len (b_l_is_whole c ) (fun cdv A outer s H E G0 Wd hr tk hp => by
    have hu := hr.room.units
    have hu1 : (A.deeper (envOfC "_law_is_whole" (defScope s_l_is_whole) s.heap.objs.size f cdv)).units + 1 < cLine := by omega
    have hg0 := hr.gd
    have hall : ∀ C ∈ allC c 18, ∃ u f, Err K C u f := fun C h => ⟨_, _, T.err C h⟩
    exact (ds_one (ds_ret (de_and (de_callB is1_ok (by rfl) T.b_isinstance (by decide +kernel) (da_cons (dv 0) (da_cons (de_tyN T.b_int (by decide +kernel)) da_nil))) (de_one (de_not (de_callB is1_ok (by rfl) T.b_isinstance (by decide +kernel) (da_cons (dv 0) (da_cons (de_tyN T.b_bool (by decide +kernel)) da_nil))))))))) (pure)
abbrev s_l_is_any_row : Stmt := top 61
theorem sc_l_is_any_row : FnScope ["value", "many", "one"] ["value", "many"] (defScope s_l_is_any_row) := ⟨rfl, rfl, rfl, by decide +kernel, rfl, by decide +kernel, by decide +kernel⟩
theorem fd_l_is_any_row {sp : DSp} (T : Txt P w K mg base c) (D : Dn K mg "_law_is_any_row" "_law_is_any_row" s_l_is_any_row ["value", "many"]) {sp_l_is_list : DSp} (F_l_is_list : Fd P w K mg base 1 "_law_is_list" ["value"] sp_l_is_list) {sp_l_is_ratio : DSp} (F_l_is_ratio : Fd P w K mg base 2 "_law_is_ratio" ["value"] sp_l_is_ratio) (len : ∀ ds M Q E, sp ds M Q E → ds.length = (["value", "many"] : List Str).length)
    (pure : ∀ ds M Q E, sp ds M Q E → b_l_is_any_row c sp_l_is_list sp_l_is_ratio (fun C fs _ M' => E C fs M') { nx := fun _ M' => Q .non M', rt := Q } (dstart ["value", "many", "one"] ds) M) : Fd P w K mg base 3 "_law_is_any_row" ["value", "many"] sp :=
  D.ok fun f fd F => fnD_of F sc_l_is_any_row len (b_l_is_any_row c sp_l_is_list sp_l_is_ratio) (fun cdv A outer s H E G0 Wd hr tk hp => by
    have hu := hr.room.units
    have hu1 : (A.deeper (envOfC "_law_is_any_row" (defScope s_l_is_any_row) s.heap.objs.size f cdv)).units + 1 < cLine := by omega
    have hg0 := hr.gd
    have hall : ∀ C ∈ allC c 18, ∃ u f, Err K C u f := fun C h => ⟨_, _, T.err C h⟩
    exact (ds_cons (ds_if (PW.pt (dw_or (dt_not (dt_val (de_callF F_l_is_list (hr.mono (by decide)) (by rfl) tk (da_cons (dv 0) da_nil)))) (dw_or1 (dt_cmp (ne_ok hu) (de_callB len_ok (by rfl) T.b_len (by decide +kernel) (da_cons (dv 0) da_nil)) (dv 1) rfl)))) (ds_one (ds_ret de_bl)) ds_nil)
    (ds_one (ds_ret (de_cmp (eqE_ok hu) (de_lc (own := [("one", 2)]) rfl sc_l_is_any_row.nd (di_seq rfl (dv 0)) (by exact blkOk_by (N := ["value", "many", "one"]) (sc := defScope s_l_is_any_row) (by decide +kernel)) (fun _ _ _ _ _ => (dgw_name (i := 2) sc_l_is_any_row.nd rfl (by simp) (by first | exact .inl rfl | exact .inr rfl))) (fun _ _ _ _ _ => (dts_one (dt_not (dt_val (de_callF F_l_is_ratio (hr.mono (by decide)) (by rfl) takesF (da_cons (dv 2) da_nil)))))) (fun _ _ _ _ _ => (dv 2))) (de_lst da_nil) rfl))))) (pure)
abbrev s_l_number : Stmt := top 62
theorem sc_l_number : FnScope ["pen", "size"] ["pen", "size"] (defScope s_l_number) := ⟨rfl, rfl, rfl, by decide +kernel, rfl, by decide +kernel, by decide +kernel⟩
theorem fd_l_number {sp : DSp} (T : Txt P w K mg base c) (D : Dn K mg "_law_number" "_law_number" s_l_number ["pen", "size"]) {sp_l_draw : DSp} (F_l_draw : Fd P w K mg base 1 "_law_draw" ["pen", "many"] sp_l_draw) {sp_l_low : DSp} (F_l_low : Fd P w K mg base 2 "_law_low" ["top", "bottom"] sp_l_low) {sp_l_wide : DSp} (F_l_wide : Fd P w K mg base 2 "_law_wide" ["pen", "figures"] sp_l_wide) (len : ∀ ds M Q E, sp ds M Q E → ds.length = (["pen", "size"] : List Str).length)
    (pure : ∀ ds M Q E, sp ds M Q E → b_l_number c sp_l_draw sp_l_low sp_l_wide (fun C fs _ M' => E C fs M') { nx := fun _ M' => Q .non M', rt := Q } (dstart ["pen", "size"] ds) M) : Fd P w K mg base 3 "_law_number" ["pen", "size"] sp :=
  D.ok fun f fd F => fnD_of F sc_l_number len (b_l_number c sp_l_draw sp_l_low sp_l_wide) (fun cdv A outer s H E G0 Wd hr tk hp => by
    have hu := hr.room.units
    have hu1 : (A.deeper (envOfC "_law_number" (defScope s_l_number) s.heap.objs.size f cdv)).units + 1 < cLine := by omega
    have hg0 := hr.gd
    have hall : ∀ C ∈ allC c 18, ∃ u f, Err K C u f := fun C h => ⟨_, _, T.err C h⟩
    exact (ds_cons (ds_if (dt_cmp (eq_ok hu) (dv 1) de_int rfl) (ds_one (ds_ret (de_bin sub_ok (de_callF F_l_draw (hr.mono (by decide)) (by rfl) tk (da_cons (dv 0) (da_cons de_int da_nil))) de_int))) ds_nil)
    (ds_cons (ds_if (dt_cmp (eq_ok hu) (dv 1) de_int rfl) (ds_one (ds_ret (de_callF F_l_low (hr.mono (by decide)) (by rfl) tk (da_cons (de_bin sub_ok (de_callF F_l_draw (hr.mono (by decide)) (by rfl) tk (da_cons (dv 0) (da_cons de_int da_nil))) de_int) (da_cons (de_bin addA_ok de_int (de_callF F_l_draw (hr.mono (by decide)) (by rfl) tk (da_cons (dv 0) (da_cons de_int da_nil)))) da_nil))))) ds_nil)
    (ds_cons (ds_if (dt_cmp (eq_ok hu) (dv 1) de_int rfl) (ds_one (ds_ret (de_callF F_l_low (hr.mono (by decide)) (by rfl) tk (da_cons (de_bin sub_ok (de_callF F_l_draw (hr.mono (by decide)) (by rfl) tk (da_cons (dv 0) (da_cons de_int da_nil))) de_int) (da_cons (de_bin addA_ok de_int (de_callF F_l_draw (hr.mono (by decide)) (by rfl) tk (da_cons (dv 0) (da_cons de_int da_nil)))) da_nil))))) ds_nil)
    (ds_one (ds_ret (de_callF F_l_low (hr.mono (by decide)) (by rfl) tk (da_cons (de_bin mul_ok (de_bin sub_ok de_int (de_bin mul_ok de_int (de_callF F_l_draw (hr.mono (by decide)) (by rfl) tk (da_cons (dv 0) (da_cons de_int da_nil))))) (de_callF F_l_wide (hr.mono (by decide)) (by rfl) tk (da_cons (dv 0) (da_cons de_int da_nil)))) (da_cons (de_bin addA_ok de_int (de_callF F_l_wide (hr.mono (by decide)) (by rfl) tk (da_cons (dv 0) (da_cons de_int da_nil)))) da_nil))))))))) (pure)
abbrev s_l_wide : Stmt := top 63
theorem sc_l_wide : FnScope ["pen", "figures", "found", "top", "lap"] ["pen", "figures"] (defScope s_l_wide) := ⟨rfl, rfl, rfl, by decide +kernel, rfl, by decide +kernel, by decide +kernel⟩
theorem fd_l_wide {sp : DSp} (T : Txt P w K mg base c) (D : Dn K mg "_law_wide" "_law_wide" s_l_wide ["pen", "figures"]) {sp_l_draw : DSp} (F_l_draw : Fd P w K mg base 1 "_law_draw" ["pen", "many"] sp_l_draw) (len : ∀ ds M Q E, sp ds M Q E → ds.length = (["pen", "figures"] : List Str).length)
    (pure : ∀ ds M Q E, sp ds M Q E → b_l_wide c sp_l_draw (fun C fs _ M' => E C fs M') { nx := fun _ M' => Q .non M', rt := Q } (dstart ["pen", "figures", "found", "top", "lap"] ds) M) : Fd P w K mg base 2 "_law_wide" ["pen", "figures"] sp :=
  D.ok fun f fd F => fnD_of F sc_l_wide len (b_l_wide c sp_l_draw) (fun cdv A outer s H E G0 Wd hr tk hp => by
    have hu := hr.room.units
    have hu1 : (A.deeper (envOfC "_law_wide" (defScope s_l_wide) s.heap.objs.size f cdv)).units + 1 < cLine := by omega
    have hg0 := hr.gd
    have hall : ∀ C ∈ allC c 18, ∃ u f, Err K C u f := fun C h => ⟨_, _, T.err C h⟩
    exact (ds_cons (ds_asg (de_tup (da_cons de_int (da_cons de_int da_nil))) (dg_tup rfl rfl (dgs_cons (dg_name (i := 2) sc_l_wide.nd rfl (by first | exact .inl rfl | exact .inr rfl)) (dgs_cons (dg_name (i := 3) sc_l_wide.nd rfl (by first | exact .inl rfl | exact .inr rfl)) dgs_nil))))
    (ds_cons (ds_for hp rfl (di_rng1 (by rfl) T.b_range (da_cons (de_bin fdivA_ok (de_bin addA_ok (dv 1) de_int) de_int) da_nil)) (dg_name (i := 4) sc_l_wide.nd rfl (by first | exact .inl rfl | exact .inr rfl)) (ds_one (ds_set (i := 2) sc_l_wide.nd rfl (by first | exact .inl rfl | exact .inr rfl) (de_bin addA_ok (de_bin mul_ok (dv 2) (de_bin pow_ok de_int de_int)) (de_callF F_l_draw (hr.mono (by decide)) (by rfl) tk (da_cons (dv 0) (da_cons (de_bin pow_ok de_int de_int) da_nil)))))))
    (ds_cons (ds_for hp rfl (di_rng1 (by rfl) T.b_range (da_cons (dv 1) da_nil)) (dg_name (i := 4) sc_l_wide.nd rfl (by first | exact .inl rfl | exact .inr rfl)) (ds_one (ds_set (i := 3) sc_l_wide.nd rfl (by first | exact .inl rfl | exact .inr rfl) (de_bin mul_ok (dv 3) de_int))))
    (ds_one (ds_ret (de_bin mod_ok (de_callTy int_ok (by rfl) T.b_int (by decide +kernel) (da_cons (dv 2) da_nil)) (dv 3)))))))) (pure)
abbrev s_l_size : Stmt := top 64
theorem sc_l_size : FnScope ["pen"] ["pen"] (defScope s_l_size) := ⟨rfl, rfl, rfl, by decide +kernel, rfl, by decide +kernel, by decide +kernel⟩
theorem fd_l_size {sp : DSp} (T : Txt P w K mg base c) (D : Dn K mg "_law_size" "_law_size" s_l_size ["pen"]) {sp_l_pick : DSp} (F_l_pick : Fd P w K mg base 2 "_law_pick" ["pen", "some"] sp_l_pick) (len : ∀ ds M Q E, sp ds M Q E → ds.length = (["pen"] : List Str).length)
    (pure : ∀ ds M Q E, sp ds M Q E → b_l_size c sp_l_pick (fun C fs _ M' => E C fs M') { nx := fun _ M' => Q .non M', rt := Q } (dstart ["pen"] ds) M) : Fd P w K mg base 3 "_law_size" ["pen"] sp :=
  D.ok fun f fd F => fnD_of F sc_l_size len (b_l_size c sp_l_pick) (fun cdv A outer s H E G0 Wd hr tk hp => by
    have hu := hr.room.units
    have hu1 : (A.deeper (envOfC "_law_size" (defScope s_l_size) s.heap.objs.size f cdv)).units + 1 < cLine := by omega
    have hg0 := hr.gd
    have hall : ∀ C ∈ allC c 18, ∃ u f, Err K C u f := fun C h => ⟨_, _, T.err C h⟩
    exact (ds_one (ds_ret (de_callF F_l_pick (hr.mono (by decide)) (by rfl) tk (da_cons (dv 0) (da_cons (de_lst (da_cons de_int (da_cons de_int (da_cons de_int (da_cons de_int (da_cons de_int (da_cons de_int da_nil))))))) da_nil)))))) (pure)
abbrev s_l_row : Stmt := top 65
theorem sc_l_row : FnScope ["pen", "many", "size", "at"] ["pen", "many", "size"] (defScope s_l_row) := ⟨rfl, rfl, rfl, by decide +kernel, rfl, by decide +kernel, by decide +kernel⟩
theorem fd_l_row {sp : DSp} (T : Txt P w K mg base c) (D : Dn K mg "_law_row" "_law_row" s_l_row ["pen", "many", "size"]) {sp_l_draw : DSp} (F_l_draw : Fd P w K mg base 1 "_law_draw" ["pen", "many"] sp_l_draw) {sp_l_number : DSp} (F_l_number : Fd P w K mg base 3 "_law_number" ["pen", "size"] sp_l_number) (len : ∀ ds M Q E, sp ds M Q E → ds.length = (["pen", "many", "size"] : List Str).length)
    (pure : ∀ ds M Q E, sp ds M Q E → b_l_row c sp_l_draw sp_l_number (fun C fs _ M' => E C fs M') { nx := fun _ M' => Q .non M', rt := Q } (dstart ["pen", "many", "size", "at"] ds) M) : Fd P w K mg base 4 "_law_row" ["pen", "many", "size"] sp :=
  D.ok fun f fd F => fnD_of F sc_l_row len (b_l_row c sp_l_draw sp_l_number) (fun cdv A outer s H E G0 Wd hr tk hp => by
    have hu := hr.room.units
    have hu1 : (A.deeper (envOfC "_law_row" (defScope s_l_row) s.heap.objs.size f cdv)).units + 1 < cLine := by omega
    have hg0 := hr.gd
    have hall : ∀ C ∈ allC c 18, ∃ u f, Err K C u f := fun C h => ⟨_, _, T.err C h⟩
    exact (ds_one (ds_ret (de_callTy tuple_ok (by rfl) T.b_tuple (by decide +kernel) (da_cons (de_lc (own := [("at", 3)]) rfl sc_l_row.nd (di_rng1 (by rfl) T.b_range (da_cons (dv 1) da_nil)) (by exact blkOk_by (N := ["pen", "many", "size", "at"]) (sc := defScope s_l_row) (by decide +kernel)) (fun _ _ _ _ _ => (dgw_name (i := 3) sc_l_row.nd rfl (by simp) (by first | exact .inl rfl | exact .inr rfl))) (fun _ _ _ _ _ => dts_nil) (fun _ _ _ _ _ => (de_ife (dt_cmp gt_ok (de_callF F_l_draw (hr.mono (by decide)) (by rfl) takesF (da_cons (dv 0) (da_cons de_int da_nil))) de_int rfl) (de_callF F_l_number (hr.mono (by decide)) (by rfl) takesF (da_cons (dv 0) (da_cons (dv 2) da_nil))) de_int))) da_nil))))) (pure)
abbrev s_l_odd : Stmt := top 66
theorem sc_l_odd : FnScope ["pen"] ["pen"] (defScope s_l_odd) := ⟨rfl, rfl, rfl, by decide +kernel, rfl, by decide +kernel, by decide +kernel⟩
theorem fd_l_odd {sp : DSp} (T : Txt P w K mg base c) (D : Dn K mg "_law_odd" "_law_odd" s_l_odd ["pen"]) {sp_l_pick : DSp} (F_l_pick : Fd P w K mg base 2 "_law_pick" ["pen", "some"] sp_l_pick) (len : ∀ ds M Q E, sp ds M Q E → ds.length = (["pen"] : List Str).length)
    (pure : ∀ ds M Q E, sp ds M Q E → b_l_odd c sp_l_pick (fun C fs _ M' => E C fs M') { nx := fun _ M' => Q .non M', rt := Q } (dstart ["pen"] ds) M) : Fd P w K mg base 3 "_law_odd" ["pen"] sp :=
  D.ok fun f fd F => fnD_of F sc_l_odd len (b_l_odd c sp_l_pick) (fun cdv A outer s H E G0 Wd hr tk hp => by
    have hu := hr.room.units
    have hu1 : (A.deeper (envOfC "_law_odd" (defScope s_l_odd) s.heap.objs.size f cdv)).units + 1 < cLine := by omega
    have hg0 := hr.gd
    have hall : ∀ C ∈ allC c 18, ∃ u f, Err K C u f := fun C h => ⟨_, _, T.err C h⟩
    exact (ds_one (ds_ret (de_callF F_l_pick (hr.mono (by decide)) (by rfl) tk (da_cons (dv 0) (da_cons (de_lst (da_cons de_non (da_cons de_bl (da_cons de_bl (da_cons de_str (da_cons de_str (da_cons (de_tup (da_cons de_int (da_cons de_int da_nil))) (da_cons (de_tup (da_cons de_int (da_cons de_int da_nil))) (da_cons (de_tup (da_cons de_int (da_cons de_int da_nil))) (da_cons (de_tup (da_cons de_int (da_cons (de_un neg_ok de_int) da_nil))) (da_cons (de_lst (da_cons de_int (da_cons de_int da_nil))) (da_cons (de_tup (da_cons de_int (da_cons de_int (da_cons de_int da_nil)))) (da_cons (de_tup (da_cons de_bl (da_cons de_int da_nil))) (da_cons (de_tup da_nil) (da_cons (de_tup (da_cons de_int (da_cons de_int da_nil))) (da_cons (de_frz de_dic0) da_nil)))))))))))))))) da_nil)))))) (pure)
abbrev s_l_bent_row : Stmt := top 67
theorem sc_l_bent_row : FnScope ["pen", "row", "way", "at"] ["pen", "row"] (defScope s_l_bent_row) := ⟨rfl, rfl, rfl, by decide +kernel, rfl, by decide +kernel, by decide +kernel⟩
theorem fd_l_bent_row {sp : DSp} (T : Txt P w K mg base c) (D : Dn K mg "_law_bent_row" "_law_bent_row" s_l_bent_row ["pen", "row"]) {sp_l_draw : DSp} (F_l_draw : Fd P w K mg base 1 "_law_draw" ["pen", "many"] sp_l_draw) {sp_l_pick : DSp} (F_l_pick : Fd P w K mg base 2 "_law_pick" ["pen", "some"] sp_l_pick) {sp_l_odd : DSp} (F_l_odd : Fd P w K mg base 3 "_law_odd" ["pen"] sp_l_odd) (len : ∀ ds M Q E, sp ds M Q E → ds.length = (["pen", "row"] : List Str).length)
    (pure : ∀ ds M Q E, sp ds M Q E → b_l_bent_row c sp_l_draw sp_l_pick sp_l_odd (fun C fs _ M' => E C fs M') { nx := fun _ M' => Q .non M', rt := Q } (dstart ["pen", "row", "way", "at"] ds) M) : Fd P w K mg base 4 "_law_bent_row" ["pen", "row"] sp :=
  D.ok fun f fd F => fnD_of F sc_l_bent_row len (b_l_bent_row c sp_l_draw sp_l_pick sp_l_odd) (fun cdv A outer s H E G0 Wd hr tk hp => by
    have hu := hr.room.units
    have hu1 : (A.deeper (envOfC "_law_bent_row" (defScope s_l_bent_row) s.heap.objs.size f cdv)).units + 1 < cLine := by omega
    have hg0 := hr.gd
    have hall : ∀ C ∈ allC c 18, ∃ u f, Err K C u f := fun C h => ⟨_, _, T.err C h⟩
    exact (ds_cons (ds_set (i := 2) sc_l_bent_row.nd rfl (by first | exact .inl rfl | exact .inr rfl) (de_callF F_l_draw (hr.mono (by decide)) (by rfl) tk (da_cons (dv 0) (da_cons de_int da_nil))))
    (ds_cons (ds_if (PW.pt (dw_and (dt_cmp (eq_ok hu) (dv 2) de_int rfl) (dw_and1 (dt_cmp gt_ok (de_callB len_ok (by rfl) T.b_len (by decide +kernel) (da_cons (dv 1) da_nil)) de_int rfl)))) (ds_one (ds_ret (de_slc (dv 1) dp_none (dp_some (de_un neg_ok de_int))))) ds_nil)
    (ds_cons (ds_if (dt_cmp (eq_ok hu) (dv 2) de_int rfl) (ds_one (ds_ret (de_bin addA_ok (dv 1) (de_tup (da_cons (de_callF F_l_draw (hr.mono (by decide)) (by rfl) tk (da_cons (dv 0) (da_cons de_int da_nil))) da_nil))))) ds_nil)
    (ds_cons (ds_if (PW.pt (dw_and (dt_cmp (eq_ok hu) (dv 2) de_int rfl) (dw_and1 (dt_cmp gt_ok (de_callB len_ok (by rfl) T.b_len (by decide +kernel) (da_cons (dv 1) da_nil)) de_int rfl)))) (ds_cons (ds_set (i := 3) sc_l_bent_row.nd rfl (by first | exact .inl rfl | exact .inr rfl) (de_callF F_l_draw (hr.mono (by decide)) (by rfl) tk (da_cons (dv 0) (da_cons (de_callB len_ok (by rfl) T.b_len (by decide +kernel) (da_cons (dv 1) da_nil)) da_nil))))
    (ds_one (ds_ret (de_bin addA_ok (de_bin addA_ok (de_slc (dv 1) dp_none (dp_some (dv 3))) (de_tup (da_cons (de_callF F_l_odd (hr.mono (by decide)) (by rfl) tk (da_cons (dv 0) da_nil)) da_nil))) (de_slc (dv 1) (dp_some (de_bin addA_ok (dv 3) de_int)) dp_none))))) ds_nil)
    (ds_one (ds_ret (de_callF F_l_pick (hr.mono (by decide)) (by rfl) tk (da_cons (dv 0) (da_cons (de_lst (da_cons de_non (da_cons de_int (da_cons de_str (da_cons de_bl (da_cons (de_frz de_dic0) da_nil)))))) da_nil)))))))))) (pure)
abbrev s_l_fault : Stmt := top 68
theorem sc_l_fault : FnScope ["call", "found", "e"] ["call"] (defScope s_l_fault) := ⟨rfl, rfl, rfl, by decide +kernel, rfl, by decide +kernel, by decide +kernel⟩
theorem fd_l_fault {sp : LSp} (T : Txt P w K mg base c) (D : Dn K mg "_law_fault" "_law_fault" s_l_fault ["call"]) {sp_l_kinds : ESp} (F_l_kinds : FdE P w K mg base 2 "_law_kinds" ["e"] sp_l_kinds)
    (pure : ∀ f lam M Q E, sp lam M Q E → b_l_fault c sp_l_kinds f lam (fun C fs _ M' => E C fs M') { nx := fun _ M' => Q .non M', rt := Q } (dstart ["call", "found", "e"] [.ref f]) M) : FdL P w K mg base 3 "_law_fault" "call" sp :=
  D.okL fun g fd F => fnL_of F sc_l_fault rfl (.inl rfl) (b_l_fault c sp_l_kinds) (fun cdv A outer s H E G0 Wd f lam hr tk hp act => by
    have hu := hr.room.units
    have hg0 := hr.gd
    have hall : ∀ C ∈ allC c 18, ∃ u f, Err K C u f := fun C h => ⟨_, _, T.err C h⟩
    exact (ds_cons (ds_set (i := 1) sc_l_fault.nd rfl (by first | exact .inl rfl | exact .inr rfl) de_non)
    (ds_cons (ds_try_as (i := 2) rfl rfl sc_l_fault.nd rfl rfl ⟨rfl, by decide, .inl T.m_HiddenError⟩ takesF (catch_ok T)
    (fun W G1 pn xe hG tk hp => (ds_one (ds_expr (act pn xe _ G1 _ _ hG tk))))
    (fun qq C fl pn G1 hx hc => by
      have hC : C ∈ (allC c 18) := of_decide_eq_true hc
      have hE := T.err C hC
      have hq : qq ∈ qq :: pn := List.mem_cons_self
      have hrE := fun v => roomE_hot (v := v) hr
      exact (ds_cons (ds_set (i := 1) sc_l_fault.nd rfl (by first | exact .inl rfl | exact .inr rfl) (de_callFE F_l_kinds hx hq ((hrE _).mono (by decide)) (by rfl) (da_cons (dv 2) da_nil)))
    (ds_one (ds_set (i := 1) sc_l_fault.nd rfl (by first | exact .inl rfl | exact .inr rfl) (de_ife (PW.pt (dw_and (dt_cmp (eq_ok hu) (de_callB len_ok (by rfl) T.b_len (by decide +kernel) (da_cons (dv 1) da_nil)) de_int rfl) (dw_and1 (dt_val (de_isE hE hx hq (rErr_ok hE hall) (by rfl) T.b_isinstance (da_cons (dv 2) (da_cons (de_tyN T.b_ValueError (by decide +kernel)) da_nil))))))) (de_ix (dv 1) de_int (fun _ _ => rfl)) (de_tup (da_cons de_str (da_cons (de_callB len_ok (by rfl) T.b_len (by decide +kernel) (da_cons (dv 1) da_nil)) da_nil)))))))))
    (ds_one (ds_ret (dv 1)))))) pure
abbrev s_l_kinds : Stmt := top 69
theorem sc_l_kinds : FnScope ["e", "found"] ["e"] (defScope s_l_kinds) := ⟨rfl, rfl, rfl, by decide +kernel, rfl, by decide +kernel, by decide +kernel⟩
theorem fd_l_kinds {sp : ESp} (T : Txt P w K mg base c) (D : Dn K mg "_law_kinds" "_law_kinds" s_l_kinds ["e"]) {sp_l_more_kinds : ESp} (F_l_more_kinds : FdE P w K mg base 1 "_law_more_kinds" ["e"] sp_l_more_kinds) (len : ∀ q C fl ds M Q E, sp q C fl ds M Q E → ds.length = (["e"] : List Str).length) (inn : ∀ q C fl ds M Q E, sp q C fl ds M Q E → C ∈ allC c 18)
    (pure : ∀ q C fl ds M Q E, sp q C fl ds M Q E → b_l_kinds c sp_l_more_kinds q C fl (fun C fs _ M' => E C fs M') { nx := fun _ M' => Q .non M', rt := Q } (dstart ["e", "found"] ds) M) : FdE P w K mg base 2 "_law_kinds" ["e"] sp :=
  D.okE fun f fd F => fnE_of F sc_l_kinds len (b_l_kinds c sp_l_more_kinds) (fun cdv A outer s H E G0 Wd q C fl hr hx hsp tk => by
    have hun := hr.room.un
    have hu : (A.deeper (envOfC "_law_kinds" (defScope s_l_kinds) s.heap.objs.size f cdv)).units + 64 < cLine := by omega
    have hg0 := hr.gd
    obtain ⟨ds0, M0, Q0, E0, hsp⟩ := hsp
    have hE := T.err C (inn _ _ _ _ _ _ _ hsp)
    have hq : q ∈ [q] := List.mem_singleton.mpr rfl
    have hall : ∀ C ∈ allC c 18, ∃ u f, Err K C u f := fun C h => ⟨_, _, T.err C h⟩
    exact (ds_cons (ds_set (i := 1) sc_l_kinds.nd rfl (.inl rfl) (de_lstM da_nil))
    (ds_cons (ds_if (dt_val (de_isE hE hx hq (rErr_ok hE hall) (by rfl) T.b_isinstance (da_cons (dv 0) (da_cons (de_cls T.m_BadNumber) da_nil)))) (ds_one (ds_expr (de_app (dv 1) (da_cons (de_tup (da_cons de_str (da_cons (de_fldX (n := "what") hE hx hq (dv 0)) (da_cons (de_callB (repr_ok hg0 hu) (by rfl) T.b_repr (by decide +kernel) (da_cons (de_fldX (n := "number") hE hx hq (dv 0)) da_nil)) da_nil)))) da_nil)))) ds_nil)
    (ds_cons (ds_if (dt_val (de_isE hE hx hq (rErr_ok hE hall) (by rfl) T.b_isinstance (da_cons (dv 0) (da_cons (de_cls T.m_BadRow) da_nil)))) (ds_one (ds_expr (de_app (dv 1) (da_cons (de_tup (da_cons de_str (da_cons (de_fldX (n := "what") hE hx hq (dv 0)) (da_cons (de_callB (repr_ok hg0 hu) (by rfl) T.b_repr (by decide +kernel) (da_cons (de_fldX (n := "row") hE hx hq (dv 0)) da_nil)) da_nil)))) da_nil)))) ds_nil)
    (ds_cons (ds_if (dt_val (de_isE hE hx hq (rErr_ok hE hall) (by rfl) T.b_isinstance (da_cons (dv 0) (da_cons (de_cls T.m_BadTable) da_nil)))) (ds_one (ds_expr (de_app (dv 1) (da_cons (de_tup (da_cons de_str (da_cons (de_fldX (n := "what") hE hx hq (dv 0)) da_nil))) da_nil)))) ds_nil)
    (ds_cons (ds_if (dt_val (de_isE hE hx hq (rErr_ok hE hall) (by rfl) T.b_isinstance (da_cons (dv 0) (da_cons (de_cls T.m_BadTree) da_nil)))) (ds_one (ds_expr (de_app (dv 1) (da_cons (de_tup (da_cons de_str (da_cons (de_fldX (n := "what") hE hx hq (dv 0)) da_nil))) da_nil)))) ds_nil)
    (ds_cons (ds_if (dt_val (de_isE hE hx hq (rErr_ok hE hall) (by rfl) T.b_isinstance (da_cons (dv 0) (da_cons (de_cls T.m_BadPlan) da_nil)))) (ds_one (ds_expr (de_app (dv 1) (da_cons (de_tup (da_cons de_str (da_cons (de_fldX (n := "what") hE hx hq (dv 0)) da_nil))) da_nil)))) ds_nil)
    (ds_cons (ds_if (dt_val (de_isE hE hx hq (rErr_ok hE hall) (by rfl) T.b_isinstance (da_cons (dv 0) (da_cons (de_cls T.m_BadBook) da_nil)))) (ds_one (ds_expr (de_app (dv 1) (da_cons (de_tup (da_cons de_str (da_cons (de_fldX (n := "what") hE hx hq (dv 0)) da_nil))) da_nil)))) ds_nil)
    (ds_cons (ds_if (dt_val (de_isE hE hx hq (rErr_ok hE hall) (by rfl) T.b_isinstance (da_cons (dv 0) (da_cons (de_cls T.m_BadName) da_nil)))) (ds_one (ds_expr (de_app (dv 1) (da_cons (de_tup (da_cons de_str (da_cons (de_callB (repr_ok hg0 hu) (by rfl) T.b_repr (by decide +kernel) (da_cons (de_fldX (n := "name") hE hx hq (dv 0)) da_nil)) da_nil))) da_nil)))) ds_nil)
    (ds_cons (ds_if (dt_val (de_isE hE hx hq (rErr_ok hE hall) (by rfl) T.b_isinstance (da_cons (dv 0) (da_cons (de_cls T.m_BadText) da_nil)))) (ds_one (ds_expr (de_app (dv 1) (da_cons (de_tup (da_cons de_str (da_cons (de_fldX (n := "line") hE hx hq (dv 0)) (da_cons (de_fldX (n := "word") hE hx hq (dv 0)) da_nil)))) da_nil)))) ds_nil)
    (ds_cons (ds_if (dt_val (de_isE hE hx hq (rErr_ok hE hall) (by rfl) T.b_isinstance (da_cons (dv 0) (da_cons (de_cls T.m_NoPlace) da_nil)))) (ds_one (ds_expr (de_app (dv 1) (da_cons (de_tup (da_cons de_str (da_cons (de_fldX (n := "what") hE hx hq (dv 0)) (da_cons (de_callB (repr_ok hg0 hu) (by rfl) T.b_repr (by decide +kernel) (da_cons (de_fldX (n := "index") hE hx hq (dv 0)) da_nil)) da_nil)))) da_nil)))) ds_nil)
    (ds_one (ds_ret (de_bin add_ok (de_frz (dv 1)) (de_callFE F_l_more_kinds hx hq (hr.mono (by decide)) (by rfl) (da_cons (dv 0) da_nil)))))))))))))))) pure
abbrev s_l_more_kinds : Stmt := top 70
theorem sc_l_more_kinds : FnScope ["e", "found"] ["e"] (defScope s_l_more_kinds) := ⟨rfl, rfl, rfl, by decide +kernel, rfl, by decide +kernel, by decide +kernel⟩
theorem fd_l_more_kinds {sp : ESp} (T : Txt P w K mg base c) (D : Dn K mg "_law_more_kinds" "_law_more_kinds" s_l_more_kinds ["e"])  (len : ∀ q C fl ds M Q E, sp q C fl ds M Q E → ds.length = (["e"] : List Str).length) (inn : ∀ q C fl ds M Q E, sp q C fl ds M Q E → C ∈ allC c 18)
    (pure : ∀ q C fl ds M Q E, sp q C fl ds M Q E → b_l_more_kinds c  q C fl (fun C fs _ M' => E C fs M') { nx := fun _ M' => Q .non M', rt := Q } (dstart ["e", "found"] ds) M) : FdE P w K mg base 1 "_law_more_kinds" ["e"] sp :=
  D.okE fun f fd F => fnE_of F sc_l_more_kinds len (b_l_more_kinds c ) (fun cdv A outer s H E G0 Wd q C fl hr hx hsp tk => by
    have hun := hr.room.un
    have hu : (A.deeper (envOfC "_law_more_kinds" (defScope s_l_more_kinds) s.heap.objs.size f cdv)).units + 64 < cLine := by omega
    have hg0 := hr.gd
    obtain ⟨ds0, M0, Q0, E0, hsp⟩ := hsp
    have hE := T.err C (inn _ _ _ _ _ _ _ hsp)
    have hq : q ∈ [q] := List.mem_singleton.mpr rfl
    have hall : ∀ C ∈ allC c 18, ∃ u f, Err K C u f := fun C h => ⟨_, _, T.err C h⟩
    exact (ds_cons (ds_set (i := 1) sc_l_more_kinds.nd rfl (.inl rfl) (de_lstM da_nil))
    (ds_cons (ds_if (dt_val (de_isE hE hx hq (rErr_ok hE hall) (by rfl) T.b_isinstance (da_cons (dv 0) (da_cons (de_cls T.m_NoName) da_nil)))) (ds_one (ds_expr (de_app (dv 1) (da_cons (de_tup (da_cons de_str (da_cons (de_callB (repr_ok hg0 hu) (by rfl) T.b_repr (by decide +kernel) (da_cons (de_fldX (n := "name") hE hx hq (dv 0)) da_nil)) da_nil))) da_nil)))) ds_nil)
    (ds_cons (ds_if (dt_val (de_isE hE hx hq (rErr_ok hE hall) (by rfl) T.b_isinstance (da_cons (dv 0) (da_cons (de_cls T.m_TakenName) da_nil)))) (ds_one (ds_expr (de_app (dv 1) (da_cons (de_tup (da_cons de_str (da_cons (de_callB (repr_ok hg0 hu) (by rfl) T.b_repr (by decide +kernel) (da_cons (de_fldX (n := "name") hE hx hq (dv 0)) da_nil)) da_nil))) da_nil)))) ds_nil)
    (ds_cons (ds_if (dt_val (de_isE hE hx hq (rErr_ok hE hall) (by rfl) T.b_isinstance (da_cons (dv 0) (da_cons (de_cls T.m_Unlike) da_nil)))) (ds_one (ds_expr (de_app (dv 1) (da_cons (de_tup (da_cons de_str (da_cons (de_fldX (n := "what") hE hx hq (dv 0)) da_nil))) da_nil)))) ds_nil)
    (ds_cons (ds_if (dt_val (de_isE hE hx hq (rErr_ok hE hall) (by rfl) T.b_isinstance (da_cons (dv 0) (da_cons (de_cls T.m_NotThere) da_nil)))) (ds_one (ds_expr (de_app (dv 1) (da_cons (de_tup (da_cons de_str (da_cons (de_fldX (n := "paper") hE hx hq (dv 0)) da_nil))) da_nil)))) ds_nil)
    (ds_cons (ds_if (dt_val (de_isE hE hx hq (rErr_ok hE hall) (by rfl) T.b_isinstance (da_cons (dv 0) (da_cons (de_cls T.m_TooMany) da_nil)))) (ds_one (ds_expr (de_app (dv 1) (da_cons (de_tup (da_cons de_str (da_cons (de_fldX (n := "what") hE hx hq (dv 0)) (da_cons (de_fldX (n := "many") hE hx hq (dv 0)) (da_cons (de_fldX (n := "limit") hE hx hq (dv 0)) da_nil))))) da_nil)))) ds_nil)
    (ds_cons (ds_if (dt_val (de_isE hE hx hq (rErr_ok hE hall) (by rfl) T.b_isinstance (da_cons (dv 0) (da_cons (de_cls T.m_NotKept) da_nil)))) (ds_one (ds_expr (de_app (dv 1) (da_cons (de_tup (da_cons de_str (da_cons (de_fldX (n := "promise") hE hx hq (dv 0)) (da_cons (de_fldX (n := "witness") hE hx hq (dv 0)) da_nil)))) da_nil)))) ds_nil)
    (ds_cons (ds_if (dt_val (de_isE hE hx hq (rErr_ok hE hall) (by rfl) T.b_isinstance (da_cons (dv 0) (da_cons (de_cls T.m_NothingToUndo) da_nil)))) (ds_one (ds_expr (de_app (dv 1) (da_cons (de_tup (da_cons de_str da_nil)) da_nil)))) ds_nil)
    (ds_cons (ds_if (dt_val (de_isE hE hx hq (rErr_ok hE hall) (by rfl) T.b_isinstance (da_cons (dv 0) (da_cons (de_cls T.m_NothingToRedo) da_nil)))) (ds_one (ds_expr (de_app (dv 1) (da_cons (de_tup (da_cons de_str da_nil)) da_nil)))) ds_nil)
    (ds_one (ds_ret (de_frz (dv 1)))))))))))))) pure
abbrev s_l_made_right : Stmt := top 71
theorem sc_l_made_right : FnScope ["pen", "by", "top", "bottom", "value", "odd"] ["pen"] (defScope s_l_made_right) := ⟨rfl, rfl, rfl, by decide +kernel, rfl, by decide +kernel, by decide +kernel⟩
theorem fd_l_made_right {sp : DSp} (T : Txt P w K mg base c) (D : DnL K mg base "_law_made_right" "_law_made_right" s_l_made_right ["pen"]) {sp_is_ratio : DSp} (F_is_ratio : Fd P w K mg base 2 "is_ratio" ["value"] sp_is_ratio) {sp_ratio : DSp} (F_ratio : Fd P w K mg base 3 "ratio" ["top", "bottom"] sp_ratio) {sp_l_draw : DSp} (F_l_draw : Fd P w K mg base 1 "_law_draw" ["pen", "many"] sp_l_draw) {sp_l_pick : DSp} (F_l_pick : Fd P w K mg base 2 "_law_pick" ["pen", "some"] sp_l_pick) {sp_l_is : DSp} (F_l_is : Fd P w K mg base 2 "_law_is" ["told", "due"] sp_l_is) {sp_l_says : DSp} (F_l_says : Fd P w K mg base 1 "_law_says" ["told", "due"] sp_l_says) {sp_l_low : DSp} (F_l_low : Fd P w K mg base 2 "_law_low" ["top", "bottom"] sp_l_low) {sp_l_is_ratio : DSp} (F_l_is_ratio : Fd P w K mg base 2 "_law_is_ratio" ["value"] sp_l_is_ratio) {sp_l_number : DSp} (F_l_number : Fd P w K mg base 3 "_law_number" ["pen", "size"] sp_l_number) {sp_l_odd : DSp} (F_l_odd : Fd P w K mg base 3 "_law_odd" ["pen"] sp_l_odd) {sp_l_fault : LSp} (F_l_fault : FdL P w K mg base 3 "_law_fault" "call" sp_l_fault) (len : ∀ ds M Q E, sp ds M Q E → ds.length = (["pen"] : List Str).length)
    (pure : ∀ ds M Q E, sp ds M Q E → b_l_made_right c sp_is_ratio sp_ratio sp_l_draw sp_l_pick sp_l_is sp_l_says sp_l_low sp_l_is_ratio sp_l_number sp_l_odd sp_l_fault (fun C fs _ M' => E C fs M') { nx := fun _ M' => Q .non M', rt := Q } (dstart ["pen", "by", "top", "bottom", "value", "odd"] ds) M) : Fd P w K mg base 6 "_law_made_right" ["pen"] sp := by
  exact D.ok fun f fd cc TT F hcc tb htq => fnD_ofW F sc_l_made_right len (b_l_made_right c sp_is_ratio sp_ratio sp_l_draw sp_l_pick sp_l_is sp_l_says sp_l_low sp_l_is_ratio sp_l_number sp_l_odd sp_l_fault) (fun cdv hcd A outer s H E G0 Wd hr tk hp => by
    have ecd := hcd.symm.trans hcc
    subst ecd
    have hu := hr.room.units
    have hu1 : (A.deeper (envOfC "_law_made_right" (defScope s_l_made_right) s.heap.objs.size f (.ref cc))).units + 1 < cLine := by omega
    have hg0 := hr.gd
    have hall : ∀ C ∈ allC c 18, ∃ u f, Err K C u f := fun C h => ⟨_, _, T.err C h⟩
    exact (ds_cons (ds_set (i := 1) sc_l_made_right.nd rfl (by first | exact .inl rfl | exact .inr rfl) (de_callF F_l_pick (hr.mono (by decide)) (by rfl) tk (da_cons (dv 0) (da_cons (de_lst (da_cons de_int (da_cons (de_un neg_ok de_int) (da_cons de_int (da_cons (de_un neg_ok de_int) (da_cons (de_bin pow_ok de_int de_int) da_nil)))))) da_nil))))
    (ds_cons (ds_asg (de_tup (da_cons (de_bin sub_ok (de_callF F_l_draw (hr.mono (by decide)) (by rfl) tk (da_cons (dv 0) (da_cons de_int da_nil))) de_int) (da_cons (de_bin addA_ok de_int (de_callF F_l_draw (hr.mono (by decide)) (by rfl) tk (da_cons (dv 0) (da_cons de_int da_nil)))) da_nil))) (dg_tup rfl rfl (dgs_cons (dg_name (i := 2) sc_l_made_right.nd rfl (by first | exact .inl rfl | exact .inr rfl)) (dgs_cons (dg_name (i := 3) sc_l_made_right.nd rfl (by first | exact .inl rfl | exact .inr rfl)) dgs_nil))))
    (ds_cons (ds_if (PW.pt (dw_or (dt_not (dt_val (de_callF F_l_is (hr.mono (by decide)) (by rfl) tk (da_cons (de_callF F_ratio (hr.mono (by decide)) (by rfl) tk (da_cons (de_bin mul_ok (dv 2) (dv 1)) (da_cons (de_bin mul_ok (dv 3) (dv 1)) da_nil))) (da_cons (de_callF F_l_low (hr.mono (by decide)) (by rfl) tk (da_cons (dv 2) (da_cons (dv 3) da_nil))) da_nil))))) (dw_or1 (dt_cmp isNotC_ok (de_callF F_is_ratio (hr.mono (by decide)) (by rfl) tk (da_cons (de_callF F_l_low (hr.mono (by decide)) (by rfl) tk (da_cons (dv 2) (da_cons (dv 3) da_nil))) da_nil)) de_bl rfl)))) (ds_one (ds_ret de_bl)) ds_nil)
    (ds_cons (ds_set (i := 4) sc_l_made_right.nd rfl (by first | exact .inl rfl | exact .inr rfl) (de_callF F_l_pick (hr.mono (by decide)) (by rfl) tk (da_cons (dv 0) (da_cons (de_lst (da_cons (de_callF F_l_odd (hr.mono (by decide)) (by rfl) tk (da_cons (dv 0) da_nil)) (da_cons (de_callF F_l_number (hr.mono (by decide)) (by rfl) tk (da_cons (dv 0) (da_cons de_int da_nil))) (da_cons (de_tup (da_cons (de_bin mul_ok (dv 2) (dv 1)) (da_cons (de_bin mul_ok (dv 3) (dv 1)) da_nil))) (da_cons (de_lst (da_cons (dv 2) (da_cons (dv 3) da_nil))) (da_cons (dv 2) da_nil)))))) da_nil))))
    (ds_cons (ds_if (dt_not (dt_val (de_callF F_l_says (hr.mono (by decide)) (by rfl) tk (da_cons (de_callF F_is_ratio (hr.mono (by decide)) (by rfl) tk (da_cons (dv 4) da_nil)) (da_cons (de_callF F_l_is_ratio (hr.mono (by decide)) (by rfl) tk (da_cons (dv 4) da_nil)) da_nil))))) (ds_one (ds_ret de_bl)) ds_nil)
    (ds_cons (ds_set (i := 5) sc_l_made_right.nd rfl (by first | exact .inl rfl | exact .inr rfl) (de_callF F_l_pick (hr.mono (by decide)) (by rfl) tk (da_cons (dv 0) (da_cons (de_lst (da_cons de_non (da_cons de_bl (da_cons de_str (da_cons (de_tup (da_cons de_int (da_cons de_int da_nil))) (da_cons (de_lst (da_cons de_int da_nil)) da_nil)))))) da_nil))))
    (ds_cons (ds_if (dt_cmp (ne_ok hu) (by exact de_lamF F_l_fault (hr.mono (by decide)) (j := 3) (hr.mono (by decide)) (by rfl) tk tb (by rfl) (by rfl) htq (by exact LamX.lamS_by (sc := defScope s_l_made_right) (by decide +kernel)) (by rfl) (fun _ _ _ _ _ => by rfl) (fun A outer s H E f c' G0 Wd hr3 tk => by
      have hu := hr3.room.units
      have hg0 := hr3.gd
      exact (de_callF F_ratio (hr3.mono (by decide)) (by rfl) tk (da_cons (dv 5) (da_cons de_int da_nil))))) (de_tup (da_cons de_str (da_cons de_str (da_cons (de_callB (repr_ok hg0 hu) (by rfl) T.b_repr (by decide +kernel) (da_cons (dv 5) da_nil)) da_nil)))) rfl) (ds_one (ds_ret de_bl)) ds_nil)
    (ds_cons (ds_set (i := 5) sc_l_made_right.nd rfl (by first | exact .inl rfl | exact .inr rfl) (de_callF F_l_pick (hr.mono (by decide)) (by rfl) tk (da_cons (dv 0) (da_cons (de_lst (da_cons de_int (da_cons de_non (da_cons de_bl (da_cons (de_tup (da_cons de_int (da_cons de_int da_nil))) da_nil))))) da_nil))))
    (ds_one (ds_ret (de_cmp (eq_ok hu) (by exact de_lamF F_l_fault (hr.mono (by decide)) (j := 3) (hr.mono (by decide)) (by rfl) tk tb (by rfl) (by rfl) htq (by exact LamX.lamS_by (sc := defScope s_l_made_right) (by decide +kernel)) (by rfl) (fun _ _ _ _ _ => by rfl) (fun A outer s H E f c' G0 Wd hr3 tk => by
      have hu := hr3.room.units
      have hg0 := hr3.gd
      exact (de_callF F_ratio (hr3.mono (by decide)) (by rfl) tk (da_cons (dv 2) (da_cons (dv 5) da_nil))))) (de_tup (da_cons de_str (da_cons de_str (da_cons (de_callB (repr_ok hg0 hu) (by rfl) T.b_repr (by decide +kernel) (da_cons (dv 5) da_nil)) da_nil)))) rfl)))))))))))) (pure)
abbrev s_l_reckoned_right : Stmt := top 72
theorem sc_l_reckoned_right : FnScope ["one", "other"] ["one", "other"] (defScope s_l_reckoned_right) := ⟨rfl, rfl, rfl, by decide +kernel, rfl, by decide +kernel, by decide +kernel⟩
theorem fd_l_reckoned_right {sp : DSp} (T : Txt P w K mg base c) (D : DnL K mg base "_law_reckoned_right" "_law_reckoned_right" s_l_reckoned_right ["one", "other"]) {sp_plus : DSp} (F_plus : Fd P w K mg base 4 "plus" ["one", "other"] sp_plus) {sp_minus : DSp} (F_minus : Fd P w K mg base 4 "minus" ["one", "other"] sp_minus) {sp_times : DSp} (F_times : Fd P w K mg base 4 "times" ["one", "other"] sp_times) {sp_over : DSp} (F_over : Fd P w K mg base 4 "over" ["one", "other"] sp_over) {sp_sign : DSp} (F_sign : Fd P w K mg base 3 "sign" ["one"] sp_sign) {sp_below : DSp} (F_below : Fd P w K mg base 4 "below" ["one", "other"] sp_below) {sp_l_is : DSp} (F_l_is : Fd P w K mg base 2 "_law_is" ["told", "due"] sp_l_is) {sp_l_says : DSp} (F_l_says : Fd P w K mg base 1 "_law_says" ["told", "due"] sp_l_says) {sp_l_plus : DSp} (F_l_plus : Fd P w K mg base 3 "_law_plus" ["one", "other"] sp_l_plus) {sp_l_minus : DSp} (F_l_minus : Fd P w K mg base 4 "_law_minus" ["one", "other"] sp_l_minus) {sp_l_times : DSp} (F_l_times : Fd P w K mg base 3 "_law_times" ["one", "other"] sp_l_times) {sp_l_over : DSp} (F_l_over : Fd P w K mg base 3 "_law_over" ["one", "other"] sp_l_over) {sp_l_sign : DSp} (F_l_sign : Fd P w K mg base 2 "_law_sign" ["number"] sp_l_sign) {sp_l_less : DSp} (F_l_less : Fd P w K mg base 2 "_law_less" ["one", "other"] sp_l_less) {sp_l_fault : LSp} (F_l_fault : FdL P w K mg base 3 "_law_fault" "call" sp_l_fault) (len : ∀ ds M Q E, sp ds M Q E → ds.length = (["one", "other"] : List Str).length)
    (pure : ∀ ds M Q E, sp ds M Q E → b_l_reckoned_right c sp_plus sp_minus sp_times sp_over sp_sign sp_below sp_l_is sp_l_says sp_l_plus sp_l_minus sp_l_times sp_l_over sp_l_sign sp_l_less sp_l_fault (fun C fs _ M' => E C fs M') { nx := fun _ M' => Q .non M', rt := Q } (dstart ["one", "other"] ds) M) : Fd P w K mg base 7 "_law_reckoned_right" ["one", "other"] sp := by
  exact D.ok fun f fd cc TT F hcc tb htq => fnD_ofW F sc_l_reckoned_right len (b_l_reckoned_right c sp_plus sp_minus sp_times sp_over sp_sign sp_below sp_l_is sp_l_says sp_l_plus sp_l_minus sp_l_times sp_l_over sp_l_sign sp_l_less sp_l_fault) (fun cdv hcd A outer s H E G0 Wd hr tk hp => by
    have ecd := hcd.symm.trans hcc
    subst ecd
    have hu := hr.room.units
    have hu1 : (A.deeper (envOfC "_law_reckoned_right" (defScope s_l_reckoned_right) s.heap.objs.size f (.ref cc))).units + 1 < cLine := by omega
    have hg0 := hr.gd
    have hall : ∀ C ∈ allC c 18, ∃ u f, Err K C u f := fun C h => ⟨_, _, T.err C h⟩
    exact (ds_cons (ds_if (PW.pt (dw_or (dt_not (dt_val (de_callF F_l_is (hr.mono (by decide)) (by rfl) tk (da_cons (de_callF F_plus (hr.mono (by decide)) (by rfl) tk (da_cons (dv 0) (da_cons (dv 1) da_nil))) (da_cons (de_callF F_l_plus (hr.mono (by decide)) (by rfl) tk (da_cons (dv 0) (da_cons (dv 1) da_nil))) da_nil))))) (dw_or1 (dt_not (dt_val (de_callF F_l_is (hr.mono (by decide)) (by rfl) tk (da_cons (de_callF F_minus (hr.mono (by decide)) (by rfl) tk (da_cons (dv 0) (da_cons (dv 1) da_nil))) (da_cons (de_callF F_l_minus (hr.mono (by decide)) (by rfl) tk (da_cons (dv 0) (da_cons (dv 1) da_nil))) da_nil)))))))) (ds_one (ds_ret de_bl)) ds_nil)
    (ds_cons (ds_if (PW.pt (dw_or (dt_not (dt_val (de_callF F_l_is (hr.mono (by decide)) (by rfl) tk (da_cons (de_callF F_times (hr.mono (by decide)) (by rfl) tk (da_cons (dv 0) (da_cons (dv 1) da_nil))) (da_cons (de_callF F_l_times (hr.mono (by decide)) (by rfl) tk (da_cons (dv 0) (da_cons (dv 1) da_nil))) da_nil))))) (dw_or1 (dt_not (dt_val (de_callF F_l_says (hr.mono (by decide)) (by rfl) tk (da_cons (de_callF F_below (hr.mono (by decide)) (by rfl) tk (da_cons (dv 0) (da_cons (dv 1) da_nil))) (da_cons (de_callF F_l_less (hr.mono (by decide)) (by rfl) tk (da_cons (dv 0) (da_cons (dv 1) da_nil))) da_nil)))))))) (ds_one (ds_ret de_bl)) ds_nil)
    (ds_cons (ds_if (dt_not (dt_val (de_callF F_l_is (hr.mono (by decide)) (by rfl) tk (da_cons (de_callF F_sign (hr.mono (by decide)) (by rfl) tk (da_cons (dv 0) da_nil)) (da_cons (de_callF F_l_sign (hr.mono (by decide)) (by rfl) tk (da_cons (dv 0) da_nil)) da_nil))))) (ds_one (ds_ret de_bl)) ds_nil)
    (ds_cons (ds_if (dt_cmp (eq_ok hu) (dv 1) de_int rfl) (ds_one (ds_ret (de_cmp (eq_ok hu) (by exact de_lamF F_l_fault (hr.mono (by decide)) (j := 4) (hr.mono (by decide)) (by rfl) tk tb (by rfl) (by rfl) htq (by exact LamX.lamS_by (sc := defScope s_l_reckoned_right) (by decide +kernel)) (by rfl) (fun _ _ _ _ _ => by rfl) (fun A outer s H E f c' G0 Wd hr3 tk => by
      have hu := hr3.room.units
      have hg0 := hr3.gd
      exact (de_callF F_over (hr3.mono (by decide)) (by rfl) tk (da_cons (dv 0) (da_cons (dv 1) da_nil))))) (de_tup (da_cons de_str (da_cons de_str (da_cons de_str da_nil)))) rfl))) ds_nil)
    (ds_one (ds_ret (de_callF F_l_is (hr.mono (by decide)) (by rfl) tk (da_cons (de_callF F_over (hr.mono (by decide)) (by rfl) tk (da_cons (dv 0) (da_cons (dv 1) da_nil))) (da_cons (de_callF F_l_over (hr.mono (by decide)) (by rfl) tk (da_cons (dv 0) (da_cons (dv 1) da_nil))) da_nil)))))))))) (pure)
abbrev s_l_refused_right : Stmt := top 73
theorem sc_l_refused_right : FnScope ["one", "odd", "call"] ["one", "odd"] (defScope s_l_refused_right) := ⟨rfl, rfl, rfl, by decide +kernel, rfl, by decide +kernel, by decide +kernel⟩
theorem fd_l_refused_right {sp : DSp} (T : Txt P w K mg base c) (D : DnL K mg base "_law_refused_right" "_law_refused_right" s_l_refused_right ["one", "odd"]) {sp_plus : DSp} (F_plus : Fd P w K mg base 4 "plus" ["one", "other"] sp_plus) {sp_minus : DSp} (F_minus : Fd P w K mg base 4 "minus" ["one", "other"] sp_minus) {sp_times : DSp} (F_times : Fd P w K mg base 4 "times" ["one", "other"] sp_times) {sp_over : DSp} (F_over : Fd P w K mg base 4 "over" ["one", "other"] sp_over) {sp_sign : DSp} (F_sign : Fd P w K mg base 3 "sign" ["one"] sp_sign) {sp_below : DSp} (F_below : Fd P w K mg base 4 "below" ["one", "other"] sp_below) {sp_l_fault : LSp} (F_l_fault : FdL P w K mg base 3 "_law_fault" "call" sp_l_fault) (len : ∀ ds M Q E, sp ds M Q E → ds.length = (["one", "odd"] : List Str).length)
    (pure : ∀ g_plus g_minus g_times g_over g_below : Addr, ∀ ds M Q E, sp ds M Q E → b_l_refused_right c g_plus g_minus g_times g_over g_below sp_plus sp_minus sp_times sp_over sp_sign sp_below sp_l_fault (fun C fs _ M' => E C fs M') { nx := fun _ M' => Q .non M', rt := Q } (dstart ["one", "odd", "call"] ds) M) : Fd P w K mg base 7 "_law_refused_right" ["one", "odd"] sp := by
  obtain ⟨g_plus, G_plus, V_plus⟩ := F_plus.at
  obtain ⟨g_minus, G_minus, V_minus⟩ := F_minus.at
  obtain ⟨g_times, G_times, V_times⟩ := F_times.at
  obtain ⟨g_over, G_over, V_over⟩ := F_over.at
  obtain ⟨g_below, G_below, V_below⟩ := F_below.at
  have hFS : ∀ f sp, (f, sp) ∈ ([(g_plus, sp_plus), (g_minus, sp_minus), (g_times, sp_times), (g_over, sp_over), (g_below, sp_below)] : List (Addr × DSp)) → FdV P w K mg base 4 f ["one", "other"] sp := by
    intro f sp h
    simp only [List.mem_cons, List.not_mem_nil, or_false, Prod.mk.injEq] at h
    rcases h with ⟨rfl, rfl⟩ | ⟨rfl, rfl⟩ | ⟨rfl, rfl⟩ | ⟨rfl, rfl⟩ | ⟨rfl, rfl⟩
    · exact V_plus.mono (by decide)
    · exact V_minus.mono (by decide)
    · exact V_times.mono (by decide)
    · exact V_over.mono (by decide)
    · exact V_below.mono (by decide)
  exact D.ok fun f fd cc TT F hcc tb htq => fnD_ofW F sc_l_refused_right len (b_l_refused_right c g_plus g_minus g_times g_over g_below sp_plus sp_minus sp_times sp_over sp_sign sp_below sp_l_fault) (fun cdv hcd A outer s H E G0 Wd hr tk hp => by
    have ecd := hcd.symm.trans hcc
    subst ecd
    have hu := hr.room.units
    have hu1 : (A.deeper (envOfC "_law_refused_right" (defScope s_l_refused_right) s.heap.objs.size f (.ref cc))).units + 1 < cLine := by omega
    have hg0 := hr.gd
    have hall : ∀ C ∈ allC c 18, ∃ u f, Err K C u f := fun C h => ⟨_, _, T.err C h⟩
    exact (ds_cons (ds_for hp rfl (di_seq rfl (de_tup (da_cons (de_cls G_plus) (da_cons (de_cls G_minus) (da_cons (de_cls G_times) (da_cons (de_cls G_over) (da_cons (de_cls G_below) da_nil))))))) (dg_name (i := 2) sc_l_refused_right.nd rfl (by first | exact .inl rfl | exact .inr rfl)) (ds_cons (ds_if (dt_cmp (ne_ok hu) (by exact de_lamF F_l_fault (hr.mono (by decide)) (j := 4) (hr.mono (by decide)) (by rfl) tk tb (by rfl) (by rfl) htq (by exact LamX.lamS_by (sc := defScope s_l_refused_right) (by decide +kernel)) (by rfl) (fun _ _ _ _ _ => by rfl) (fun A outer s H E f c' G0 Wd hr3 tk => by
      have hu := hr3.room.units
      have hg0 := hr3.gd
      exact (de_callV hFS (hr3.mono (by decide)) tk (dv 2) (da_cons (dv 1) (da_cons (dv 1) da_nil))))) (de_tup (da_cons de_str (da_cons de_str (da_cons (de_callB (repr_ok hg0 hu) (by rfl) T.b_repr (by decide +kernel) (da_cons (dv 1) da_nil)) da_nil)))) rfl) (ds_one (ds_ret de_bl)) ds_nil)
    (ds_one (ds_if (dt_cmp (ne_ok hu) (by exact de_lamF F_l_fault (hr.mono (by decide)) (j := 4) (hr.mono (by decide)) (by rfl) tk tb (by rfl) (by rfl) htq (by exact LamX.lamS_by (sc := defScope s_l_refused_right) (by decide +kernel)) (by rfl) (fun _ _ _ _ _ => by rfl) (fun A outer s H E f c' G0 Wd hr3 tk => by
      have hu := hr3.room.units
      have hg0 := hr3.gd
      exact (de_callV hFS (hr3.mono (by decide)) tk (dv 2) (da_cons (dv 0) (da_cons (dv 1) da_nil))))) (de_tup (da_cons de_str (da_cons de_str (da_cons (de_callB (repr_ok hg0 hu) (by rfl) T.b_repr (by decide +kernel) (da_cons (dv 1) da_nil)) da_nil)))) rfl) (ds_one (ds_ret de_bl)) ds_nil))))
    (ds_one (ds_ret (de_cmp (eq_ok hu) (by exact de_lamF F_l_fault (hr.mono (by decide)) (j := 4) (hr.mono (by decide)) (by rfl) tk tb (by rfl) (by rfl) htq (by exact LamX.lamS_by (sc := defScope s_l_refused_right) (by decide +kernel)) (by rfl) (fun _ _ _ _ _ => by rfl) (fun A outer s H E f c' G0 Wd hr3 tk => by
      have hu := hr3.room.units
      have hg0 := hr3.gd
      exact (de_callF F_sign (hr3.mono (by decide)) (by rfl) tk (da_cons (dv 1) da_nil)))) (de_tup (da_cons de_str (da_cons de_str (da_cons (de_callB (repr_ok hg0 hu) (by rfl) T.b_repr (by decide +kernel) (da_cons (dv 1) da_nil)) da_nil)))) rfl))))) (pure g_plus g_minus g_times g_over g_below)
abbrev s_l_rows_right : Stmt := top 74
theorem sc_l_rows_right : FnScope ["pen", "many", "row", "other", "bent", "odd"] ["pen"] (defScope s_l_rows_right) := ⟨rfl, rfl, rfl, by decide +kernel, rfl, by decide +kernel, by decide +kernel⟩
theorem fd_l_rows_right {sp : DSp} (T : Txt P w K mg base c) (D : DnL K mg base "_law_rows_right" "_law_rows_right" s_l_rows_right ["pen"]) {sp_dot : DSp} (F_dot : Fd P w K mg base 3 "dot" ["row", "other"] sp_dot) {sp_l_draw : DSp} (F_l_draw : Fd P w K mg base 1 "_law_draw" ["pen", "many"] sp_l_draw) {sp_l_is : DSp} (F_l_is : Fd P w K mg base 2 "_law_is" ["told", "due"] sp_l_is) {sp_l_dot : DSp} (F_l_dot : Fd P w K mg base 3 "_law_dot" ["row", "other"] sp_l_dot) {sp_l_is_list : DSp} (F_l_is_list : Fd P w K mg base 1 "_law_is_list" ["value"] sp_l_is_list) {sp_l_is_any_row : DSp} (F_l_is_any_row : Fd P w K mg base 3 "_law_is_any_row" ["value", "many"] sp_l_is_any_row) {sp_l_size : DSp} (F_l_size : Fd P w K mg base 3 "_law_size" ["pen"] sp_l_size) {sp_l_row : DSp} (F_l_row : Fd P w K mg base 4 "_law_row" ["pen", "many", "size"] sp_l_row) {sp_l_bent_row : DSp} (F_l_bent_row : Fd P w K mg base 4 "_law_bent_row" ["pen", "row"] sp_l_bent_row) {sp_l_fault : LSp} (F_l_fault : FdL P w K mg base 3 "_law_fault" "call" sp_l_fault) (len : ∀ ds M Q E, sp ds M Q E → ds.length = (["pen"] : List Str).length)
    (pure : ∀ ds M Q E, sp ds M Q E → b_l_rows_right c sp_dot sp_l_draw sp_l_is sp_l_dot sp_l_is_list sp_l_is_any_row sp_l_size sp_l_row sp_l_bent_row sp_l_fault (fun C fs _ M' => E C fs M') { nx := fun _ M' => Q .non M', rt := Q } (dstart ["pen", "many", "row", "other", "bent", "odd"] ds) M) : Fd P w K mg base 7 "_law_rows_right" ["pen"] sp := by
  exact D.ok fun f fd cc TT F hcc tb htq => fnD_ofW F sc_l_rows_right len (b_l_rows_right c sp_dot sp_l_draw sp_l_is sp_l_dot sp_l_is_list sp_l_is_any_row sp_l_size sp_l_row sp_l_bent_row sp_l_fault) (fun cdv hcd A outer s H E G0 Wd hr tk hp => by
    have ecd := hcd.symm.trans hcc
    subst ecd
    have hu := hr.room.units
    have hu1 : (A.deeper (envOfC "_law_rows_right" (defScope s_l_rows_right) s.heap.objs.size f (.ref cc))).units + 1 < cLine := by omega
    have hg0 := hr.gd
    have hall : ∀ C ∈ allC c 18, ∃ u f, Err K C u f := fun C h => ⟨_, _, T.err C h⟩
    exact (ds_cons (ds_set (i := 1) sc_l_rows_right.nd rfl (by first | exact .inl rfl | exact .inr rfl) (de_callF F_l_draw (hr.mono (by decide)) (by rfl) tk (da_cons (dv 0) (da_cons de_int da_nil))))
    (ds_cons (ds_par (i := 2) (j := 3) rfl sc_l_rows_right.nd rfl rfl (by decide) rfl rfl (da_cons (de_callF F_l_row (hr.mono (by decide)) (by rfl) tk (da_cons (dv 0) (da_cons (dv 1) (da_cons (de_callF F_l_size (hr.mono (by decide)) (by rfl) tk (da_cons (dv 0) da_nil)) da_nil)))) (da_cons (de_callF F_l_row (hr.mono (by decide)) (by rfl) tk (da_cons (dv 0) (da_cons (dv 1) (da_cons (de_callF F_l_size (hr.mono (by decide)) (by rfl) tk (da_cons (dv 0) da_nil)) da_nil)))) da_nil)) rfl)
    (ds_cons (ds_if (dt_not (dt_val (de_callF F_l_is (hr.mono (by decide)) (by rfl) tk (da_cons (de_callF F_dot (hr.mono (by decide)) (by rfl) tk (da_cons (de_callTy list_ok (by rfl) T.b_list (by decide +kernel) (da_cons (dv 2) da_nil)) (da_cons (dv 3) da_nil))) (da_cons (de_callF F_l_dot (hr.mono (by decide)) (by rfl) tk (da_cons (dv 2) (da_cons (dv 3) da_nil))) da_nil))))) (ds_one (ds_ret de_bl)) ds_nil)
    (ds_cons (ds_asg (de_tup (da_cons (de_callF F_l_bent_row (hr.mono (by decide)) (by rfl) tk (da_cons (dv 0) (da_cons (dv 2) da_nil))) (da_cons (de_callF F_l_bent_row (hr.mono (by decide)) (by rfl) tk (da_cons (dv 0) (da_cons (dv 3) da_nil))) da_nil))) (dg_tup rfl rfl (dgs_cons (dg_name (i := 4) sc_l_rows_right.nd rfl (by first | exact .inl rfl | exact .inr rfl)) (dgs_cons (dg_name (i := 5) sc_l_rows_right.nd rfl (by first | exact .inl rfl | exact .inr rfl)) dgs_nil))))
    (ds_cons (ds_if (PW.pt (dw_or (dt_not (dt_val (de_callF F_l_is_list (hr.mono (by decide)) (by rfl) tk (da_cons (dv 4) da_nil)))) (dw_or1 (dt_not (dt_val (de_callF F_l_is_any_row (hr.mono (by decide)) (by rfl) tk (da_cons (dv 4) (da_cons (de_callB len_ok (by rfl) T.b_len (by decide +kernel) (da_cons (dv 4) da_nil)) da_nil)))))))) (ds_one (ds_ret (de_cmp (eq_ok hu) (by exact de_lamF F_l_fault (hr.mono (by decide)) (j := 4) (hr.mono (by decide)) (by rfl) tk tb (by rfl) (by rfl) htq (by exact LamX.lamS_by (sc := defScope s_l_rows_right) (by decide +kernel)) (by rfl) (fun _ _ _ _ _ => by rfl) (fun A outer s H E f c' G0 Wd hr3 tk => by
      have hu := hr3.room.units
      have hg0 := hr3.gd
      exact (de_callF F_dot (hr3.mono (by decide)) (by rfl) tk (da_cons (dv 4) (da_cons (dv 5) da_nil))))) (de_tup (da_cons de_str (da_cons de_str (da_cons (de_callB (repr_ok hg0 hu) (by rfl) T.b_repr (by decide +kernel) (da_cons (dv 4) da_nil)) da_nil)))) rfl))) ds_nil)
    (ds_cons (ds_if (PW.pt (dw_or (dt_not (dt_val (de_callF F_l_is_list (hr.mono (by decide)) (by rfl) tk (da_cons (dv 5) da_nil)))) (dw_or1 (dt_not (dt_val (de_callF F_l_is_any_row (hr.mono (by decide)) (by rfl) tk (da_cons (dv 5) (da_cons (de_callB len_ok (by rfl) T.b_len (by decide +kernel) (da_cons (dv 5) da_nil)) da_nil)))))))) (ds_one (ds_ret (de_cmp (eq_ok hu) (by exact de_lamF F_l_fault (hr.mono (by decide)) (j := 4) (hr.mono (by decide)) (by rfl) tk tb (by rfl) (by rfl) htq (by exact LamX.lamS_by (sc := defScope s_l_rows_right) (by decide +kernel)) (by rfl) (fun _ _ _ _ _ => by rfl) (fun A outer s H E f c' G0 Wd hr3 tk => by
      have hu := hr3.room.units
      have hg0 := hr3.gd
      exact (de_callF F_dot (hr3.mono (by decide)) (by rfl) tk (da_cons (dv 4) (da_cons (dv 5) da_nil))))) (de_tup (da_cons de_str (da_cons de_str (da_cons (de_callB (repr_ok hg0 hu) (by rfl) T.b_repr (by decide +kernel) (da_cons (dv 5) da_nil)) da_nil)))) rfl))) ds_nil)
    (ds_one (ds_ret (de_cmp (eq_ok hu) (by exact de_lamF F_l_fault (hr.mono (by decide)) (j := 4) (hr.mono (by decide)) (by rfl) tk tb (by rfl) (by rfl) htq (by exact LamX.lamS_by (sc := defScope s_l_rows_right) (by decide +kernel)) (by rfl) (fun _ _ _ _ _ => by rfl) (fun A outer s H E f c' G0 Wd hr3 tk => by
      have hu := hr3.room.units
      have hg0 := hr3.gd
      exact (de_callF F_dot (hr3.mono (by decide)) (by rfl) tk (da_cons (dv 4) (da_cons (dv 5) da_nil))))) (de_ife (dt_cmp (ne_ok hu) (de_callB len_ok (by rfl) T.b_len (by decide +kernel) (da_cons (dv 4) da_nil)) (de_callB len_ok (by rfl) T.b_len (by decide +kernel) (da_cons (dv 5) da_nil)) rfl) (de_tup (da_cons de_str (da_cons de_str da_nil))) de_non) rfl)))))))))) (pure)
abbrev s_law : Stmt := top 75
theorem sc_law : FnScope ["script", "pen", "lap", "one", "other"] ["script"] (defScope s_law) := ⟨rfl, rfl, rfl, by decide +kernel, rfl, by decide +kernel, by decide +kernel⟩
theorem run_law {sp : DSp} (T : Txt P w K mg base c) {sp_l_pen : DSp} (F_l_pen : Fd P w K mg base 1 "_law_pen" ["script"] sp_l_pen) {sp_l_pick : DSp} (F_l_pick : Fd P w K mg base 2 "_law_pick" ["pen", "some"] sp_l_pick) {sp_l_number : DSp} (F_l_number : Fd P w K mg base 3 "_law_number" ["pen", "size"] sp_l_number) {sp_l_size : DSp} (F_l_size : Fd P w K mg base 3 "_law_size" ["pen"] sp_l_size) {sp_l_odd : DSp} (F_l_odd : Fd P w K mg base 3 "_law_odd" ["pen"] sp_l_odd) {sp_l_made_right : DSp} (F_l_made_right : Fd P w K mg base 6 "_law_made_right" ["pen"] sp_l_made_right) {sp_l_reckoned_right : DSp} (F_l_reckoned_right : Fd P w K mg base 7 "_law_reckoned_right" ["one", "other"] sp_l_reckoned_right) {sp_l_refused_right : DSp} (F_l_refused_right : Fd P w K mg base 7 "_law_refused_right" ["one", "odd"] sp_l_refused_right) {sp_l_rows_right : DSp} (F_l_rows_right : Fd P w K mg base 7 "_law_rows_right" ["pen"] sp_l_rows_right) (len : ∀ ds M Q E, sp ds M Q E → ds.length = (["script"] : List Str).length)
    (pure : ∀ ds M Q E, sp ds M Q E → b_law c sp_l_pen sp_l_pick sp_l_number sp_l_size sp_l_odd sp_l_made_right sp_l_reckoned_right sp_l_refused_right sp_l_rows_right (fun C fs _ M' => E C fs M') { nx := fun _ M' => Q .non M', rt := Q } (dstart ["script", "pen", "lap", "one", "other"] ds) M) {f : Addr} {fd : FuncData} (F : Fun K "law" "law" s_law f fd) : FnD P w K mg base 8 f fd ["script"] sp :=
  fnD_of F sc_law len (b_law c sp_l_pen sp_l_pick sp_l_number sp_l_size sp_l_odd sp_l_made_right sp_l_reckoned_right sp_l_refused_right sp_l_rows_right) (fun cdv A outer s H E G0 Wd hr tk hp => by
    have hu := hr.room.units
    have hu1 : (A.deeper (envOfC "law" (defScope s_law) s.heap.objs.size f cdv)).units + 1 < cLine := by omega
    have hg0 := hr.gd
    have hall : ∀ C ∈ allC c 18, ∃ u f, Err K C u f := fun C h => ⟨_, _, T.err C h⟩
    exact (ds_cons (ds_set (i := 1) sc_law.nd rfl (by first | exact .inl rfl | exact .inr rfl) (de_callF F_l_pen (hr.mono (by decide)) (by rfl) tk (da_cons (dv 0) da_nil)))
    (ds_cons (ds_for hp rfl (di_rng1 (by rfl) T.b_range (da_cons de_int da_nil)) (dg_name (i := 2) sc_law.nd rfl (by first | exact .inl rfl | exact .inr rfl)) (ds_cons (ds_par (i := 3) (j := 4) rfl sc_law.nd rfl rfl (by decide) rfl rfl (da_cons (de_callF F_l_number (hr.mono (by decide)) (by rfl) tk (da_cons (dv 1) (da_cons (de_callF F_l_size (hr.mono (by decide)) (by rfl) tk (da_cons (dv 1) da_nil)) da_nil))) (da_cons (de_callF F_l_number (hr.mono (by decide)) (by rfl) tk (da_cons (dv 1) (da_cons (de_callF F_l_size (hr.mono (by decide)) (by rfl) tk (da_cons (dv 1) da_nil)) da_nil))) da_nil)) rfl)
    (ds_cons (ds_if (PW.pt (dw_or (dt_not (dt_val (de_callF F_l_made_right (hr.mono (by decide)) (by rfl) tk (da_cons (dv 1) da_nil)))) (dw_or1 (dt_not (dt_val (de_callF F_l_reckoned_right (hr.mono (by decide)) (by rfl) tk (da_cons (dv 3) (da_cons (de_callF F_l_pick (hr.mono (by decide)) (by rfl) tk (da_cons (dv 1) (da_cons (de_lst (da_cons (dv 4) (da_cons de_int (da_cons (dv 3) da_nil)))) da_nil))) da_nil)))))))) (ds_one (ds_ret de_bl)) ds_nil)
    (ds_one (ds_if (PW.pt (dw_or (dt_not (dt_val (de_callF F_l_refused_right (hr.mono (by decide)) (by rfl) tk (da_cons (dv 3) (da_cons (de_callF F_l_odd (hr.mono (by decide)) (by rfl) tk (da_cons (dv 1) da_nil)) da_nil))))) (dw_or1 (dt_not (dt_val (de_callF F_l_rows_right (hr.mono (by decide)) (by rfl) tk (da_cons (dv 1) da_nil))))))) (ds_one (ds_ret de_bl)) ds_nil)))))
    (ds_one (ds_ret de_bl))))) (pure)
end
end K02
set_option maxHeartbeats 4000000
set_option pp.maxSteps 300
namespace K02
open PySem PySem.Spec PyProof.Rows L2 Dq
open PySem.W (findIn typeIn keepIn)
/-! ### numbers -/
def gI (t b : Int) : Int := (Nat.gcd t.natAbs b.natAbs : Nat)
def byOf (t b : Int) : Int := if 0 < b then gI t b else -gI t b
def lowD (t b : Int) : D := if b = byOf t b then .int (t.fdiv (byOf t b)) else .tup [.int (t.fdiv (byOf t b)), .int (b.fdiv (byOf t b))]
def ratD (p q : Int) : D := if q = 1 then .int p else .tup [.int p, .int q]
def Cop (p q : Int) : Prop := 0 < q ∧ Nat.gcd p.natAbs q.natAbs = 1
theorem gI_pos {t b : Int} (hb : b ≠ 0) : 0 < gI t b := by
  unfold gI
  exact Int.natCast_pos.mpr (Nat.gcd_pos_of_pos_right _ (Int.natAbs_pos.mpr hb))
theorem gI_dvd_left {t b : Int} : gI t b ∣ t := Int.ofNat_dvd_left.mpr (Nat.gcd_dvd_left _ _)
theorem gI_dvd_right {t b : Int} : gI t b ∣ b := Int.ofNat_dvd_left.mpr (Nat.gcd_dvd_right _ _)
theorem byOf_abs {t b : Int} : (byOf t b).natAbs = Nat.gcd t.natAbs b.natAbs := by
  unfold byOf gI
  split <;> simp
theorem byOf_ne {t b : Int} (hb : b ≠ 0) : byOf t b ≠ 0 := by
  have := gI_pos (t := t) hb
  unfold byOf
  split <;> omega
theorem low_char {t b : Int} (hb : b ≠ 0) : ∃ p q, Cop p q ∧ p * b = t * q ∧ lowD t b = ratD p q ∧ p.natAbs ≤ t.natAbs ∧ q.natAbs ≤ b.natAbs ∧ t = byOf t b * p ∧ b = byOf t b * q := by
  have hy := byOf_ne (t := t) hb
  have d1 : byOf t b ∣ t := by unfold byOf; split; exact gI_dvd_left; exact (Int.neg_dvd).mpr gI_dvd_left
  have d2 : byOf t b ∣ b := by unfold byOf; split; exact gI_dvd_right; exact (Int.neg_dvd).mpr gI_dvd_right
  obtain ⟨p, ep⟩ := d1
  obtain ⟨q, eq⟩ := d2
  have hg := byOf_abs (t := t) (b := b)
  have e1 : t.fdiv (byOf t b) = p := by
    have : (byOf t b * p).fdiv (byOf t b) = p := Int.mul_fdiv_cancel_left _ hy
    rw [← ep] at this
    exact this
  have e2 : b.fdiv (byOf t b) = q := by
    have : (byOf t b * q).fdiv (byOf t b) = q := Int.mul_fdiv_cancel_left _ hy
    rw [← eq] at this
    exact this
  have n1 : t.natAbs = (byOf t b).natAbs * p.natAbs := by rw [← Int.natAbs_mul, ← ep]
  have n2 : b.natAbs = (byOf t b).natAbs * q.natAbs := by rw [← Int.natAbs_mul, ← eq]
  have gp : 0 < (byOf t b).natAbs := Int.natAbs_pos.mpr hy
  have qp : 0 < q := by
    rcases Int.lt_trichotomy q 0 with h | h | h
    · exfalso
      have hgp := gI_pos (t := t) hb
      by_cases c : 0 < b
      · have e : byOf t b = gI t b := if_pos c
        have : byOf t b * q < 0 := Int.mul_neg_of_pos_of_neg (by omega) h
        omega
      · have e : byOf t b = -gI t b := if_neg c
        have : 0 < byOf t b * q := Int.mul_pos_of_neg_of_neg (by omega) h
        omega
    · exfalso; rw [h] at eq; simp at eq; exact hb eq
    · exact h
  have cop : Nat.gcd p.natAbs q.natAbs = 1 := by
    have h : Nat.gcd t.natAbs b.natAbs = (byOf t b).natAbs * Nat.gcd p.natAbs q.natAbs := by
      conv => lhs; rw [n1, n2]
      exact Nat.gcd_mul_left _ _ _
    rw [← hg] at h
    exact (Nat.eq_of_mul_eq_mul_left gp (by rw [Nat.mul_one]; exact h)).symm
  refine ⟨p, q, ⟨qp, cop⟩, ?_, ?_, ?_, ?_, ep, eq⟩
  · conv => lhs; rw [eq]
    conv => rhs; rw [ep]
    rw [← Int.mul_assoc, Int.mul_comm p (byOf t b)]
  · unfold lowD ratD
    rw [e1, e2]
    by_cases c : q = 1
    · rw [if_pos c, if_pos (by rw [c, Int.mul_one] at eq; exact eq)]
    · rw [if_neg c, if_neg fun z => c (by
        have h2 : byOf t b * q = byOf t b * 1 := by rw [← eq, Int.mul_one]; exact z
        exact Int.eq_of_mul_eq_mul_left hy h2)]
  · rw [n1]; exact Nat.le_mul_of_pos_left _ gp
  · rw [n2]; exact Nat.le_mul_of_pos_left _ gp
theorem cop_unique {p q r s : Int} (h1 : Cop p q) (h2 : Cop r s) (e : p * s = r * q) : p = r ∧ q = s := by
  obtain ⟨q0, c1⟩ := h1
  obtain ⟨s0, c2⟩ := h2
  have en : p.natAbs * s.natAbs = r.natAbs * q.natAbs := by rw [← Int.natAbs_mul, ← Int.natAbs_mul, e]
  have d1 : q.natAbs ∣ s.natAbs := (Nat.Coprime.dvd_of_dvd_mul_left (m := p.natAbs) (Nat.Coprime.symm c1) ⟨r.natAbs, by rw [en, Nat.mul_comm]⟩)
  have d2 : s.natAbs ∣ q.natAbs := (Nat.Coprime.dvd_of_dvd_mul_left (m := r.natAbs) (Nat.Coprime.symm c2) ⟨p.natAbs, by rw [← en, Nat.mul_comm]⟩)
  have e2 := Nat.dvd_antisymm d1 d2
  have e3 : q = s := by omega
  subst e3
  exact ⟨Int.eq_of_mul_eq_mul_right (by omega) e, rfl⟩
theorem low_eq {t b u d : Int} (hb : b ≠ 0) (hd : d ≠ 0) (e : t * d = u * b) : lowD t b = lowD u d := by
  obtain ⟨p, q, c1, e1, l1, _⟩ := low_char (t := t) hb
  obtain ⟨r, s, c2, e2, l2, _⟩ := low_char (t := u) hd
  have key : p * s = r * q := by
    have hbd : b * d ≠ 0 := Int.mul_ne_zero hb hd
    refine Int.eq_of_mul_eq_mul_right hbd ?_
    calc p * s * (b * d) = (p * b) * (s * d) := by ac_rfl
      _ = (t * q) * (s * d) := by rw [e1]
      _ = (t * d) * (q * s) := by ac_rfl
      _ = (u * b) * (q * s) := by rw [e]
      _ = (u * s) * (q * b) := by ac_rfl
      _ = (r * d) * (q * b) := by rw [e2]
      _ = r * q * (b * d) := by ac_rfl
  obtain ⟨x, y⟩ := cop_unique c1 c2 key
  rw [l1, l2, x, y]
theorem low_mul {t b k : Int} (hb : b ≠ 0) (hk : k ≠ 0) : lowD (t * k) (b * k) = lowD t b := low_eq (Int.mul_ne_zero hb hk) hb (by ac_rfl)
theorem low_one (t : Int) : lowD t 1 = .int t := by
  have e : byOf t 1 = 1 := by
    unfold byOf gI
    simp
  unfold lowD
  rw [e, if_pos rfl, Int.fdiv_one]
/-- sizes -/
def Sz (k : Nat) (i : Int) : Prop := i.natAbs < 2 ^ k
theorem Sz.mono {j k : Nat} {i : Int} (h : Sz j i) (l : j ≤ k) : Sz k i := Nat.lt_of_lt_of_le h (Nat.pow_le_pow_right (by decide) l)
theorem Sz.mul {j k : Nat} {a b : Int} (h : Sz j a) (g : Sz k b) : Sz (j + k) (a * b) := by
  unfold Sz at *
  rw [Int.natAbs_mul, Nat.pow_add]
  exact Nat.mul_lt_mul'' h g
theorem Sz.add {k : Nat} {a b : Int} (h : Sz k a) (g : Sz k b) : Sz (k + 1) (a + b) := by
  unfold Sz at *
  rw [Nat.pow_succ]
  omega
theorem Sz.neg {k : Nat} {a : Int} (h : Sz k a) : Sz k (-a) := by unfold Sz at *; omega
theorem Sz.log {k : Nat} {a : Int} (h : Sz k a) : a.natAbs.log2 ≤ k := by
  by_cases h0 : a.natAbs = 0
  · rw [h0]; simp
  · exact Nat.le_of_lt ((Nat.log2_lt h0).mpr h)
theorem Sz.of_le {k : Nat} {a b : Int} (h : Sz k b) (l : a.natAbs ≤ b.natAbs) : Sz k a := Nat.lt_of_le_of_lt l h
theorem Sz.cm {j k : Nat} {a b : Int} (h : Sz j a) (g : Sz k b) (l : j + k < 1000000 := by omega) : CMulW a b := by
  have := h.log
  have := g.log
  unfold CMulW
  omega
theorem Sz.cd {k : Nat} {a b : Int} (h : Sz k b) (hb : b ≠ 0) (l : k < 9000 := by omega) : CDivA a b := ⟨hb, Nat.lt_of_le_of_lt h.log l⟩
theorem sz_of {k : Nat} {a : Int} (h1 : -(2 ^ k) < a) (h2 : a < 2 ^ k) : Sz k a := by
  unfold Sz
  have : ((2 ^ k : Nat) : Int) = 2 ^ k := by push_cast; rfl
  omega
theorem ratD_one (p : Int) : ratD p 1 = .int p := if_pos rfl
theorem cop_one (p : Int) : Cop p 1 := ⟨by decide, by simp⟩
/-- a ratio with its size -/
def Nm (k : Nat) (d : D) : Prop := ∃ p q, d = ratD p q ∧ Cop p q ∧ Sz k p ∧ Sz k q
theorem Nm.mono {j k : Nat} {d : D} (h : Nm j d) (l : j ≤ k) : Nm k d := let ⟨p, q, e, c, s, t⟩ := h; ⟨p, q, e, c, s.mono l, t.mono l⟩
theorem nm_low {k : Nat} {t b : Int} (hb : b ≠ 0) (h : Sz k t) (g : Sz k b) : Nm k (lowD t b) := by
  obtain ⟨p, q, c, _, l, s1, s2, _⟩ := low_char (t := t) hb
  exact ⟨p, q, l, c, h.of_le s1, g.of_le s2⟩
theorem nm_int {k : Nat} {i : Int} (h : Sz k i) (hk : k ≠ 0) : Nm k (.int i) := ⟨i, 1, (ratD_one i).symm, cop_one i, h, by unfold Sz; exact Nat.one_lt_two_pow hk⟩
/-! ### what is a ratio -/
def isI : D → Bool | .int _ => true | _ => false
def isR : D → Bool | .int _ => true | .tup [.int a, .int b] => decide (1 < b) && decide (gI a b = 1) | _ => false
theorem isR_rat {p q : Int} (h : Cop p q) : isR (ratD p q) = true := by
  unfold ratD
  split
  · rfl
  · obtain ⟨h1, h2⟩ := h
    show (decide (1 < q) && decide (gI p q = 1)) = true
    rw [decide_eq_true (by omega), decide_eq_true (by unfold gI; rw [h2]; rfl)]
    rfl
theorem rat_of {d : D} (h : isR d = true) : ∃ p q, d = ratD p q ∧ Cop p q := by
  unfold isR at h
  split at h
  · exact ⟨_, 1, (ratD_one _).symm, cop_one _⟩
  · rename_i a b
    simp only [Bool.and_eq_true, decide_eq_true_eq] at h
    refine ⟨a, b, (if_neg (by omega)).symm, by omega, ?_⟩
    have := h.2
    unfold gI at this
    exact_mod_cast this
  · cases h
def Ty (d : D) : Prop := (tysOf d).isSome = true
/-- known kinds, one level down in pairs -/
def Kn (d : D) : Prop := Ty d ∧ ∀ a b, d = .tup [a, b] → Ty a ∧ Ty b
theorem kn_rat {p q : Int} : Kn (ratD p q) := by
  unfold ratD
  split
  · exact ⟨rfl, fun a b e => nomatch e⟩
  · refine ⟨rfl, fun a b e => ?_⟩
    simp only [D.tup.injEq, List.cons.injEq] at e
    obtain ⟨rfl, rfl, _⟩ := e
    exact ⟨rfl, rfl⟩

end K02
set_option maxHeartbeats 4000000
set_option pp.maxSteps 300
namespace K02
open PySem PySem.Spec PyProof.Rows L2 Dq
open PySem.W (findIn typeIn keepIn)
/-! ### promises and proofs: numbers -/
theorem szl {n : Nat} (h : n ≤ 1000) : n ≤ sizeLine := by rw [sizeLine_eq]; omega
/-- a call that looks at kinds -/
theorem is1 {d : D} {c : String} {b : Bool} {M : Mm} {Q : DK} (h : isTy d c = some b) (k : Q (.bl b) M) : cIs1 [d, .ty c] M Q := by
  unfold cIs1
  simp only [h]
  exact k
def isT : D → Bool | .tup _ => true | _ => false
theorem isTy_tup {d : D} (h : Ty d) : isTy d "tuple" = some (isT d) := by cases d <;> first | rfl | cases h
theorem isTy_ratI {p q : Int} : isTy (ratD p q) "int" = some (decide (q = 1)) := by
  unfold ratD
  by_cases h : q = 1
  · rw [if_pos h, decide_eq_true h]; rfl
  · rw [if_neg h, decide_eq_false h]; rfl
def spIsInt : DSp := fun ds M Q _ => ∃ d, ds = [d] ∧ Ty d ∧ Q (.bl (isI d)) M
def spIsRat : DSp := fun ds M Q _ => ∃ d, ds = [d] ∧ Kn d ∧ Q (.bl (isR d)) M
def spPair : DSp := fun ds M Q _ => ∃ p q, ds = [ratD p q] ∧ Q (.tup [.int p, .int q]) M
def spLow : DSp := fun ds M Q _ => ∃ t b k, ds = [.int t, .int b] ∧ b ≠ 0 ∧ Sz k b ∧ k < 9000 ∧ Q (lowD t b) M
def spDiv : DSp := fun ds M Q _ => ∃ a b, ds = [.int a, .int b] ∧ Q (.int (gI a b)) M
def spOpp : DSp := fun ds M Q _ => ∃ p q, ds = [ratD p q] ∧ Q (ratD (-p) q) M
/-- two numbers, not looked at -/
def spNum (C : Int → Int → Prop) (f : Int → Int → Int → Int → D) : DSp := fun ds M Q _ => ∃ p q r s k, ds = [ratD p q, ratD r s] ∧ 0 < q ∧ 0 < s ∧ Sz k p ∧ Sz k q ∧ Sz k r ∧ Sz k s ∧ k ≤ 4000 ∧ C p r ∧ Q (f p q r s) M
def fPlus (p q r s : Int) : D := lowD (p * s + r * q) (q * s)
def fTimes (p q r s : Int) : D := lowD (p * r) (q * s)
def fOver (p q r s : Int) : D := lowD (p * s) (q * r)
def fMinus (p q r s : Int) : D := fPlus p q (-r) s
def fLess (p q r s : Int) : D := .bl (decide (p * s < r * q))
def sgn (p : Int) : Int := if 0 < p then 1 else if p < 0 then -1 else 0
def spSgn : DSp := fun ds M Q _ => ∃ p q, ds = [ratD p q] ∧ Q (.int (sgn p)) M
abbrev noC : Int → Int → Prop := fun _ _ => True
section
variable {c : Nat → Addr}
theorem pure_is_integer : ∀ ds M Q E, spIsInt ds M Q E → b_is_integer c (fun C fs _ M' => E C fs M') { nx := fun _ M' => Q .non M', rt := Q } (dstart ["value"] ds) M := by
  rintro ds M Q E ⟨d, rfl, hd, h⟩
  cases d <;> first | exact h | cases hd
theorem pure_is_whole : ∀ ds M Q E, spIsInt ds M Q E → b_l_is_whole c (fun C fs _ M' => E C fs M') { nx := fun _ M' => Q .non M', rt := Q } (dstart ["value"] ds) M := by
  rintro ds M Q E ⟨d, rfl, hd, h⟩
  cases d <;> first | exact h | cases hd
theorem pure_pair : ∀ ds M Q E, spPair ds M Q E → b_pair c (fun C fs _ M' => E C fs M') { nx := fun _ M' => Q .non M', rt := Q } (dstart ["number"] ds) M := by
  rintro ds M Q E ⟨p, q, rfl, h⟩
  unfold ratD
  by_cases e : q = 1
  · subst e
    exact ⟨szl (by simp), h⟩
  · rw [if_neg e]
    exact h
theorem pure_l_pair : ∀ ds M Q E, spPair ds M Q E → b_l_pair c (fun C fs _ M' => E C fs M') { nx := fun _ M' => Q .non M', rt := Q } (dstart ["number"] ds) M := pure_pair (c := c)
theorem pure_opposite : ∀ ds M Q E, spOpp ds M Q E → b_opposite c (fun C fs _ M' => E C fs M') { nx := fun _ M' => Q .non M', rt := Q } (dstart ["number"] ds) M := by
  rintro ds M Q E ⟨p, q, rfl, h⟩
  unfold ratD at h ⊢
  by_cases e : q = 1
  · subst e
    exact h
  · rw [if_neg e] at h ⊢
    exact ⟨szl (by simp), h⟩
theorem pure_l_opposite : ∀ ds M Q E, spOpp ds M Q E → b_l_opposite c (fun C fs _ M' => E C fs M') { nx := fun _ M' => Q .non M', rt := Q } (dstart ["number"] ds) M := pure_opposite (c := c)
theorem div_sz {t b : Int} {k : Nat} (hb : b ≠ 0) (h : Sz k b) (l : k < 9000) : CDivA 0 (byOf t b) := by
  refine Sz.cd (k := k) (h.of_le ?_) (byOf_ne hb) l
  rw [byOf_abs]
  exact Nat.gcd_le_right _ (Int.natAbs_pos.mpr hb)
theorem low_end {t b : Int} {k : Nat} {M : Mm} {Q : DK} (hb : b ≠ 0) (hs : Sz k b) (hk : k < 9000) (h : Q (lowD t b) M) :
    if decide (b = byOf t b) = true then CDivA t (byOf t b) ∧ Q (.int (t.fdiv (byOf t b))) M else CDivA t (byOf t b) ∧ CDivA b (byOf t b) ∧ 2 ≤ sizeLine ∧ Q (.tup [.int (t.fdiv (byOf t b)), .int (b.fdiv (byOf t b))]) M := by
  unfold lowD at h
  have d := div_sz (t := t) hb hs hk
  by_cases e : b = byOf t b
  · rw [decide_eq_true e, if_pos rfl]
    rw [if_pos e] at h
    exact ⟨d, h⟩
  · rw [decide_eq_false e, if_neg (fun z => nomatch z)]
    rw [if_neg e] at h
    exact ⟨d, d, szl (by decide), h⟩
theorem pure_in_lowest : ∀ ds M Q E, spLow ds M Q E → b_in_lowest c (fun C fs _ M' => E C fs M') { nx := fun _ M' => Q .non M', rt := Q } (dstart ["top", "bottom", "by"] ds) M := by
  rintro ds M Q E ⟨t, b, k, rfl, hb, hs, hk, h⟩
  have fin := low_end (M := M) hb hs hk h
  unfold b_in_lowest
  simp only [dstart, List.map_cons, List.map_nil, List.cons_append, List.nil_append, List.length_cons, List.length_nil, List.replicate, Nat.reduceAdd, Nat.reduceSub, dSeq, dAsg, dC, dgName, dVar, slot, List.set_cons_zero, List.set_cons_succ, List.getElem?_cons_zero, List.getElem?_cons_succ, dIf, dTest, dBin, dUn, rNeg, dCallF, dCall, dCons, dNil, dRet, dNext, dTup, dLst, rI2, rEq', rNe', dIfE, dNot, dAnd, dOr, dAndV, dOrV, dDrop, dRaise, dPar, List.zip_cons_cons, List.zip_nil_left, List.foldl_cons, List.foldl_nil, dgTup, dgCons, dgNil, true_and, if_true, if_false, Bool.false_eq_true, Bool.not_true, Bool.not_false, decide_true, decide_false]
  simp only [cGcd]
  by_cases e : 0 < b
  · have ey : byOf t b = gI t b := if_pos e
    rw [ey] at fin
    rw [decide_eq_true e, if_pos rfl]
    exact fin
  · have ey : byOf t b = -gI t b := if_neg e
    rw [ey] at fin
    rw [decide_eq_false e, if_neg (fun z => nomatch z)]
    exact fin
theorem emod_abs {a b : Int} (ha : 0 ≤ a) (hb : 0 < b) : Nat.gcd b.natAbs (a % b).natAbs = Nat.gcd a.natAbs b.natAbs := by
  have e : (a % b).natAbs = a.natAbs % b.natAbs := by
    obtain ⟨m, rfl⟩ := Int.eq_ofNat_of_zero_le ha
    obtain ⟨n, rfl⟩ := Int.eq_ofNat_of_zero_le (Int.le_of_lt hb)
    rfl
  rw [e, Nat.gcd_comm b.natAbs, ← Nat.gcd_rec, Nat.gcd_comm]
theorem pure_l_divisor : ∀ ds M Q E, spDiv ds M Q E → b_l_divisor c (fun C fs _ M' => E C fs M') { nx := fun _ M' => Q .non M', rt := Q } (dstart ["one", "other"] ds) M := by
  rintro ds M Q E ⟨a, b, rfl, h⟩
  have ab : ∀ x : Int, (if x < 0 then -x else x) = (x.natAbs : Int) := fun x => by split <;> omega
  unfold b_l_divisor
  simp only [dstart, List.map_cons, List.map_nil, List.cons_append, List.nil_append, List.length_cons, List.length_nil, List.replicate, Nat.reduceAdd, Nat.reduceSub, dSeq, dAsg, dC, dgName, dVar, slot, List.set_cons_zero, List.set_cons_succ, List.getElem?_cons_zero, List.getElem?_cons_succ, dIf, dTest, dBin, dUn, rNeg, dCallF, dCall, dCons, dNil, dRet, dNext, dTup, dLst, rI2, rEq', rNe', dIfE, dNot, dAnd, dOr, dAndV, dOrV, dDrop, dRaise, dPar, List.zip_cons_cons, List.zip_nil_left, List.foldl_cons, List.foldl_nil, dgTup, dgCons, dgNil, true_and, if_true, if_false, Bool.false_eq_true, Bool.not_true, Bool.not_false, decide_true, decide_false]
  simp only [cAbs, ab, dWhile]
  refine ⟨fun m ρ M' => ∃ x y : Int, ρ = [some (.int x), some (.int y)] ∧ M' = M ∧ m = y.natAbs ∧ 0 ≤ x ∧ 0 ≤ y ∧ Nat.gcd x.natAbs y.natAbs = Nat.gcd a.natAbs b.natAbs, ⟨b.natAbs, _, _, rfl, rfl, by simp, by omega, by omega, by simp⟩, ?_⟩
  rintro m ρ M' ⟨x, y, rfl, rfl, rfl, hx, hy, hg⟩
  simp only [dstart, List.map_cons, List.map_nil, List.cons_append, List.nil_append, List.length_cons, List.length_nil, List.replicate, Nat.reduceAdd, Nat.reduceSub, dSeq, dAsg, dC, dgName, dVar, slot, List.set_cons_zero, List.set_cons_succ, List.getElem?_cons_zero, List.getElem?_cons_succ, dIf, dTest, dBin, dUn, rNeg, dCallF, dCall, dCons, dNil, dRet, dNext, dTup, dLst, rI2, rEq', rNe', dIfE, dNot, dAnd, dOr, dAndV, dOrV, dDrop, dRaise, dPar, List.zip_cons_cons, List.zip_nil_left, List.foldl_cons, List.foldl_nil, dgTup, dgCons, dgNil, true_and, if_true, if_false, Bool.false_eq_true, Bool.not_true, Bool.not_false, decide_true, decide_false]
  simp only [cInt]
  by_cases e : y = 0
  · rw [decide_eq_true e]
    show Q (.int x) M'
    have ex : x = gI a b := by
      subst e
      unfold gI
      rw [← hg]
      simp
      omega
    rw [ex]
    exact h
  · rw [decide_eq_false e]
    have yp : 0 < y := by omega
    refine ⟨_, fun ρ' M' z => z, yp, ?_⟩
    refine ⟨_, ?_, _, _, rfl, rfl, rfl, hy, Int.emod_nonneg _ e, ?_⟩
    · have := Int.emod_lt_of_pos x yp
      have := Int.emod_nonneg x e
      omega
    · rw [emod_abs hx yp, hg]
theorem pure_l_low : ∀ ds M Q E, spLow ds M Q E → b_l_low c spDiv (fun C fs _ M' => E C fs M') { nx := fun _ M' => Q .non M', rt := Q } (dstart ["top", "bottom", "by"] ds) M := by
  rintro ds M Q E ⟨t, b, k, rfl, hb, hs, hk, h⟩
  have fin := low_end (M := M) hb hs hk h
  refine ⟨t, b, rfl, ?_⟩
  by_cases e : b < 0
  · have ey : byOf t b = -gI t b := if_neg (by omega)
    rw [ey] at fin
    simp only [dstart, List.map_cons, List.map_nil, List.cons_append, List.nil_append, List.length_cons, List.length_nil, List.replicate, Nat.reduceAdd, Nat.reduceSub, dSeq, dAsg, dC, dgName, dVar, slot, List.set_cons_zero, List.set_cons_succ, List.getElem?_cons_zero, List.getElem?_cons_succ, dIf, dTest, dBin, dUn, rNeg, dCallF, dCall, dCons, dNil, dRet, dNext, dTup, dLst, rI2, rEq', rNe', dIfE, dNot, dAnd, dOr, dAndV, dOrV, dDrop, dRaise, dPar, List.zip_cons_cons, List.zip_nil_left, List.foldl_cons, List.foldl_nil, dgTup, dgCons, dgNil, true_and, if_true, if_false, Bool.false_eq_true, Bool.not_true, Bool.not_false, decide_true, decide_false]
    rw [decide_eq_true e]
    exact fin
  · have ey : byOf t b = gI t b := if_pos (by omega)
    rw [ey] at fin
    simp only [dstart, List.map_cons, List.map_nil, List.cons_append, List.nil_append, List.length_cons, List.length_nil, List.replicate, Nat.reduceAdd, Nat.reduceSub, dSeq, dAsg, dC, dgName, dVar, slot, List.set_cons_zero, List.set_cons_succ, List.getElem?_cons_zero, List.getElem?_cons_succ, dIf, dTest, dBin, dUn, rNeg, dCallF, dCall, dCons, dNil, dRet, dNext, dTup, dLst, rI2, rEq', rNe', dIfE, dNot, dAnd, dOr, dAndV, dOrV, dDrop, dRaise, dPar, List.zip_cons_cons, List.zip_nil_left, List.foldl_cons, List.foldl_nil, dgTup, dgCons, dgNil, true_and, if_true, if_false, Bool.false_eq_true, Bool.not_true, Bool.not_false, decide_true, decide_false]
    rw [decide_eq_false e]
    exact fin
end

end K02
set_option maxHeartbeats 4000000
set_option pp.maxSteps 300
namespace K02
open PySem PySem.Spec PyProof.Rows L2 Dq
open PySem.W (findIn typeIn keepIn)
/-! ### the four ways, not looked at -/
theorem ite_both {a b : Bool} {A B : Prop} : (if a = true then (if b = true then A else B) else B) = (if (a && b) = true then A else B) := by cases a <;> cases b <;> rfl
theorem is1_rat {p q : Int} {M : Mm} {Q : DK} : cIs1 [ratD p q, .ty "int"] M Q = Q (.bl (decide (q = 1))) M := by
  unfold cIs1
  simp only [isTy_ratI]
theorem both_one {q s : Int} (h : (decide (q = 1) && decide (s = 1)) = true) : q = 1 ∧ s = 1 := by simpa using h
section
variable {c : Nat → Addr}
theorem pure_added : ∀ ds M Q E, spNum noC fPlus ds M Q E → b_added c spPair spLow (fun C fs _ M' => E C fs M') { nx := fun _ M' => Q .non M', rt := Q } (dstart ["one", "other", "top", "bottom", "high", "low"] ds) M := by
  rintro ds M Q E ⟨p, q, r, s, k, rfl, hq, hs, sp, sq, sr, ss, hk, _, h⟩
  unfold b_added
  simp only [dstart, List.map_cons, List.map_nil, List.cons_append, List.nil_append, List.length_cons, List.length_nil, List.replicate, Nat.reduceAdd, Nat.reduceSub, dSeq, dAsg, dC, dgName, dVar, slot, List.set_cons_zero, List.set_cons_succ, List.getElem?_cons_zero, List.getElem?_cons_succ, dIf, dTest, dBin, dUn, rNeg, dCallF, dCall, dCons, dNil, dRet, dNext, dTup, dLst, rI2, rEq', rNe', dIfE, dNot, dAnd, dOr, dAndV, dOrV, dDrop, dRaise, dPar, List.zip_cons_cons, List.zip_nil_left, List.foldl_cons, List.foldl_nil, dgTup, dgCons, dgNil, true_and, if_true, if_false, Bool.false_eq_true, Bool.not_true, Bool.not_false, decide_true, decide_false]
  simp only [is1_rat, ite_both]
  by_cases e : (decide (q = 1) && decide (s = 1)) = true
  · rw [if_pos e]
    obtain ⟨rfl, rfl⟩ := both_one e
    unfold fPlus at h
    rw [Int.mul_one, Int.mul_one, Int.mul_one, low_one] at h
    simp only [ratD_one]
    exact h
  · rw [if_neg e]
    exact ⟨p, q, rfl, r, s, rfl, szl (by simp), rfl, rfl, rfl, rfl, sp.cm ss, sr.cm sq, sq.cm ss, _, _, k + k, rfl, Int.mul_ne_zero (by omega) (by omega), sq.mul ss, by omega, h⟩
theorem pure_multiplied : ∀ ds M Q E, spNum noC fTimes ds M Q E → b_multiplied c spPair spLow (fun C fs _ M' => E C fs M') { nx := fun _ M' => Q .non M', rt := Q } (dstart ["one", "other", "top", "bottom", "high", "low"] ds) M := by
  rintro ds M Q E ⟨p, q, r, s, k, rfl, hq, hs, sp, sq, sr, ss, hk, _, h⟩
  unfold b_multiplied
  simp only [dstart, List.map_cons, List.map_nil, List.cons_append, List.nil_append, List.length_cons, List.length_nil, List.replicate, Nat.reduceAdd, Nat.reduceSub, dSeq, dAsg, dC, dgName, dVar, slot, List.set_cons_zero, List.set_cons_succ, List.getElem?_cons_zero, List.getElem?_cons_succ, dIf, dTest, dBin, dUn, rNeg, dCallF, dCall, dCons, dNil, dRet, dNext, dTup, dLst, rI2, rEq', rNe', dIfE, dNot, dAnd, dOr, dAndV, dOrV, dDrop, dRaise, dPar, List.zip_cons_cons, List.zip_nil_left, List.foldl_cons, List.foldl_nil, dgTup, dgCons, dgNil, true_and, if_true, if_false, Bool.false_eq_true, Bool.not_true, Bool.not_false, decide_true, decide_false]
  simp only [is1_rat, ite_both]
  by_cases e : (decide (q = 1) && decide (s = 1)) = true
  · rw [if_pos e]
    obtain ⟨rfl, rfl⟩ := both_one e
    unfold fTimes at h
    rw [Int.mul_one, low_one] at h
    simp only [ratD_one]
    exact ⟨sp.cm sr, h⟩
  · rw [if_neg e]
    exact ⟨p, q, rfl, r, s, rfl, szl (by simp), rfl, rfl, rfl, rfl, sp.cm sr, sq.cm ss, _, _, k + k, rfl, Int.mul_ne_zero (by omega) (by omega), sq.mul ss, by omega, h⟩
abbrev rNz : Int → Int → Prop := fun _ r => r ≠ 0
theorem pure_divided : ∀ ds M Q E, spNum rNz fOver ds M Q E → b_divided c spPair spLow (fun C fs _ M' => E C fs M') { nx := fun _ M' => Q .non M', rt := Q } (dstart ["one", "other", "top", "bottom", "high", "low"] ds) M := by
  rintro ds M Q E ⟨p, q, r, s, k, rfl, hq, hs, sp, sq, sr, ss, hk, hr, h⟩
  unfold b_divided
  simp only [dstart, List.map_cons, List.map_nil, List.cons_append, List.nil_append, List.length_cons, List.length_nil, List.replicate, Nat.reduceAdd, Nat.reduceSub, dSeq, dAsg, dC, dgName, dVar, slot, List.set_cons_zero, List.set_cons_succ, List.getElem?_cons_zero, List.getElem?_cons_succ, dIf, dTest, dBin, dUn, rNeg, dCallF, dCall, dCons, dNil, dRet, dNext, dTup, dLst, rI2, rEq', rNe', dIfE, dNot, dAnd, dOr, dAndV, dOrV, dDrop, dRaise, dPar, List.zip_cons_cons, List.zip_nil_left, List.foldl_cons, List.foldl_nil, dgTup, dgCons, dgNil, true_and, if_true, if_false, Bool.false_eq_true, Bool.not_true, Bool.not_false, decide_true, decide_false]
  exact ⟨p, q, rfl, r, s, rfl, szl (by simp), rfl, rfl, rfl, rfl, sp.cm ss, sq.cm sr, _, _, k + k, rfl, Int.mul_ne_zero (by omega) hr, sq.mul sr, by omega, h⟩
theorem pure_is_below : ∀ ds M Q E, spNum noC fLess ds M Q E → b_is_below c spPair (fun C fs _ M' => E C fs M') { nx := fun _ M' => Q .non M', rt := Q } (dstart ["one", "other", "top", "bottom", "high", "low"] ds) M := by
  rintro ds M Q E ⟨p, q, r, s, k, rfl, hq, hs, sp, sq, sr, ss, hk, hr, h⟩
  unfold b_is_below
  simp only [dstart, List.map_cons, List.map_nil, List.cons_append, List.nil_append, List.length_cons, List.length_nil, List.replicate, Nat.reduceAdd, Nat.reduceSub, dSeq, dAsg, dC, dgName, dVar, slot, List.set_cons_zero, List.set_cons_succ, List.getElem?_cons_zero, List.getElem?_cons_succ, dIf, dTest, dBin, dUn, rNeg, dCallF, dCall, dCons, dNil, dRet, dNext, dTup, dLst, rI2, rEq', rNe', dIfE, dNot, dAnd, dOr, dAndV, dOrV, dDrop, dRaise, dPar, List.zip_cons_cons, List.zip_nil_left, List.foldl_cons, List.foldl_nil, dgTup, dgCons, dgNil, true_and, if_true, if_false, Bool.false_eq_true, Bool.not_true, Bool.not_false, decide_true, decide_false]
  exact ⟨p, q, rfl, r, s, rfl, szl (by simp), rfl, rfl, rfl, rfl, sp.cm ss, sr.cm sq, h⟩
theorem pure_sign_of : ∀ ds M Q E, spSgn ds M Q E → b_sign_of c (fun C fs _ M' => E C fs M') { nx := fun _ M' => Q .non M', rt := Q } (dstart ["number", "top"] ds) M := by
  rintro ds M Q E ⟨p, q, rfl, h⟩
  have tail : (if decide (0 < p) = true then Q (.int 1) M else if decide (p < 0) = true then Q (.int (-1)) M else Q (.int 0) M) := by
    unfold sgn at h
    by_cases h1 : 0 < p
    · rw [if_pos h1] at h; rw [if_pos (decide_eq_true h1)]; exact h
    · rw [if_neg h1] at h
      rw [if_neg (by simpa using h1)]
      by_cases h2 : p < 0
      · rw [if_pos h2] at h; rw [if_pos (decide_eq_true h2)]; exact h
      · rw [if_neg h2] at h; rw [if_neg (by simpa using h2)]; exact h
  unfold b_sign_of
  simp only [dstart, List.map_cons, List.map_nil, List.cons_append, List.nil_append, List.length_cons, List.length_nil, List.replicate, Nat.reduceAdd, Nat.reduceSub, dSeq, dAsg, dC, dgName, dVar, slot, List.set_cons_zero, List.set_cons_succ, List.getElem?_cons_zero, List.getElem?_cons_succ, dIf, dTest, dBin, dUn, rNeg, dCallF, dCall, dCons, dNil, dRet, dNext, dTup, dLst, rI2, rEq', rNe', dIfE, dNot, dAnd, dOr, dAndV, dOrV, dDrop, dRaise, dPar, List.zip_cons_cons, List.zip_nil_left, List.foldl_cons, List.foldl_nil, dgTup, dgCons, dgNil, true_and, if_true, if_false, Bool.false_eq_true, Bool.not_true, Bool.not_false, decide_true, decide_false]
  simp only [is1_rat]
  by_cases e : q = 1
  · subst e
    simp only [ratD_one, decide_true, if_true]
    exact tail
  · rw [if_neg (by simpa using e)]
    unfold ratD
    rw [if_neg e]
    exact tail
theorem pure_l_plus : ∀ ds M Q E, spNum noC fPlus ds M Q E → b_l_plus c spLow spPair (fun C fs _ M' => E C fs M') { nx := fun _ M' => Q .non M', rt := Q } (dstart ["one", "other", "first", "second"] ds) M := by
  rintro ds M Q E ⟨p, q, r, s, k, rfl, hq, hs, sp, sq, sr, ss, hk, _, h⟩
  exact ⟨p, q, rfl, r, s, rfl, rfl, sp.cm ss, sr.cm sq, sq.cm ss, _, _, k + k, rfl, Int.mul_ne_zero (by omega) (by omega), sq.mul ss, by omega, h⟩
theorem pure_l_times : ∀ ds M Q E, spNum noC fTimes ds M Q E → b_l_times c spLow spPair (fun C fs _ M' => E C fs M') { nx := fun _ M' => Q .non M', rt := Q } (dstart ["one", "other", "first", "second"] ds) M := by
  rintro ds M Q E ⟨p, q, r, s, k, rfl, hq, hs, sp, sq, sr, ss, hk, _, h⟩
  exact ⟨p, q, rfl, r, s, rfl, rfl, sp.cm sr, sq.cm ss, _, _, k + k, rfl, Int.mul_ne_zero (by omega) (by omega), sq.mul ss, by omega, h⟩
theorem pure_l_over : ∀ ds M Q E, spNum rNz fOver ds M Q E → b_l_over c spLow spPair (fun C fs _ M' => E C fs M') { nx := fun _ M' => Q .non M', rt := Q } (dstart ["one", "other", "first", "second"] ds) M := by
  rintro ds M Q E ⟨p, q, r, s, k, rfl, hq, hs, sp, sq, sr, ss, hk, hr, h⟩
  exact ⟨p, q, rfl, r, s, rfl, rfl, sp.cm ss, sq.cm sr, _, _, k + k, rfl, Int.mul_ne_zero (by omega) hr, sq.mul sr, by omega, h⟩
theorem pure_l_minus : ∀ ds M Q E, spNum noC fMinus ds M Q E → b_l_minus c (spNum noC fPlus) spOpp (fun C fs _ M' => E C fs M') { nx := fun _ M' => Q .non M', rt := Q } (dstart ["one", "other"] ds) M := by
  rintro ds M Q E ⟨p, q, r, s, k, rfl, hq, hs, sp, sq, sr, ss, hk, _, h⟩
  exact ⟨r, s, rfl, p, q, -r, s, k, rfl, hq, hs, sp, sq, sr.neg, ss, hk, trivial, h⟩
theorem pure_l_less : ∀ ds M Q E, spNum noC fLess ds M Q E → b_l_less c spPair (fun C fs _ M' => E C fs M') { nx := fun _ M' => Q .non M', rt := Q } (dstart ["one", "other", "first", "second"] ds) M := by
  rintro ds M Q E ⟨p, q, r, s, k, rfl, hq, hs, sp, sq, sr, ss, hk, _, h⟩
  exact ⟨p, q, rfl, r, s, rfl, rfl, sp.cm ss, sr.cm sq, trivial, h⟩
theorem pure_l_sign : ∀ ds M Q E, spSgn ds M Q E → b_l_sign c spPair (fun C fs _ M' => E C fs M') { nx := fun _ M' => Q .non M', rt := Q } (dstart ["number", "top"] ds) M := by
  rintro ds M Q E ⟨p, q, rfl, h⟩
  refine ⟨p, q, rfl, trivial, trivial, trivial, ?_⟩
  have e : sgn p = (if decide (0 < p) = true then 1 else 0) - (if decide (p < 0) = true then 1 else 0) := by
    unfold sgn
    by_cases h1 : 0 < p <;> by_cases h2 : p < 0 <;> simp [h1, h2] <;> omega
  rw [e] at h
  exact h
theorem pure_l_says : ∀ ds M Q E, (∃ b, ds = [.bl b, .bl b] ∧ Q (.bl true) M) → b_l_says c (fun C fs _ (M' : Mm) => (E : DX) C fs M') { nx := fun _ M' => Q .non M', rt := Q } (dstart ["told", "due"] ds) M := by
  rintro ds M Q E ⟨b, rfl, h⟩
  cases b
  · exact h
  · exact h
end

end K02
set_option maxHeartbeats 4000000
set_option pp.maxSteps 300
namespace K02
open PySem PySem.Spec PyProof.Rows L2 Dq
open PySem.W (findIn typeIn keepIn)
/-! ### looked at -/
theorem isI_int {d : D} (h : isI d = true) : ∃ i, d = .int i := by cases d <;> first | exact ⟨_, rfl⟩ | cases h
theorem isR_two {a b : D} (h : isI a = false ∨ isI b = false) : isR (.tup [a, b]) = false := by
  cases a <;> cases b <;> first | rfl | (rcases h with h | h <;> cases h)
theorem isR_one {a : D} : isR (.tup [a]) = false := by cases a <;> rfl
theorem isR_long {a b e : D} {r : List D} : isR (.tup (a :: b :: e :: r)) = false := by cases a <;> cases b <;> rfl
theorem isR_two' {i j : Int} : isR (.tup [.int i, .int j]) = (decide (1 < j) && decide (gI i j = 1)) := rfl
theorem isTy_tup' {d : D} {M : Mm} {Q : DK} (h : Ty d) : cIs1 [d, .ty "tuple"] M Q = Q (.bl (isT d)) M := by
  unfold cIs1
  simp only [isTy_tup h]
theorem len_tup {xs : List D} {M : Mm} {Q : DK} : cLen [.tup xs] M Q = Q (.int xs.length) M := rfl
theorem ix0 {a : D} {r : List D} {M : Mm} {Q : DK} : Dq.rIx (.tup (a :: r)) (.int 0) M Q = Q a M := by
  unfold Dq.rIx
  have e : dAt M (.tup (a :: r)) 0 = some a := by
    show atI (a :: r) 0 = some a
    unfold atI ixN
    rw [if_pos (by decide), if_pos (by simp)]
    rfl
  simp only [e]
theorem ix1 {a b : D} {r : List D} {M : Mm} {Q : DK} : Dq.rIx (.tup (a :: b :: r)) (.int 1) M Q = Q b M := by
  unfold Dq.rIx
  have e : dAt M (.tup (a :: b :: r)) 1 = some b := by
    show atI (a :: b :: r) 1 = some b
    unfold atI ixN
    rw [if_pos (by decide), if_pos (by simp; omega)]
    rfl
  simp only [e]
section
variable {c : Nat → Addr}
theorem pure_is_ratio : ∀ ds M Q E, spIsRat ds M Q E → b_is_ratio c spIsInt (fun C fs _ M' => E C fs M') { nx := fun _ M' => Q .non M', rt := Q } (dstart ["value"] ds) M := by
  rintro ds M Q E ⟨d, rfl, hd, h⟩
  unfold b_is_ratio
  simp only [dstart, List.map_cons, List.map_nil, List.cons_append, List.nil_append, List.length_cons, List.length_nil, List.replicate, Nat.reduceAdd, Nat.reduceSub, dSeq, dAsg, dC, dgName, dVar, slot, List.set_cons_zero, List.set_cons_succ, List.getElem?_cons_zero, List.getElem?_cons_succ, dIf, dTest, dBin, dUn, rNeg, dCallF, dCall, dCons, dNil, dRet, dNext, dTup, dLst, rI2, rEq', rNe', dIfE, dNot, dAnd, dOr, dAndV, dOrV, dDrop, dRaise, dPar, List.zip_cons_cons, List.zip_nil_left, List.foldl_cons, List.foldl_nil, dgTup, dgCons, dgNil, true_and, if_true, if_false, Bool.false_eq_true, Bool.not_true, Bool.not_false, decide_true, decide_false]
  simp only [isTy_tup' hd.1]
  cases d with
  | tup xs =>
    simp only [isT, len_tup]
    match xs, hd, h with
    | [], _, h => exact h
    | [a], _, h => rw [isR_one] at h; exact h
    | a :: b :: e :: r, _, h =>
      have hn : decide (((a :: b :: e :: r).length : Int) = 2) = false := by simp; omega
      rw [isR_long] at h
      rw [hn]
      exact h
    | [a, b], hd, h =>
      obtain ⟨ta, tb⟩ := hd.2 a b rfl
      simp only [ix0, ix1]
      refine ⟨a, rfl, ta, ?_⟩
      cases ea : isI a with
      | false => rw [isR_two (.inl ea)] at h; exact h
      | true =>
        refine ⟨b, rfl, tb, ?_⟩
        cases eb : isI b with
        | false => rw [isR_two (.inr eb)] at h; exact h
        | true =>
          obtain ⟨i, rfl⟩ := isI_int ea
          obtain ⟨j, rfl⟩ := isI_int eb
          rw [isR_two'] at h
          simp only [Bool.not_true, Bool.not_false, Bool.false_eq_true, if_false, if_true, true_and, decide_true, decide_false, Bool.true_and, Bool.false_and]
          by_cases e : 1 < j
          · rw [decide_eq_true e] at h ⊢; exact h
          · rw [decide_eq_false e] at h ⊢; exact h
  | ref a => cases hd.1
  | ty a => cases hd.1
  | _ => exact ⟨_, rfl, hd.1, h⟩
theorem pure_l_is_ratio : ∀ ds M Q E, spIsRat ds M Q E → b_l_is_ratio c spDiv spIsInt (fun C fs _ M' => E C fs M') { nx := fun _ M' => Q .non M', rt := Q } (dstart ["value"] ds) M := by
  rintro ds M Q E ⟨d, rfl, hd, h⟩
  unfold b_l_is_ratio
  simp only [dstart, List.map_cons, List.map_nil, List.cons_append, List.nil_append, List.length_cons, List.length_nil, List.replicate, Nat.reduceAdd, Nat.reduceSub, dSeq, dAsg, dC, dgName, dVar, slot, List.set_cons_zero, List.set_cons_succ, List.getElem?_cons_zero, List.getElem?_cons_succ, dIf, dTest, dBin, dUn, rNeg, dCallF, dCall, dCons, dNil, dRet, dNext, dTup, dLst, rI2, rEq', rNe', dIfE, dNot, dAnd, dOr, dAndV, dOrV, dDrop, dRaise, dPar, List.zip_cons_cons, List.zip_nil_left, List.foldl_cons, List.foldl_nil, dgTup, dgCons, dgNil, true_and, if_true, if_false, Bool.false_eq_true, Bool.not_true, Bool.not_false, decide_true, decide_false]
  simp only [isTy_tup' hd.1]
  cases d with
  | tup xs =>
    simp only [isT, len_tup]
    match xs, hd, h with
    | [], _, h => exact h
    | [a], _, h => rw [isR_one] at h; exact h
    | a :: b :: e :: r, _, h =>
      have hn : decide (((a :: b :: e :: r).length : Int) = 2) = false := by simp; omega
      rw [isR_long] at h
      rw [hn]
      exact h
    | [a, b], hd, h =>
      obtain ⟨ta, tb⟩ := hd.2 a b rfl
      simp only [ix0, ix1]
      refine ⟨a, rfl, ta, ?_⟩
      cases ea : isI a with
      | false => rw [isR_two (.inl ea)] at h; exact h
      | true =>
        refine ⟨b, rfl, tb, ?_⟩
        cases eb : isI b with
        | false => rw [isR_two (.inr eb)] at h; exact h
        | true =>
          obtain ⟨i, rfl⟩ := isI_int ea
          obtain ⟨j, rfl⟩ := isI_int eb
          rw [isR_two'] at h
          simp only [Bool.not_true, Bool.not_false, Bool.false_eq_true, if_false, if_true, true_and, decide_true, decide_false, Bool.true_and, Bool.false_and]
          by_cases e : 1 < j
          · rw [decide_eq_true e] at h ⊢; exact ⟨i, j, rfl, h⟩
          · rw [decide_eq_false e] at h ⊢; exact h
  | ref a => cases hd.1
  | ty a => cases hd.1
  | _ => exact ⟨_, rfl, hd.1, h⟩
def eN (w : Str) (x : D) : List (Str × D) := [("what", .str w), ("number", x)]
def spRatio (c : Nat → Addr) : DSp := fun ds M Q E => ∃ x y, ds = [x, y] ∧ Ty x ∧ Ty y ∧ ((∃ t b k, x = .int t ∧ y = .int b ∧ b ≠ 0 ∧ Sz k b ∧ k < 9000 ∧ Q (lowD t b) M) ∨ (isI x = false ∧ E (c 1) (eN "top" x) M) ∨ (isI x = true ∧ (isI y = false ∨ y = .int 0) ∧ E (c 1) (eN "bottom" y) M))
theorem pure_ratio : ∀ ds M Q E, spRatio c ds M Q E → b_ratio c spIsInt spLow (fun C fs _ M' => E C fs M') { nx := fun _ M' => Q .non M', rt := Q } (dstart ["top", "bottom"] ds) M := by
  rintro ds M Q E ⟨x, y, rfl, tx, ty, h⟩
  unfold b_ratio
  simp only [dstart, List.map_cons, List.map_nil, List.cons_append, List.nil_append, List.length_cons, List.length_nil, List.replicate, Nat.reduceAdd, Nat.reduceSub, dSeq, dAsg, dC, dgName, dVar, slot, List.set_cons_zero, List.set_cons_succ, List.getElem?_cons_zero, List.getElem?_cons_succ, dIf, dTest, dBin, dUn, rNeg, dCallF, dCall, dCons, dNil, dRet, dNext, dTup, dLst, rI2, rEq', rNe', dIfE, dNot, dAnd, dOr, dAndV, dOrV, dDrop, dRaise, dPar, List.zip_cons_cons, List.zip_nil_left, List.foldl_cons, List.foldl_nil, dgTup, dgCons, dgNil, true_and, if_true, if_false, Bool.false_eq_true, Bool.not_true, Bool.not_false, decide_true, decide_false]
  refine ⟨x, rfl, tx, ?_⟩
  rcases h with ⟨t, b, k, rfl, rfl, hb, hs, hk, h⟩ | ⟨hx, h⟩ | ⟨hx, hy, h⟩
  · refine ⟨_, rfl, ty, ?_⟩
    simp only [isI]
    rw [decide_eq_false hb]
    exact ⟨t, b, k, rfl, hb, hs, hk, h⟩
  · rw [hx]
    exact h
  · rw [hx]
    refine ⟨y, rfl, ty, ?_⟩
    rcases hy with hy | rfl
    · rw [hy]
      exact h
    · exact h
def spNeed (c : Nat → Addr) : DSp := fun ds M Q E => ∃ x y, ds = [x, y] ∧ Kn x ∧ Kn y ∧ ((isR x = true ∧ isR y = true ∧ Q .non M) ∨ (isR x = false ∧ E (c 1) (eN "one" x) M) ∨ (isR x = true ∧ isR y = false ∧ E (c 1) (eN "other" y) M))
theorem pure_need_ratios : ∀ ds M Q E, spNeed c ds M Q E → b_need_ratios c spIsRat (fun C fs _ M' => E C fs M') { nx := fun _ M' => Q .non M', rt := Q } (dstart ["one", "other"] ds) M := by
  rintro ds M Q E ⟨x, y, rfl, kx, ky, h⟩
  unfold b_need_ratios
  simp only [dstart, List.map_cons, List.map_nil, List.cons_append, List.nil_append, List.length_cons, List.length_nil, List.replicate, Nat.reduceAdd, Nat.reduceSub, dSeq, dAsg, dC, dgName, dVar, slot, List.set_cons_zero, List.set_cons_succ, List.getElem?_cons_zero, List.getElem?_cons_succ, dIf, dTest, dBin, dUn, rNeg, dCallF, dCall, dCons, dNil, dRet, dNext, dTup, dLst, rI2, rEq', rNe', dIfE, dNot, dAnd, dOr, dAndV, dOrV, dDrop, dRaise, dPar, List.zip_cons_cons, List.zip_nil_left, List.foldl_cons, List.foldl_nil, dgTup, dgCons, dgNil, true_and, if_true, if_false, Bool.false_eq_true, Bool.not_true, Bool.not_false, decide_true, decide_false]
  refine ⟨x, rfl, kx, ?_⟩
  rcases h with ⟨hx, hy, h⟩ | ⟨hx, h⟩ | ⟨hx, hy, h⟩
  · rw [hx]
    refine ⟨y, rfl, ky, ?_⟩
    rw [hy]
    exact h
  · rw [hx]
    exact h
  · rw [hx]
    refine ⟨y, rfl, ky, ?_⟩
    rw [hy]
    exact h
/-- two values, looked at: a result, or an error -/
def spTwo (c : Nat → Addr) (C : Int → Int → Prop) (f : Int → Int → Int → Int → D) : DSp := fun ds M Q E => ∃ x y, ds = [x, y] ∧ Kn x ∧ Kn y ∧
  ((∃ p q r s k, x = ratD p q ∧ y = ratD r s ∧ Cop p q ∧ Cop r s ∧ Sz k p ∧ Sz k q ∧ Sz k r ∧ Sz k s ∧ k ≤ 4000 ∧ C p r ∧ Q (f p q r s) M) ∨ (isR x = false ∧ E (c 1) (eN "one" x) M) ∨ (isR x = true ∧ isR y = false ∧ E (c 1) (eN "other" y) M))
theorem pure_plus : ∀ ds M Q E, spTwo c noC fPlus ds M Q E → b_plus c (spNeed c) (spNum noC fPlus) (fun C fs _ M' => E C fs M') { nx := fun _ M' => Q .non M', rt := Q } (dstart ["one", "other"] ds) M := by
  rintro ds M Q E ⟨x, y, rfl, kx, ky, h⟩
  refine ⟨x, y, rfl, kx, ky, ?_⟩
  rcases h with ⟨p, q, r, s, k, rfl, rfl, c1, c2, s1, s2, s3, s4, hk, hC, h⟩ | ⟨hx, h⟩ | ⟨hx, hy, h⟩
  · exact .inl ⟨isR_rat c1, isR_rat c2, p, q, r, s, k, rfl, c1.1, c2.1, s1, s2, s3, s4, hk, hC, h⟩
  · exact .inr (.inl ⟨hx, h⟩)
  · exact .inr (.inr ⟨hx, hy, h⟩)
theorem pure_times : ∀ ds M Q E, spTwo c noC fTimes ds M Q E → b_times c (spNeed c) (spNum noC fTimes) (fun C fs _ M' => E C fs M') { nx := fun _ M' => Q .non M', rt := Q } (dstart ["one", "other"] ds) M := by
  rintro ds M Q E ⟨x, y, rfl, kx, ky, h⟩
  refine ⟨x, y, rfl, kx, ky, ?_⟩
  rcases h with ⟨p, q, r, s, k, rfl, rfl, c1, c2, s1, s2, s3, s4, hk, hC, h⟩ | ⟨hx, h⟩ | ⟨hx, hy, h⟩
  · exact .inl ⟨isR_rat c1, isR_rat c2, p, q, r, s, k, rfl, c1.1, c2.1, s1, s2, s3, s4, hk, hC, h⟩
  · exact .inr (.inl ⟨hx, h⟩)
  · exact .inr (.inr ⟨hx, hy, h⟩)
theorem pure_below : ∀ ds M Q E, spTwo c noC fLess ds M Q E → b_below c (spNeed c) (spNum noC fLess) (fun C fs _ M' => E C fs M') { nx := fun _ M' => Q .non M', rt := Q } (dstart ["one", "other"] ds) M := by
  rintro ds M Q E ⟨x, y, rfl, kx, ky, h⟩
  refine ⟨x, y, rfl, kx, ky, ?_⟩
  rcases h with ⟨p, q, r, s, k, rfl, rfl, c1, c2, s1, s2, s3, s4, hk, hC, h⟩ | ⟨hx, h⟩ | ⟨hx, hy, h⟩
  · exact .inl ⟨isR_rat c1, isR_rat c2, p, q, r, s, k, rfl, c1.1, c2.1, s1, s2, s3, s4, hk, hC, h⟩
  · exact .inr (.inl ⟨hx, h⟩)
  · exact .inr (.inr ⟨hx, hy, h⟩)
theorem pure_minus : ∀ ds M Q E, spTwo c noC fMinus ds M Q E → b_minus c (spNeed c) (spNum noC fPlus) spOpp (fun C fs _ M' => E C fs M') { nx := fun _ M' => Q .non M', rt := Q } (dstart ["one", "other"] ds) M := by
  rintro ds M Q E ⟨x, y, rfl, kx, ky, h⟩
  refine ⟨x, y, rfl, kx, ky, ?_⟩
  rcases h with ⟨p, q, r, s, k, rfl, rfl, c1, c2, s1, s2, s3, s4, hk, hC, h⟩ | ⟨hx, h⟩ | ⟨hx, hy, h⟩
  · exact .inl ⟨isR_rat c1, isR_rat c2, r, s, rfl, p, q, -r, s, k, rfl, c1.1, c2.1, s1, s2, s3.neg, s4, hk, trivial, h⟩
  · exact .inr (.inl ⟨hx, h⟩)
  · exact .inr (.inr ⟨hx, hy, h⟩)
/-- a ratio's data -/
theorem py_rat {p q : Int} : ∃ x, D.py (ratD p q) = some x ∧ SeqAt.shaped x = true ∧ (q ≠ 1 → x = .tuple [.int p, .int q]) := by
  unfold ratD
  split
  · exact ⟨_, rfl, rfl, fun z => absurd ‹_› z⟩
  · exact ⟨_, rfl, rfl, fun _ => rfl⟩
theorem rEq_zero {p q : Int} {M : Mm} {Q : DK} (hq : Cop p q) (h : Q (.bl (decide (p = 0))) M) : rEq' (ratD p q) (.int 0) M Q := by
  by_cases e : q = 1
  · subst e
    rw [ratD_one]
    exact h
  · have hp : p ≠ 0 := fun z => e (by
      obtain ⟨h1, h2⟩ := hq
      rw [z] at h2
      simp at h2
      omega)
    unfold ratD
    rw [if_neg e]
    rw [decide_eq_false hp] at h
    exact ⟨_, _, rfl, rfl, rfl, rfl, h⟩
def spOver (c : Nat → Addr) : DSp := fun ds M Q E => ∃ x y, ds = [x, y] ∧ Kn x ∧ Kn y ∧
  ((∃ p q r s k, x = ratD p q ∧ y = ratD r s ∧ Cop p q ∧ Cop r s ∧ Sz k p ∧ Sz k q ∧ Sz k r ∧ Sz k s ∧ k ≤ 4000 ∧ r ≠ 0 ∧ Q (fOver p q r s) M) ∨ (isR x = false ∧ E (c 1) (eN "one" x) M) ∨ (isR x = true ∧ (isR y = false ∨ y = .int 0) ∧ E (c 1) (eN "other" y) M))
theorem pure_over : ∀ ds M Q E, spOver c ds M Q E → b_over c (spNeed c) (spNum rNz fOver) (fun C fs _ M' => E C fs M') { nx := fun _ M' => Q .non M', rt := Q } (dstart ["one", "other"] ds) M := by
  rintro ds M Q E ⟨x, y, rfl, kx, ky, h⟩
  unfold b_over
  simp only [dstart, List.map_cons, List.map_nil, List.cons_append, List.nil_append, List.length_cons, List.length_nil, List.replicate, Nat.reduceAdd, Nat.reduceSub, dSeq, dAsg, dC, dgName, dVar, slot, List.set_cons_zero, List.set_cons_succ, List.getElem?_cons_zero, List.getElem?_cons_succ, dIf, dTest, dBin, dUn, rNeg, dCallF, dCall, dCons, dNil, dRet, dNext, dTup, dLst, rI2, dIfE, dNot, dAnd, dOr, dAndV, dOrV, dDrop, dRaise, dPar, List.zip_cons_cons, List.zip_nil_left, List.foldl_cons, List.foldl_nil, dgTup, dgCons, dgNil, true_and, if_true, if_false, Bool.false_eq_true, Bool.not_true, Bool.not_false, decide_true, decide_false]
  refine ⟨x, y, rfl, kx, ky, ?_⟩
  rcases h with ⟨p, q, r, s, k, rfl, rfl, c1, c2, s1, s2, s3, s4, hk, hC, h⟩ | ⟨hx, h⟩ | ⟨hx, hy, h⟩
  · refine .inl ⟨isR_rat c1, isR_rat c2, ?_⟩
    refine rEq_zero c2 ?_
    rw [decide_eq_false hC]
    exact ⟨p, q, r, s, k, rfl, c1.1, c2.1, s1, s2, s3, s4, hk, hC, h⟩
  · exact .inr (.inl ⟨hx, h⟩)
  · rcases hy with hy | rfl
    · exact .inr (.inr ⟨hx, hy, h⟩)
    · exact .inl ⟨hx, rfl, h⟩
def spSign (c : Nat → Addr) : DSp := fun ds M Q E => ∃ x, ds = [x] ∧ Kn x ∧ ((∃ p q, x = ratD p q ∧ Cop p q ∧ Q (.int (sgn p)) M) ∨ (isR x = false ∧ E (c 1) (eN "one" x) M))
theorem pure_sign : ∀ ds M Q E, spSign c ds M Q E → b_sign c spIsRat spSgn (fun C fs _ M' => E C fs M') { nx := fun _ M' => Q .non M', rt := Q } (dstart ["one"] ds) M := by
  rintro ds M Q E ⟨x, rfl, kx, h⟩
  unfold b_sign
  simp only [dstart, List.map_cons, List.map_nil, List.cons_append, List.nil_append, List.length_cons, List.length_nil, List.replicate, Nat.reduceAdd, Nat.reduceSub, dSeq, dAsg, dC, dgName, dVar, slot, List.set_cons_zero, List.set_cons_succ, List.getElem?_cons_zero, List.getElem?_cons_succ, dIf, dTest, dBin, dUn, rNeg, dCallF, dCall, dCons, dNil, dRet, dNext, dTup, dLst, rI2, rEq', rNe', dIfE, dNot, dAnd, dOr, dAndV, dOrV, dDrop, dRaise, dPar, List.zip_cons_cons, List.zip_nil_left, List.foldl_cons, List.foldl_nil, dgTup, dgCons, dgNil, true_and, if_true, if_false, Bool.false_eq_true, Bool.not_true, Bool.not_false, decide_true, decide_false]
  refine ⟨x, rfl, kx, ?_⟩
  rcases h with ⟨p, q, rfl, c1, h⟩ | ⟨hx, h⟩
  · rw [isR_rat c1]
    exact ⟨p, q, rfl, h⟩
  · rw [hx]
    exact h
end

end K02
set_option maxHeartbeats 4000000
set_option pp.maxSteps 300
namespace K02
open PySem PySem.Spec PyProof.Rows L2 Dq
open PySem.W (findIn typeIn keepIn)
/-! ### is, rows -/
theorem rEq_int {i j : Int} {M : Mm} {Q : DK} : rEq' (.int i) (.int j) M Q = Q (.bl (decide (i = j))) M := rfl
theorem rNe_int {i j : Int} {M : Mm} {Q : DK} : rNe' (.int i) (.int j) M Q = Q (.bl (!decide (i = j))) M := rfl
theorem rng_mem {n : Nat} {x : D} (h : x ∈ rng 0 n) : ∃ i : Nat, i < n ∧ x = .int i := by
  unfold rng at h
  obtain ⟨i, hi, rfl⟩ := List.mem_map.mp h
  exact ⟨i, List.mem_range.mp hi, by rw [Int.zero_add]⟩
theorem ix_tup {xs : List D} {i : Nat} {x : D} {M : Mm} {Q : DK} (h : xs[i]? = some x) : Dq.rIx (.tup xs) (.int i) M Q = Q x M := by
  unfold Dq.rIx
  have e : dAt M (.tup xs) i = some x := by
    have hl := (List.getElem?_eq_some_iff.mp h).1
    show atI xs i = some x
    unfold atI ixN
    rw [if_pos (by omega), if_pos (by omega)]
    exact h
  simp only [e]
theorem is_tup {xs : List D} {M : Mm} {Q : DK} : cIs1 [.tup xs, .ty "tuple"] M Q = Q (.bl true) M := rfl
def flatD : D → Prop | .non => True | .bl _ => True | .int _ => True | .str _ => True | _ => False
/-- plain data -/
def Pl : Nat → D → Prop
  | 0, d => flatD d
  | n + 1, d => flatD d ∨ ∃ xs, d = .tup xs ∧ xs.length < 1000000 ∧ ∀ x ∈ xs, Pl n x
/-- a told value that is just the due one -/
def spIs : Nat → DSp
  | 0 => fun _ _ _ _ => False
  | n + 1 => fun ds M Q _ => ∃ d, ds = [d, d] ∧ Pl n d ∧ Q (.bl true) M
section
variable {c : Nat → Addr}
theorem is_flat {d : D} {sp : DSp} {M : Mm} {Q : DK} {E : DX} (hd : flatD d) (h : Q (.bl true) M) : b_l_is c sp (fun C fs _ M' => E C fs M') { nx := fun _ M' => Q .non M', rt := Q } (dstart ["told", "due", "at"] [d, d]) M := by
  cases d with
  | non => exact h
  | bl b => cases b <;> exact h
  | int i =>
    have h' : Q (.bl (decide (i = i))) M := by rw [decide_eq_true rfl]; exact h
    exact h'
  | str x =>
    have h' : Q (.bl (decide (x = x))) M := by rw [decide_eq_true rfl]; exact h
    exact h'
  | _ => exact hd.elim
theorem pure_l_is (n : Nat) : ∀ ds M Q E, spIs (n + 1) ds M Q E → b_l_is c (spIs n) (fun C fs _ M' => E C fs M') { nx := fun _ M' => Q .non M', rt := Q } (dstart ["told", "due", "at"] ds) M := by
  rintro ds M Q E ⟨d, rfl, hd, h⟩
  cases n with
  | zero => exact is_flat hd h
  | succ n =>
    rcases hd with hd | ⟨xs, rfl, hl, hx⟩
    · exact is_flat hd h
    · unfold b_l_is
      simp only [dstart, List.map_cons, List.map_nil, List.cons_append, List.nil_append, List.length_cons, List.length_nil, List.replicate, Nat.reduceAdd, Nat.reduceSub, dSeq, dAsg, dC, dgName, dVar, slot, List.set_cons_zero, List.set_cons_succ, List.getElem?_cons_zero, List.getElem?_cons_succ, dIf, dTest, dBin, dUn, rNeg, dCallF, dCall, dCons, dNil, dRet, dNext, dTup, dLst, rI2, rEq', rNe', dIfE, dNot, dAnd, dOr, dAndV, dOrV, dDrop, dRaise, dPar, List.zip_cons_cons, List.zip_nil_left, List.foldl_cons, List.foldl_nil, dgTup, dgCons, dgNil, true_and, if_true, if_false, Bool.false_eq_true, Bool.not_true, Bool.not_false, decide_true, decide_false]
      simp only [is_tup, len_tup]
      simp only [Bool.not_true, Bool.not_false, Bool.false_eq_true, if_false, if_true, true_and, decide_true, decide_false, Bool.true_and, Bool.false_and]
      simp only [dLc, dRng1]
      refine ⟨by omega, ?_⟩
      rw [Int.toNat_natCast]
      refine lc_sel (fun _ => none) (by unfold rng; simp; omega) (fun x hx' M' R hR => ?_) (fun x hx' y e => nomatch e) ?_
      · obtain ⟨i, hi, rfl⟩ := rng_mem hx'
        obtain ⟨z, hz⟩ : ∃ z, xs[i]? = some z := ⟨xs[i], List.getElem?_eq_getElem hi⟩
        simp only [dstart, List.map_cons, List.map_nil, List.cons_append, List.nil_append, List.length_cons, List.length_nil, List.replicate, Nat.reduceAdd, Nat.reduceSub, dSeq, dAsg, dC, dgName, dVar, slot, List.set_cons_zero, List.set_cons_succ, List.getElem?_cons_zero, List.getElem?_cons_succ, dIf, dTest, dBin, dUn, rNeg, dCallF, dCall, dCons, dNil, dRet, dNext, dTup, dLst, rI2, rEq', rNe', dIfE, dNot, dAnd, dOr, dAndV, dOrV, dDrop, dRaise, dPar, List.zip_cons_cons, List.zip_nil_left, List.foldl_cons, List.foldl_nil, dgTup, dgCons, dgNil, true_and, if_true, if_false, Bool.false_eq_true, Bool.not_true, Bool.not_false, decide_true, decide_false]
        simp only [wipeD, List.foldl_cons, List.foldl_nil, List.set_cons_zero, List.set_cons_succ, slot, List.getElem?_cons_zero, List.getElem?_cons_succ, ix_tup hz]
        exact ⟨z, rfl, hx z (List.mem_of_getElem? hz), hR⟩
      · rw [List.filterMap_eq_nil_iff.mpr (fun _ _ => rfl)]
        exact ⟨szl (by simp), h⟩
end

end K02
set_option maxHeartbeats 4000000
set_option pp.maxSteps 300
namespace K02
open PySem PySem.Spec PyProof.Rows L2 Dq
open PySem.W (findIn typeIn keepIn)
/-! ### rows of numbers -/
abbrev PQ := Int × Int
def pqD (e : PQ) : D := ratD e.1 e.2
def PqOk (k : Nat) (e : PQ) : Prop := Cop e.1 e.2 ∧ Sz k e.1 ∧ Sz k e.2
/-- the law's step, the program's step -/
def stL (a : PQ) (e : PQ × PQ) : PQ := if e.1.2 * e.2.2 = a.2 then (a.1 + e.1.1 * e.2.1, a.2) else (a.1 * (e.1.2 * e.2.2) + e.1.1 * e.2.1 * a.2, a.2 * (e.1.2 * e.2.2))
def stP (a : PQ) (e : PQ × PQ) : PQ := if e.1.1 = 0 ∨ e.2.1 = 0 then a else stL a e
def dotD (xs ys : List PQ) : D := lowD ((xs.zip ys).foldl stL (0, 1)).1 ((xs.zip ys).foldl stL (0, 1)).2
def dotP (xs ys : List PQ) : D := lowD ((xs.zip ys).foldl stP (0, 1)).1 ((xs.zip ys).foldl stP (0, 1)).2
theorem stL_pos {a : PQ} {e : PQ × PQ} (ha : 0 < a.2) (h1 : 0 < e.1.2) (h2 : 0 < e.2.2) : 0 < (stL a e).2 ∧ ∃ m : Int, 0 < m ∧ (stL a e).1 * a.2 * (e.1.2 * e.2.2) = (a.1 * (e.1.2 * e.2.2) + e.1.1 * e.2.1 * a.2) * (stL a e).2 := by
  unfold stL
  have hl : 0 < e.1.2 * e.2.2 := Int.mul_pos h1 h2
  split
  · rename_i h
    refine ⟨ha, 1, by decide, ?_⟩
    show (a.1 + e.1.1 * e.2.1) * a.2 * (e.1.2 * e.2.2) = (a.1 * (e.1.2 * e.2.2) + e.1.1 * e.2.1 * a.2) * a.2
    rw [h, ← Int.add_mul]
  · refine ⟨Int.mul_pos ha hl, 1, by decide, ?_⟩
    show (a.1 * (e.1.2 * e.2.2) + e.1.1 * e.2.1 * a.2) * a.2 * (e.1.2 * e.2.2) = _ * (a.2 * (e.1.2 * e.2.2))
    rw [Int.mul_assoc]
/-- both tell one number -/
theorem st_same {a b : PQ} {e : PQ × PQ} (ha : 0 < a.2) (hb : 0 < b.2) (h1 : 0 < e.1.2) (h2 : 0 < e.2.2) (h : a.1 * b.2 = b.1 * a.2) : 0 < (stL a e).2 ∧ 0 < (stP b e).2 ∧ (stL a e).1 * (stP b e).2 = (stP b e).1 * (stL a e).2 := by
  have hl : 0 < e.1.2 * e.2.2 := Int.mul_pos h1 h2
  obtain ⟨p1, _, _, q1⟩ := stL_pos (a := a) ha h1 h2
  obtain ⟨p2, _, _, q2⟩ := stL_pos (a := b) hb h1 h2
  refine ⟨p1, ?_, ?_⟩
  · unfold stP; split; exact hb; exact p2
  · have hne : a.2 * (e.1.2 * e.2.2) ≠ 0 := Int.mul_ne_zero (by omega) (by omega)
    have hne2 : b.2 * (e.1.2 * e.2.2) ≠ 0 := Int.mul_ne_zero (by omega) (by omega)
    unfold stP
    split
    · rename_i z
      have hz : e.1.1 * e.2.1 = 0 := by rcases z with z | z <;> rw [z] <;> simp
      rw [hz, Int.zero_mul, Int.add_zero] at q1
      refine Int.eq_of_mul_eq_mul_right hne ?_
      calc (stL a e).1 * b.2 * (a.2 * (e.1.2 * e.2.2)) = ((stL a e).1 * a.2 * (e.1.2 * e.2.2)) * b.2 := by ac_rfl
        _ = (a.1 * (e.1.2 * e.2.2) * (stL a e).2) * b.2 := by rw [q1]
        _ = (a.1 * b.2) * ((e.1.2 * e.2.2) * (stL a e).2) := by ac_rfl
        _ = (b.1 * a.2) * ((e.1.2 * e.2.2) * (stL a e).2) := by rw [h]
        _ = b.1 * (stL a e).2 * (a.2 * (e.1.2 * e.2.2)) := by ac_rfl
    · have key : (a.1 * (e.1.2 * e.2.2) + e.1.1 * e.2.1 * a.2) * b.2 = (b.1 * (e.1.2 * e.2.2) + e.1.1 * e.2.1 * b.2) * a.2 := by
        rw [Int.add_mul, Int.add_mul]
        have x1 : a.1 * (e.1.2 * e.2.2) * b.2 = b.1 * (e.1.2 * e.2.2) * a.2 := by
          calc a.1 * (e.1.2 * e.2.2) * b.2 = (a.1 * b.2) * (e.1.2 * e.2.2) := by ac_rfl
            _ = (b.1 * a.2) * (e.1.2 * e.2.2) := by rw [h]
            _ = _ := by ac_rfl
        have x2 : e.1.1 * e.2.1 * a.2 * b.2 = e.1.1 * e.2.1 * b.2 * a.2 := by ac_rfl
        rw [x1, x2]
      refine Int.eq_of_mul_eq_mul_right (Int.mul_ne_zero hne hne2) ?_
      calc (stL a e).1 * (stL b e).2 * (a.2 * (e.1.2 * e.2.2) * (b.2 * (e.1.2 * e.2.2)))
          = ((stL a e).1 * a.2 * (e.1.2 * e.2.2)) * ((stL b e).2 * (b.2 * (e.1.2 * e.2.2))) := by ac_rfl
        _ = ((a.1 * (e.1.2 * e.2.2) + e.1.1 * e.2.1 * a.2) * (stL a e).2) * ((stL b e).2 * (b.2 * (e.1.2 * e.2.2))) := by rw [q1]
        _ = ((a.1 * (e.1.2 * e.2.2) + e.1.1 * e.2.1 * a.2) * b.2) * ((stL a e).2 * (stL b e).2 * (e.1.2 * e.2.2)) := by ac_rfl
        _ = ((b.1 * (e.1.2 * e.2.2) + e.1.1 * e.2.1 * b.2) * a.2) * ((stL a e).2 * (stL b e).2 * (e.1.2 * e.2.2)) := by rw [key]
        _ = ((b.1 * (e.1.2 * e.2.2) + e.1.1 * e.2.1 * b.2) * (stL b e).2) * ((stL a e).2 * (a.2 * (e.1.2 * e.2.2))) := by ac_rfl
        _ = ((stL b e).1 * b.2 * (e.1.2 * e.2.2)) * ((stL a e).2 * (a.2 * (e.1.2 * e.2.2))) := by rw [q2]
        _ = (stL b e).1 * (stL a e).2 * (a.2 * (e.1.2 * e.2.2) * (b.2 * (e.1.2 * e.2.2))) := by ac_rfl
theorem fold_same : ∀ (l : List (PQ × PQ)) (a b : PQ), (∀ e ∈ l, 0 < e.1.2 ∧ 0 < e.2.2) → 0 < a.2 → 0 < b.2 → a.1 * b.2 = b.1 * a.2 →
    0 < (l.foldl stL a).2 ∧ 0 < (l.foldl stP b).2 ∧ (l.foldl stL a).1 * (l.foldl stP b).2 = (l.foldl stP b).1 * (l.foldl stL a).2
  | [], a, b, _, ha, hb, h => ⟨ha, hb, h⟩
  | e :: l, a, b, hl, ha, hb, h => by
    obtain ⟨h1, h2⟩ := hl e List.mem_cons_self
    obtain ⟨x, y, z⟩ := st_same ha hb h1 h2 h
    exact fold_same l _ _ (fun e he => hl e (List.mem_cons_of_mem _ he)) x y z
theorem zip_ok {k : Nat} {xs ys : List PQ} (h1 : ∀ e ∈ xs, PqOk k e) (h2 : ∀ e ∈ ys, PqOk k e) : ∀ e ∈ xs.zip ys, PqOk k e.1 ∧ PqOk k e.2 := fun e he =>
  ⟨h1 _ (List.of_mem_zip he).1, h2 _ (List.of_mem_zip he).2⟩
theorem dot_same {k : Nat} {xs ys : List PQ} (h1 : ∀ e ∈ xs, PqOk k e) (h2 : ∀ e ∈ ys, PqOk k e) : dotP xs ys = dotD xs ys := by
  obtain ⟨x, y, z⟩ := fold_same (xs.zip ys) (0, 1) (0, 1) (fun e he => ⟨(zip_ok h1 h2 e he).1.1.1, (zip_ok h1 h2 e he).2.1.1⟩) (by decide) (by decide) rfl
  exact (low_eq (by omega) (by omega) z).symm
def lcost (k n : Nat) : Nat := n * (2 * k + 2 * k + 2)
theorem stL_sz {k K : Nat} {a : PQ} {e : PQ × PQ} (h1 : PqOk k e.1) (h2 : PqOk k e.2) (s1 : Sz K a.1) (s2 : Sz K a.2) : Sz (K + (2 * k + 2 * k + 2)) (stL a e).1 ∧ Sz (K + (2 * k + 2 * k + 2)) (stL a e).2 := by
  obtain ⟨_, a1, a2⟩ := h1
  obtain ⟨_, b1, b2⟩ := h2
  have l := a2.mul b2
  have g := a1.mul b1
  unfold stL
  split
  · refine ⟨?_, s2.mono (by omega)⟩
    exact ((s1.mono (k := K + (k + k)) (by omega)).add (g.mono (k := K + (k + k)) (by omega))).mono (by omega)
  · exact ⟨(((s1.mul l).mono (k := K + (k + k)) (by omega)).add ((g.mul s2).mono (k := K + (k + k)) (by omega))).mono (by omega), (s2.mul l).mono (by omega)⟩
theorem stP_sz {k K : Nat} {a : PQ} {e : PQ × PQ} (h1 : PqOk k e.1) (h2 : PqOk k e.2) (s1 : Sz K a.1) (s2 : Sz K a.2) : Sz (K + (2 * k + 2 * k + 2)) (stP a e).1 ∧ Sz (K + (2 * k + 2 * k + 2)) (stP a e).2 := by
  unfold stP
  split
  · exact ⟨s1.mono (by omega), s2.mono (by omega)⟩
  · exact stL_sz h1 h2 s1 s2
theorem stP_pos {a : PQ} {e : PQ × PQ} (ha : 0 < a.2) (h1 : 0 < e.1.2) (h2 : 0 < e.2.2) : 0 < (stP a e).2 := by
  unfold stP
  split
  · exact ha
  · exact (stL_pos ha h1 h2).1
/-- rows of one length, the first one a list or a tuple -/
def seqD (b : Bool) (xs : List D) : D := if b then .lst xs else .tup xs
def pairR (e : PQ × PQ) : D := .tup [pqD e.1, pqD e.2]
theorem pairs_zip {xs ys : List PQ} : pairsD (xs.map pqD) (ys.map pqD) = (xs.zip ys).map pairR := by
  unfold pairsD
  rw [List.zip_map, List.map_map]
  rfl
def spDotN : DSp := fun ds M Q _ => ∃ b xs ys k, ds = [seqD b (xs.map pqD), .tup (ys.map pqD)] ∧ (∀ e ∈ xs, PqOk k e) ∧ (∀ e ∈ ys, PqOk k e) ∧ 1 + lcost k (xs.zip ys).length ≤ 4000 ∧ Q (dotD xs ys) M
theorem zipM_at {b : Bool} {xs ys : List D} {M : Mm} {Q : List D → Mm → Prop} {ρ : Ds} {ad : DA} (ha : ∀ R : List D → Mm → Prop, R [seqD b xs, .tup ys] M → ad ρ M R) (h : Q (pairsD xs ys) M) : dZipM ad ρ M Q := by
  unfold dZipM
  refine ha _ ?_
  cases b
  · exact h
  · exact h
theorem one_sz : Sz 1 (0 : Int) ∧ Sz 1 (1 : Int) := ⟨by unfold Sz; decide, by unfold Sz; decide⟩
theorem lcost_succ {k n : Nat} : lcost k (n + 1) = lcost k n + (2 * k + 2 * k + 2) := by
  unfold lcost
  rw [Nat.succ_mul]
section
variable {c : Nat → Addr}
theorem pure_summed : ∀ ds M Q E, spDotN ds M Q E → b_summed c spPair spLow (fun C fs _ M' => E C fs M') { nx := fun _ M' => Q .non M', rt := Q } (dstart ["row", "other", "top", "bottom", "one", "two", "high", "low", "up", "down"] ds) M := by
  rintro ds M Q E ⟨b, xs, ys, k, rfl, h1, h2, hc, h⟩
  unfold b_summed
  simp only [dstart, List.map_cons, List.map_nil, List.cons_append, List.nil_append, List.length_cons, List.length_nil, List.replicate, Nat.reduceAdd, Nat.reduceSub, dSeq, dAsg, dC, dgName, dVar, slot, List.set_cons_zero, List.set_cons_succ, List.getElem?_cons_zero, List.getElem?_cons_succ, dIf, dTest, dBin, dUn, rNeg, dCallF, dCall, dCons, dNil, dRet, dNext, dTup, dLst, rI2, dIfE, dNot, dAnd, dOr, dAndV, dOrV, dDrop, dRaise, dPar, List.zip_cons_cons, List.zip_nil_left, List.foldl_cons, List.foldl_nil, dgTup, dgCons, dgNil, true_and, if_true, if_false, Bool.false_eq_true, Bool.not_true, Bool.not_false, decide_true, decide_false]
  refine ⟨szl (by simp), ?_⟩
  simp only [dFor]
  refine zipM_at (b := b) (xs := xs.map pqD) (ys := ys.map pqD) (fun R hR => hR) ?_
  rw [pairs_zip]
  refine for_inv (fun r ρ M' => M' = M ∧ ∃ (rest : List (PQ × PQ)) (a : PQ) (x4 x5 x6 x7 x8 x9 : Option D) (K : Nat), r = rest.map pairR ∧ (∀ e ∈ rest, PqOk k e.1 ∧ PqOk k e.2) ∧ ρ = [some (seqD b (xs.map pqD)), some (.tup (ys.map pqD)), some (.int a.1), some (.int a.2), x4, x5, x6, x7, x8, x9] ∧ 0 < a.2 ∧ Sz K a.1 ∧ Sz K a.2 ∧ K + lcost k rest.length ≤ 4000 ∧ lowD (rest.foldl stP a).1 (rest.foldl stP a).2 = dotP xs ys) ?_ ?_ ⟨rfl, xs.zip ys, (0, 1), none, none, none, none, none, none, 1, rfl, zip_ok h1 h2, rfl, by decide, one_sz.1, one_sz.2, hc, rfl⟩
  · rintro x r ρ M' D' ⟨rfl, rest, a, x4, x5, x6, x7, x8, x9, K, hr, ho, rfl, ha, s1, s2, hK, hf⟩ hn hct hb ht
    match rest, hr with
    | e :: rest, hr =>
      cases hr
      obtain ⟨o1, o2⟩ := ho e List.mem_cons_self
      rw [List.length_cons, lcost_succ] at hK
      have nxt : ∀ (t u : Int) (y4 y5 y6 y7 y8 y9 : Option D), (t, u) = stP a e → (M' = M' ∧ ∃ (rest' : List (PQ × PQ)) (a' : PQ) (x4 x5 x6 x7 x8 x9 : Option D) (K : Nat), rest.map pairR = rest'.map pairR ∧ (∀ e ∈ rest', PqOk k e.1 ∧ PqOk k e.2) ∧ ([some (seqD b (xs.map pqD)), some (.tup (ys.map pqD)), some (.int t), some (.int u), y4, y5, y6, y7, y8, y9] : Ds) = [some (seqD b (xs.map pqD)), some (.tup (ys.map pqD)), some (.int a'.1), some (.int a'.2), x4, x5, x6, x7, x8, x9] ∧ 0 < a'.2 ∧ Sz K a'.1 ∧ Sz K a'.2 ∧ K + lcost k rest'.length ≤ 4000 ∧ lowD (rest'.foldl stP a').1 (rest'.foldl stP a').2 = dotP xs ys) := fun t u y4 y5 y6 y7 y8 y9 q =>
        ⟨rfl, rest, (t, u), y4, y5, y6, y7, y8, y9, K + (2 * k + 2 * k + 2), rfl, fun e he => ho e (List.mem_cons_of_mem _ he), rfl, by rw [q]; exact stP_pos ha o1.1.1 o2.1.1, by rw [q]; exact (stP_sz o1 o2 s1 s2).1, by rw [q]; exact (stP_sz o1 o2 s1 s2).2, by omega, by rw [q]; exact hf⟩
      simp only [pairR, pqD]
      simp only [dstart, List.map_cons, List.map_nil, List.cons_append, List.nil_append, List.length_cons, List.length_nil, List.replicate, Nat.reduceAdd, Nat.reduceSub, dSeq, dAsg, dC, dgName, dVar, slot, List.set_cons_zero, List.set_cons_succ, List.getElem?_cons_zero, List.getElem?_cons_succ, dIf, dTest, dBin, dUn, rNeg, dCallF, dCall, dCons, dNil, dRet, dNext, dTup, dLst, rI2, dIfE, dNot, dAnd, dOr, dAndV, dOrV, dDrop, dRaise, dPar, List.zip_cons_cons, List.zip_nil_left, List.foldl_cons, List.foldl_nil, dgTup, dgCons, dgNil, true_and, if_true, if_false, Bool.false_eq_true, Bool.not_true, Bool.not_false, decide_true, decide_false]
      refine rEq_zero o1.1 ?_
      by_cases z1 : e.1.1 = 0
      · rw [decide_eq_true z1]
        exact hct _ _ (nxt _ _ _ _ _ _ _ _ (if_pos (.inl z1)).symm)
      · rw [decide_eq_false z1]
        simp only [Bool.not_true, Bool.not_false, Bool.false_eq_true, if_false, if_true, true_and, decide_true, decide_false, Bool.true_and, Bool.false_and]
        refine rEq_zero o2.1 ?_
        by_cases z2 : e.2.1 = 0
        · rw [decide_eq_true z2]
          exact hct _ _ (nxt _ _ _ _ _ _ _ _ (if_pos (.inr z2)).symm)
        · rw [decide_eq_false z2]
          have es : stP a e = stL a e := if_neg (by rintro (z | z); exact z1 z; exact z2 z)
          simp only [Bool.not_true, Bool.not_false, Bool.false_eq_true, if_false, if_true, true_and, decide_true, decide_false, Bool.true_and, Bool.false_and]
          refine ⟨_, _, rfl, _, _, rfl, szl (by simp), rfl, rfl, rfl, rfl, o1.2.2.cm o2.2.2, ?_⟩
          simp only [rEq_int]
          by_cases z3 : e.1.2 * e.2.2 = a.2
          · rw [decide_eq_true z3]
            exact ⟨o1.2.1.cm o2.2.1, hn _ _ (nxt _ _ _ _ _ _ _ _ (by rw [es]; unfold stL; rw [if_pos z3]))⟩
          · rw [decide_eq_false z3]
            exact ⟨s1.cm (o1.2.2.mul o2.2.2), o1.2.1.cm o2.2.1, (o1.2.1.mul o2.2.1).cm s2, s2.cm (o1.2.2.mul o2.2.2), hn _ _ (nxt _ _ _ _ _ _ _ _ (by rw [es]; unfold stL; rw [if_neg z3]))⟩
  · rintro ρ M' ⟨rfl, rest, a, x4, x5, x6, x7, x8, x9, K, hr, ho, rfl, ha, s1, s2, hK, hf⟩
    match rest, hr with
    | [], _ =>
      simp only [dstart, List.map_cons, List.map_nil, List.cons_append, List.nil_append, List.length_cons, List.length_nil, List.replicate, Nat.reduceAdd, Nat.reduceSub, dSeq, dAsg, dC, dgName, dVar, slot, List.set_cons_zero, List.set_cons_succ, List.getElem?_cons_zero, List.getElem?_cons_succ, dIf, dTest, dBin, dUn, rNeg, dCallF, dCall, dCons, dNil, dRet, dNext, dTup, dLst, rI2, dIfE, dNot, dAnd, dOr, dAndV, dOrV, dDrop, dRaise, dPar, List.zip_cons_cons, List.zip_nil_left, List.foldl_cons, List.foldl_nil, dgTup, dgCons, dgNil, true_and, if_true, if_false, Bool.false_eq_true, Bool.not_true, Bool.not_false, decide_true, decide_false]
      refine ⟨_, _, K, rfl, by omega, s2, by omega, ?_⟩
      rw [dot_same h1 h2] at hf
      rw [show lowD a.1 a.2 = _ from hf]
      exact h
end

end K02
set_option maxHeartbeats 4000000
set_option pp.maxSteps 300
namespace K02
open PySem PySem.Spec PyProof.Rows L2 Dq
open PySem.W (findIn typeIn keepIn)
/-! ### the law's own rows; rows looked at -/
section
variable {c : Nat → Addr}
theorem dotD_sz {k : Nat} : True := trivial
theorem pure_l_dot : ∀ ds M Q E, spDotN ds M Q E → b_l_dot c spLow spPair (fun C fs _ M' => E C fs M') { nx := fun _ M' => Q .non M', rt := Q } (dstart ["row", "other", "top", "bottom", "one", "two", "first", "second", "low"] ds) M := by
  rintro ds M Q E ⟨b, xs, ys, k, rfl, h1, h2, hc, h⟩
  unfold b_l_dot
  simp only [dstart, List.map_cons, List.map_nil, List.cons_append, List.nil_append, List.length_cons, List.length_nil, List.replicate, Nat.reduceAdd, Nat.reduceSub, dSeq, dAsg, dC, dgName, dVar, slot, List.set_cons_zero, List.set_cons_succ, List.getElem?_cons_zero, List.getElem?_cons_succ, dIf, dTest, dBin, dUn, rNeg, dCallF, dCall, dCons, dNil, dRet, dNext, dTup, dLst, rI2, dIfE, dNot, dAnd, dOr, dAndV, dOrV, dDrop, dRaise, dPar, List.zip_cons_cons, List.zip_nil_left, List.foldl_cons, List.foldl_nil, dgTup, dgCons, dgNil, true_and, if_true, if_false, Bool.false_eq_true, Bool.not_true, Bool.not_false, decide_true, decide_false]
  refine ⟨szl (by simp), ?_⟩
  simp only [dFor]
  refine zipM_at (b := b) (xs := xs.map pqD) (ys := ys.map pqD) (fun R hR => hR) ?_
  rw [pairs_zip]
  refine for_inv (fun r ρ M' => M' = M ∧ ∃ (rest : List (PQ × PQ)) (a : PQ) (x4 x5 x6 x7 x8 : Option D) (K : Nat), r = rest.map pairR ∧ (∀ e ∈ rest, PqOk k e.1 ∧ PqOk k e.2) ∧ ρ = [some (seqD b (xs.map pqD)), some (.tup (ys.map pqD)), some (.int a.1), some (.int a.2), x4, x5, x6, x7, x8] ∧ 0 < a.2 ∧ Sz K a.1 ∧ Sz K a.2 ∧ K + lcost k rest.length ≤ 4000 ∧ lowD (rest.foldl stL a).1 (rest.foldl stL a).2 = dotD xs ys) ?_ ?_ ⟨rfl, xs.zip ys, (0, 1), none, none, none, none, none, 1, rfl, zip_ok h1 h2, rfl, by decide, one_sz.1, one_sz.2, hc, rfl⟩
  · rintro x r ρ M' D' ⟨rfl, rest, a, x4, x5, x6, x7, x8, K, hr, ho, rfl, ha, s1, s2, hK, hf⟩ hn hct hb ht
    match rest, hr with
    | e :: rest, hr =>
      cases hr
      obtain ⟨o1, o2⟩ := ho e List.mem_cons_self
      rw [List.length_cons, lcost_succ] at hK
      have nxt : ∀ (t u : Int) (y4 y5 y6 y7 y8 : Option D), (t, u) = stL a e → (M' = M' ∧ ∃ (rest' : List (PQ × PQ)) (a' : PQ) (x4 x5 x6 x7 x8 : Option D) (K : Nat), rest.map pairR = rest'.map pairR ∧ (∀ e ∈ rest', PqOk k e.1 ∧ PqOk k e.2) ∧ ([some (seqD b (xs.map pqD)), some (.tup (ys.map pqD)), some (.int t), some (.int u), y4, y5, y6, y7, y8] : Ds) = [some (seqD b (xs.map pqD)), some (.tup (ys.map pqD)), some (.int a'.1), some (.int a'.2), x4, x5, x6, x7, x8] ∧ 0 < a'.2 ∧ Sz K a'.1 ∧ Sz K a'.2 ∧ K + lcost k rest'.length ≤ 4000 ∧ lowD (rest'.foldl stL a').1 (rest'.foldl stL a').2 = dotD xs ys) := fun t u y4 y5 y6 y7 y8 q =>
        ⟨rfl, rest, (t, u), y4, y5, y6, y7, y8, K + (2 * k + 2 * k + 2), rfl, fun e he => ho e (List.mem_cons_of_mem _ he), rfl, by rw [q]; exact (stL_pos ha o1.1.1 o2.1.1).1, by rw [q]; exact (stL_sz o1 o2 s1 s2).1, by rw [q]; exact (stL_sz o1 o2 s1 s2).2, by omega, by rw [q]; exact hf⟩
      simp only [pairR, pqD]
      simp only [dstart, List.map_cons, List.map_nil, List.cons_append, List.nil_append, List.length_cons, List.length_nil, List.replicate, Nat.reduceAdd, Nat.reduceSub, dSeq, dAsg, dC, dgName, dVar, slot, List.set_cons_zero, List.set_cons_succ, List.getElem?_cons_zero, List.getElem?_cons_succ, dIf, dTest, dBin, dUn, rNeg, dCallF, dCall, dCons, dNil, dRet, dNext, dTup, dLst, rI2, dIfE, dNot, dAnd, dOr, dAndV, dOrV, dDrop, dRaise, dPar, List.zip_cons_cons, List.zip_nil_left, List.foldl_cons, List.foldl_nil, dgTup, dgCons, dgNil, true_and, if_true, if_false, Bool.false_eq_true, Bool.not_true, Bool.not_false, decide_true, decide_false]
      refine ⟨_, _, rfl, _, _, rfl, ?_⟩
      simp only [ix0, ix1]
      refine ⟨o1.2.2.cm o2.2.2, ?_⟩
      simp only [rEq_int]
      by_cases z3 : e.1.2 * e.2.2 = a.2
      · rw [decide_eq_true z3]
        exact ⟨o1.2.1.cm o2.2.1, hn _ _ (nxt _ _ _ _ _ _ _ (by unfold stL; rw [if_pos z3]))⟩
      · rw [decide_eq_false z3]
        exact ⟨s1.cm (o1.2.2.mul o2.2.2), o1.2.1.cm o2.2.1, (o1.2.1.mul o2.2.1).cm s2, s2.cm (o1.2.2.mul o2.2.2), hn _ _ (nxt _ _ _ _ _ _ _ (by unfold stL; rw [if_neg z3]))⟩
  · rintro ρ M' ⟨rfl, rest, a, x4, x5, x6, x7, x8, K, hr, ho, rfl, ha, s1, s2, hK, hf⟩
    match rest, hr with
    | [], _ =>
      simp only [dstart, List.map_cons, List.map_nil, List.cons_append, List.nil_append, List.length_cons, List.length_nil, List.replicate, Nat.reduceAdd, Nat.reduceSub, dSeq, dAsg, dC, dgName, dVar, slot, List.set_cons_zero, List.set_cons_succ, List.getElem?_cons_zero, List.getElem?_cons_succ, dIf, dTest, dBin, dUn, rNeg, dCallF, dCall, dCons, dNil, dRet, dNext, dTup, dLst, rI2, dIfE, dNot, dAnd, dOr, dAndV, dOrV, dDrop, dRaise, dPar, List.zip_cons_cons, List.zip_nil_left, List.foldl_cons, List.foldl_nil, dgTup, dgCons, dgNil, true_and, if_true, if_false, Bool.false_eq_true, Bool.not_true, Bool.not_false, decide_true, decide_false]
      refine ⟨_, _, K, rfl, by omega, s2, by omega, ?_⟩
      rw [show lowD a.1 a.2 = _ from hf]
      exact h
def isL : D → Bool | .lst _ => true | .tup _ => true | .scr _ => true | _ => false
def spIsList : DSp := fun ds M Q _ => ∃ d, ds = [d] ∧ Ty d ∧ Q (.bl (isL d)) M
theorem is2_at {d : D} {M : Mm} {Q : DK} (h : Ty d) (k : Q (.bl (isL d)) M) : cIs2 [d, .tup [.ty "list", .ty "tuple"]] M Q := by
  cases d <;> first | exact k | cases h
theorem pure_l_is_list : ∀ ds M Q E, spIsList ds M Q E → b_l_is_list c (fun C fs _ M' => E C fs M') { nx := fun _ M' => Q .non M', rt := Q } (dstart ["value"] ds) M := by
  rintro ds M Q E ⟨d, rfl, hd, h⟩
  exact ⟨szl (by simp), is2_at hd h⟩
theorem filt_all {l : List D} : (l.filterMap fun x => if isR x = true then none else some x).isEmpty = l.all isR := by
  induction l with
  | nil => rfl
  | cons a r ih =>
    rw [List.all_cons]
    by_cases h : isR a = true
    · rw [List.filterMap_cons_none (by rw [if_pos h]), ih, h, Bool.true_and]
    · have h' : isR a = false := by simpa using h
      rw [List.filterMap_cons_some (by rw [if_neg h]), h']
      rfl
def spAny : DSp := fun ds M Q _ => ∃ l, ds = [.tup l, .int l.length] ∧ l.length < 1000 ∧ (∀ x ∈ l, Kn x) ∧ Q (.bl (l.all isR)) M
theorem eqE_at {l : List D} {M : Mm} {Q : DK} (h : Q (.bl l.isEmpty) M) : rEqE (.lst l) (.lst []) M Q := h
theorem pure_l_is_any_row : ∀ ds M Q E, spAny ds M Q E → b_l_is_any_row c spIsList spIsRat (fun C fs _ M' => E C fs M') { nx := fun _ M' => Q .non M', rt := Q } (dstart ["value", "many", "one"] ds) M := by
  rintro ds M Q E ⟨l, rfl, hl, hk, h⟩
  refine ⟨.tup l, rfl, rfl, ?_⟩
  have e0 : (!decide ((l.length : Int) = l.length)) = false := by simp
  show (if (!decide ((l.length : Int) = l.length)) = true then _ else _)
  rw [e0]
  refine lc_sel (fun x => if isR x = true then none else some x) (by omega) (fun x hx M' R hR => ?_) (fun x hx y e M' R hR => ?_) ?_
  · refine ⟨x, rfl, hk x hx, ?_⟩
    by_cases e : isR x = true
    · rw [if_pos e] at hR; rw [e]; exact hR
    · have e' : isR x = false := by simpa using e
      rw [if_neg e] at hR; rw [e']; exact hR
  · by_cases e' : isR x = true
    · rw [if_pos e'] at e; cases e
    · rw [if_neg e'] at e; cases e; exact hR
  · rw [← filt_all] at h
    exact ⟨szl (by simp), h⟩
/-! ### dot -/
def RowG (x : D) (l : List D) : Prop := (x = .tup l ∨ x = .lst l) ∧ l.length < 1000 ∧ ∀ z ∈ l, Kn z
abbrev rowT (i : Nat) : DT := dOr (dNot (dTest (dCall cIs2 (dCons (dVar i) (dCons (dTup (dCons (dC (.ty "list")) (dCons (dC (.ty "tuple")) dNil))) dNil))))) (dNot (dTest (dCall (cAllB fun bs => bs.all id) (dCons (dLc (dSeqI (dVar i)) (dgName 2) dYes (dCallF spIsRat (fun _ _ _ _ => False) (dCons (dVar 2) dNil)) [2]) dNil))))
theorem bls_map {l : List D} (f : D → Bool) : blsOf (l.filterMap fun x => some (.bl (f x))) = some (l.map f) := by
  induction l with
  | nil => rfl
  | cons a r ih =>
    show blsOf (.bl (f a) :: r.filterMap fun x => some (.bl (f x))) = some (f a :: r.map f)
    unfold blsOf
    rw [ih]
    try rfl
theorem all_map {l : List D} : (l.map isR).all id = l.all isR := by rw [List.all_map]; rfl
theorem row_list {i : Nat} {a b o : Option D} {M : Mm} {R : Bool → Mm → Prop} {x : D} {l : List D} (hs : slot [a, b, o] i = some x) (h : RowG x l) (k : R (!(l.all isR)) M) : rowT i [a, b, o] M R := by
  obtain ⟨hx, hl, hk⟩ := h
  have hT : Ty x := by rcases hx with rfl | rfl <;> rfl
  have hL : isL x = true := by rcases hx with rfl | rfl <;> rfl
  have hI : items x = some l := by rcases hx with rfl | rfl <;> rfl
  unfold rowT
  simp only [dOr, dNot, dTest, dCall, dCons, dVar, hs, dTup, dC, dNil]
  refine ⟨szl (by simp), is2_at hT ?_⟩
  rw [hL]
  simp only [Bool.not_true, Bool.not_false, Bool.false_eq_true, if_false, if_true, true_and, decide_true, decide_false, Bool.true_and, Bool.false_and]
  simp only [dLc, dSeqI, dVar, hs, hI]
  refine lc_sel (fun z => some (.bl (isR z))) (by omega) (fun z hz M' R hR => hR) (fun z hz y e M' R hR => ?_) ?_
  · cases e
    exact ⟨z, rfl, hk z hz, hR⟩
  · unfold cAllB
    simp only [bls_map, all_map]
    exact k
theorem row_bad {i : Nat} {ρ : Ds} {M : Mm} {R : Bool → Mm → Prop} {x : D} (hs : slot ρ i = some x) (hT : Ty x) (hL : isL x = false) (k : R true M) : rowT i ρ M R := by
  unfold rowT
  simp only [dOr, dNot, dTest, dCall, dCons, dVar, hs, dTup, dC, dNil]
  refine ⟨szl (by simp), is2_at hT ?_⟩
  rw [hL]
  exact k
/-- no row of ratios -/
def RowB (x : D) : Prop := (Ty x ∧ isL x = false) ∨ ∃ l, RowG x l ∧ l.all isR = false
theorem row_yes {i : Nat} {a b o : Option D} {M : Mm} {R : Bool → Mm → Prop} {x : D} (hs : slot [a, b, o] i = some x) (h : RowB x) (k : R true M) : rowT i [a, b, o] M R := by
  rcases h with ⟨hT, hL⟩ | ⟨l, h, e⟩
  · exact row_bad hs hT hL k
  · exact row_list hs h (by rw [e]; exact k)
theorem row_no {i : Nat} {a b o : Option D} {M : Mm} {R : Bool → Mm → Prop} {x : D} {l : List D} (hs : slot [a, b, o] i = some x) (h : RowG x l) (e : l.all isR = true) (k : R false M) : rowT i [a, b, o] M R :=
  row_list hs h (by rw [e]; exact k)
theorem rowG_seq {b : Bool} {xs : List PQ} {k : Nat} (h : ∀ e ∈ xs, PqOk k e) (hl : xs.length < 1000) : RowG (seqD b (xs.map pqD)) (xs.map pqD) ∧ (xs.map pqD).all isR = true := by
  refine ⟨⟨by cases b; exact .inl rfl; exact .inr rfl, by rw [List.length_map]; exact hl, fun z hz => ?_⟩, List.all_eq_true.mpr fun z hz => ?_⟩
  · obtain ⟨e, _, rfl⟩ := List.mem_map.mp hz
    exact kn_rat
  · obtain ⟨e, he, rfl⟩ := List.mem_map.mp hz
    exact isR_rat (h e he).1
def spDot (c : Nat → Addr) : DSp := fun ds M Q E => ∃ x y, ds = [x, y] ∧
  ((∃ b xs ys k, x = seqD b (xs.map pqD) ∧ y = .tup (ys.map pqD) ∧ (∀ e ∈ xs, PqOk k e) ∧ (∀ e ∈ ys, PqOk k e) ∧ xs.length < 1000 ∧ xs.length = ys.length ∧ 1 + lcost k (xs.zip ys).length ≤ 4000 ∧ Q (dotD xs ys) M) ∨
   (RowB x ∧ E (c 2) [("what", .str "row"), ("row", x)] M) ∨
   (∃ l, RowG x l ∧ l.all isR = true ∧ ((RowB y ∧ E (c 2) [("what", .str "other"), ("row", y)] M) ∨ ∃ l2, RowG y l2 ∧ l2.all isR = true ∧ l.length ≠ l2.length ∧ E (c 12) [("what", .str "other")] M)))
theorem len_seq {x : D} {l : List D} {M : Mm} {Q : DK} (h : RowG x l) : cLen [x] M Q = Q (.int l.length) M := by
  rcases h.1 with rfl | rfl <;> rfl
theorem pure_dot : ∀ ds M Q E, spDot c ds M Q E → b_dot c spIsRat spDotN (fun C fs _ M' => E C fs M') { nx := fun _ M' => Q .non M', rt := Q } (dstart ["row", "other", "one"] ds) M := by
  rintro ds M Q E ⟨x, y, rfl, h⟩
  unfold b_dot
  simp only [dSeq, dIf]
  rcases h with ⟨b, xs, ys, k, rfl, rfl, h1, h2, hl, he, hc, h⟩ | ⟨hx, h⟩ | ⟨l, hx, ex, h⟩
  · obtain ⟨g1, a1⟩ := rowG_seq (b := b) h1 hl
    obtain ⟨g2, a2⟩ := rowG_seq (b := false) h2 (by omega)
    refine row_no rfl g1 a1 ?_
    simp only [Bool.false_eq_true, if_false, dNext, dSeq, dIf, dstart, List.map_cons, List.map_nil, List.cons_append, List.nil_append, List.length_cons, List.length_nil, List.replicate, Nat.reduceAdd, Nat.reduceSub]
    refine row_no (i := 1) rfl g2 a2 ?_
    simp only [dstart, List.map_cons, List.map_nil, List.cons_append, List.nil_append, List.length_cons, List.length_nil, List.replicate, Nat.reduceAdd, Nat.reduceSub, dSeq, dAsg, dC, dgName, dVar, slot, List.set_cons_zero, List.set_cons_succ, List.getElem?_cons_zero, List.getElem?_cons_succ, dIf, dTest, dBin, dUn, rNeg, dCallF, dCall, dCons, dNil, dRet, dNext, dTup, dLst, rI2, dIfE, dNot, dAnd, dOr, dAndV, dOrV, dDrop, dRaise, dPar, List.zip_cons_cons, List.zip_nil_left, List.foldl_cons, List.foldl_nil, dgTup, dgCons, dgNil, true_and, if_true, if_false, Bool.false_eq_true, Bool.not_true, Bool.not_false, decide_true, decide_false]
    simp only [len_seq g1, len_tup, rNe_int]
    rw [show decide (((xs.map pqD).length : Int) = ((ys.map pqD).length : Int)) = true by simp [he]]
    exact ⟨b, xs, ys, k, rfl, h1, h2, hc, h⟩
  · refine row_yes rfl hx ?_
    exact ⟨rfl, h⟩
  · refine row_no rfl hx ex ?_
    simp only [Bool.false_eq_true, if_false, dNext, dSeq, dIf, dstart, List.map_cons, List.map_nil, List.cons_append, List.nil_append, List.length_cons, List.length_nil, List.replicate, Nat.reduceAdd, Nat.reduceSub]
    rcases h with ⟨hy, h⟩ | ⟨l2, hy, ey, hn, h⟩
    · refine row_yes (i := 1) rfl hy ?_
      exact ⟨rfl, h⟩
    · refine row_no (i := 1) rfl hy ey ?_
      simp only [dstart, List.map_cons, List.map_nil, List.cons_append, List.nil_append, List.length_cons, List.length_nil, List.replicate, Nat.reduceAdd, Nat.reduceSub, dSeq, dAsg, dC, dgName, dVar, slot, List.set_cons_zero, List.set_cons_succ, List.getElem?_cons_zero, List.getElem?_cons_succ, dIf, dTest, dBin, dUn, rNeg, dCallF, dCall, dCons, dNil, dRet, dNext, dTup, dLst, rI2, dIfE, dNot, dAnd, dOr, dAndV, dOrV, dDrop, dRaise, dPar, List.zip_cons_cons, List.zip_nil_left, List.foldl_cons, List.foldl_nil, dgTup, dgCons, dgNil, true_and, if_true, if_false, Bool.false_eq_true, Bool.not_true, Bool.not_false, decide_true, decide_false]
      simp only [len_seq hx, len_seq hy, rNe_int]
      rw [show decide ((l.length : Int) = (l2.length : Int)) = false by simp; omega]
      exact h
end

end K02
set_option maxHeartbeats 4000000
set_option pp.maxSteps 300
namespace K02
open PySem PySem.Spec PyProof.Rows L2 Dq
open PySem.W (findIn typeIn keepIn)
/-! ### what a call raises -/
def NiceE (c : Nat → Addr) (Q : DK) : DX := fun C fs M => ∃ (k : Nat) (a b d : D), k < 17 ∧ C = c (k + 1) ∧ fs = flK k a b d ∧ AnyF a ∧ AnyF b ∧ Q (due k a b d) M
def spFault (c : Nat → Addr) : LSp := fun lam M Q _ => ∀ (Ed : DX) (Qd : DK), (∀ C fs M', NiceE c Q C fs M' → Ed C fs M') → (∀ d M', Q .non M' → Qd d M') → lam Ed M Qd
theorem ix_one {x : D} {M : Mm} {Q : DK} : Dq.rIx (.lst [x]) (.int 0) M Q = Q x M := rfl
section
variable {c : Nat → Addr}
theorem pure_l_kinds : ∀ q C fl ds M Q E, Inj c 18 → spKinds c q C fl ds M Q E → b_l_kinds c (spMoreKinds c) q C fl (fun C fs _ M' => E C fs M') { nx := fun _ M' => Q .non M', rt := Q } (dstart ["e", "found"] ds) M := fun q C fl ds M Q E inj h => Dq.pure_kinds inj q C fl ds M Q E h
theorem pure_l_more_kinds : ∀ q C fl ds M Q E, Inj c 18 → spMoreKinds c q C fl ds M Q E → b_l_more_kinds c q C fl (fun C fs _ M' => E C fs M') { nx := fun _ M' => Q .non M', rt := Q } (dstart ["e", "found"] ds) M := fun q C fl ds M Q E inj h => Dq.pure_more_kinds inj q C fl ds M Q E h
theorem pure_l_fault (inj : Inj c 18) : ∀ f lam M Q E, spFault c lam M Q E → b_l_fault c (spKinds c) f lam (fun C fs _ M' => E C fs M') { nx := fun _ M' => Q .non M', rt := Q } (dstart ["call", "found", "e"] [.ref f]) M := by
  intro f lam M Q E h
  refine ⟨rfl, h _ _ ?_ ?_⟩
  · rintro C fs M' ⟨k, a, b, d, hk, rfl, rfl, ha, hb, hq⟩
    refine .inl ⟨decide_eq_true (mem_allC (by omega)), fun q => ?_⟩
    refine ⟨rfl, k, a, b, d, hk, rfl, rfl, ha, hb, ?_⟩
    exact ⟨rfl, hq⟩
  · exact fun d M' hq => hq
end

end K02
set_option maxHeartbeats 4000000
set_option pp.maxSteps 300
namespace K02
open PySem PySem.Spec PyProof.Rows L2 Dq
open PySem.W (findIn typeIn keepIn)
/-! ### data with a short text -/
def Px (n k : Nat) (d : D) : Prop := ∃ p, D.px d = some p ∧ Okp n k p
theorem Px.mono {n m j k : Nat} {d : D} (h : Px n j d) (l : n ≤ m) (l2 : j ≤ k) : Px m k d := let ⟨p, e, o⟩ := h; ⟨p, e, o.mono l l2⟩
theorem Px.any {n k : Nat} {d : D} (h : Px n k d) (l : n ≤ 100000 := by omega) (l2 : k ≤ 20 := by omega) : AnyF d := h.mono l l2
theorem px_non : Px 200 3 .non := ⟨_, rfl, okp_none.mono (by decide) (by decide)⟩
theorem px_bl {b : Bool} : Px 200 3 (.bl b) := ⟨_, rfl, (okp_bool b).mono (by decide) (by decide)⟩
theorem px_int {i : Int} (h : Sz 190 i) : Px 200 3 (.int i) := ⟨_, rfl, (okp_int (k := 191) (Nat.lt_succ_of_le h.log) (by decide)).mono (by decide) (by decide)⟩
theorem px_str {z : String} (h : z.length ≤ 15) : Px 200 3 (.str (Str.ofString z)) := ⟨_, rfl, (okp_str ((fine_ofString z).mono h)).mono (by decide) (by decide)⟩
theorem px_dic0 : Px 200 3 (.dic []) := ⟨.dict [], rfl, ⟨rfl, (fine_dict (n := 1) (l := []) (fun x h => nomatch h)).mono (by decide), by decide⟩⟩
theorem pxs_of {n k : Nat} : ∀ {l : List D}, (∀ x ∈ l, Px n k x) → ∃ ps, D.pxs l = some ps ∧ Okps n k ps ∧ ps.length = l.length
  | [], _ => ⟨[], rfl, okps_nil, rfl⟩
  | x :: r, h => by
    obtain ⟨p, e1, o1⟩ := h x List.mem_cons_self
    obtain ⟨ps, e2, o2, e3⟩ := pxs_of fun y hy => h y (List.mem_cons_of_mem _ hy)
    exact ⟨p :: ps, by rw [D.pxs, e1, e2], okps_cons o1 o2, by simp [e3]⟩
theorem px_tup {n k m : Nat} {l : List D} (h : ∀ x ∈ l, Px n k x) (hl : l.length ≤ m) : Px (m * (n + 2) + 3) (k + 1) (.tup l) := by
  obtain ⟨ps, e, o, e2⟩ := pxs_of h
  exact ⟨.tuple ps, by rw [D.px, e]; rfl, (okp_tuple o).mono (by rw [e2]; exact Nat.add_le_add_right (Nat.mul_le_mul_right _ hl) _) (Nat.le_refl _)⟩
theorem px_lst {n k m : Nat} {l : List D} (h : ∀ x ∈ l, Px n k x) (hl : l.length ≤ m) : Px (m * (n + 2) + 2) (k + 1) (.lst l) := by
  obtain ⟨ps, e, o, e2⟩ := pxs_of h
  exact ⟨.list ps, by rw [D.px, e]; rfl, (okp_list o).mono (by rw [e2]; exact Nat.add_le_add_right (Nat.mul_le_mul_right _ hl) _) (Nat.le_refl _)⟩
theorem px_two {a b : Int} (h1 : Sz 190 a) (h2 : Sz 190 b) : Px 500 4 (.tup [.int a, .int b]) :=
  (px_tup (m := 2) (fun x hx => by simp only [List.mem_cons, List.not_mem_nil, or_false] at hx; rcases hx with rfl | rfl; exact px_int h1; exact px_int h2) (by simp)).mono (by decide) (by decide)
theorem px_rat {k : Nat} {e : PQ} (h : PqOk k e) (hk : k ≤ 190) : Px 500 4 (pqD e) := by
  unfold pqD ratD
  split
  · exact (px_int (h.2.1.mono hk)).mono (by decide) (by decide)
  · exact px_two (h.2.1.mono hk) (h.2.2.mono hk)
theorem sz_lit {k : Nat} {a : Int} (h : a.natAbs < 2 ^ k) : Sz k a := h
/-! ### draws -/
theorem penOk_mono {n m : Nat} {P : List (Key × D)} (h : PenOk n P) (l : n ≤ m) : PenOk m P := by
  obtain ⟨ns, a, dg, ct, fo, e, h1, h2, h3, h4⟩ := h
  exact ⟨ns, a, dg, ct, fo, e, h1, h2, by omega, h4⟩
theorem draw_at {p : Addr} {many : Int} {P : List (Key × D)} {n : Nat} {M : Mm} {Q : DK} {E : DX} (hM : M p = some (.dic P)) (hp : PenOk n P) (hn : n < topN) (h0 : 0 < many) (h1 : many < 4611686018427387904) (k : ∀ r P', 0 ≤ r → r < many → PenOk (n + 1) P' → Q (.int r) (M.set p (.dic P'))) : spDraw [.ref p, .int many] M Q E :=
  ⟨p, many, P, n, rfl, h0, h1, hM, hp, hn, k⟩
theorem pick_at {p : Addr} {xs : List D} {P : List (Key × D)} {n : Nat} {M : Mm} {Q : DK} {E : DX} (hM : M p = some (.dic P)) (hp : PenOk n P) (hn : n < topN) (hne : xs ≠ []) (hl : xs.length < 1000) (k : ∀ x P', x ∈ xs → PenOk (n + 1) P' → Q x (M.set p (.dic P'))) : spPick [.ref p, .lst xs] M Q E :=
  ⟨p, _, xs, P, n, rfl, rfl, hne, by omega, hM, hp, hn, k⟩
def spWide : DSp := fun ds M Q _ => ∃ p f P n, ds = [.ref p, .int f] ∧ (f = 39 ∨ f = 40) ∧ M p = some (.dic P) ∧ PenOk n P ∧ n + 7 < topN ∧ ∀ r P', 0 ≤ r → r < 10 ^ 40 → PenOk (n + 7) P' → Q (.int r) (M.set p (.dic P'))
section
variable {c : Nat → Addr}
theorem pow6 : (10 : Int) ^ Int.toNat 6 = 1000000 := by decide
theorem cpow6 : CPow 10 6 := ⟨by decide, by decide, by decide⟩
theorem pure_l_wide : ∀ ds M Q E, spWide ds M Q E → b_l_wide c spDraw (fun C fs _ M' => E C fs M') { nx := fun _ M' => Q .non M', rt := Q } (dstart ["pen", "figures", "found", "top", "lap"] ds) M := by
  rintro ds M Q E ⟨p, f, P, n, rfl, hf, hM, hp, hn, k⟩
  unfold b_l_wide
  simp only [dstart, List.map_cons, List.map_nil, List.cons_append, List.nil_append, List.length_cons, List.length_nil, List.replicate, Nat.reduceAdd, Nat.reduceSub, dSeq, dAsg, dC, dgName, dVar, slot, List.set_cons_zero, List.set_cons_succ, List.getElem?_cons_zero, List.getElem?_cons_succ, dIf, dTest, dBin, dUn, rNeg, dCallF, dCall, dCons, dNil, dRet, dNext, dTup, dLst, rI2, dIfE, dNot, dAnd, dOr, dAndV, dOrV, dDrop, dRaise, dPar, List.zip_cons_cons, List.zip_nil_left, List.foldl_cons, List.foldl_nil, dgTup, dgCons, dgNil, true_and, if_true, if_false, Bool.false_eq_true, Bool.not_true, Bool.not_false, decide_true, decide_false]
  have hlaps : (f + 5).fdiv 6 = 7 := by rcases hf with rfl | rfl <;> decide
  have cd6 : CDivA (f + 5) 6 := ⟨by decide, by decide⟩
  refine ⟨szl (by simp), ?_⟩
  simp only [dFor, dRng1, rAddA, Dq.rAdd]
  simp only [dstart, List.map_cons, List.map_nil, List.cons_append, List.nil_append, List.length_cons, List.length_nil, List.replicate, Nat.reduceAdd, Nat.reduceSub, dSeq, dAsg, dC, dgName, dVar, slot, List.set_cons_zero, List.set_cons_succ, List.getElem?_cons_zero, List.getElem?_cons_succ, dIf, dTest, dBin, dUn, rNeg, dCallF, dCall, dCons, dNil, dRet, dNext, dTup, dLst, rI2, dIfE, dNot, dAnd, dOr, dAndV, dOrV, dDrop, dRaise, dPar, List.zip_cons_cons, List.zip_nil_left, List.foldl_cons, List.foldl_nil, dgTup, dgCons, dgNil, true_and, if_true, if_false, Bool.false_eq_true, Bool.not_true, Bool.not_false, decide_true, decide_false]
  refine ⟨cd6, ?_⟩
  rw [hlaps]
  refine ⟨by decide, ?_⟩
  refine for_inv (fun r ρ M' => ∃ (j : Nat) (v : Int) (P' : List (Key × D)) (o : Option D), r.length = j ∧ j ≤ 7 ∧ ρ = [some (.ref p), some (.int f), some (.int v), some (.int 1), o] ∧ M' = M.set p (.dic P') ∧ PenOk (n + (7 - j)) P' ∧ Sz (21 * (7 - j) + 1) v) ?_ ?_ ⟨7, 0, P, none, rfl, by decide, rfl, (Mm.set_eq hM).symm, hp, one_sz.1.mono (by omega)⟩
  · rintro x r ρ M' D' ⟨j, v, P', o, hj, hj7, rfl, rfl, hp', sv⟩ hnx hct hb ht
    rw [List.length_cons] at hj
    simp only [dstart, List.map_cons, List.map_nil, List.cons_append, List.nil_append, List.length_cons, List.length_nil, List.replicate, Nat.reduceAdd, Nat.reduceSub, dSeq, dAsg, dC, dgName, dVar, slot, List.set_cons_zero, List.set_cons_succ, List.getElem?_cons_zero, List.getElem?_cons_succ, dIf, dTest, dBin, dUn, rNeg, dCallF, dCall, dCons, dNil, dRet, dNext, dTup, dLst, rI2, dIfE, dNot, dAnd, dOr, dAndV, dOrV, dDrop, dRaise, dPar, List.zip_cons_cons, List.zip_nil_left, List.foldl_cons, List.foldl_nil, dgTup, dgCons, dgNil, true_and, if_true, if_false, Bool.false_eq_true, Bool.not_true, Bool.not_false, decide_true, decide_false]
    refine ⟨cpow6, ?_⟩
    rw [pow6]
    refine ⟨sv.cm (k := 20) (b := 1000000) (sz_lit (by decide)), ?_⟩
    refine ⟨cpow6, ?_⟩
    refine draw_at Mm.set_same hp' (by omega) (by decide) (by decide) fun r' P2 r0 r1 hp2 => ?_
    rw [Mm.set_set]
    have s1 : Sz (21 * (7 - j) + 1 + 20) (v * 1000000) := sv.mul (k := 20) (sz_lit (by decide))
    have s2 : Sz (21 * (7 - j) + 1 + 20) r' := (sz_of (k := 20) (by omega) (by omega) : Sz 20 r').mono (by omega)
    exact hnx _ _ ⟨j - 1, v * 1000000 + r', P2, some x, by omega, by omega, rfl, rfl, penOk_mono hp2 (by omega), (s1.add s2).mono (by omega)⟩
  · rintro ρ M' ⟨j, v, P', o, hj, hj7, rfl, rfl, hp', sv⟩
    simp only [List.length_nil] at hj
    subst hj
    refine ⟨by omega, ?_⟩
    have hr : (rng 0 f.toNat).length = f.toNat := by unfold rng; simp
    refine for_inv (fun r ρ M' => ∃ (o : Option D), r.length ≤ f.toNat ∧ ρ = [some (.ref p), some (.int f), some (.int v), some (.int (10 ^ (f.toNat - r.length))), o] ∧ M' = M.set p (.dic P')) ?_ ?_ ⟨_, by omega, by rw [hr, Nat.sub_self]; rfl, rfl⟩
    · rintro x r ρ M' D' ⟨o, hl, rfl, rfl⟩ hnx hct hb ht
      rw [List.length_cons] at hl
      simp only [dstart, List.map_cons, List.map_nil, List.cons_append, List.nil_append, List.length_cons, List.length_nil, List.replicate, Nat.reduceAdd, Nat.reduceSub, dSeq, dAsg, dC, dgName, dVar, slot, List.set_cons_zero, List.set_cons_succ, List.getElem?_cons_zero, List.getElem?_cons_succ, dIf, dTest, dBin, dUn, rNeg, dCallF, dCall, dCons, dNil, dRet, dNext, dTup, dLst, rI2, dIfE, dNot, dAnd, dOr, dAndV, dOrV, dDrop, dRaise, dPar, List.zip_cons_cons, List.zip_nil_left, List.foldl_cons, List.foldl_nil, dgTup, dgCons, dgNil, true_and, if_true, if_false, Bool.false_eq_true, Bool.not_true, Bool.not_false, decide_true, decide_false]
      have e10 : (10 : Int) ^ (f.toNat - (r.length + 1)) * 10 = 10 ^ (f.toNat - r.length) := by
        rw [← Int.pow_succ]
        congr 1
        omega
      have st : Sz 161 ((10 : Int) ^ (f.toNat - (r.length + 1))) := by
        unfold Sz
        rw [Int.natAbs_pow]
        exact Nat.lt_of_le_of_lt (Nat.le_trans (Nat.pow_le_pow_left (by decide : Int.natAbs 10 ≤ 16) _) (Nat.pow_le_pow_right (by decide) (by omega : f.toNat - (r.length + 1) ≤ 40))) (by decide)
      refine ⟨st.cm (k := 4) (b := 10) (sz_lit (by decide)), ?_⟩
      rw [e10]
      exact hnx _ _ ⟨_, by omega, rfl, rfl⟩
    · rintro ρ M' ⟨o, hl, rfl, rfl⟩
      simp only [dstart, List.map_cons, List.map_nil, List.cons_append, List.nil_append, List.length_cons, List.length_nil, List.replicate, Nat.reduceAdd, Nat.reduceSub, dSeq, dAsg, dC, dgName, dVar, slot, List.set_cons_zero, List.set_cons_succ, List.getElem?_cons_zero, List.getElem?_cons_succ, dIf, dTest, dBin, dUn, rNeg, dCallF, dCall, dCons, dNil, dRet, dNext, dTup, dLst, rI2, dIfE, dNot, dAnd, dOr, dAndV, dOrV, dDrop, dRaise, dPar, List.zip_cons_cons, List.zip_nil_left, List.foldl_cons, List.foldl_nil, dgTup, dgCons, dgNil, true_and, if_true, if_false, Bool.false_eq_true, Bool.not_true, Bool.not_false, decide_true, decide_false]
      simp only [cInt, List.length_nil, Nat.sub_zero]
      have hpos : (0 : Int) < 10 ^ f.toNat := Int.pow_pos (by decide)
      refine ⟨hpos, k _ _ (Int.emod_nonneg _ (by omega)) (Int.lt_of_lt_of_le (Int.emod_lt_of_pos _ hpos) ?_) (penOk_mono hp' (by omega))⟩
      rcases hf with rfl | rfl <;> decide

def spNumber : DSp := fun ds M Q _ => ∃ p z P n, ds = [.ref p, .int z] ∧ M p = some (.dic P) ∧ PenOk n P ∧ n + 15 < topN ∧ ∀ d P', Nm (if z = 0 ∨ z = 1 ∨ z = 2 then 11 else 140) d → PenOk (n + 15) P' → Q d (M.set p (.dic P'))
theorem low_at {t b : Int} {k : Nat} {M : Mm} {Q : DK} {E : DX} (hb : b ≠ 0) (h : Sz k b) (hk : k < 9000) (q : Q (lowD t b) M) : spLow [.int t, .int b] M Q E := ⟨t, b, k, rfl, hb, h, hk, q⟩
theorem wide_at {p : Addr} {f : Int} {P : List (Key × D)} {n : Nat} {M : Mm} {Q : DK} {E : DX} (hf : f = 39 ∨ f = 40) (hM : M p = some (.dic P)) (hp : PenOk n P) (hn : n + 7 < topN) (k : ∀ r P', 0 ≤ r → r < 10 ^ 40 → PenOk (n + 7) P' → Q (.int r) (M.set p (.dic P'))) : spWide [.ref p, .int f] M Q E :=
  ⟨p, f, P, n, rfl, hf, hM, hp, hn, k⟩
theorem pow40 : (10 : Int) ^ 40 < 2 ^ 134 := by decide
theorem pure_l_number : ∀ ds M Q E, spNumber ds M Q E → b_l_number c spDraw spLow spWide (fun C fs _ M' => E C fs M') { nx := fun _ M' => Q .non M', rt := Q } (dstart ["pen", "size"] ds) M := by
  rintro ds M Q E ⟨p, z, P, n, rfl, hM, hp, hn, k⟩
  unfold b_l_number
  simp only [dstart, List.map_cons, List.map_nil, List.cons_append, List.nil_append, List.length_cons, List.length_nil, List.replicate, Nat.reduceAdd, Nat.reduceSub, dSeq, dAsg, dC, dgName, dVar, slot, List.set_cons_zero, List.set_cons_succ, List.getElem?_cons_zero, List.getElem?_cons_succ, dIf, dTest, dBin, dUn, rNeg, dCallF, dCall, dCons, dNil, dRet, dNext, dTup, dLst, rI2, dIfE, dNot, dAnd, dOr, dAndV, dOrV, dDrop, dRaise, dPar, List.zip_cons_cons, List.zip_nil_left, List.foldl_cons, List.foldl_nil, dgTup, dgCons, dgNil, true_and, if_true, if_false, Bool.false_eq_true, Bool.not_true, Bool.not_false, decide_true, decide_false]
  simp only [rEq_int, rAddA, Dq.rAdd]
  by_cases h0 : z = 0
  · rw [decide_eq_true h0]
    simp only [Bool.not_true, Bool.not_false, Bool.false_eq_true, if_false, if_true, true_and, decide_true, decide_false, Bool.true_and, Bool.false_and]
    rw [if_pos (.inl h0)] at k
    refine draw_at hM hp (by omega) (by decide) (by decide) fun r P1 r0 r1 hp1 => ?_
    exact (k _ _ (nm_int (sz_of (by omega) (by omega)) (by decide)) (penOk_mono hp1 (by omega)))
  rw [decide_eq_false h0]
  simp only [Bool.not_true, Bool.not_false, Bool.false_eq_true, if_false, if_true, true_and, decide_true, decide_false, Bool.true_and, Bool.false_and]
  by_cases h1 : z = 1
  · rw [decide_eq_true h1]
    simp only [Bool.not_true, Bool.not_false, Bool.false_eq_true, if_false, if_true, true_and, decide_true, decide_false, Bool.true_and, Bool.false_and]
    rw [if_pos (.inr (.inl h1))] at k
    refine draw_at hM hp (by omega) (by decide) (by decide) fun r P1 r0 r1 hp1 => ?_
    refine draw_at Mm.set_same hp1 (by omega) (by decide) (by decide) fun s P2 s0 s1 hp2 => ?_
    rw [Mm.set_set]
    have sb : Sz 11 (1 + s) := sz_of (by omega) (by omega)
    exact low_at (by omega) sb (by decide) (k _ _ (nm_low (by omega) (sz_of (by omega) (by omega)) sb) (penOk_mono hp2 (by omega)))
  rw [decide_eq_false h1]
  simp only [Bool.not_true, Bool.not_false, Bool.false_eq_true, if_false, if_true, true_and, decide_true, decide_false, Bool.true_and, Bool.false_and]
  by_cases h2 : z = 2
  · rw [decide_eq_true h2]
    simp only [Bool.not_true, Bool.not_false, Bool.false_eq_true, if_false, if_true, true_and, decide_true, decide_false, Bool.true_and, Bool.false_and]
    rw [if_pos (.inr (.inr h2))] at k
    refine draw_at hM hp (by omega) (by decide) (by decide) fun r P1 r0 r1 hp1 => ?_
    refine draw_at Mm.set_same hp1 (by omega) (by decide) (by decide) fun s P2 s0 s1 hp2 => ?_
    rw [Mm.set_set]
    have sb : Sz 11 (1 + s) := sz_of (by omega) (by omega)
    exact low_at (by omega) sb (by decide) (k _ _ (nm_low (by omega) (sz_of (by omega) (by omega)) sb) (penOk_mono hp2 (by omega)))
  rw [decide_eq_false h2]
  simp only [Bool.not_true, Bool.not_false, Bool.false_eq_true, if_false, if_true, true_and, decide_true, decide_false, Bool.true_and, Bool.false_and]
  rw [if_neg (by rintro (h | h | h); exact h0 h; exact h1 h; exact h2 h)] at k
  refine draw_at hM hp (by omega) (by decide) (by decide) fun r P1 r0 r1 hp1 => ?_
  refine ⟨(sz_lit (by decide) : Sz 2 2).cm (sz_of (k := 2) (by omega) (by omega)), ?_⟩
  refine wide_at (.inr rfl) Mm.set_same hp1 (by omega) fun s P2 s0 s1 hp2 => ?_
  rw [Mm.set_set]
  have h40 := pow40
  have ss : Sz 134 s := sz_of (by omega) (by omega)
  have sr : Sz 4 (1 - 2 * r) := sz_of (by omega) (by omega)
  refine ⟨sr.cm ss, ?_⟩
  refine wide_at (.inl rfl) Mm.set_same hp2 (by omega) fun u P3 u0 u1 hp3 => ?_
  rw [Mm.set_set]
  have su : Sz 140 (1 + u) := sz_of (by omega) (by omega)
  exact low_at (by omega) su (by decide) (k _ _ (nm_low (by omega) ((sr.mul ss).mono (by decide)) su) (penOk_mono hp3 (by omega)))
def spSize : DSp := fun ds M Q _ => ∃ p P n, ds = [.ref p] ∧ M p = some (.dic P) ∧ PenOk n P ∧ n < topN ∧ ∀ z P', (z = 0 ∨ z = 1 ∨ z = 2) → PenOk (n + 1) P' → Q (.int z) (M.set p (.dic P'))
theorem pure_l_size : ∀ ds M Q E, spSize ds M Q E → b_l_size c spPick (fun C fs _ M' => E C fs M') { nx := fun _ M' => Q .non M', rt := Q } (dstart ["pen"] ds) M := by
  rintro ds M Q E ⟨p, P, n, rfl, hM, hp, hn, k⟩
  unfold b_l_size
  simp only [dstart, List.map_cons, List.map_nil, List.cons_append, List.nil_append, List.length_cons, List.length_nil, List.replicate, Nat.reduceAdd, Nat.reduceSub, dSeq, dAsg, dC, dgName, dVar, slot, List.set_cons_zero, List.set_cons_succ, List.getElem?_cons_zero, List.getElem?_cons_succ, dIf, dTest, dBin, dUn, rNeg, dCallF, dCall, dCons, dNil, dRet, dNext, dTup, dLst, rI2, dIfE, dNot, dAnd, dOr, dAndV, dOrV, dDrop, dRaise, dPar, List.zip_cons_cons, List.zip_nil_left, List.foldl_cons, List.foldl_nil, dgTup, dgCons, dgNil, true_and, if_true, if_false, Bool.false_eq_true, Bool.not_true, Bool.not_false, decide_true, decide_false]
  refine ⟨szl (by simp), pick_at hM hp hn (by simp) (by simp) fun x P1 hx hp1 => ?_⟩
  simp only [List.mem_cons, List.not_mem_nil, or_false] at hx
  rcases hx with rfl | rfl | rfl | rfl | rfl | rfl
  · exact k 0 _ (by decide) hp1
  · exact k 0 _ (by decide) hp1
  · exact k 0 _ (by decide) hp1
  · exact k 1 _ (by decide) hp1
  · exact k 1 _ (by decide) hp1
  · exact k 2 _ (by decide) hp1
/-- odd values -/
def OddOk (d : D) : Prop := Kn d ∧ isR d = false ∧ Px 1000 5 d
theorem kn_flat {d : D} (h : Ty d) (h2 : ∀ xs, d ≠ .tup xs) : Kn d := ⟨h, fun a b e => absurd e (h2 _)⟩
def spOdd : DSp := fun ds M Q _ => ∃ p P n, ds = [.ref p] ∧ M p = some (.dic P) ∧ PenOk n P ∧ n < topN ∧ ∀ d P', OddOk d → PenOk (n + 1) P' → Q d (M.set p (.dic P'))
theorem px_small {l : List D} (h : ∀ x ∈ l, Px 200 3 x) (hl : l.length ≤ 3) : Px 1000 5 (.tup l) := (px_tup h hl).mono (by decide) (by decide)
theorem px_1 {a : D} (h : Px 200 3 a) : ∀ x ∈ [a], Px 200 3 x := fun x hx => by rw [List.mem_singleton.mp hx]; exact h
theorem px_c {a : D} {l : List D} (h : Px 200 3 a) (g : ∀ x ∈ l, Px 200 3 x) : ∀ x ∈ a :: l, Px 200 3 x := fun x hx => (List.mem_cons.mp hx).elim (fun z => by rw [z]; exact h) (g x)
theorem px_i {i : Int} (h : i.natAbs < 2 ^ 190) : Px 200 3 (.int i) := px_int h
theorem px_up {d : D} (h : Px 200 3 d) : Px 1000 5 d := h.mono (by decide) (by decide)
theorem odd_two {a b : Int} (h1 : a.natAbs < 2 ^ 190) (h2 : b.natAbs < 2 ^ 190) (h : isR (.tup [.int a, .int b]) = false) : OddOk (.tup [.int a, .int b]) :=
  ⟨⟨rfl, fun x y e => by simp only [D.tup.injEq, List.cons.injEq] at e; obtain ⟨rfl, rfl, _⟩ := e; exact ⟨rfl, rfl⟩⟩, h, px_small (px_c (px_i h1) (px_1 (px_i h2))) (by simp)⟩
theorem odd_all : ∀ d ∈ ([.non, .bl true, .bl false, .str "1", .str "", .tup [.int 1, .int 1], .tup [.int 2, .int 4], .tup [.int 1, .int 0], .tup [.int 1, .int (-2)], .lst [.int 1, .int 2], .tup [.int 1, .int 2, .int 3], .tup [.bl true, .int 2], .tup [], .tup [.int 0, .int 3], .dic []] : List D), OddOk d := by
  intro d hd
  simp only [List.mem_cons, List.not_mem_nil, or_false] at hd
  rcases hd with rfl | rfl | rfl | rfl | rfl | rfl | rfl | rfl | rfl | rfl | rfl | rfl | rfl | rfl | rfl
  · exact ⟨kn_flat rfl (fun _ e => nomatch e), rfl, px_up px_non⟩
  · exact ⟨kn_flat rfl (fun _ e => nomatch e), rfl, px_up px_bl⟩
  · exact ⟨kn_flat rfl (fun _ e => nomatch e), rfl, px_up px_bl⟩
  · exact ⟨kn_flat rfl (fun _ e => nomatch e), rfl, px_up (px_str (by decide))⟩
  · exact ⟨kn_flat rfl (fun _ e => nomatch e), rfl, px_up (px_str (by decide))⟩
  · exact odd_two (by decide) (by decide) (by decide +kernel)
  · exact odd_two (by decide) (by decide) (by decide +kernel)
  · exact odd_two (by decide) (by decide) (by decide +kernel)
  · exact odd_two (by decide) (by decide) (by decide +kernel)
  · exact ⟨kn_flat rfl (fun _ e => nomatch e), rfl, (px_lst (m := 2) (px_c (px_i (by decide)) (px_1 (px_i (by decide)))) (by simp)).mono (by decide) (by decide)⟩
  · exact ⟨⟨rfl, fun x y e => by simp at e⟩, rfl, px_small (px_c (px_i (by decide)) (px_c (px_i (by decide)) (px_1 (px_i (by decide))))) (by simp)⟩
  · exact ⟨⟨rfl, fun x y e => by simp only [D.tup.injEq, List.cons.injEq] at e; obtain ⟨rfl, rfl, _⟩ := e; exact ⟨rfl, rfl⟩⟩, rfl, px_small (px_c px_bl (px_1 (px_i (by decide)))) (by simp)⟩
  · exact ⟨⟨rfl, fun x y e => by simp at e⟩, rfl, px_small (fun x hx => nomatch hx) (by simp)⟩
  · exact odd_two (by decide) (by decide) (by decide +kernel)
  · exact ⟨kn_flat rfl (fun _ e => nomatch e), rfl, px_up px_dic0⟩
theorem frz_dic0 {p : Addr} {M : Mm} {Q : DK} (hp : M p = none) (h : Q (.dic []) M) : frz (.ref p) (M.set p (.dic [])) Q := by
  unfold frz
  simp only [Mm.set_same]
  rw [Mm.del_set hp]
  exact h
end

end K02
set_option maxHeartbeats 4000000
set_option pp.maxSteps 300
namespace K02
open PySem PySem.Spec PyProof.Rows L2 Dq
open PySem.W (findIn typeIn keepIn)
section
variable {c : Nat → Addr}
theorem pure_l_odd : ∀ ds M Q E, spOdd ds M Q E → b_l_odd c spPick (fun C fs _ M' => E C fs M') { nx := fun _ M' => Q .non M', rt := Q } (dstart ["pen"] ds) M := by
  rintro ds M Q E ⟨p, P, n, rfl, hM, hp, hn, k⟩
  refine ⟨szl (n := 2) (by decide), ?_⟩
  refine ⟨szl (n := 2) (by decide), ?_⟩
  refine ⟨szl (n := 2) (by decide), ?_⟩
  refine ⟨szl (n := 2) (by decide), ?_⟩
  refine ⟨szl (n := 2) (by decide), ?_⟩
  refine ⟨szl (n := 3) (by decide), ?_⟩
  refine ⟨szl (n := 2) (by decide), ?_⟩
  refine ⟨szl (n := 0) (by decide), ?_⟩
  refine ⟨szl (n := 2) (by decide), ?_⟩
  intro a ha
  refine frz_dic0 ha ?_
  refine ⟨szl (n := 15) (by decide), ?_⟩
  exact pick_at (E := fun _ _ _ => True) hM hp hn (by simp) (by simp) fun x P1 hx hp1 => k _ _ (odd_all x hx) hp1
end

end K02
set_option maxHeartbeats 4000000
set_option pp.maxSteps 300
namespace K02
open PySem PySem.Spec PyProof.Rows L2 Dq
open PySem.W (findIn typeIn keepIn)
/-! ### drawn rows, bent ones -/
theorem nm_pq {k : Nat} {d : D} (h : Nm k d) : ∃ e, d = pqD e ∧ PqOk k e := let ⟨p, q, e, c, s, t⟩ := h; ⟨(p, q), e, c, s, t⟩
def rowE : DE := dIfE (dTest (dBin (rI2 (fun _ _ => True) fun i j => .bl (decide (j < i))) (dCallF spDraw (fun _ _ _ _ => False) (dCons (dVar 0) (dCons (dC (.int 4)) dNil))) (dC (.int 0)))) (dCallF spNumber (fun _ _ _ _ => False) (dCons (dVar 0) (dCons (dVar 2) dNil))) (dC (.int 0))
theorem set_comm {M : Mm} {p q : Addr} {x y : MO} (h : q ≠ p) : (M.set q x).set p y = (M.set p y).set q x := by
  funext b
  unfold Mm.set
  by_cases e : b = p
  · by_cases e2 : b = q
    · exact absurd (e2.symm.trans e) h
    · rw [if_pos e, if_neg e2, if_pos e]
  · rw [if_neg e]
    by_cases e2 : b = q
    · rw [if_pos e2, if_pos e2]
    · rw [if_neg e2, if_neg e2, if_neg e]
theorem row_loop {p q : Addr} {z : Int} {m : D} {M : Mm} {R : Mm → Prop} (hq : q ≠ p) (hz : z = 0 ∨ z = 1 ∨ z = 2) : ∀ (xs : List D) (acc : List PQ) (P : List (Key × D)) (n : Nat), acc.length + xs.length < 1000 → PenOk n P → n + 16 * xs.length + 20 < topN → (∀ e ∈ acc, PqOk 11 e) →
    (∀ (acc' : List PQ) P', acc'.length = acc.length + xs.length → (∀ e ∈ acc', PqOk 11 e) → PenOk (n + 16 * xs.length) P' → R ((M.set p (.dic P')).set q (.lst (acc'.map pqD)))) →
    dLcL (dgName 3) dYes rowE q [some (.ref p), some m, some (.int z), none] xs ((M.set p (.dic P)).set q (.lst (acc.map pqD))) R
  | [], acc, P, n, _, hp, _, ha, k => k acc P (by simp) ha hp
  | x :: xs, acc, P, n, hl, hp, hn, ha, k => by
    rw [List.length_cons] at hl hn
    have fin : ∀ (d : D) (P' : List (Key × D)), Nm 11 d → PenOk (n + 16) P' → (match ((M.set p (.dic P')).set q (.lst (acc.map pqD))) q with
        | some (.lst ac) => ac.length < 16777216 ∧ dLcL (dgName 3) dYes rowE q [some (.ref p), some m, some (.int z), none] xs (((M.set p (.dic P')).set q (.lst (acc.map pqD))).set q (.lst (ac ++ [d]))) R | _ => False) := by
      intro d P' hd hp'
      obtain ⟨e, rfl, he⟩ := nm_pq hd
      rw [Mm.set_same]
      refine ⟨by rw [List.length_map]; omega, ?_⟩
      rw [Mm.set_set, show acc.map pqD ++ [pqD e] = (acc ++ [e]).map pqD by simp]
      refine row_loop hq hz xs (acc ++ [e]) P' (n + 16) (by simp; omega) hp' (by omega) (fun y hy => ?_) fun acc' P2 h1 h2 h3 => k acc' P2 (by rw [h1]; simp; omega) h2 (penOk_mono h3 (by rw [List.length_cons]; omega))
      rcases List.mem_append.mp hy with hy | hy
      · exact ha y hy
      · rw [List.mem_singleton.mp hy]; exact he
    have hM : ((M.set p (.dic P)).set q (.lst (acc.map pqD))) p = some (.dic P) := by rw [Mm.set_ne hq.symm, Mm.set_same]
    refine ⟨p, 4, P, n, rfl, by decide, by decide, hM, hp, by omega, fun r P1 r0 r1 hp1 => ?_⟩
    rw [set_comm hq, Mm.set_set]
    refine ⟨trivial, ?_⟩
    have hM1 : ((M.set p (.dic P1)).set q (.lst (acc.map pqD))) p = some (.dic P1) := by rw [Mm.set_ne hq.symm, Mm.set_same]
    by_cases h0 : 0 < r
    · dsimp only
      rw [if_pos (decide_eq_true h0)]
      refine ⟨p, z, P1, n + 1, rfl, hM1, hp1, by omega, fun d P2 hd hp2 => ?_⟩
      rw [set_comm hq, Mm.set_set]
      rw [if_pos hz] at hd
      exact fin d P2 hd (penOk_mono hp2 (by omega))
    · dsimp only
      rw [if_neg (by simpa using h0)]
      exact fin (.int 0) P1 (nm_int (one_sz.1.mono (by decide)) (by decide)) (penOk_mono hp1 (by omega))
def spRow : DSp := fun ds M Q _ => ∃ p m z P n, ds = [.ref p, .int m, .int z] ∧ 0 ≤ m ∧ m < 5 ∧ (z = 0 ∨ z = 1 ∨ z = 2) ∧ M p = some (.dic P) ∧ PenOk n P ∧ n + 100 < topN ∧ ∀ (l : List PQ) P', (l.length : Int) = m → (∀ e ∈ l, PqOk 11 e) → PenOk (n + 80) P' → Q (.tup (l.map pqD)) (M.set p (.dic P'))
theorem if_yes {T : DT} {A U : DS} {D : DEnds} {ρ : Ds} {M : Mm} (hT : ∀ R : Bool → Mm → Prop, R true M → T ρ M R) (h : A { D with nx := U D } ρ M) : dSeq (dIf T A dNext) U D ρ M := hT _ h
theorem if_no {T : DT} {A U : DS} {D : DEnds} {ρ : Ds} {M : Mm} (hT : ∀ R : Bool → Mm → Prop, R false M → T ρ M R) (h : U D ρ M) : dSeq (dIf T A dNext) U D ρ M := hT _ h
section
variable {c : Nat → Addr}
theorem pure_l_row : ∀ ds M Q E, spRow ds M Q E → b_l_row c spDraw spNumber (fun C fs _ M' => E C fs M') { nx := fun _ M' => Q .non M', rt := Q } (dstart ["pen", "many", "size", "at"] ds) M := by
  rintro ds M Q E ⟨p, m, z, P, n, rfl, h0, h1, hz, hM, hp, hn, k⟩
  refine ⟨⟨by omega, by omega⟩, fun q hq => ?_⟩
  have hqp : q ≠ p := fun e => by rw [e, hM] at hq; cases hq
  have hr : (rng 0 m.toNat).length = m.toNat := by unfold rng; simp
  have go := row_loop (p := p) (q := q) (z := z) (m := .int m) (M := M) (R := fun M2 => frz (.ref q) M2 fun d M1 => match items d with | some xs => Q (.tup xs) M1 | none => False) hqp hz (rng 0 m.toNat) [] P n (by rw [hr]; simp; omega) hp (by rw [hr]; omega) (fun e he => nomatch he) fun acc' P' e1 e2 e3 => ?_
  · rw [Mm.set_eq hM] at go
    exact go
  · refine frz_lst (by rw [Mm.set_ne hqp]; exact hq) ?_
    refine k acc' P' (by rw [e1, hr]; simp; omega) e2 (penOk_mono e3 (by rw [hr]; omega))
/-- a bent row: none of ratios, or one again -/
def BentOk (d : D) : Prop := Kn d ∧ (∀ l, d ≠ .lst l) ∧ ((RowB d ∧ AnyF d) ∨ ∃ l : List PQ, d = .tup (l.map pqD) ∧ l.length ≤ 11 ∧ ∀ e ∈ l, PqOk 11 e)
def spBent : DSp := fun ds M Q _ => ∃ p, ∃ l : List PQ, ∃ P n, ds = [.ref p, .tup (l.map pqD)] ∧ l.length < 5 ∧ (∀ e ∈ l, PqOk 11 e) ∧ M p = some (.dic P) ∧ PenOk n P ∧ n + 3 < topN ∧ ∀ d P', BentOk d → PenOk (n + 3) P' → Q d (M.set p (.dic P'))
theorem cut_map {l : List PQ} {lo hi : Option Int} : ∃ l' : List PQ, Dq.cutD (l.map pqD) lo hi = l'.map pqD ∧ l'.length ≤ l.length ∧ ∀ e ∈ l', e ∈ l := by
  unfold Dq.cutD
  refine ⟨(l.drop _).take _, by rw [List.map_take, List.map_drop], ?_, fun e he => List.mem_of_mem_drop (List.mem_of_mem_take he)⟩
  rw [List.length_take, List.length_drop]
  omega
theorem kn_any {l : List D} (h : ∀ x ∈ l, Kn x) : Kn (.tup l) := ⟨rfl, fun a b e => by
  simp only [D.tup.injEq] at e
  subst e
  exact ⟨(h a (by simp)).1, (h b (by simp)).1⟩⟩
theorem kn_pqs {l : List PQ} : ∀ x ∈ l.map pqD, Kn x := fun x hx => by
  obtain ⟨e, _, rfl⟩ := List.mem_map.mp hx
  exact kn_rat
theorem bent_good {l : List PQ} (hl : l.length ≤ 11) (h : ∀ e ∈ l, PqOk 11 e) : BentOk (.tup (l.map pqD)) := ⟨kn_any kn_pqs, (fun _ e => nomatch e), .inr ⟨l, rfl, hl, h⟩⟩
theorem bent_flat {d : D} (h1 : Ty d) (h2 : ∀ xs, d ≠ .tup xs) (h3 : isL d = false) (h4 : Px 200 3 d) : BentOk d := ⟨kn_flat h1 h2, (fun l e => by rw [e] at h3; cases h3), .inl ⟨.inl ⟨h1, h3⟩, h4.any⟩⟩
theorem bent_odd {a b : List PQ} {d : D} (ha : a.length < 5) (hb : b.length < 5) (h1 : ∀ e ∈ a, PqOk 11 e) (h2 : ∀ e ∈ b, PqOk 11 e) (hd : OddOk d) : BentOk (.tup (a.map pqD ++ [d] ++ b.map pqD)) := by
  have kn : ∀ x ∈ a.map pqD ++ [d] ++ b.map pqD, Kn x := fun x hx => by
    rcases List.mem_append.mp hx with hx | hx
    · rcases List.mem_append.mp hx with hx | hx
      · exact kn_pqs x hx
      · rw [List.mem_singleton.mp hx]; exact hd.1
    · exact kn_pqs x hx
  have hlen : (a.map pqD ++ [d] ++ b.map pqD).length ≤ 9 := by simp; omega
  refine ⟨kn_any kn, (fun _ e => nomatch e), .inl ⟨.inr ⟨_, ⟨.inl rfl, by omega, kn⟩, ?_⟩, ?_⟩⟩
  · have h : ¬ ((a.map pqD ++ [d] ++ b.map pqD).all isR = true) := fun z => by
      have := List.all_eq_true.mp z d (by simp)
      rw [hd.2.1] at this
      cases this
    simpa using h
  · refine ((px_tup (n := 1000) (k := 5) (m := 9) (fun x hx => ?_) hlen).mono (m := 100000) (k := 20) (by decide) (by decide))
    rcases List.mem_append.mp hx with hx | hx
    · rcases List.mem_append.mp hx with hx | hx
      · obtain ⟨e, he, rfl⟩ := List.mem_map.mp hx
        exact (px_rat (h1 e he) (by decide)).mono (by decide) (by decide)
      · rw [List.mem_singleton.mp hx]; exact hd.2.2
    · obtain ⟨e, he, rfl⟩ := List.mem_map.mp hx
      exact (px_rat (h2 e he) (by decide)).mono (by decide) (by decide)
theorem pure_l_bent_row : ∀ ds M Q E, spBent ds M Q E → b_l_bent_row c spDraw spPick spOdd (fun C fs _ M' => E C fs M') { nx := fun _ M' => Q .non M', rt := Q } (dstart ["pen", "row", "way", "at"] ds) M := by
  rintro ds M Q E ⟨p, l, P, n, rfl, hl, ho, hM, hp, hn, k⟩
  refine ⟨p, 4, P, n, rfl, by decide, by decide, hM, hp, by omega, fun way P1 w0 w1 hp1 => ?_⟩
  have last : dRet (dCallF spPick (fun C fs _ M' => E C fs M') (dCons (dVar 0) (dCons (dLst (dCons (dC .non) (dCons (dC (.int 3)) (dCons (dC (.str "row")) (dCons (dC (.bl true)) (dCons (dFrz dDic0) dNil)))))) dNil))) { nx := fun _ M' => Q .non M', rt := Q } [some (.ref p), some (.tup (l.map pqD)), some (.int way), none] (M.set p (.dic P1)) := by
    intro a ha
    refine frz_dic0 ha ?_
    refine ⟨szl (n := 5) (by decide), ?_⟩
    refine pick_at (E := E) Mm.set_same hp1 (by omega) (by simp) (by simp) fun x P2 hx hp2 => ?_
    rw [Mm.set_set]
    refine k _ _ ?_ (penOk_mono hp2 (by omega))
    simp only [List.mem_cons, List.not_mem_nil, or_false] at hx
    rcases hx with rfl | rfl | rfl | rfl | rfl
    · exact bent_flat rfl (fun _ e => nomatch e) rfl px_non
    · exact bent_flat rfl (fun _ e => nomatch e) rfl (px_i (by decide))
    · exact bent_flat rfl (fun _ e => nomatch e) rfl (px_str (by decide))
    · exact bent_flat rfl (fun _ e => nomatch e) rfl px_bl
    · exact bent_flat rfl (fun _ e => nomatch e) rfl px_dic0
  have len0 : ((l.map pqD).length : Int) = l.length := by rw [List.length_map]
  have hl4 : (l.length : Int) < 5 := by omega
  -- the third way
  have third : ∀ nx bk ct, 0 < l.length → dSeq (dAsg (dCallF spDraw (fun C fs _ M' => E C fs M') (dCons (dVar 0) (dCons (dCall cLen (dCons (dVar 1) dNil)) dNil))) (dgName 3))
      (dRet (dBin rAddA (dBin rAddA (dSlc (dVar 1) dNoPart (dPart (dVar 3))) (dTup (dCons (dCallF spOdd (fun C fs _ M' => E C fs M') (dCons (dVar 0) dNil)) dNil))) (dSlc (dVar 1) (dPart (dBin rAddA (dVar 3) (dC (.int 1)))) dNoPart)))
      ⟨nx, Q, bk, ct⟩ [some (.ref p), some (.tup (l.map pqD)), some (.int way), none] (M.set p (.dic P1)) := fun nx bk ct hpos => by
    refine ⟨p, ((l.map pqD).length : Int), P1, n + 1, rfl, by omega, by omega, Mm.set_same, hp1, by omega, fun at_ P2 a0 a1 hp2 => ?_⟩
    rw [Mm.set_set]
    refine ⟨p, P2, n + 2, rfl, Mm.set_same, hp2, by omega, fun d P3 hd hp3 => ?_⟩
    rw [Mm.set_set]
    obtain ⟨x, ex, lx, mx⟩ := cut_map (l := l) (lo := none) (hi := some at_)
    obtain ⟨y, ey, ly, my⟩ := cut_map (l := l) (lo := some (at_ + 1)) (hi := none)
    refine ⟨szl (n := 1) (by decide), ?_⟩
    refine ⟨?_, ?_⟩
    · rw [ex]; simp; omega
    show _ ∧ _
    rw [ex, ey]
    refine ⟨?_, k _ _ (bent_odd (by omega) (by omega) (fun e he => ho e (mx e he)) (fun e he => ho e (my e he)) hd) (penOk_mono hp3 (by omega))⟩
    simp; omega
  have second : ∀ nx bk ct, dRet (dBin rAddA (dVar 1) (dTup (dCons (dCallF spDraw (fun C fs _ M' => E C fs M') (dCons (dVar 0) (dCons (dC (.int 3)) dNil))) dNil))) ⟨nx, Q, bk, ct⟩ [some (.ref p), some (.tup (l.map pqD)), some (.int way), none] (M.set p (.dic P1)) := by
    intro nx bk ct
    refine ⟨p, 3, P1, n + 1, rfl, by decide, by decide, Mm.set_same, hp1, by omega, fun r P2 r0 r1 hp2 => ?_⟩
    rw [Mm.set_set]
    refine ⟨szl (n := 1) (by decide), ?_⟩
    show _ ∧ _
    refine ⟨by rw [List.length_map]; simp; omega, ?_⟩
    have e1 : (.int r : D) = pqD (r, 1) := (ratD_one r).symm
    rw [e1, show l.map pqD ++ [pqD (r, 1)] = (l ++ [(r, 1)]).map pqD by simp]
    refine k _ _ (bent_good (by simp; omega) fun e he => ?_) (penOk_mono hp2 (by omega))
    rcases List.mem_append.mp he with he | he
    · exact ho e he
    · rw [List.mem_singleton.mp he]
      exact ⟨cop_one r, sz_of (by show -(2 ^ 11) < r; omega) (by show r < 2 ^ 11; omega), one_sz.2.mono (by decide)⟩
  have first : ∀ nx bk ct, dRet (dSlc (dVar 1) dNoPart (dPart (dUn rNeg (dC (.int 1))))) ⟨nx, Q, bk, ct⟩ [some (.ref p), some (.tup (l.map pqD)), some (.int way), none] (M.set p (.dic P1)) := by
    intro nx bk ct
    obtain ⟨x, ex, lx, mx⟩ := cut_map (l := l) (lo := none) (hi := some (-1))
    show Q (.tup (Dq.cutD (l.map pqD) none (some (-1)))) (M.set p (.dic P1))
    rw [ex]
    exact k _ _ (bent_good (by omega) fun e he => ho e (mx e he)) (penOk_mono hp1 (by omega))
  have tEq : ∀ (k : Int) (R : Bool → Mm → Prop), R (decide (way = k)) (M.set p (.dic P1)) → dTest (dBin rEq' (dVar 2) (dC (.int k))) [some (.ref p), some (.tup (l.map pqD)), some (.int way), none] (M.set p (.dic P1)) R := fun k R hR => hR
  have tLen : ∀ (R : Bool → Mm → Prop), R (decide (0 < l.length)) (M.set p (.dic P1)) → dTest (dBin (rI2 (fun _ _ => True) fun i j => .bl (decide (j < i))) (dCall cLen (dCons (dVar 1) dNil)) (dC (.int 0))) [some (.ref p), some (.tup (l.map pqD)), some (.int way), none] (M.set p (.dic P1)) R := fun R hR => by
    refine ⟨trivial, ?_⟩
    have e : decide ((0 : Int) < ((l.map pqD).length : Nat)) = decide (0 < l.length) := by rw [List.length_map]; simp
    show R (decide ((0 : Int) < ((l.map pqD).length : Nat))) _
    rw [e]
    exact hR
  have tAnd : ∀ (k : Int) (b : Bool) (R : Bool → Mm → Prop), (decide (way = k) && decide (0 < l.length)) = b → R b (M.set p (.dic P1)) → dAnd (dTest (dBin rEq' (dVar 2) (dC (.int k)))) (dTest (dBin (rI2 (fun _ _ => True) fun i j => .bl (decide (j < i))) (dCall cLen (dCons (dVar 1) dNil)) (dC (.int 0)))) [some (.ref p), some (.tup (l.map pqD)), some (.int way), none] (M.set p (.dic P1)) R := fun k b R hb hR => by
    refine tEq k _ ?_
    cases e : decide (way = k) with
    | true =>
      rw [e, Bool.true_and] at hb
      exact tLen _ (by rw [hb]; exact hR)
    | false =>
      rw [e, Bool.false_and] at hb
      rw [← hb] at hR
      exact hR
  have i0 : decide (way = 0) = true ∨ decide (way = 0) = false := by cases decide (way = 0) <;> simp
  by_cases c0 : (decide (way = 0) && decide (0 < l.length)) = true
  · exact if_yes (fun R hR => tAnd 0 true R c0 hR) (first _ _ _)
  refine if_no (fun R hR => tAnd 0 false R (by simpa using c0) hR) ?_
  by_cases c1 : decide (way = 1) = true
  · exact if_yes (fun R hR => tEq 1 R (by rw [c1]; exact hR)) (second _ _ _)
  refine if_no (fun R hR => tEq 1 R (by rw [show decide (way = 1) = false by simpa using c1]; exact hR)) ?_
  by_cases c2 : (decide (way = 2) && decide (0 < l.length)) = true
  · refine if_yes (fun R hR => tAnd 2 true R c2 hR) (third _ _ _ ?_)
    simp only [Bool.and_eq_true, decide_eq_true_eq] at c2
    exact c2.2
  refine if_no (fun R hR => tAnd 2 false R (by simpa using c2) hR) ?_
  exact last
end

end K02
set_option maxHeartbeats 4000000
set_option pp.maxSteps 300
namespace K02
open PySem PySem.Spec PyProof.Rows L2 Dq
open PySem.W (findIn typeIn keepIn)
/-! ### the law's parts -/
theorem ok_fine {n : Nat} {x : Str} (h : Fine n x) : PyData.strOk x = true := by
  unfold PyData.strOk
  rw [← Array.all_toList]
  exact List.all_eq_true.mpr fun c hc => decide_eq_true (h.2 c hc)
theorem ok_lit (z : String) : PyData.strOk (Str.ofString z) = true := ok_fine (fine_ofString z)
theorem ok_sh {x : D} (h : AnyF x) : PyData.strOk (sh x) = true := by
  obtain ⟨p, e, o⟩ := h
  unfold sh
  rw [e]
  exact ok_fine o.fi
theorem shaped_str3 {a b s : Str} (ha : PyData.strOk a = true) (hb : PyData.strOk b = true) (hs : PyData.strOk s = true) : SeqAt.shaped (.tuple [.str a, .str b, .str s]) = true := by simp [SeqAt.shaped, PyData.canLay0, PyData.canLayAll0, PyData.depth, PyData.depthAll, ha, hb, hs]
theorem eq_str3 {a b s : Str} {M : Mm} {Q : DK} (ha : PyData.strOk a = true) (hb : PyData.strOk b = true) (hs : PyData.strOk s = true) (h : Q (.bl true) M) : rEq' (.tup [.str a, .str b, .str s]) (.tup [.str a, .str b, .str s]) M Q := by
  have hs := shaped_str3 ha hb hs
  refine ⟨_, _, rfl, rfl, hs, hs, ?_⟩
  simpa [PyData.eqv, PyData.eqvAll] using h
theorem ne_str3 {a b s : Str} {M : Mm} {Q : DK} (ha : PyData.strOk a = true) (hb : PyData.strOk b = true) (hs : PyData.strOk s = true) (h : Q (.bl false) M) : rNe' (.tup [.str a, .str b, .str s]) (.tup [.str a, .str b, .str s]) M Q := by
  have hs := shaped_str3 ha hb hs
  refine ⟨_, _, rfl, rfl, hs, hs, ?_⟩
  simpa [PyData.eqv, PyData.eqvAll] using h
theorem pl_rat {p q : Int} : Pl 1 (ratD p q) := by
  unfold ratD
  split
  · exact .inl trivial
  · refine .inr ⟨_, rfl, by simp, fun x hx => ?_⟩
    simp only [List.mem_cons, List.not_mem_nil, or_false] at hx
    rcases hx with rfl | rfl <;> trivial
theorem pl_low {t b : Int} (hb : b ≠ 0) : Pl 1 (lowD t b) := by
  obtain ⟨p, q, _, _, e, _⟩ := low_char (t := t) hb
  rw [e]
  exact pl_rat
theorem is_at {d : D} {M : Mm} {Q : DK} {E : DX} (h : Pl 1 d) (q : Q (.bl true) M) : spIs 2 [d, d] M Q E := ⟨d, rfl, h, q⟩
def spSays : DSp := fun ds M Q _ => ∃ b, ds = [.bl b, .bl b] ∧ Q (.bl true) M
def spMade : DSp := fun ds M Q _ => ∃ p P n, ds = [.ref p] ∧ M p = some (.dic P) ∧ PenOk n P ∧ n + 40 < topN ∧ ∀ P', PenOk (n + 40) P' → Q (.bl true) (M.set p (.dic P'))
theorem kn_of_low {t b : Int} (hb : b ≠ 0) : Kn (lowD t b) ∧ isR (lowD t b) = true := by
  obtain ⟨p, q, c, _, e, _⟩ := low_char (t := t) hb
  rw [e]
  exact ⟨kn_rat, isR_rat c⟩
theorem any_s {z : String} (h : z.length ≤ 15) : AnyF (.str (Str.ofString z)) := (px_str h).any
section
variable {c : Nat → Addr}
theorem repr_ex {d : D} (ha : AnyF d) : ∃ p n, D.px d = some p ∧ Okp n 40 p ∧ n ≤ 16777216 ∧ p.shown = sh d := by
  obtain ⟨p, e, o⟩ := ha
  exact ⟨p, 100000, e, o.mono (Nat.le_refl _) (by decide), by decide, by unfold sh; rw [e]⟩
/-- a number's error, told -/
theorem fault_num {w : Str} {x : D} {M : Mm} {Q : DK} (hw : AnyF (.str w)) (hx : AnyF x) (k : Q (.tup [.str "number", .str w, .str (sh x)]) M) : NiceE c Q (c 1) (eN w x) M := ⟨0, .str w, x, .non, by decide, rfl, rfl, hw, hx, k⟩
theorem pure_l_made_right : ∀ ds M Q E, spMade ds M Q E → b_l_made_right c spIsRat (spRatio c) spDraw spPick (spIs 2) spSays spLow spIsRat spNumber spOdd (spFault c) (fun C fs _ M' => E C fs M') { nx := fun _ M' => Q .non M', rt := Q } (dstart ["pen", "by", "top", "bottom", "value", "odd"] ds) M := by
  rintro ds M Q E ⟨p, P, n, rfl, hM, hp, hn, k⟩
  refine ⟨⟨by decide, by decide, by decide⟩, szl (n := 5) (by decide), ?_⟩
  refine pick_at (E := E) hM hp (by omega) (by simp) (by simp) fun by_ P1 hby hp1 => ?_
  obtain ⟨y, rfl, hy0, hys⟩ : ∃ y : Int, by_ = .int y ∧ y ≠ 0 ∧ Sz 70 y := by
    simp only [List.mem_cons, List.not_mem_nil, or_false] at hby
    rcases hby with rfl | rfl | rfl | rfl | rfl
    · exact ⟨_, rfl, by decide, sz_lit (by decide)⟩
    · exact ⟨_, rfl, by decide, sz_lit (by decide)⟩
    · exact ⟨_, rfl, by decide, sz_lit (by decide)⟩
    · exact ⟨_, rfl, by decide, sz_lit (by decide)⟩
    · exact ⟨_, rfl, by decide, sz_lit (by decide)⟩
  refine ⟨p, 999, P1, n + 1, rfl, by decide, by decide, Mm.set_same, hp1, by omega, fun t0 P2 t1 t2 hp2 => ?_⟩
  rw [Mm.set_set]
  refine ⟨trivial, ?_⟩
  refine ⟨p, 99, P2, n + 2, rfl, by decide, by decide, Mm.set_same, hp2, by omega, fun b0 P3 b1 b2 hp3 => ?_⟩
  rw [Mm.set_set]
  refine ⟨szl (n := 2) (by decide), rfl, rfl, ?_⟩
  have tb : Sz 12 (t0 - 499) := sz_of (by omega) (by omega)
  have bb : Sz 12 (1 + b0) := sz_of (by omega) (by omega)
  have bne : (1 + b0) ≠ 0 := by omega
  obtain ⟨kn, ir⟩ := kn_of_low (t := t0 - 499) bne
  refine ⟨tb.cm hys, bb.cm hys, ?_⟩
  refine ⟨_, _, rfl, rfl, rfl, .inl ⟨(t0 - 499) * y, (1 + b0) * y, _, rfl, rfl, Int.mul_ne_zero bne hy0, bb.mul hys, by omega, ?_⟩⟩
  rw [low_mul bne hy0]
  refine ⟨t0 - 499, 1 + b0, 12, rfl, bne, bb, by decide, ?_⟩
  refine ⟨_, rfl, pl_low bne, ?_⟩
  refine ⟨t0 - 499, 1 + b0, 12, rfl, bne, bb, by decide, ?_⟩
  refine ⟨_, rfl, kn, ?_⟩
  rw [ir]
  -- a value of any kind
  refine ⟨p, P3, n + 3, rfl, Mm.set_same, hp3, by omega, fun o P4 ho hp4 => ?_⟩
  rw [Mm.set_set]
  refine ⟨p, 3, P4, n + 4, rfl, Mm.set_same, hp4, by omega, fun num P5 hnum hp5 => ?_⟩
  rw [Mm.set_set]
  refine ⟨tb.cm hys, bb.cm hys, szl (n := 2) (by decide), szl (n := 2) (by decide), szl (n := 5) (by decide), ?_⟩
  refine pick_at (E := E) Mm.set_same hp5 (by omega) (by simp) (by simp) fun v P6 hv hp6 => ?_
  rw [Mm.set_set]
  have kv : Kn v := by
    simp only [List.mem_cons, List.not_mem_nil, or_false] at hv
    rcases hv with rfl | rfl | rfl | rfl | rfl
    · exact ho.1
    · obtain ⟨a, b, rfl, _⟩ := hnum; exact kn_rat
    · exact ⟨rfl, fun a b e => by simp only [D.tup.injEq, List.cons.injEq] at e; obtain ⟨rfl, rfl, _⟩ := e; exact ⟨rfl, rfl⟩⟩
    · exact kn_flat rfl (fun _ e => nomatch e)
    · exact kn_flat rfl (fun _ e => nomatch e)
  refine ⟨v, rfl, kv, v, rfl, kv, _, rfl, ?_⟩
  -- no top
  refine ⟨szl (n := 2) (by decide), szl (n := 1) (by decide), szl (n := 5) (by decide), ?_⟩
  refine pick_at (E := E) Mm.set_same hp6 (by omega) (by simp) (by simp) fun o2 P7 hv2 hp7 => ?_
  rw [Mm.set_set]
  have ho2 : Ty o2 ∧ isI o2 = false ∧ AnyF o2 := by
    simp only [List.mem_cons, List.not_mem_nil, or_false] at hv2
    rcases hv2 with rfl | rfl | rfl | rfl | rfl
    · exact ⟨rfl, rfl, px_non.any⟩
    · exact ⟨rfl, rfl, px_bl.any⟩
    · exact ⟨rfl, rfl, any_s (by decide)⟩
    · exact ⟨rfl, rfl, (px_two (sz_lit (by decide)) (sz_lit (by decide))).any⟩
    · exact ⟨rfl, rfl, (px_lst (m := 1) (px_1 (px_i (by decide))) (by simp)).any⟩
  intro Ed Qd hE hQ
  refine ⟨_, _, rfl, ho2.1, rfl, .inr (.inl ⟨ho2.2.1, hE _ _ _ (fault_num (any_s (by decide)) ho2.2.2 ?_)⟩)⟩
  obtain ⟨px, nx, e1, e2, e3, e4⟩ := repr_ex ho2.2.2
  refine ⟨px, nx, e1, e2, e3, ?_⟩
  rw [e4]
  refine ⟨szl (n := 3) (by decide), ?_⟩
  refine ne_str3 (ok_lit _) (ok_lit _) (ok_sh ho2.2.2) ?_
  -- no bottom
  refine ⟨szl (n := 2) (by decide), szl (n := 4) (by decide), ?_⟩
  refine pick_at (E := E) Mm.set_same hp7 (by omega) (by simp) (by simp) fun o3 P8 hv3 hp8 => ?_
  rw [Mm.set_set]
  have ho3 : Ty o3 ∧ (isI o3 = false ∨ o3 = .int 0) ∧ AnyF o3 := by
    simp only [List.mem_cons, List.not_mem_nil, or_false] at hv3
    rcases hv3 with rfl | rfl | rfl | rfl
    · exact ⟨rfl, .inr rfl, (px_i (by decide)).any⟩
    · exact ⟨rfl, .inl rfl, px_non.any⟩
    · exact ⟨rfl, .inl rfl, px_bl.any⟩
    · exact ⟨rfl, .inl rfl, (px_two (sz_lit (by decide)) (sz_lit (by decide))).any⟩
  intro Ed Qd hE hQ
  refine ⟨_, _, rfl, rfl, ho3.1, .inr (.inr ⟨rfl, ho3.2.1, hE _ _ _ (fault_num (any_s (by decide)) ho3.2.2 ?_)⟩)⟩
  obtain ⟨px, nx, e1, e2, e3, e4⟩ := repr_ex ho3.2.2
  refine ⟨px, nx, e1, e2, e3, ?_⟩
  rw [e4]
  refine ⟨szl (n := 3) (by decide), ?_⟩
  exact eq_str3 (ok_lit _) (ok_lit _) (ok_sh ho3.2.2) (k _ (penOk_mono hp8 (by omega)))
end

end K02
set_option maxHeartbeats 4000000
set_option pp.maxSteps 300
namespace K02
open PySem PySem.Spec PyProof.Rows L2 Dq
open PySem.W (findIn typeIn keepIn)
/-! ### the law's parts: reckoned, refused -/
def spReck : DSp := fun ds M Q _ => ∃ x y : PQ, ds = [pqD x, pqD y] ∧ PqOk 11 x ∧ PqOk 11 y ∧ Q (.bl true) M
theorem pl_int {i : Int} : Pl 1 (.int i) := .inl trivial
theorem sh_zero : sh (.int 0) = "0" := by decide +kernel
theorem rat_zero {p q : Int} (h : Cop p q) (e : p = 0) : ratD p q = .int 0 := by
  obtain ⟨h1, h2⟩ := h
  subst e
  have : q = 1 := by simp at h2; omega
  subst this
  exact ratD_one 0
section
variable {c : Nat → Addr}
theorem pure_l_reckoned_right : ∀ ds M Q E, spReck ds M Q E → b_l_reckoned_right c (spTwo c noC fPlus) (spTwo c noC fMinus) (spTwo c noC fTimes) (spOver c) (spSign c) (spTwo c noC fLess) (spIs 2) spSays (spNum noC fPlus) (spNum noC fMinus) (spNum noC fTimes) (spNum rNz fOver) spSgn (spNum noC fLess) (spFault c) (fun C fs _ M' => E C fs M') { nx := fun _ M' => Q .non M', rt := Q } (dstart ["one", "other"] ds) M := by
  rintro ds M Q E ⟨⟨p, q⟩, ⟨r, s⟩, rfl, ⟨c1, s1, s2⟩, ⟨c2, s3, s4⟩, k⟩
  have q0 : q ≠ 0 := by have := c1.1; omega
  have s0 : s ≠ 0 := by have := c2.1; omega
  have qs : q * s ≠ 0 := Int.mul_ne_zero q0 s0
  refine ⟨_, _, rfl, kn_rat, kn_rat, .inl ⟨p, q, r, s, 11, rfl, rfl, c1, c2, s1, s2, s3, s4, by decide, trivial, ?_⟩⟩
  refine ⟨p, q, r, s, 11, rfl, c1.1, c2.1, s1, s2, s3, s4, by decide, trivial, ?_⟩
  refine ⟨_, rfl, pl_low qs, ?_⟩
  refine ⟨_, _, rfl, kn_rat, kn_rat, .inl ⟨p, q, r, s, 11, rfl, rfl, c1, c2, s1, s2, s3, s4, by decide, trivial, ?_⟩⟩
  refine ⟨p, q, r, s, 11, rfl, c1.1, c2.1, s1, s2, s3, s4, by decide, trivial, ?_⟩
  refine ⟨_, rfl, pl_low qs, ?_⟩
  refine ⟨_, _, rfl, kn_rat, kn_rat, .inl ⟨p, q, r, s, 11, rfl, rfl, c1, c2, s1, s2, s3, s4, by decide, trivial, ?_⟩⟩
  refine ⟨p, q, r, s, 11, rfl, c1.1, c2.1, s1, s2, s3, s4, by decide, trivial, ?_⟩
  refine ⟨_, rfl, pl_low qs, ?_⟩
  refine ⟨_, _, rfl, kn_rat, kn_rat, .inl ⟨p, q, r, s, 11, rfl, rfl, c1, c2, s1, s2, s3, s4, by decide, trivial, ?_⟩⟩
  refine ⟨p, q, r, s, 11, rfl, c1.1, c2.1, s1, s2, s3, s4, by decide, trivial, ?_⟩
  refine ⟨_, rfl, ?_⟩
  refine ⟨_, rfl, kn_rat, .inl ⟨p, q, rfl, c1, ?_⟩⟩
  refine ⟨p, q, rfl, ?_⟩
  refine ⟨_, rfl, pl_int, ?_⟩
  have tz : ∀ R : Bool → Mm → Prop, R (decide (r = 0)) M → dTest (dBin rEq' (dVar 1) (dC (.int 0))) [some (pqD (p, q)), some (pqD (r, s))] M R := fun R hR => by
    simp only [dTest, dBin, dVar, slot, dC]
    exact rEq_zero c2 hR
  dsimp only
  simp only [Bool.not_true, Bool.not_false, Bool.false_eq_true, if_false, if_true, true_and, decide_true, decide_false, Bool.true_and, Bool.false_and]
  simp only [dNext]
  by_cases hr : r = 0
  · refine if_yes (fun R hR => tz R (by rw [decide_eq_true hr]; exact hR)) ?_
    have e0 := rat_zero c2 hr
    intro Ed Qd hE hQ
    refine ⟨_, _, rfl, kn_rat, kn_rat, .inr (.inr ⟨isR_rat c1, .inr e0, hE _ _ _ (fault_num (any_s (by decide)) ?_ ?_)⟩)⟩
    · show AnyF (ratD r s)
      rw [e0]
      exact (px_i (by decide)).any
    · rw [show sh (pqD (r, s)) = "0" by show sh (ratD r s) = _; rw [e0]; exact sh_zero]
      refine ⟨szl (n := 3) (by decide), ?_⟩
      exact eq_str3 (ok_lit _) (ok_lit _) (ok_lit _) k
  · refine if_no (fun R hR => tz R (by rw [decide_eq_false hr]; exact hR)) ?_
    refine ⟨_, _, rfl, kn_rat, kn_rat, .inl ⟨p, q, r, s, 11, rfl, rfl, c1, c2, s1, s2, s3, s4, by decide, hr, ?_⟩⟩
    refine ⟨p, q, r, s, 11, rfl, c1.1, c2.1, s1, s2, s3, s4, by decide, hr, ?_⟩
    exact ⟨_, rfl, pl_low (Int.mul_ne_zero q0 hr), k⟩
/-- a call that refuses what is no ratio -/
def Refuses (c : Nat → Addr) (sp : DSp) : Prop := ∀ (x y : D) (M : Mm) (Q : DK) (E : DX), Kn x → Kn y → (isR x = false → E (c 1) (eN "one" x) M → sp [x, y] M Q E) ∧ (isR x = true → isR y = false → E (c 1) (eN "other" y) M → sp [x, y] M Q E)
theorem ref_two {C : Int → Int → Prop} {f : Int → Int → Int → Int → D} : Refuses c (spTwo c C f) := fun x y M Q E kx ky => ⟨fun h1 h => ⟨x, y, rfl, kx, ky, .inr (.inl ⟨h1, h⟩)⟩, fun h1 h2 h => ⟨x, y, rfl, kx, ky, .inr (.inr ⟨h1, h2, h⟩)⟩⟩
theorem ref_over : Refuses c (spOver c) := fun x y M Q E kx ky => ⟨fun h1 h => ⟨x, y, rfl, kx, ky, .inr (.inl ⟨h1, h⟩)⟩, fun h1 h2 h => ⟨x, y, rfl, kx, ky, .inr (.inr ⟨h1, .inl h2, h⟩)⟩⟩
def spRefused : DSp := fun ds M Q _ => ∃ (x : PQ) (o : D), ds = [pqD x, o] ∧ PqOk 11 x ∧ OddOk o ∧ Q (.bl true) M
/-- both calls of one turn -/
theorem refused_turn {fs : List (Addr × DSp)} {f : Addr} {sp : DSp} {x : PQ} {o : D} {M : Mm} {D' : DEnds} {W : DXS} (hf : (f, sp) ∈ fs) (hr : Refuses c sp) (hx : PqOk 11 x) (ho : OddOk o) (k : D'.nx [some (pqD x), some o, some (.ref f)] M) :
    dSeq (dIf (dTest (dBin rNe' (dLam (spFault c) (fun Wd => (dCallV fs Wd (dVar 2) (dCons (dVar 1) (dCons (dVar 1) dNil)))) W) (dTup (dCons (dC (.str "number")) (dCons (dC (.str "one")) (dCons (dCall cRepr (dCons (dVar 1) dNil)) dNil)))))) (dRet (dC (.bl false))) dNext)
      (dIf (dTest (dBin rNe' (dLam (spFault c) (fun Wd => (dCallV fs Wd (dVar 2) (dCons (dVar 0) (dCons (dVar 1) dNil)))) W) (dTup (dCons (dC (.str "number")) (dCons (dC (.str "other")) (dCons (dCall cRepr (dCons (dVar 1) dNil)) dNil)))))) (dRet (dC (.bl false))) dNext) D' [some (pqD x), some o, some (.ref f)] M := by
  have ao : AnyF o := ho.2.2.any
  obtain ⟨px, nx, e1, e2, e3, e4⟩ := repr_ex ao
  refine if_no (fun R hR => ?_) ?_
  · intro Ed Qd hE hQ
    refine ⟨f, sp, rfl, hf, (hr o o M Qd _ ho.1 ho.1).1 ho.2.1 (hE _ _ _ (fault_num (any_s (by decide)) ao ?_))⟩
    refine ⟨px, nx, e1, e2, e3, ?_⟩
    rw [e4]
    refine ⟨szl (n := 3) (by decide), ?_⟩
    exact ne_str3 (ok_lit _) (ok_lit _) (ok_sh ao) hR
  · intro Ed Qd hE hQ
    refine ⟨f, sp, rfl, hf, (hr (pqD x) o M Qd _ kn_rat ho.1).2 (isR_rat hx.1) ho.2.1 (hE _ _ _ (fault_num (any_s (by decide)) ao ?_))⟩
    refine ⟨px, nx, e1, e2, e3, ?_⟩
    rw [e4]
    refine ⟨szl (n := 3) (by decide), ?_⟩
    exact ne_str3 (ok_lit _) (ok_lit _) (ok_sh ao) k
theorem pure_l_refused_right (g1 g2 g3 g4 g5 : Addr) : ∀ ds M Q E, spRefused ds M Q E → b_l_refused_right c g1 g2 g3 g4 g5 (spTwo c noC fPlus) (spTwo c noC fMinus) (spTwo c noC fTimes) (spOver c) (spSign c) (spTwo c noC fLess) (spFault c) (fun C fs _ M' => E C fs M') { nx := fun _ M' => Q .non M', rt := Q } (dstart ["one", "odd", "call"] ds) M := by
  rintro ds M Q E ⟨x, o, rfl, hx, ho, k⟩
  have ao : AnyF o := ho.2.2.any
  refine ⟨szl (n := 5) (by decide), ?_⟩
  refine for_inv (fun r ρ M' => M' = M ∧ (∀ d ∈ r, ∃ f sp, d = .ref f ∧ (f, sp) ∈ [(g1, spTwo c noC fPlus), (g2, spTwo c noC fMinus), (g3, spTwo c noC fTimes), (g4, spOver c), (g5, spTwo c noC fLess)] ∧ Refuses c sp) ∧ ∃ v, ρ = [some (pqD x), some o, v]) ?_ ?_ ⟨rfl, ?_, none, rfl⟩
  · rintro d r ρ M' D' ⟨rfl, hr, v, rfl⟩ hn hct hb ht
    obtain ⟨f, sp, rfl, hf, hR⟩ := hr d List.mem_cons_self
    exact refused_turn hf hR hx ho (hn _ _ ⟨rfl, fun d hd => hr d (List.mem_cons_of_mem _ hd), _, rfl⟩)
  · rintro ρ M' ⟨rfl, _, v, rfl⟩
    obtain ⟨px, nx, e1, e2, e3, e4⟩ := repr_ex ao
    intro Ed Qd hE hQ
    refine ⟨o, rfl, ho.1, .inr ⟨ho.2.1, hE _ _ _ (fault_num (any_s (by decide)) ao ?_)⟩⟩
    refine ⟨px, nx, e1, e2, e3, ?_⟩
    rw [e4]
    refine ⟨szl (n := 3) (by decide), ?_⟩
    exact eq_str3 (ok_lit _) (ok_lit _) (ok_sh ao) k
  · intro d hd
    simp only [List.mem_cons, List.not_mem_nil, or_false] at hd
    rcases hd with rfl | rfl | rfl | rfl | rfl
    · exact ⟨g1, spTwo c noC fPlus, rfl, by simp, ref_two⟩
    · exact ⟨g2, spTwo c noC fMinus, rfl, by simp, ref_two⟩
    · exact ⟨g3, spTwo c noC fTimes, rfl, by simp, ref_two⟩
    · exact ⟨g4, spOver c, rfl, by simp, ref_over⟩
    · exact ⟨g5, spTwo c noC fLess, rfl, by simp, ref_two⟩
end

end K02
set_option maxHeartbeats 4000000
set_option pp.maxSteps 300
namespace K02
open PySem PySem.Spec PyProof.Rows L2 Dq
open PySem.W (findIn typeIn keepIn)
/-! ### the law's parts: rows; the law -/
def spRows : DSp := fun ds M Q _ => ∃ p P n, ds = [.ref p] ∧ M p = some (.dic P) ∧ PenOk n P ∧ n + 200 < topN ∧ ∀ P', PenOk (n + 200) P' → Q (.bl true) (M.set p (.dic P'))
theorem fold_pos : ∀ (l : List (PQ × PQ)) (a : PQ), (∀ e ∈ l, 0 < e.1.2 ∧ 0 < e.2.2) → 0 < a.2 → 0 < (l.foldl stL a).2
  | [], _, _, h => h
  | e :: l, a, hl, h => fold_pos l _ (fun e he => hl e (List.mem_cons_of_mem _ he)) (stL_pos h (hl e List.mem_cons_self).1 (hl e List.mem_cons_self).2).1
theorem pl_dot {k : Nat} {xs ys : List PQ} (h1 : ∀ e ∈ xs, PqOk k e) (h2 : ∀ e ∈ ys, PqOk k e) : Pl 1 (dotD xs ys) := by
  have := fold_pos (xs.zip ys) (0, 1) (fun e he => ⟨(zip_ok h1 h2 e he).1.1.1, (zip_ok h1 h2 e he).2.1.1⟩) (by decide)
  exact pl_low (by omega)
theorem lcost_le {n : Nat} (h : n ≤ 11) : 1 + lcost 11 n ≤ 4000 := by unfold lcost; omega
theorem isL_tup {l : List D} : isL (.tup l) = true := rfl
theorem shaped_s2 {a b : Str} (ha : PyData.strOk a = true) (hb : PyData.strOk b = true) : SeqAt.shaped (.tuple [.str a, .str b]) = true := by simp [SeqAt.shaped, PyData.canLay0, PyData.canLayAll0, PyData.depth, PyData.depthAll, ha, hb]
theorem eq_str2 {a b : Str} {M : Mm} {Q : DK} (ha : PyData.strOk a = true) (hb : PyData.strOk b = true) (h : Q (.bl true) M) : rEq' (.tup [.str a, .str b]) (.tup [.str a, .str b]) M Q := by
  have hs := shaped_s2 ha hb
  refine ⟨_, _, rfl, rfl, hs, hs, ?_⟩
  simpa [PyData.eqv, PyData.eqvAll] using h
theorem eq_non {M : Mm} {Q : DK} (h : Q (.bl true) M) : rEq' .non .non M Q := ⟨_, _, rfl, rfl, rfl, rfl, h⟩
/-- what is to be told of a bent row -/
theorem bent_cases {d : D} (h : BentOk d) : (∃ l, d = .tup l ∧ l.length < 1000 ∧ (∀ z ∈ l, Kn z) ∧ l.all isR = false ∧ AnyF d ∧ RowB d) ∨ (isL d = false ∧ AnyF d ∧ RowB d) ∨ ∃ l : List PQ, d = .tup (l.map pqD) ∧ l.length ≤ 11 ∧ ∀ e ∈ l, PqOk 11 e := by
  obtain ⟨hk, hn, ⟨hb, ha⟩ | ⟨l, h⟩⟩ := h
  · rcases id hb with ⟨_, hL⟩ | ⟨l, ⟨rfl | rfl, hl, hz⟩, ho⟩
    · exact .inr (.inl ⟨hL, ha, hb⟩)
    · exact .inl ⟨l, rfl, hl, hz, ho, ha, hb⟩
    · exact absurd rfl (hn l)
  · exact .inr (.inr ⟨l, h⟩)

abbrev chkT (i : Nat) (W : DXS) : DT := dOr (dNot (dTest (dCallF spIsList W (dCons (dVar i) dNil)))) (dNot (dTest (dCallF spAny W (dCons (dVar i) (dCons (dCall cLen (dCons (dVar i) dNil)) dNil)))))
theorem chk_tup {i : Nat} {W : DXS} {ρ : Ds} {M : Mm} {l : List D} {R : Bool → Mm → Prop} (hs : slot ρ i = some (.tup l)) (hl : l.length < 1000) (hk : ∀ z ∈ l, Kn z) (k : R (!(l.all isR)) M) : chkT i W ρ M R := by
  unfold chkT
  simp only [dOr, dNot, dTest, dCallF, dCall, dCons, dVar, hs, dNil]
  refine ⟨_, rfl, rfl, ?_⟩
  rw [isL_tup]
  simp only [Bool.not_true, Bool.not_false, Bool.false_eq_true, if_false, if_true, true_and, decide_true, decide_false, Bool.true_and, Bool.false_and]
  simp only [len_tup]
  exact ⟨l, rfl, hl, hk, k⟩
theorem chk_flat {i : Nat} {W : DXS} {ρ : Ds} {M : Mm} {d : D} {R : Bool → Mm → Prop} (hs : slot ρ i = some d) (hT : Ty d) (hL : isL d = false) (k : R true M) : chkT i W ρ M R := by
  unfold chkT
  simp only [dOr, dNot, dTest, dCallF, dCall, dCons, dVar, hs, dNil]
  refine ⟨_, rfl, hT, ?_⟩
  rw [hL]
  exact k
theorem chk_bad {i : Nat} {W : DXS} {ρ : Ds} {M : Mm} {d : D} {R : Bool → Mm → Prop} (hs : slot ρ i = some d) (hT : Ty d) (h : (∃ l, d = .tup l ∧ l.length < 1000 ∧ (∀ z ∈ l, Kn z) ∧ l.all isR = false ∧ AnyF d ∧ RowB d) ∨ (isL d = false ∧ AnyF d ∧ RowB d)) (k : R true M) : chkT i W ρ M R := by
  rcases h with ⟨l, rfl, hl, hz, ho, _⟩ | ⟨hL, _⟩
  · exact chk_tup hs hl hz (by rw [ho]; exact k)
  · exact chk_flat hs hT hL k
theorem rowG_good {l : List PQ} (hl : l.length ≤ 11) (h : ∀ e ∈ l, PqOk 11 e) : RowG (.tup (l.map pqD)) (l.map pqD) ∧ (l.map pqD).all isR = true := rowG_seq (b := false) h (by omega)
theorem chk_good {i : Nat} {W : DXS} {ρ : Ds} {M : Mm} {l : List PQ} {R : Bool → Mm → Prop} (hs : slot ρ i = some (.tup (l.map pqD))) (hl : l.length ≤ 11) (h : ∀ e ∈ l, PqOk 11 e) (k : R false M) : chkT i W ρ M R := by
  obtain ⟨g, a⟩ := rowG_good hl h
  exact chk_tup hs g.2.1 g.2.2 (by rw [a]; exact k)
section
variable {c : Nat → Addr}
theorem fault_row {w : Str} {x : D} {M : Mm} {Q : DK} (hw : AnyF (.str w)) (hx : AnyF x) (k : Q (.tup [.str "row", .str w, .str (sh x)]) M) : NiceE c Q (c 2) [("what", .str w), ("row", x)] M := ⟨1, .str w, x, .non, by decide, rfl, rfl, hw, hx, k⟩
theorem pure_l_rows_right : ∀ ds M Q E, spRows ds M Q E → b_l_rows_right c (spDot c) spDraw (spIs 2) spDotN spIsList spAny spSize spRow spBent (spFault c) (fun C fs _ M' => E C fs M') { nx := fun _ M' => Q .non M', rt := Q } (dstart ["pen", "many", "row", "other", "bent", "odd"] ds) M := by
  rintro ds M Q E ⟨p, P, n, rfl, hM, hp, hn, k⟩
  refine ⟨p, 5, P, n, rfl, by decide, by decide, hM, hp, by omega, fun m P1 m0 m1 hp1 => ?_⟩
  refine ⟨p, P1, n + 1, rfl, Mm.set_same, hp1, by omega, fun z P2 hz hp2 => ?_⟩
  rw [Mm.set_set]
  refine ⟨p, m, z, P2, n + 2, rfl, m0, m1, hz, Mm.set_same, hp2, by omega, fun xs P3 ex hx hp3 => ?_⟩
  rw [Mm.set_set]
  refine ⟨p, P3, n + 82, rfl, Mm.set_same, hp3, by omega, fun z2 P4 hz2 hp4 => ?_⟩
  rw [Mm.set_set]
  refine ⟨p, m, z2, P4, n + 83, rfl, m0, m1, hz2, Mm.set_same, hp4, by omega, fun ys P5 ey hy hp5 => ?_⟩
  rw [Mm.set_set]
  refine ⟨rfl, ?_⟩
  have lxy : xs.length = ys.length := by omega
  have lx : xs.length < 5 := by omega
  have hz11 : (xs.zip ys).length ≤ 11 := by rw [List.length_zip]; omega
  refine ⟨_, _, rfl, .inl ⟨true, xs, ys, 11, rfl, rfl, hx, hy, by omega, lxy, lcost_le hz11, ?_⟩⟩
  refine ⟨false, xs, ys, 11, rfl, hx, hy, lcost_le hz11, ?_⟩
  refine ⟨_, rfl, pl_dot hx hy, ?_⟩
  -- bent rows
  refine ⟨p, xs, P5, n + 163, rfl, lx, hx, Mm.set_same, hp5, by omega, fun b P6 hb hp6 => ?_⟩
  rw [Mm.set_set]
  refine ⟨p, ys, P6, n + 166, rfl, by omega, hy, Mm.set_same, hp6, by omega, fun o P7 ho hp7 => ?_⟩
  rw [Mm.set_set]
  refine ⟨szl (n := 2) (by decide), rfl, rfl, ?_⟩
  have fin : Q (.bl true) (M.set p (.dic P7)) := k _ (penOk_mono hp7 (by omega))
  have tb := hb.1.1
  have to := ho.1.1
  generalize M.set p (.dic P7) = M7 at fin ⊢
  dsimp only
  rcases bent_cases hb with hB | hB | ⟨l, rfl, hl, hpq⟩
  rotate_left 2
  · obtain ⟨g1, a1⟩ := rowG_good hl hpq
    refine if_no (fun R hR => chk_good (i := 4) rfl hl hpq hR) ?_
    rcases bent_cases ho with hO | hO | ⟨l2, rfl, hl2, hpq2⟩
    rotate_left 2
    · obtain ⟨g2, a2⟩ := rowG_good hl2 hpq2
      refine if_no (fun R hR => chk_good (i := 5) rfl hl2 hpq2 hR) ?_
      intro Ed Qd hE hQ
      by_cases e : l.length = l2.length
      · refine ⟨_, _, rfl, .inl ⟨false, l, l2, 11, rfl, rfl, hpq, hpq2, by omega, e, lcost_le (by rw [List.length_zip]; omega), hQ _ _ ?_⟩⟩
        have e2 : decide (((l.map pqD).length : Int) = ((l2.map pqD).length : Int)) = true := by simp [e]
        show (if (!decide (((l.map pqD).length : Int) = ((l2.map pqD).length : Int))) = true then _ else _)
        rw [e2]
        exact eq_non fin
      · refine ⟨_, _, rfl, .inr (.inr ⟨_, g1, a1, .inr ⟨_, g2, a2, by simpa using e, hE _ _ _ ⟨11, .str "other", .non, .non, by decide, rfl, rfl, any_s (by decide), px_non.any, ?_⟩⟩⟩)⟩
        have e2 : decide (((l.map pqD).length : Int) = ((l2.map pqD).length : Int)) = false := by simp; omega
        show (if (!decide (((l.map pqD).length : Int) = ((l2.map pqD).length : Int))) = true then _ else _)
        rw [e2]
        refine ⟨szl (n := 2) (by decide), ?_⟩
        exact eq_str2 (ok_lit _) (ok_lit _) fin
    all_goals
      have hO' : AnyF o ∧ RowB o := by
        first
          | (obtain ⟨l', _, _, _, _, h1, h2⟩ := hO; exact ⟨h1, h2⟩)
          | exact hO.2
      have hOc : (∃ l, o = .tup l ∧ l.length < 1000 ∧ (∀ z ∈ l, Kn z) ∧ l.all isR = false ∧ AnyF o ∧ RowB o) ∨ (isL o = false ∧ AnyF o ∧ RowB o) := by
        first
          | exact .inl hO
          | exact .inr hO
      refine if_yes (fun R hR => chk_bad (i := 5) rfl to hOc hR) ?_
      obtain ⟨px, nx, e1, e2, e3, e4⟩ := repr_ex hO'.1
      intro Ed Qd hE hQ
      refine ⟨_, _, rfl, .inr (.inr ⟨_, g1, a1, .inl ⟨hO'.2, hE _ _ _ (fault_row (any_s (by decide)) hO'.1 ?_)⟩⟩)⟩
      refine ⟨px, nx, e1, e2, e3, ?_⟩
      rw [e4]
      refine ⟨szl (n := 3) (by decide), ?_⟩
      exact eq_str3 (ok_lit _) (ok_lit _) (ok_sh hO'.1) fin
  all_goals
    have hB' : AnyF b ∧ RowB b := by
      first
        | (obtain ⟨l', _, _, _, _, h1, h2⟩ := hB; exact ⟨h1, h2⟩)
        | exact hB.2
    have hBc : (∃ l, b = .tup l ∧ l.length < 1000 ∧ (∀ z ∈ l, Kn z) ∧ l.all isR = false ∧ AnyF b ∧ RowB b) ∨ (isL b = false ∧ AnyF b ∧ RowB b) := by
      first
        | exact .inl hB
        | exact .inr hB
    refine if_yes (fun R hR => chk_bad (i := 4) rfl tb hBc hR) ?_
    obtain ⟨px, nx, e1, e2, e3, e4⟩ := repr_ex hB'.1
    intro Ed Qd hE hQ
    refine ⟨_, _, rfl, .inr (.inl ⟨hB'.2, hE _ _ _ (fault_row (any_s (by decide)) hB'.1 ?_)⟩)⟩
    refine ⟨px, nx, e1, e2, e3, ?_⟩
    rw [e4]
    refine ⟨szl (n := 3) (by decide), ?_⟩
    exact eq_str3 (ok_lit _) (ok_lit _) (ok_sh hB'.1) fin
end

end K02
set_option maxHeartbeats 4000000
set_option pp.maxSteps 300
namespace K02
open PySem PySem.Spec PyProof.Rows L2 Dq
open PySem.W (findIn typeIn keepIn)
/-! ### the law -/
def sp_law (c : Nat → Addr) : DSp := fun ds M Q _ => ∃ ns, ds = [.scr ns] ∧ ns.length ≤ 63 ∧ M = (fun _ => none) ∧ ∀ M', Q (.bl true) M'
section
variable {c : Nat → Addr}
theorem pure_law : ∀ ds M Q E, sp_law c ds M Q E → b_law c spPen spPick spNumber spSize spOdd spMade spReck spRefused spRows (fun C fs _ M' => E C fs M') { nx := fun _ M' => Q .non M', rt := Q } (dstart ["script", "pen", "lap", "one", "other"] ds) M := by
  rintro ds M Q E ⟨ns, rfl, hl, rfl, k⟩
  refine ⟨ns, rfl, hl, fun p P hM hp => ?_⟩
  generalize (fun _ => none : Mm) = M at *
  refine ⟨by decide, ?_⟩
  refine for_inv (fun r ρ M' => ∃ (P' : List (Key × D)) (n' : Nat) (x2 x3 x4 : Option D), M' = Mm.set M p (.dic P') ∧ PenOk n' P' ∧ n' + 300 * r.length ≤ 1200 ∧ ρ = [some (.scr ns), some (.ref p), x2, x3, x4]) ?_ ?_ ⟨P, 0, none, none, none, rfl, hp, by unfold rng; simp, rfl⟩
  · rintro x r ρ M' D' ⟨P', n', x2, x3, x4, rfl, hp', hn, rfl⟩ hnx hct hb ht
    rw [List.length_cons] at hn
    have top : ∀ j, j ≤ 1200 → j < topN := fun j hj => by unfold topN; omega
    refine ⟨p, P', n', rfl, Mm.set_same, hp', top _ (by omega), fun z P1 hz hp1 => ?_⟩
    rw [Mm.set_set]
    refine ⟨p, z, P1, n' + 1, rfl, Mm.set_same, hp1, top _ (by omega), fun d1 P2 hd1 hp2 => ?_⟩
    rw [Mm.set_set]
    rw [if_pos hz] at hd1
    obtain ⟨u, rfl, hu⟩ := nm_pq hd1
    refine ⟨p, P2, n' + 16, rfl, Mm.set_same, hp2, top _ (by omega), fun z2 P3 hz2 hp3 => ?_⟩
    rw [Mm.set_set]
    refine ⟨p, z2, P3, n' + 17, rfl, Mm.set_same, hp3, top _ (by omega), fun d2 P4 hd2 hp4 => ?_⟩
    rw [Mm.set_set]
    rw [if_pos hz2] at hd2
    obtain ⟨v, rfl, hv⟩ := nm_pq hd2
    refine ⟨rfl, ?_⟩
    refine ⟨p, P4, n' + 32, rfl, Mm.set_same, hp4, top _ (by omega), fun P5 hp5 => ?_⟩
    rw [Mm.set_set]
    refine ⟨szl (n := 3) (by decide), ?_⟩
    refine ⟨p, _, [pqD v, .int 0, pqD u], P5, n' + 72, rfl, rfl, by simp, by simp, Mm.set_same, hp5, top _ (by omega), fun y P6 hy hp6 => ?_⟩
    rw [Mm.set_set]
    obtain ⟨w, rfl, hw⟩ : ∃ w : PQ, y = pqD w ∧ PqOk 11 w := by
      simp only [List.mem_cons, List.not_mem_nil, or_false] at hy
      rcases hy with rfl | rfl | rfl
      · exact ⟨v, rfl, hv⟩
      · exact ⟨(0, 1), (ratD_one 0).symm, cop_one 0, one_sz.1.mono (by decide), one_sz.2.mono (by decide)⟩
      · exact ⟨u, rfl, hu⟩
    refine ⟨u, w, rfl, hu, hw, ?_⟩
    refine ⟨p, P6, n' + 73, rfl, Mm.set_same, hp6, top _ (by omega), fun o P7 ho hp7 => ?_⟩
    rw [Mm.set_set]
    refine ⟨u, o, rfl, hu, ho, ?_⟩
    refine ⟨p, P7, n' + 74, rfl, Mm.set_same, hp7, top _ (by omega), fun P8 hp8 => ?_⟩
    rw [Mm.set_set]
    exact hnx _ _ ⟨P8, n' + 274, _, _, _, rfl, hp8, by omega, rfl⟩
  · rintro ρ M' ⟨P', n', x2, x3, x4, rfl, hp', hn, rfl⟩
    exact k _
end

end K02
set_option maxHeartbeats 4000000
set_option pp.maxSteps 200
namespace K02
open PySem PySem.Spec PyProof.Rows L2 Dq
open PySem.W (findIn typeIn keepIn)

section
variable {P : Program} {w : World} {K : PySem.W.Frag} {mg : Str → Option Value} {base : Heap} {c : Nat → Addr}
abbrev i_BadNumber : Stmt := inClass (top 3) 0
abbrev i_BadRow : Stmt := inClass (top 4) 0
abbrev i_BadTable : Stmt := inClass (top 5) 0
abbrev i_BadTree : Stmt := inClass (top 6) 0
abbrev i_BadPlan : Stmt := inClass (top 7) 0
abbrev i_BadBook : Stmt := inClass (top 8) 0
abbrev i_BadName : Stmt := inClass (top 9) 0
abbrev i_BadText : Stmt := inClass (top 10) 0
abbrev i_NoPlace : Stmt := inClass (top 11) 0
abbrev i_NoName : Stmt := inClass (top 12) 0
abbrev i_TakenName : Stmt := inClass (top 13) 0
abbrev i_Unlike : Stmt := inClass (top 14) 0
abbrev i_NotThere : Stmt := inClass (top 15) 0
abbrev i_TooMany : Stmt := inClass (top 16) 0
abbrev i_NotKept : Stmt := inClass (top 17) 0
theorem sci_BadNumber : FnScope ["self", "what", "number"] ["self", "what", "number"] (defScope i_BadNumber) := ⟨rfl, rfl, rfl, by decide +kernel, rfl, by decide +kernel, by decide +kernel⟩
theorem sci_BadRow : FnScope ["self", "what", "row"] ["self", "what", "row"] (defScope i_BadRow) := ⟨rfl, rfl, rfl, by decide +kernel, rfl, by decide +kernel, by decide +kernel⟩
theorem sci_BadTable : FnScope ["self", "what"] ["self", "what"] (defScope i_BadTable) := ⟨rfl, rfl, rfl, by decide +kernel, rfl, by decide +kernel, by decide +kernel⟩
theorem sci_BadTree : FnScope ["self", "what"] ["self", "what"] (defScope i_BadTree) := ⟨rfl, rfl, rfl, by decide +kernel, rfl, by decide +kernel, by decide +kernel⟩
theorem sci_BadPlan : FnScope ["self", "what"] ["self", "what"] (defScope i_BadPlan) := ⟨rfl, rfl, rfl, by decide +kernel, rfl, by decide +kernel, by decide +kernel⟩
theorem sci_BadBook : FnScope ["self", "what"] ["self", "what"] (defScope i_BadBook) := ⟨rfl, rfl, rfl, by decide +kernel, rfl, by decide +kernel, by decide +kernel⟩
theorem sci_BadName : FnScope ["self", "name"] ["self", "name"] (defScope i_BadName) := ⟨rfl, rfl, rfl, by decide +kernel, rfl, by decide +kernel, by decide +kernel⟩
theorem sci_BadText : FnScope ["self", "line", "word"] ["self", "line", "word"] (defScope i_BadText) := ⟨rfl, rfl, rfl, by decide +kernel, rfl, by decide +kernel, by decide +kernel⟩
theorem sci_NoPlace : FnScope ["self", "what", "index"] ["self", "what", "index"] (defScope i_NoPlace) := ⟨rfl, rfl, rfl, by decide +kernel, rfl, by decide +kernel, by decide +kernel⟩
theorem sci_NoName : FnScope ["self", "name"] ["self", "name"] (defScope i_NoName) := ⟨rfl, rfl, rfl, by decide +kernel, rfl, by decide +kernel, by decide +kernel⟩
theorem sci_TakenName : FnScope ["self", "name"] ["self", "name"] (defScope i_TakenName) := ⟨rfl, rfl, rfl, by decide +kernel, rfl, by decide +kernel, by decide +kernel⟩
theorem sci_Unlike : FnScope ["self", "what"] ["self", "what"] (defScope i_Unlike) := ⟨rfl, rfl, rfl, by decide +kernel, rfl, by decide +kernel, by decide +kernel⟩
theorem sci_NotThere : FnScope ["self", "paper"] ["self", "paper"] (defScope i_NotThere) := ⟨rfl, rfl, rfl, by decide +kernel, rfl, by decide +kernel, by decide +kernel⟩
theorem sci_TooMany : FnScope ["self", "what", "many", "limit"] ["self", "what", "many", "limit"] (defScope i_TooMany) := ⟨rfl, rfl, rfl, by decide +kernel, rfl, by decide +kernel, by decide +kernel⟩
theorem sci_NotKept : FnScope ["self", "promise", "witness"] ["self", "promise", "witness"] (defScope i_NotKept) := ⟨rfl, rfl, rfl, by decide +kernel, rfl, by decide +kernel, by decide +kernel⟩
theorem lk {X : Cx} {sc : Scope} {x : Str} (hs : X.env.scope = sc) (h : sc.names.lookup x = some .local) : Vis X.env.scope x := .inl (by rw [hs]; exact h)
theorem nd {X : Cx} {N : List Str} {i : Nat} {x : Str} (hs : X.N = N) (h : N[i]? = some x) : X.N[i]? = some x := by rw [hs]; exact h
theorem ei_BadNumber {C fI : Addr} {fd : FuncData} (hm : mg "BadNumber" = some (.ref C)) (E : Err K C (upsC c C) allF) (iC : findIn K (.ref C) "__init__" = some (some (.ref fI))) (tI : typeIn K (.ref fI) = some (.type "function")) (F : Fun K "__init__" "BadNumber.__init__" i_BadNumber fI fd) : Ei P w K mg base "BadNumber" C (upsC c C) ["what", "number"] :=
  ⟨hm, ⟨_, E⟩, fI, fd, ["self", "what", "number"], iC, tI, F.binds (ps := ["self", "what", "number"]) fun _ _ _ _ _ _ us hl => (match us, hl with | [_, _, _], _ => rfl), init2 F E sci_BadNumber (by decide +kernel) (by decide +kernel) fun X hK hs hN => by subst hK; exact (pss_cons (ps_ost (pe_var (i := 0) (nd hN rfl) (lk hs rfl)) (pe_var (i := 1) (nd hN rfl) (lk hs rfl))) (pss_one (ps_ost (pe_var (i := 0) (nd hN rfl) (lk hs rfl)) (pe_var (i := 2) (nd hN rfl) (lk hs rfl)))))⟩
theorem ei_BadRow {C fI : Addr} {fd : FuncData} (hm : mg "BadRow" = some (.ref C)) (E : Err K C (upsC c C) allF) (iC : findIn K (.ref C) "__init__" = some (some (.ref fI))) (tI : typeIn K (.ref fI) = some (.type "function")) (F : Fun K "__init__" "BadRow.__init__" i_BadRow fI fd) : Ei P w K mg base "BadRow" C (upsC c C) ["what", "row"] :=
  ⟨hm, ⟨_, E⟩, fI, fd, ["self", "what", "row"], iC, tI, F.binds (ps := ["self", "what", "row"]) fun _ _ _ _ _ _ us hl => (match us, hl with | [_, _, _], _ => rfl), init2 F E sci_BadRow (by decide +kernel) (by decide +kernel) fun X hK hs hN => by subst hK; exact (pss_cons (ps_ost (pe_var (i := 0) (nd hN rfl) (lk hs rfl)) (pe_var (i := 1) (nd hN rfl) (lk hs rfl))) (pss_one (ps_ost (pe_var (i := 0) (nd hN rfl) (lk hs rfl)) (pe_var (i := 2) (nd hN rfl) (lk hs rfl)))))⟩
theorem ei_BadTable {C fI : Addr} {fd : FuncData} (hm : mg "BadTable" = some (.ref C)) (E : Err K C (upsC c C) allF) (iC : findIn K (.ref C) "__init__" = some (some (.ref fI))) (tI : typeIn K (.ref fI) = some (.type "function")) (F : Fun K "__init__" "BadTable.__init__" i_BadTable fI fd) : Ei P w K mg base "BadTable" C (upsC c C) ["what"] :=
  ⟨hm, ⟨_, E⟩, fI, fd, ["self", "what"], iC, tI, F.binds (ps := ["self", "what"]) fun _ _ _ _ _ _ us hl => (match us, hl with | [_, _], _ => rfl), init1 F E sci_BadTable (by decide +kernel) fun X hK hs hN => by subst hK; exact (pss_one (ps_ost (pe_var (i := 0) (nd hN rfl) (lk hs rfl)) (pe_var (i := 1) (nd hN rfl) (lk hs rfl))))⟩
theorem ei_BadTree {C fI : Addr} {fd : FuncData} (hm : mg "BadTree" = some (.ref C)) (E : Err K C (upsC c C) allF) (iC : findIn K (.ref C) "__init__" = some (some (.ref fI))) (tI : typeIn K (.ref fI) = some (.type "function")) (F : Fun K "__init__" "BadTree.__init__" i_BadTree fI fd) : Ei P w K mg base "BadTree" C (upsC c C) ["what"] :=
  ⟨hm, ⟨_, E⟩, fI, fd, ["self", "what"], iC, tI, F.binds (ps := ["self", "what"]) fun _ _ _ _ _ _ us hl => (match us, hl with | [_, _], _ => rfl), init1 F E sci_BadTree (by decide +kernel) fun X hK hs hN => by subst hK; exact (pss_one (ps_ost (pe_var (i := 0) (nd hN rfl) (lk hs rfl)) (pe_var (i := 1) (nd hN rfl) (lk hs rfl))))⟩
theorem ei_BadPlan {C fI : Addr} {fd : FuncData} (hm : mg "BadPlan" = some (.ref C)) (E : Err K C (upsC c C) allF) (iC : findIn K (.ref C) "__init__" = some (some (.ref fI))) (tI : typeIn K (.ref fI) = some (.type "function")) (F : Fun K "__init__" "BadPlan.__init__" i_BadPlan fI fd) : Ei P w K mg base "BadPlan" C (upsC c C) ["what"] :=
  ⟨hm, ⟨_, E⟩, fI, fd, ["self", "what"], iC, tI, F.binds (ps := ["self", "what"]) fun _ _ _ _ _ _ us hl => (match us, hl with | [_, _], _ => rfl), init1 F E sci_BadPlan (by decide +kernel) fun X hK hs hN => by subst hK; exact (pss_one (ps_ost (pe_var (i := 0) (nd hN rfl) (lk hs rfl)) (pe_var (i := 1) (nd hN rfl) (lk hs rfl))))⟩
theorem ei_BadBook {C fI : Addr} {fd : FuncData} (hm : mg "BadBook" = some (.ref C)) (E : Err K C (upsC c C) allF) (iC : findIn K (.ref C) "__init__" = some (some (.ref fI))) (tI : typeIn K (.ref fI) = some (.type "function")) (F : Fun K "__init__" "BadBook.__init__" i_BadBook fI fd) : Ei P w K mg base "BadBook" C (upsC c C) ["what"] :=
  ⟨hm, ⟨_, E⟩, fI, fd, ["self", "what"], iC, tI, F.binds (ps := ["self", "what"]) fun _ _ _ _ _ _ us hl => (match us, hl with | [_, _], _ => rfl), init1 F E sci_BadBook (by decide +kernel) fun X hK hs hN => by subst hK; exact (pss_one (ps_ost (pe_var (i := 0) (nd hN rfl) (lk hs rfl)) (pe_var (i := 1) (nd hN rfl) (lk hs rfl))))⟩
theorem ei_BadName {C fI : Addr} {fd : FuncData} (hm : mg "BadName" = some (.ref C)) (E : Err K C (upsC c C) allF) (iC : findIn K (.ref C) "__init__" = some (some (.ref fI))) (tI : typeIn K (.ref fI) = some (.type "function")) (F : Fun K "__init__" "BadName.__init__" i_BadName fI fd) : Ei P w K mg base "BadName" C (upsC c C) ["name"] :=
  ⟨hm, ⟨_, E⟩, fI, fd, ["self", "name"], iC, tI, F.binds (ps := ["self", "name"]) fun _ _ _ _ _ _ us hl => (match us, hl with | [_, _], _ => rfl), init1 F E sci_BadName (by decide +kernel) fun X hK hs hN => by subst hK; exact (pss_one (ps_ost (pe_var (i := 0) (nd hN rfl) (lk hs rfl)) (pe_var (i := 1) (nd hN rfl) (lk hs rfl))))⟩
theorem ei_BadText {C fI : Addr} {fd : FuncData} (hm : mg "BadText" = some (.ref C)) (E : Err K C (upsC c C) allF) (iC : findIn K (.ref C) "__init__" = some (some (.ref fI))) (tI : typeIn K (.ref fI) = some (.type "function")) (F : Fun K "__init__" "BadText.__init__" i_BadText fI fd) : Ei P w K mg base "BadText" C (upsC c C) ["line", "word"] :=
  ⟨hm, ⟨_, E⟩, fI, fd, ["self", "line", "word"], iC, tI, F.binds (ps := ["self", "line", "word"]) fun _ _ _ _ _ _ us hl => (match us, hl with | [_, _, _], _ => rfl), init2 F E sci_BadText (by decide +kernel) (by decide +kernel) fun X hK hs hN => by subst hK; exact (pss_cons (ps_ost (pe_var (i := 0) (nd hN rfl) (lk hs rfl)) (pe_var (i := 1) (nd hN rfl) (lk hs rfl))) (pss_one (ps_ost (pe_var (i := 0) (nd hN rfl) (lk hs rfl)) (pe_var (i := 2) (nd hN rfl) (lk hs rfl)))))⟩
theorem ei_NoPlace {C fI : Addr} {fd : FuncData} (hm : mg "NoPlace" = some (.ref C)) (E : Err K C (upsC c C) allF) (iC : findIn K (.ref C) "__init__" = some (some (.ref fI))) (tI : typeIn K (.ref fI) = some (.type "function")) (F : Fun K "__init__" "NoPlace.__init__" i_NoPlace fI fd) : Ei P w K mg base "NoPlace" C (upsC c C) ["what", "index"] :=
  ⟨hm, ⟨_, E⟩, fI, fd, ["self", "what", "index"], iC, tI, F.binds (ps := ["self", "what", "index"]) fun _ _ _ _ _ _ us hl => (match us, hl with | [_, _, _], _ => rfl), init2 F E sci_NoPlace (by decide +kernel) (by decide +kernel) fun X hK hs hN => by subst hK; exact (pss_cons (ps_ost (pe_var (i := 0) (nd hN rfl) (lk hs rfl)) (pe_var (i := 1) (nd hN rfl) (lk hs rfl))) (pss_one (ps_ost (pe_var (i := 0) (nd hN rfl) (lk hs rfl)) (pe_var (i := 2) (nd hN rfl) (lk hs rfl)))))⟩
theorem ei_NoName {C fI : Addr} {fd : FuncData} (hm : mg "NoName" = some (.ref C)) (E : Err K C (upsC c C) allF) (iC : findIn K (.ref C) "__init__" = some (some (.ref fI))) (tI : typeIn K (.ref fI) = some (.type "function")) (F : Fun K "__init__" "NoName.__init__" i_NoName fI fd) : Ei P w K mg base "NoName" C (upsC c C) ["name"] :=
  ⟨hm, ⟨_, E⟩, fI, fd, ["self", "name"], iC, tI, F.binds (ps := ["self", "name"]) fun _ _ _ _ _ _ us hl => (match us, hl with | [_, _], _ => rfl), init1 F E sci_NoName (by decide +kernel) fun X hK hs hN => by subst hK; exact (pss_one (ps_ost (pe_var (i := 0) (nd hN rfl) (lk hs rfl)) (pe_var (i := 1) (nd hN rfl) (lk hs rfl))))⟩
theorem ei_TakenName {C fI : Addr} {fd : FuncData} (hm : mg "TakenName" = some (.ref C)) (E : Err K C (upsC c C) allF) (iC : findIn K (.ref C) "__init__" = some (some (.ref fI))) (tI : typeIn K (.ref fI) = some (.type "function")) (F : Fun K "__init__" "TakenName.__init__" i_TakenName fI fd) : Ei P w K mg base "TakenName" C (upsC c C) ["name"] :=
  ⟨hm, ⟨_, E⟩, fI, fd, ["self", "name"], iC, tI, F.binds (ps := ["self", "name"]) fun _ _ _ _ _ _ us hl => (match us, hl with | [_, _], _ => rfl), init1 F E sci_TakenName (by decide +kernel) fun X hK hs hN => by subst hK; exact (pss_one (ps_ost (pe_var (i := 0) (nd hN rfl) (lk hs rfl)) (pe_var (i := 1) (nd hN rfl) (lk hs rfl))))⟩
theorem ei_Unlike {C fI : Addr} {fd : FuncData} (hm : mg "Unlike" = some (.ref C)) (E : Err K C (upsC c C) allF) (iC : findIn K (.ref C) "__init__" = some (some (.ref fI))) (tI : typeIn K (.ref fI) = some (.type "function")) (F : Fun K "__init__" "Unlike.__init__" i_Unlike fI fd) : Ei P w K mg base "Unlike" C (upsC c C) ["what"] :=
  ⟨hm, ⟨_, E⟩, fI, fd, ["self", "what"], iC, tI, F.binds (ps := ["self", "what"]) fun _ _ _ _ _ _ us hl => (match us, hl with | [_, _], _ => rfl), init1 F E sci_Unlike (by decide +kernel) fun X hK hs hN => by subst hK; exact (pss_one (ps_ost (pe_var (i := 0) (nd hN rfl) (lk hs rfl)) (pe_var (i := 1) (nd hN rfl) (lk hs rfl))))⟩
theorem ei_NotThere {C fI : Addr} {fd : FuncData} (hm : mg "NotThere" = some (.ref C)) (E : Err K C (upsC c C) allF) (iC : findIn K (.ref C) "__init__" = some (some (.ref fI))) (tI : typeIn K (.ref fI) = some (.type "function")) (F : Fun K "__init__" "NotThere.__init__" i_NotThere fI fd) : Ei P w K mg base "NotThere" C (upsC c C) ["paper"] :=
  ⟨hm, ⟨_, E⟩, fI, fd, ["self", "paper"], iC, tI, F.binds (ps := ["self", "paper"]) fun _ _ _ _ _ _ us hl => (match us, hl with | [_, _], _ => rfl), init1 F E sci_NotThere (by decide +kernel) fun X hK hs hN => by subst hK; exact (pss_one (ps_ost (pe_var (i := 0) (nd hN rfl) (lk hs rfl)) (pe_var (i := 1) (nd hN rfl) (lk hs rfl))))⟩
theorem ei_TooMany {C fI : Addr} {fd : FuncData} (hm : mg "TooMany" = some (.ref C)) (E : Err K C (upsC c C) allF) (iC : findIn K (.ref C) "__init__" = some (some (.ref fI))) (tI : typeIn K (.ref fI) = some (.type "function")) (F : Fun K "__init__" "TooMany.__init__" i_TooMany fI fd) : Ei P w K mg base "TooMany" C (upsC c C) ["what", "many", "limit"] :=
  ⟨hm, ⟨_, E⟩, fI, fd, ["self", "what", "many", "limit"], iC, tI, F.binds (ps := ["self", "what", "many", "limit"]) fun _ _ _ _ _ _ us hl => (match us, hl with | [_, _, _, _], _ => rfl), init3 F E sci_TooMany (by decide +kernel) (by decide +kernel) (by decide +kernel) fun X hK hs hN => by subst hK; exact (pss_cons (ps_ost (pe_var (i := 0) (nd hN rfl) (lk hs rfl)) (pe_var (i := 1) (nd hN rfl) (lk hs rfl))) (pss_cons (ps_ost (pe_var (i := 0) (nd hN rfl) (lk hs rfl)) (pe_var (i := 2) (nd hN rfl) (lk hs rfl))) (pss_one (ps_ost (pe_var (i := 0) (nd hN rfl) (lk hs rfl)) (pe_var (i := 3) (nd hN rfl) (lk hs rfl))))))⟩
theorem ei_NotKept {C fI : Addr} {fd : FuncData} (hm : mg "NotKept" = some (.ref C)) (E : Err K C (upsC c C) allF) (iC : findIn K (.ref C) "__init__" = some (some (.ref fI))) (tI : typeIn K (.ref fI) = some (.type "function")) (F : Fun K "__init__" "NotKept.__init__" i_NotKept fI fd) : Ei P w K mg base "NotKept" C (upsC c C) ["promise", "witness"] :=
  ⟨hm, ⟨_, E⟩, fI, fd, ["self", "promise", "witness"], iC, tI, F.binds (ps := ["self", "promise", "witness"]) fun _ _ _ _ _ _ us hl => (match us, hl with | [_, _, _], _ => rfl), init2 F E sci_NotKept (by decide +kernel) (by decide +kernel) fun X hK hs hN => by subst hK; exact (pss_cons (ps_ost (pe_var (i := 0) (nd hN rfl) (lk hs rfl)) (pe_var (i := 1) (nd hN rfl) (lk hs rfl))) (pss_one (ps_ost (pe_var (i := 0) (nd hN rfl) (lk hs rfl)) (pe_var (i := 2) (nd hN rfl) (lk hs rfl)))))⟩
theorem fd_false {x qual : Str} {st : Stmt} {ps : List Str} (D : Dn K mg x qual st ps) : Fd P w K mg base 0 x ps fun _ _ _ _ => False :=
  D.ok fun f fd F => ⟨fun _ _ _ _ h => h.elim, fun _ _ _ _ _ _ _ _ _ _ _ _ _ h => let ⟨_, _, _, _, _, _, _, z, _⟩ := h; z.elim⟩
end
def cOf (l : List Addr) (i : Nat) : Addr := l.getD i 0
theorem inj_of {l : List Addr} {n : Nat} (h : decide ((List.range n).map (cOf l)).Nodup = true) : Inj (cOf l) n := by
  intro i j hi hj e
  have nd := of_decide_eq_true h
  have h1 : ((List.range n).map (cOf l))[i]? = some (cOf l i) := by rw [List.getElem?_map, List.getElem?_range hi]; rfl
  have h2 : ((List.range n).map (cOf l))[j]? = some (cOf l i) := by rw [List.getElem?_map, List.getElem?_range hj, e]; rfl
  exact (List.getElem?_inj (by simpa using hi) nd).mp (h1.trans h2.symm)
theorem err_all {K : PySem.W.Frag} {c : Nat → Addr} {n : Nat} (h : ((List.range n).all fun i => errChk K (c i) (upsC c (c i)) allF) = true) : ∀ C, C ∈ allC c n → Err K C (upsC c C) allF := by
  intro C hC
  obtain ⟨i, hi, rfl⟩ := List.mem_map.mp hC
  exact err_of (List.all_eq_true.mp h i hi)
theorem all_mk {P : Program} {w : World} {K : PySem.W.Frag} {h : Heap} {mg : Str → Option Value} {C0 C1 C2 C3 C4 C5 C6 C7 C8 C9 C10 C11 C12 C13 C14 C15 C16 C17 fa fi0 fi1 fi2 fi3 fi4 fi5 fi6 fi7 fi8 fi9 fi10 fi11 fi12 fi13 fi14 g0 g1 g2 g3 g4 g5 g6 g7 g8 g9 g10 g11 g12 g13 g14 g15 g16 g17 g18 g19 g20 g21 g22 g23 g24 g25 g26 g27 g28 g29 g30 g31 g32 g33 g34 g35 g36 g37 g38 g39 g40 g41 g42 g43 g44 g45 g46 g47 g48 g49 g50 g51 g52 g53 : Addr} {fd0 fd1 fd2 fd3 fd4 fd5 fd6 fd7 fd8 fd9 fd10 fd11 fd12 fd13 fd14 gd0 gd1 gd2 gd3 gd4 gd5 gd6 gd7 gd8 gd9 gd10 gd11 gd12 gd13 gd14 gd15 gd16 gd17 gd18 gd19 gd20 gd21 gd22 gd23 gd24 gd25 gd26 gd27 gd28 gd29 gd30 gd31 gd32 gd33 gd34 gd35 gd36 gd37 gd38 gd39 gd40 gd41 gd42 gd43 gd44 gd45 gd46 gd47 gd48 gd49 gd50 gd51 gd52 gd53 : FuncData} (X : K.In h) (G : h.Ns mainGlobals mg) (hfa : mg "law" = some (.ref fa))
    (a0 : PySem.W.nsIn K mainGlobals "HiddenError" = some (some (.ref C0)))
    (a1 : PySem.W.nsIn K mainGlobals "BadNumber" = some (some (.ref C1)))
    (a2 : PySem.W.nsIn K mainGlobals "BadRow" = some (some (.ref C2)))
    (a3 : PySem.W.nsIn K mainGlobals "BadTable" = some (some (.ref C3)))
    (a4 : PySem.W.nsIn K mainGlobals "BadTree" = some (some (.ref C4)))
    (a5 : PySem.W.nsIn K mainGlobals "BadPlan" = some (some (.ref C5)))
    (a6 : PySem.W.nsIn K mainGlobals "BadBook" = some (some (.ref C6)))
    (a7 : PySem.W.nsIn K mainGlobals "BadName" = some (some (.ref C7)))
    (a8 : PySem.W.nsIn K mainGlobals "BadText" = some (some (.ref C8)))
    (a9 : PySem.W.nsIn K mainGlobals "NoPlace" = some (some (.ref C9)))
    (a10 : PySem.W.nsIn K mainGlobals "NoName" = some (some (.ref C10)))
    (a11 : PySem.W.nsIn K mainGlobals "TakenName" = some (some (.ref C11)))
    (a12 : PySem.W.nsIn K mainGlobals "Unlike" = some (some (.ref C12)))
    (a13 : PySem.W.nsIn K mainGlobals "NotThere" = some (some (.ref C13)))
    (a14 : PySem.W.nsIn K mainGlobals "TooMany" = some (some (.ref C14)))
    (a15 : PySem.W.nsIn K mainGlobals "NotKept" = some (some (.ref C15)))
    (a16 : PySem.W.nsIn K mainGlobals "NothingToUndo" = some (some (.ref C16)))
    (a17 : PySem.W.nsIn K mainGlobals "NothingToRedo" = some (some (.ref C17)))
    (hinj : decide ((List.range 18).map (cOf [C0, C1, C2, C3, C4, C5, C6, C7, C8, C9, C10, C11, C12, C13, C14, C15, C16, C17])).Nodup = true)
    (herr : ((List.range 18).all fun i => errChk K (cOf [C0, C1, C2, C3, C4, C5, C6, C7, C8, C9, C10, C11, C12, C13, C14, C15, C16, C17] i) (upsC (cOf [C0, C1, C2, C3, C4, C5, C6, C7, C8, C9, C10, C11, C12, C13, C14, C15, C16, C17]) (cOf [C0, C1, C2, C3, C4, C5, C6, C7, C8, C9, C10, C11, C12, C13, C14, C15, C16, C17] i)) allF) = true)
    (z_int : PySem.W.nsIn K mainGlobals "int" = some none)
    (z_bool : PySem.W.nsIn K mainGlobals "bool" = some none)
    (z_str : PySem.W.nsIn K mainGlobals "str" = some none)
    (z_tuple : PySem.W.nsIn K mainGlobals "tuple" = some none)
    (z_list : PySem.W.nsIn K mainGlobals "list" = some none)
    (z_len : PySem.W.nsIn K mainGlobals "len" = some none)
    (z_repr : PySem.W.nsIn K mainGlobals "repr" = some none)
    (z_range : PySem.W.nsIn K mainGlobals "range" = some none)
    (z_isinstance : PySem.W.nsIn K mainGlobals "isinstance" = some none)
    (z_ValueError : PySem.W.nsIn K mainGlobals "ValueError" = some none)
    (z_abs : PySem.W.nsIn K mainGlobals "abs" = some none)
    (z_all : PySem.W.nsIn K mainGlobals "all" = some none)
    (z_zip : PySem.W.nsIn K mainGlobals "zip" = some none)
    (y_gcd : PySem.W.nsIn K mainGlobals "gcd" = some (some (.builtin "math.gcd")))
    (i0 : findIn K (.ref C1) "__init__" = some (some (.ref fi0)))
    (t0 : typeIn K (.ref fi0) = some (.type "function"))
    (F0 : Fun K "__init__" "BadNumber.__init__" i_BadNumber fi0 fd0)
    (i1 : findIn K (.ref C2) "__init__" = some (some (.ref fi1)))
    (t1 : typeIn K (.ref fi1) = some (.type "function"))
    (F1 : Fun K "__init__" "BadRow.__init__" i_BadRow fi1 fd1)
    (i2 : findIn K (.ref C3) "__init__" = some (some (.ref fi2)))
    (t2 : typeIn K (.ref fi2) = some (.type "function"))
    (F2 : Fun K "__init__" "BadTable.__init__" i_BadTable fi2 fd2)
    (i3 : findIn K (.ref C4) "__init__" = some (some (.ref fi3)))
    (t3 : typeIn K (.ref fi3) = some (.type "function"))
    (F3 : Fun K "__init__" "BadTree.__init__" i_BadTree fi3 fd3)
    (i4 : findIn K (.ref C5) "__init__" = some (some (.ref fi4)))
    (t4 : typeIn K (.ref fi4) = some (.type "function"))
    (F4 : Fun K "__init__" "BadPlan.__init__" i_BadPlan fi4 fd4)
    (i5 : findIn K (.ref C6) "__init__" = some (some (.ref fi5)))
    (t5 : typeIn K (.ref fi5) = some (.type "function"))
    (F5 : Fun K "__init__" "BadBook.__init__" i_BadBook fi5 fd5)
    (i6 : findIn K (.ref C7) "__init__" = some (some (.ref fi6)))
    (t6 : typeIn K (.ref fi6) = some (.type "function"))
    (F6 : Fun K "__init__" "BadName.__init__" i_BadName fi6 fd6)
    (i7 : findIn K (.ref C8) "__init__" = some (some (.ref fi7)))
    (t7 : typeIn K (.ref fi7) = some (.type "function"))
    (F7 : Fun K "__init__" "BadText.__init__" i_BadText fi7 fd7)
    (i8 : findIn K (.ref C9) "__init__" = some (some (.ref fi8)))
    (t8 : typeIn K (.ref fi8) = some (.type "function"))
    (F8 : Fun K "__init__" "NoPlace.__init__" i_NoPlace fi8 fd8)
    (i9 : findIn K (.ref C10) "__init__" = some (some (.ref fi9)))
    (t9 : typeIn K (.ref fi9) = some (.type "function"))
    (F9 : Fun K "__init__" "NoName.__init__" i_NoName fi9 fd9)
    (i10 : findIn K (.ref C11) "__init__" = some (some (.ref fi10)))
    (t10 : typeIn K (.ref fi10) = some (.type "function"))
    (F10 : Fun K "__init__" "TakenName.__init__" i_TakenName fi10 fd10)
    (i11 : findIn K (.ref C12) "__init__" = some (some (.ref fi11)))
    (t11 : typeIn K (.ref fi11) = some (.type "function"))
    (F11 : Fun K "__init__" "Unlike.__init__" i_Unlike fi11 fd11)
    (i12 : findIn K (.ref C13) "__init__" = some (some (.ref fi12)))
    (t12 : typeIn K (.ref fi12) = some (.type "function"))
    (F12 : Fun K "__init__" "NotThere.__init__" i_NotThere fi12 fd12)
    (i13 : findIn K (.ref C14) "__init__" = some (some (.ref fi13)))
    (t13 : typeIn K (.ref fi13) = some (.type "function"))
    (F13 : Fun K "__init__" "TooMany.__init__" i_TooMany fi13 fd13)
    (i14 : findIn K (.ref C15) "__init__" = some (some (.ref fi14)))
    (t14 : typeIn K (.ref fi14) = some (.type "function"))
    (F14 : Fun K "__init__" "NotKept.__init__" i_NotKept fi14 fd14)
    (x0 : PySem.W.excIn K C16 errTail "ValueError.__new__" = true)
    (x1 : PySem.W.excIn K C17 errTail "ValueError.__new__" = true)
    (b0 : PySem.W.nsIn K mainGlobals "is_integer" = some (some (.ref g0)))
    (D0 : Fun K "is_integer" "is_integer" s_is_integer g0 gd0)
    (b1 : PySem.W.nsIn K mainGlobals "is_ratio" = some (some (.ref g1)))
    (D1 : Fun K "is_ratio" "is_ratio" s_is_ratio g1 gd1)
    (b2 : PySem.W.nsIn K mainGlobals "pair" = some (some (.ref g2)))
    (D2 : Fun K "pair" "pair" s_pair g2 gd2)
    (b3 : PySem.W.nsIn K mainGlobals "in_lowest" = some (some (.ref g3)))
    (D3 : Fun K "in_lowest" "in_lowest" s_in_lowest g3 gd3)
    (b4 : PySem.W.nsIn K mainGlobals "ratio" = some (some (.ref g4)))
    (D4 : Fun K "ratio" "ratio" s_ratio g4 gd4)
    (b5 : PySem.W.nsIn K mainGlobals "need_ratios" = some (some (.ref g5)))
    (D5 : Fun K "need_ratios" "need_ratios" s_need_ratios g5 gd5)
    (b6 : PySem.W.nsIn K mainGlobals "plus" = some (some (.ref g6)))
    (D6 : Fun K "plus" "plus" s_plus g6 gd6)
    (b7 : PySem.W.nsIn K mainGlobals "added" = some (some (.ref g7)))
    (D7 : Fun K "added" "added" s_added g7 gd7)
    (b8 : PySem.W.nsIn K mainGlobals "minus" = some (some (.ref g8)))
    (D8 : Fun K "minus" "minus" s_minus g8 gd8)
    (b9 : PySem.W.nsIn K mainGlobals "opposite" = some (some (.ref g9)))
    (D9 : Fun K "opposite" "opposite" s_opposite g9 gd9)
    (b10 : PySem.W.nsIn K mainGlobals "times" = some (some (.ref g10)))
    (D10 : Fun K "times" "times" s_times g10 gd10)
    (b11 : PySem.W.nsIn K mainGlobals "multiplied" = some (some (.ref g11)))
    (D11 : Fun K "multiplied" "multiplied" s_multiplied g11 gd11)
    (b12 : PySem.W.nsIn K mainGlobals "over" = some (some (.ref g12)))
    (D12 : Fun K "over" "over" s_over g12 gd12)
    (b13 : PySem.W.nsIn K mainGlobals "divided" = some (some (.ref g13)))
    (D13 : Fun K "divided" "divided" s_divided g13 gd13)
    (b14 : PySem.W.nsIn K mainGlobals "sign" = some (some (.ref g14)))
    (D14 : Fun K "sign" "sign" s_sign g14 gd14)
    (b15 : PySem.W.nsIn K mainGlobals "sign_of" = some (some (.ref g15)))
    (D15 : Fun K "sign_of" "sign_of" s_sign_of g15 gd15)
    (b16 : PySem.W.nsIn K mainGlobals "below" = some (some (.ref g16)))
    (D16 : Fun K "below" "below" s_below g16 gd16)
    (b17 : PySem.W.nsIn K mainGlobals "is_below" = some (some (.ref g17)))
    (D17 : Fun K "is_below" "is_below" s_is_below g17 gd17)
    (b18 : PySem.W.nsIn K mainGlobals "dot" = some (some (.ref g18)))
    (D18 : Fun K "dot" "dot" s_dot g18 gd18)
    (b19 : PySem.W.nsIn K mainGlobals "summed" = some (some (.ref g19)))
    (D19 : Fun K "summed" "summed" s_summed g19 gd19)
    (b20 : PySem.W.nsIn K mainGlobals "_law_pen" = some (some (.ref g20)))
    (D20 : Fun K "_law_pen" "_law_pen" s_l_pen g20 gd20)
    (b21 : PySem.W.nsIn K mainGlobals "_law_draw" = some (some (.ref g21)))
    (D21 : Fun K "_law_draw" "_law_draw" s_l_draw g21 gd21)
    (b22 : PySem.W.nsIn K mainGlobals "_law_pick" = some (some (.ref g22)))
    (D22 : Fun K "_law_pick" "_law_pick" s_l_pick g22 gd22)
    (b23 : PySem.W.nsIn K mainGlobals "_law_is" = some (some (.ref g23)))
    (D23 : Fun K "_law_is" "_law_is" s_l_is g23 gd23)
    (b24 : PySem.W.nsIn K mainGlobals "_law_says" = some (some (.ref g24)))
    (D24 : Fun K "_law_says" "_law_says" s_l_says g24 gd24)
    (b25 : PySem.W.nsIn K mainGlobals "_law_divisor" = some (some (.ref g25)))
    (D25 : Fun K "_law_divisor" "_law_divisor" s_l_divisor g25 gd25)
    (b26 : PySem.W.nsIn K mainGlobals "_law_low" = some (some (.ref g26)))
    (D26 : Fun K "_law_low" "_law_low" s_l_low g26 gd26)
    (b27 : PySem.W.nsIn K mainGlobals "_law_pair" = some (some (.ref g27)))
    (D27 : Fun K "_law_pair" "_law_pair" s_l_pair g27 gd27)
    (b28 : PySem.W.nsIn K mainGlobals "_law_plus" = some (some (.ref g28)))
    (D28 : Fun K "_law_plus" "_law_plus" s_l_plus g28 gd28)
    (b29 : PySem.W.nsIn K mainGlobals "_law_opposite" = some (some (.ref g29)))
    (D29 : Fun K "_law_opposite" "_law_opposite" s_l_opposite g29 gd29)
    (b30 : PySem.W.nsIn K mainGlobals "_law_minus" = some (some (.ref g30)))
    (D30 : Fun K "_law_minus" "_law_minus" s_l_minus g30 gd30)
    (b31 : PySem.W.nsIn K mainGlobals "_law_times" = some (some (.ref g31)))
    (D31 : Fun K "_law_times" "_law_times" s_l_times g31 gd31)
    (b32 : PySem.W.nsIn K mainGlobals "_law_over" = some (some (.ref g32)))
    (D32 : Fun K "_law_over" "_law_over" s_l_over g32 gd32)
    (b33 : PySem.W.nsIn K mainGlobals "_law_sign" = some (some (.ref g33)))
    (D33 : Fun K "_law_sign" "_law_sign" s_l_sign g33 gd33)
    (b34 : PySem.W.nsIn K mainGlobals "_law_less" = some (some (.ref g34)))
    (D34 : Fun K "_law_less" "_law_less" s_l_less g34 gd34)
    (b35 : PySem.W.nsIn K mainGlobals "_law_dot" = some (some (.ref g35)))
    (D35 : Fun K "_law_dot" "_law_dot" s_l_dot g35 gd35)
    (b36 : PySem.W.nsIn K mainGlobals "_law_is_list" = some (some (.ref g36)))
    (D36 : Fun K "_law_is_list" "_law_is_list" s_l_is_list g36 gd36)
    (b37 : PySem.W.nsIn K mainGlobals "_law_is_ratio" = some (some (.ref g37)))
    (D37 : Fun K "_law_is_ratio" "_law_is_ratio" s_l_is_ratio g37 gd37)
    (b38 : PySem.W.nsIn K mainGlobals "_law_is_whole" = some (some (.ref g38)))
    (D38 : Fun K "_law_is_whole" "_law_is_whole" s_l_is_whole g38 gd38)
    (b39 : PySem.W.nsIn K mainGlobals "_law_is_any_row" = some (some (.ref g39)))
    (D39 : Fun K "_law_is_any_row" "_law_is_any_row" s_l_is_any_row g39 gd39)
    (b40 : PySem.W.nsIn K mainGlobals "_law_number" = some (some (.ref g40)))
    (D40 : Fun K "_law_number" "_law_number" s_l_number g40 gd40)
    (b41 : PySem.W.nsIn K mainGlobals "_law_wide" = some (some (.ref g41)))
    (D41 : Fun K "_law_wide" "_law_wide" s_l_wide g41 gd41)
    (b42 : PySem.W.nsIn K mainGlobals "_law_size" = some (some (.ref g42)))
    (D42 : Fun K "_law_size" "_law_size" s_l_size g42 gd42)
    (b43 : PySem.W.nsIn K mainGlobals "_law_row" = some (some (.ref g43)))
    (D43 : Fun K "_law_row" "_law_row" s_l_row g43 gd43)
    (b44 : PySem.W.nsIn K mainGlobals "_law_odd" = some (some (.ref g44)))
    (D44 : Fun K "_law_odd" "_law_odd" s_l_odd g44 gd44)
    (b45 : PySem.W.nsIn K mainGlobals "_law_bent_row" = some (some (.ref g45)))
    (D45 : Fun K "_law_bent_row" "_law_bent_row" s_l_bent_row g45 gd45)
    (b46 : PySem.W.nsIn K mainGlobals "_law_fault" = some (some (.ref g46)))
    (D46 : Fun K "_law_fault" "_law_fault" s_l_fault g46 gd46)
    (b47 : PySem.W.nsIn K mainGlobals "_law_kinds" = some (some (.ref g47)))
    (D47 : Fun K "_law_kinds" "_law_kinds" s_l_kinds g47 gd47)
    (b48 : PySem.W.nsIn K mainGlobals "_law_more_kinds" = some (some (.ref g48)))
    (D48 : Fun K "_law_more_kinds" "_law_more_kinds" s_l_more_kinds g48 gd48)
    (b49 : PySem.W.nsIn K mainGlobals "_law_made_right" = some (some (.ref g49)))
    (D49 : Fun K "_law_made_right" "_law_made_right" s_l_made_right g49 gd49)
    (L49 : lamChk K g49 "_law_made_right" = true)
    (b50 : PySem.W.nsIn K mainGlobals "_law_reckoned_right" = some (some (.ref g50)))
    (D50 : Fun K "_law_reckoned_right" "_law_reckoned_right" s_l_reckoned_right g50 gd50)
    (L50 : lamChk K g50 "_law_reckoned_right" = true)
    (b51 : PySem.W.nsIn K mainGlobals "_law_refused_right" = some (some (.ref g51)))
    (D51 : Fun K "_law_refused_right" "_law_refused_right" s_l_refused_right g51 gd51)
    (L51 : lamChk K g51 "_law_refused_right" = true)
    (b52 : PySem.W.nsIn K mainGlobals "_law_rows_right" = some (some (.ref g52)))
    (D52 : Fun K "_law_rows_right" "_law_rows_right" s_l_rows_right g52 gd52)
    (L52 : lamChk K g52 "_law_rows_right" = true)
    (b53 : PySem.W.nsIn K mainGlobals "law" = some (some (.ref g53)))
    (D53 : Fun K "law" "law" s_law g53 gd53)
    : ∃ fd : FuncData, (∀ (s : Shared) (u : Value), BindsTo s fd ⟨[u], []⟩ [(("script" : Str), u)]) ∧ ∀ base : Heap, K.In base → base.Ns mainGlobals mg → (∀ e ∈ tabFull K, LamX.TabB base mg e.2.c e.1) → FnD P w K mg base 8 fa fd ["script"] (sp_law (cOf [C0, C1, C2, C3, C4, C5, C6, C7, C8, C9, C10, C11, C12, C13, C14, C15, C16, C17])) := by
  have e := hfa.symm.trans (PySem.W.mg_of X G b53)
  cases e
  have hE := err_all (c := cOf [C0, C1, C2, C3, C4, C5, C6, C7, C8, C9, C10, C11, C12, C13, C14, C15, C16, C17]) herr
  have TI := inj_of hinj
  have Dn0 : Dn K mg "is_integer" "is_integer" s_is_integer ["value"] := dn_mk (PySem.W.mg_of X G b0) D0 (D0.binds (ps := ["value"]) fun _ _ _ _ _ _ us hl => match us, hl with | [_], _ => rfl)
  have Dn1 : Dn K mg "is_ratio" "is_ratio" s_is_ratio ["value"] := dn_mk (PySem.W.mg_of X G b1) D1 (D1.binds (ps := ["value"]) fun _ _ _ _ _ _ us hl => match us, hl with | [_], _ => rfl)
  have Dn2 : Dn K mg "pair" "pair" s_pair ["number"] := dn_mk (PySem.W.mg_of X G b2) D2 (D2.binds (ps := ["number"]) fun _ _ _ _ _ _ us hl => match us, hl with | [_], _ => rfl)
  have Dn3 : Dn K mg "in_lowest" "in_lowest" s_in_lowest ["top", "bottom"] := dn_mk (PySem.W.mg_of X G b3) D3 (D3.binds (ps := ["top", "bottom"]) fun _ _ _ _ _ _ us hl => match us, hl with | [_, _], _ => rfl)
  have Dn4 : Dn K mg "ratio" "ratio" s_ratio ["top", "bottom"] := dn_mk (PySem.W.mg_of X G b4) D4 (D4.binds (ps := ["top", "bottom"]) fun _ _ _ _ _ _ us hl => match us, hl with | [_, _], _ => rfl)
  have Dn5 : Dn K mg "need_ratios" "need_ratios" s_need_ratios ["one", "other"] := dn_mk (PySem.W.mg_of X G b5) D5 (D5.binds (ps := ["one", "other"]) fun _ _ _ _ _ _ us hl => match us, hl with | [_, _], _ => rfl)
  have Dn6 : Dn K mg "plus" "plus" s_plus ["one", "other"] := dn_mk (PySem.W.mg_of X G b6) D6 (D6.binds (ps := ["one", "other"]) fun _ _ _ _ _ _ us hl => match us, hl with | [_, _], _ => rfl)
  have Dn7 : Dn K mg "added" "added" s_added ["one", "other"] := dn_mk (PySem.W.mg_of X G b7) D7 (D7.binds (ps := ["one", "other"]) fun _ _ _ _ _ _ us hl => match us, hl with | [_, _], _ => rfl)
  have Dn8 : Dn K mg "minus" "minus" s_minus ["one", "other"] := dn_mk (PySem.W.mg_of X G b8) D8 (D8.binds (ps := ["one", "other"]) fun _ _ _ _ _ _ us hl => match us, hl with | [_, _], _ => rfl)
  have Dn9 : Dn K mg "opposite" "opposite" s_opposite ["number"] := dn_mk (PySem.W.mg_of X G b9) D9 (D9.binds (ps := ["number"]) fun _ _ _ _ _ _ us hl => match us, hl with | [_], _ => rfl)
  have Dn10 : Dn K mg "times" "times" s_times ["one", "other"] := dn_mk (PySem.W.mg_of X G b10) D10 (D10.binds (ps := ["one", "other"]) fun _ _ _ _ _ _ us hl => match us, hl with | [_, _], _ => rfl)
  have Dn11 : Dn K mg "multiplied" "multiplied" s_multiplied ["one", "other"] := dn_mk (PySem.W.mg_of X G b11) D11 (D11.binds (ps := ["one", "other"]) fun _ _ _ _ _ _ us hl => match us, hl with | [_, _], _ => rfl)
  have Dn12 : Dn K mg "over" "over" s_over ["one", "other"] := dn_mk (PySem.W.mg_of X G b12) D12 (D12.binds (ps := ["one", "other"]) fun _ _ _ _ _ _ us hl => match us, hl with | [_, _], _ => rfl)
  have Dn13 : Dn K mg "divided" "divided" s_divided ["one", "other"] := dn_mk (PySem.W.mg_of X G b13) D13 (D13.binds (ps := ["one", "other"]) fun _ _ _ _ _ _ us hl => match us, hl with | [_, _], _ => rfl)
  have Dn14 : Dn K mg "sign" "sign" s_sign ["one"] := dn_mk (PySem.W.mg_of X G b14) D14 (D14.binds (ps := ["one"]) fun _ _ _ _ _ _ us hl => match us, hl with | [_], _ => rfl)
  have Dn15 : Dn K mg "sign_of" "sign_of" s_sign_of ["number"] := dn_mk (PySem.W.mg_of X G b15) D15 (D15.binds (ps := ["number"]) fun _ _ _ _ _ _ us hl => match us, hl with | [_], _ => rfl)
  have Dn16 : Dn K mg "below" "below" s_below ["one", "other"] := dn_mk (PySem.W.mg_of X G b16) D16 (D16.binds (ps := ["one", "other"]) fun _ _ _ _ _ _ us hl => match us, hl with | [_, _], _ => rfl)
  have Dn17 : Dn K mg "is_below" "is_below" s_is_below ["one", "other"] := dn_mk (PySem.W.mg_of X G b17) D17 (D17.binds (ps := ["one", "other"]) fun _ _ _ _ _ _ us hl => match us, hl with | [_, _], _ => rfl)
  have Dn18 : Dn K mg "dot" "dot" s_dot ["row", "other"] := dn_mk (PySem.W.mg_of X G b18) D18 (D18.binds (ps := ["row", "other"]) fun _ _ _ _ _ _ us hl => match us, hl with | [_, _], _ => rfl)
  have Dn19 : Dn K mg "summed" "summed" s_summed ["row", "other"] := dn_mk (PySem.W.mg_of X G b19) D19 (D19.binds (ps := ["row", "other"]) fun _ _ _ _ _ _ us hl => match us, hl with | [_, _], _ => rfl)
  have Dn20 : Dn K mg "_law_pen" "_law_pen" s_l_pen ["script"] := dn_mk (PySem.W.mg_of X G b20) D20 (D20.binds (ps := ["script"]) fun _ _ _ _ _ _ us hl => match us, hl with | [_], _ => rfl)
  have Dn21 : Dn K mg "_law_draw" "_law_draw" s_l_draw ["pen", "many"] := dn_mk (PySem.W.mg_of X G b21) D21 (D21.binds (ps := ["pen", "many"]) fun _ _ _ _ _ _ us hl => match us, hl with | [_, _], _ => rfl)
  have Dn22 : Dn K mg "_law_pick" "_law_pick" s_l_pick ["pen", "some"] := dn_mk (PySem.W.mg_of X G b22) D22 (D22.binds (ps := ["pen", "some"]) fun _ _ _ _ _ _ us hl => match us, hl with | [_, _], _ => rfl)
  have Dn23 : Dn K mg "_law_is" "_law_is" s_l_is ["told", "due"] := dn_mk (PySem.W.mg_of X G b23) D23 (D23.binds (ps := ["told", "due"]) fun _ _ _ _ _ _ us hl => match us, hl with | [_, _], _ => rfl)
  have Dn24 : Dn K mg "_law_says" "_law_says" s_l_says ["told", "due"] := dn_mk (PySem.W.mg_of X G b24) D24 (D24.binds (ps := ["told", "due"]) fun _ _ _ _ _ _ us hl => match us, hl with | [_, _], _ => rfl)
  have Dn25 : Dn K mg "_law_divisor" "_law_divisor" s_l_divisor ["one", "other"] := dn_mk (PySem.W.mg_of X G b25) D25 (D25.binds (ps := ["one", "other"]) fun _ _ _ _ _ _ us hl => match us, hl with | [_, _], _ => rfl)
  have Dn26 : Dn K mg "_law_low" "_law_low" s_l_low ["top", "bottom"] := dn_mk (PySem.W.mg_of X G b26) D26 (D26.binds (ps := ["top", "bottom"]) fun _ _ _ _ _ _ us hl => match us, hl with | [_, _], _ => rfl)
  have Dn27 : Dn K mg "_law_pair" "_law_pair" s_l_pair ["number"] := dn_mk (PySem.W.mg_of X G b27) D27 (D27.binds (ps := ["number"]) fun _ _ _ _ _ _ us hl => match us, hl with | [_], _ => rfl)
  have Dn28 : Dn K mg "_law_plus" "_law_plus" s_l_plus ["one", "other"] := dn_mk (PySem.W.mg_of X G b28) D28 (D28.binds (ps := ["one", "other"]) fun _ _ _ _ _ _ us hl => match us, hl with | [_, _], _ => rfl)
  have Dn29 : Dn K mg "_law_opposite" "_law_opposite" s_l_opposite ["number"] := dn_mk (PySem.W.mg_of X G b29) D29 (D29.binds (ps := ["number"]) fun _ _ _ _ _ _ us hl => match us, hl with | [_], _ => rfl)
  have Dn30 : Dn K mg "_law_minus" "_law_minus" s_l_minus ["one", "other"] := dn_mk (PySem.W.mg_of X G b30) D30 (D30.binds (ps := ["one", "other"]) fun _ _ _ _ _ _ us hl => match us, hl with | [_, _], _ => rfl)
  have Dn31 : Dn K mg "_law_times" "_law_times" s_l_times ["one", "other"] := dn_mk (PySem.W.mg_of X G b31) D31 (D31.binds (ps := ["one", "other"]) fun _ _ _ _ _ _ us hl => match us, hl with | [_, _], _ => rfl)
  have Dn32 : Dn K mg "_law_over" "_law_over" s_l_over ["one", "other"] := dn_mk (PySem.W.mg_of X G b32) D32 (D32.binds (ps := ["one", "other"]) fun _ _ _ _ _ _ us hl => match us, hl with | [_, _], _ => rfl)
  have Dn33 : Dn K mg "_law_sign" "_law_sign" s_l_sign ["number"] := dn_mk (PySem.W.mg_of X G b33) D33 (D33.binds (ps := ["number"]) fun _ _ _ _ _ _ us hl => match us, hl with | [_], _ => rfl)
  have Dn34 : Dn K mg "_law_less" "_law_less" s_l_less ["one", "other"] := dn_mk (PySem.W.mg_of X G b34) D34 (D34.binds (ps := ["one", "other"]) fun _ _ _ _ _ _ us hl => match us, hl with | [_, _], _ => rfl)
  have Dn35 : Dn K mg "_law_dot" "_law_dot" s_l_dot ["row", "other"] := dn_mk (PySem.W.mg_of X G b35) D35 (D35.binds (ps := ["row", "other"]) fun _ _ _ _ _ _ us hl => match us, hl with | [_, _], _ => rfl)
  have Dn36 : Dn K mg "_law_is_list" "_law_is_list" s_l_is_list ["value"] := dn_mk (PySem.W.mg_of X G b36) D36 (D36.binds (ps := ["value"]) fun _ _ _ _ _ _ us hl => match us, hl with | [_], _ => rfl)
  have Dn37 : Dn K mg "_law_is_ratio" "_law_is_ratio" s_l_is_ratio ["value"] := dn_mk (PySem.W.mg_of X G b37) D37 (D37.binds (ps := ["value"]) fun _ _ _ _ _ _ us hl => match us, hl with | [_], _ => rfl)
  have Dn38 : Dn K mg "_law_is_whole" "_law_is_whole" s_l_is_whole ["value"] := dn_mk (PySem.W.mg_of X G b38) D38 (D38.binds (ps := ["value"]) fun _ _ _ _ _ _ us hl => match us, hl with | [_], _ => rfl)
  have Dn39 : Dn K mg "_law_is_any_row" "_law_is_any_row" s_l_is_any_row ["value", "many"] := dn_mk (PySem.W.mg_of X G b39) D39 (D39.binds (ps := ["value", "many"]) fun _ _ _ _ _ _ us hl => match us, hl with | [_, _], _ => rfl)
  have Dn40 : Dn K mg "_law_number" "_law_number" s_l_number ["pen", "size"] := dn_mk (PySem.W.mg_of X G b40) D40 (D40.binds (ps := ["pen", "size"]) fun _ _ _ _ _ _ us hl => match us, hl with | [_, _], _ => rfl)
  have Dn41 : Dn K mg "_law_wide" "_law_wide" s_l_wide ["pen", "figures"] := dn_mk (PySem.W.mg_of X G b41) D41 (D41.binds (ps := ["pen", "figures"]) fun _ _ _ _ _ _ us hl => match us, hl with | [_, _], _ => rfl)
  have Dn42 : Dn K mg "_law_size" "_law_size" s_l_size ["pen"] := dn_mk (PySem.W.mg_of X G b42) D42 (D42.binds (ps := ["pen"]) fun _ _ _ _ _ _ us hl => match us, hl with | [_], _ => rfl)
  have Dn43 : Dn K mg "_law_row" "_law_row" s_l_row ["pen", "many", "size"] := dn_mk (PySem.W.mg_of X G b43) D43 (D43.binds (ps := ["pen", "many", "size"]) fun _ _ _ _ _ _ us hl => match us, hl with | [_, _, _], _ => rfl)
  have Dn44 : Dn K mg "_law_odd" "_law_odd" s_l_odd ["pen"] := dn_mk (PySem.W.mg_of X G b44) D44 (D44.binds (ps := ["pen"]) fun _ _ _ _ _ _ us hl => match us, hl with | [_], _ => rfl)
  have Dn45 : Dn K mg "_law_bent_row" "_law_bent_row" s_l_bent_row ["pen", "row"] := dn_mk (PySem.W.mg_of X G b45) D45 (D45.binds (ps := ["pen", "row"]) fun _ _ _ _ _ _ us hl => match us, hl with | [_, _], _ => rfl)
  have Dn46 : Dn K mg "_law_fault" "_law_fault" s_l_fault ["call"] := dn_mk (PySem.W.mg_of X G b46) D46 (D46.binds (ps := ["call"]) fun _ _ _ _ _ _ us hl => match us, hl with | [_], _ => rfl)
  have Dn47 : Dn K mg "_law_kinds" "_law_kinds" s_l_kinds ["e"] := dn_mk (PySem.W.mg_of X G b47) D47 (D47.binds (ps := ["e"]) fun _ _ _ _ _ _ us hl => match us, hl with | [_], _ => rfl)
  have Dn48 : Dn K mg "_law_more_kinds" "_law_more_kinds" s_l_more_kinds ["e"] := dn_mk (PySem.W.mg_of X G b48) D48 (D48.binds (ps := ["e"]) fun _ _ _ _ _ _ us hl => match us, hl with | [_], _ => rfl)
  have T : ∀ base, Txt P w K mg base (cOf [C0, C1, C2, C3, C4, C5, C6, C7, C8, C9, C10, C11, C12, C13, C14, C15, C16, C17]) := fun base => {
    inj := TI, err := hE,
    b_int := PySem.W.mg_none_of X G z_int,
    b_bool := PySem.W.mg_none_of X G z_bool,
    b_str := PySem.W.mg_none_of X G z_str,
    b_tuple := PySem.W.mg_none_of X G z_tuple,
    b_list := PySem.W.mg_none_of X G z_list,
    b_len := PySem.W.mg_none_of X G z_len,
    b_repr := PySem.W.mg_none_of X G z_repr,
    b_range := PySem.W.mg_none_of X G z_range,
    b_isinstance := PySem.W.mg_none_of X G z_isinstance,
    b_ValueError := PySem.W.mg_none_of X G z_ValueError,
    b_abs := PySem.W.mg_none_of X G z_abs,
    b_all := PySem.W.mg_none_of X G z_all,
    b_zip := PySem.W.mg_none_of X G z_zip,
    b_gcd := PySem.W.mg_of X G y_gcd,
    m_HiddenError := PySem.W.mg_of X G a0,
    m_BadNumber := PySem.W.mg_of X G a1,
    m_BadRow := PySem.W.mg_of X G a2,
    m_BadTable := PySem.W.mg_of X G a3,
    m_BadTree := PySem.W.mg_of X G a4,
    m_BadPlan := PySem.W.mg_of X G a5,
    m_BadBook := PySem.W.mg_of X G a6,
    m_BadName := PySem.W.mg_of X G a7,
    m_BadText := PySem.W.mg_of X G a8,
    m_NoPlace := PySem.W.mg_of X G a9,
    m_NoName := PySem.W.mg_of X G a10,
    m_TakenName := PySem.W.mg_of X G a11,
    m_Unlike := PySem.W.mg_of X G a12,
    m_NotThere := PySem.W.mg_of X G a13,
    m_TooMany := PySem.W.mg_of X G a14,
    m_NotKept := PySem.W.mg_of X G a15,
    m_NothingToUndo := PySem.W.mg_of X G a16,
    m_NothingToRedo := PySem.W.mg_of X G a17,
    i_BadNumber := ei_BadNumber (PySem.W.mg_of X G a1) (hE C1 (mem_allC (c := cOf [C0, C1, C2, C3, C4, C5, C6, C7, C8, C9, C10, C11, C12, C13, C14, C15, C16, C17]) (i := 1) (by decide))) i0 t0 F0,
    i_BadRow := ei_BadRow (PySem.W.mg_of X G a2) (hE C2 (mem_allC (c := cOf [C0, C1, C2, C3, C4, C5, C6, C7, C8, C9, C10, C11, C12, C13, C14, C15, C16, C17]) (i := 2) (by decide))) i1 t1 F1,
    i_BadTable := ei_BadTable (PySem.W.mg_of X G a3) (hE C3 (mem_allC (c := cOf [C0, C1, C2, C3, C4, C5, C6, C7, C8, C9, C10, C11, C12, C13, C14, C15, C16, C17]) (i := 3) (by decide))) i2 t2 F2,
    i_BadTree := ei_BadTree (PySem.W.mg_of X G a4) (hE C4 (mem_allC (c := cOf [C0, C1, C2, C3, C4, C5, C6, C7, C8, C9, C10, C11, C12, C13, C14, C15, C16, C17]) (i := 4) (by decide))) i3 t3 F3,
    i_BadPlan := ei_BadPlan (PySem.W.mg_of X G a5) (hE C5 (mem_allC (c := cOf [C0, C1, C2, C3, C4, C5, C6, C7, C8, C9, C10, C11, C12, C13, C14, C15, C16, C17]) (i := 5) (by decide))) i4 t4 F4,
    i_BadBook := ei_BadBook (PySem.W.mg_of X G a6) (hE C6 (mem_allC (c := cOf [C0, C1, C2, C3, C4, C5, C6, C7, C8, C9, C10, C11, C12, C13, C14, C15, C16, C17]) (i := 6) (by decide))) i5 t5 F5,
    i_BadName := ei_BadName (PySem.W.mg_of X G a7) (hE C7 (mem_allC (c := cOf [C0, C1, C2, C3, C4, C5, C6, C7, C8, C9, C10, C11, C12, C13, C14, C15, C16, C17]) (i := 7) (by decide))) i6 t6 F6,
    i_BadText := ei_BadText (PySem.W.mg_of X G a8) (hE C8 (mem_allC (c := cOf [C0, C1, C2, C3, C4, C5, C6, C7, C8, C9, C10, C11, C12, C13, C14, C15, C16, C17]) (i := 8) (by decide))) i7 t7 F7,
    i_NoPlace := ei_NoPlace (PySem.W.mg_of X G a9) (hE C9 (mem_allC (c := cOf [C0, C1, C2, C3, C4, C5, C6, C7, C8, C9, C10, C11, C12, C13, C14, C15, C16, C17]) (i := 9) (by decide))) i8 t8 F8,
    i_NoName := ei_NoName (PySem.W.mg_of X G a10) (hE C10 (mem_allC (c := cOf [C0, C1, C2, C3, C4, C5, C6, C7, C8, C9, C10, C11, C12, C13, C14, C15, C16, C17]) (i := 10) (by decide))) i9 t9 F9,
    i_TakenName := ei_TakenName (PySem.W.mg_of X G a11) (hE C11 (mem_allC (c := cOf [C0, C1, C2, C3, C4, C5, C6, C7, C8, C9, C10, C11, C12, C13, C14, C15, C16, C17]) (i := 11) (by decide))) i10 t10 F10,
    i_Unlike := ei_Unlike (PySem.W.mg_of X G a12) (hE C12 (mem_allC (c := cOf [C0, C1, C2, C3, C4, C5, C6, C7, C8, C9, C10, C11, C12, C13, C14, C15, C16, C17]) (i := 12) (by decide))) i11 t11 F11,
    i_NotThere := ei_NotThere (PySem.W.mg_of X G a13) (hE C13 (mem_allC (c := cOf [C0, C1, C2, C3, C4, C5, C6, C7, C8, C9, C10, C11, C12, C13, C14, C15, C16, C17]) (i := 13) (by decide))) i12 t12 F12,
    i_TooMany := ei_TooMany (PySem.W.mg_of X G a14) (hE C14 (mem_allC (c := cOf [C0, C1, C2, C3, C4, C5, C6, C7, C8, C9, C10, C11, C12, C13, C14, C15, C16, C17]) (i := 14) (by decide))) i13 t13 F13,
    i_NotKept := ei_NotKept (PySem.W.mg_of X G a15) (hE C15 (mem_allC (c := cOf [C0, C1, C2, C3, C4, C5, C6, C7, C8, C9, C10, C11, C12, C13, C14, C15, C16, C17]) (i := 15) (by decide))) i14 t14 F14,
    i_NothingToUndo := ⟨PySem.W.mg_of X G a16, ⟨_, hE C16 (mem_allC (c := cOf [C0, C1, C2, C3, C4, C5, C6, C7, C8, C9, C10, C11, C12, C13, C14, C15, C16, C17]) (i := 16) (by decide))⟩, x0⟩,
    i_NothingToRedo := ⟨PySem.W.mg_of X G a17, ⟨_, hE C17 (mem_allC (c := cOf [C0, C1, C2, C3, C4, C5, C6, C7, C8, C9, C10, C11, C12, C13, C14, C15, C16, C17]) (i := 17) (by decide))⟩, x1⟩,
  }
  refine ⟨gd53, fun s u => ?_, fun base _ _ tb => ?_⟩
  · obtain ⟨_, _, _, _, _, _, _, _, _, rfl, _⟩ := D53.ex
    exact .of_eq rfl
  have H0 := fd_is_integer (sp := spIsInt) (T base) Dn0  (by rintro _ _ _ _ ⟨_, rfl, _⟩; rfl) pure_is_integer
  have H1 := fd_is_ratio (sp := spIsRat) (T base) Dn1 H0 (by rintro _ _ _ _ ⟨_, rfl, _⟩; rfl) pure_is_ratio
  have H2 := fd_pair (sp := spPair) (T base) Dn2  (by rintro _ _ _ _ ⟨_, _, rfl, _⟩; rfl) pure_pair
  have H3 := fd_in_lowest (sp := spLow) (T base) Dn3  (by rintro _ _ _ _ ⟨_, _, _, rfl, _⟩; rfl) pure_in_lowest
  have H4 := fd_ratio (sp := (spRatio (cOf [C0, C1, C2, C3, C4, C5, C6, C7, C8, C9, C10, C11, C12, C13, C14, C15, C16, C17]))) (T base) Dn4 H0 H3 (by rintro _ _ _ _ ⟨_, _, rfl, _⟩; rfl) pure_ratio
  have H5 := fd_need_ratios (sp := (spNeed (cOf [C0, C1, C2, C3, C4, C5, C6, C7, C8, C9, C10, C11, C12, C13, C14, C15, C16, C17]))) (T base) Dn5 H1 (by rintro _ _ _ _ ⟨_, _, rfl, _⟩; rfl) pure_need_ratios
  have H7 := fd_added (sp := (spNum noC fPlus)) (T base) Dn7 H2 H3 (by rintro _ _ _ _ ⟨_, _, _, _, _, rfl, _⟩; rfl) pure_added
  have H6 := fd_plus (sp := (spTwo (cOf [C0, C1, C2, C3, C4, C5, C6, C7, C8, C9, C10, C11, C12, C13, C14, C15, C16, C17]) noC fPlus)) (T base) Dn6 H5 H7 (by rintro _ _ _ _ ⟨_, _, rfl, _⟩; rfl) pure_plus
  have H9 := fd_opposite (sp := spOpp) (T base) Dn9  (by rintro _ _ _ _ ⟨_, _, rfl, _⟩; rfl) pure_opposite
  have H8 := fd_minus (sp := (spTwo (cOf [C0, C1, C2, C3, C4, C5, C6, C7, C8, C9, C10, C11, C12, C13, C14, C15, C16, C17]) noC fMinus)) (T base) Dn8 H5 H7 H9 (by rintro _ _ _ _ ⟨_, _, rfl, _⟩; rfl) pure_minus
  have H11 := fd_multiplied (sp := (spNum noC fTimes)) (T base) Dn11 H2 H3 (by rintro _ _ _ _ ⟨_, _, _, _, _, rfl, _⟩; rfl) pure_multiplied
  have H10 := fd_times (sp := (spTwo (cOf [C0, C1, C2, C3, C4, C5, C6, C7, C8, C9, C10, C11, C12, C13, C14, C15, C16, C17]) noC fTimes)) (T base) Dn10 H5 H11 (by rintro _ _ _ _ ⟨_, _, rfl, _⟩; rfl) pure_times
  have H13 := fd_divided (sp := (spNum rNz fOver)) (T base) Dn13 H2 H3 (by rintro _ _ _ _ ⟨_, _, _, _, _, rfl, _⟩; rfl) pure_divided
  have H12 := fd_over (sp := (spOver (cOf [C0, C1, C2, C3, C4, C5, C6, C7, C8, C9, C10, C11, C12, C13, C14, C15, C16, C17]))) (T base) Dn12 H5 H13 (by rintro _ _ _ _ ⟨_, _, rfl, _⟩; rfl) pure_over
  have H15 := fd_sign_of (sp := spSgn) (T base) Dn15  (by rintro _ _ _ _ ⟨_, _, rfl, _⟩; rfl) pure_sign_of
  have H14 := fd_sign (sp := (spSign (cOf [C0, C1, C2, C3, C4, C5, C6, C7, C8, C9, C10, C11, C12, C13, C14, C15, C16, C17]))) (T base) Dn14 H1 H15 (by rintro _ _ _ _ ⟨_, rfl, _⟩; rfl) pure_sign
  have H17 := fd_is_below (sp := (spNum noC fLess)) (T base) Dn17 H2 (by rintro _ _ _ _ ⟨_, _, _, _, _, rfl, _⟩; rfl) pure_is_below
  have H16 := fd_below (sp := (spTwo (cOf [C0, C1, C2, C3, C4, C5, C6, C7, C8, C9, C10, C11, C12, C13, C14, C15, C16, C17]) noC fLess)) (T base) Dn16 H5 H17 (by rintro _ _ _ _ ⟨_, _, rfl, _⟩; rfl) pure_below
  have H19 := fd_summed (sp := spDotN) (T base) Dn19 H2 H3 (by rintro _ _ _ _ ⟨_, _, _, _, rfl, _⟩; rfl) pure_summed
  have H18 := fd_dot (sp := (spDot (cOf [C0, C1, C2, C3, C4, C5, C6, C7, C8, C9, C10, C11, C12, C13, C14, C15, C16, C17]))) (T base) Dn18 H1 H19 (by rintro _ _ _ _ ⟨_, _, rfl, _⟩; rfl) pure_dot
  have H20 := fd_l_pen (sp := spPen) (T base) Dn20  (by rintro _ _ _ _ ⟨_, rfl, _⟩; rfl) Dq.pure_pen
  have H21 := fd_l_draw (sp := spDraw) (T base) Dn21  (by rintro _ _ _ _ ⟨_, _, _, _, rfl, _⟩; rfl) Dq.pure_draw
  have H22 := fd_l_pick (sp := spPick) (T base) Dn22 H21 (by rintro _ _ _ _ ⟨_, _, _, _, _, rfl, _⟩; rfl) Dq.pure_pick
  have Z23 := fd_false (P := P) (w := w) (base := base) Dn23
  have H23_0 := fd_l_is (kr := 0) (sp := spIs 1) (T base) Dn23 Z23 (by rintro _ _ _ _ ⟨_, rfl, _⟩; rfl) (pure_l_is 0)
  have H23_1 := fd_l_is (kr := 1) (sp := spIs 2) (T base) Dn23 H23_0 (by rintro _ _ _ _ ⟨_, rfl, _⟩; rfl) (pure_l_is 1)
  have H23 := H23_1
  have H24 := fd_l_says (sp := spSays) (T base) Dn24  (by rintro _ _ _ _ ⟨_, rfl, _⟩; rfl) pure_l_says
  have H25 := fd_l_divisor (sp := spDiv) (T base) Dn25  (by rintro _ _ _ _ ⟨_, _, rfl, _⟩; rfl) pure_l_divisor
  have H26 := fd_l_low (sp := spLow) (T base) Dn26 H25 (by rintro _ _ _ _ ⟨_, _, _, rfl, _⟩; rfl) pure_l_low
  have H27 := fd_l_pair (sp := spPair) (T base) Dn27  (by rintro _ _ _ _ ⟨_, _, rfl, _⟩; rfl) pure_l_pair
  have H28 := fd_l_plus (sp := (spNum noC fPlus)) (T base) Dn28 H26 H27 (by rintro _ _ _ _ ⟨_, _, _, _, _, rfl, _⟩; rfl) pure_l_plus
  have H29 := fd_l_opposite (sp := spOpp) (T base) Dn29  (by rintro _ _ _ _ ⟨_, _, rfl, _⟩; rfl) pure_l_opposite
  have H30 := fd_l_minus (sp := (spNum noC fMinus)) (T base) Dn30 H28 H29 (by rintro _ _ _ _ ⟨_, _, _, _, _, rfl, _⟩; rfl) pure_l_minus
  have H31 := fd_l_times (sp := (spNum noC fTimes)) (T base) Dn31 H26 H27 (by rintro _ _ _ _ ⟨_, _, _, _, _, rfl, _⟩; rfl) pure_l_times
  have H32 := fd_l_over (sp := (spNum rNz fOver)) (T base) Dn32 H26 H27 (by rintro _ _ _ _ ⟨_, _, _, _, _, rfl, _⟩; rfl) pure_l_over
  have H33 := fd_l_sign (sp := spSgn) (T base) Dn33 H27 (by rintro _ _ _ _ ⟨_, _, rfl, _⟩; rfl) pure_l_sign
  have H34 := fd_l_less (sp := (spNum noC fLess)) (T base) Dn34 H27 (by rintro _ _ _ _ ⟨_, _, _, _, _, rfl, _⟩; rfl) pure_l_less
  have H35 := fd_l_dot (sp := spDotN) (T base) Dn35 H26 H27 (by rintro _ _ _ _ ⟨_, _, _, _, rfl, _⟩; rfl) pure_l_dot
  have H36 := fd_l_is_list (sp := spIsList) (T base) Dn36  (by rintro _ _ _ _ ⟨_, rfl, _⟩; rfl) pure_l_is_list
  have H38 := fd_l_is_whole (sp := spIsInt) (T base) Dn38  (by rintro _ _ _ _ ⟨_, rfl, _⟩; rfl) pure_is_whole
  have H37 := fd_l_is_ratio (sp := spIsRat) (T base) Dn37 H25 H38 (by rintro _ _ _ _ ⟨_, rfl, _⟩; rfl) pure_l_is_ratio
  have H39 := fd_l_is_any_row (sp := spAny) (T base) Dn39 H36 H37 (by rintro _ _ _ _ ⟨_, rfl, _⟩; rfl) pure_l_is_any_row
  have H41 := fd_l_wide (sp := spWide) (T base) Dn41 H21 (by rintro _ _ _ _ ⟨_, _, _, _, rfl, _⟩; rfl) pure_l_wide
  have H40 := fd_l_number (sp := spNumber) (T base) Dn40 H21 H26 H41 (by rintro _ _ _ _ ⟨_, _, _, _, rfl, _⟩; rfl) pure_l_number
  have H42 := fd_l_size (sp := spSize) (T base) Dn42 H22 (by rintro _ _ _ _ ⟨_, _, _, rfl, _⟩; rfl) pure_l_size
  have H43 := fd_l_row (sp := spRow) (T base) Dn43 H21 H40 (by rintro _ _ _ _ ⟨_, _, _, _, _, rfl, _⟩; rfl) pure_l_row
  have H44 := fd_l_odd (sp := spOdd) (T base) Dn44 H22 (by rintro _ _ _ _ ⟨_, _, _, rfl, _⟩; rfl) pure_l_odd
  have H45 := fd_l_bent_row (sp := spBent) (T base) Dn45 H21 H22 H44 (by rintro _ _ _ _ ⟨_, _, _, _, rfl, _⟩; rfl) pure_l_bent_row
  have H48 := fd_l_more_kinds (sp := (spMoreKinds (cOf [C0, C1, C2, C3, C4, C5, C6, C7, C8, C9, C10, C11, C12, C13, C14, C15, C16, C17]))) (T base) Dn48  Dq.len_more_kinds Dq.in_more_kinds (fun q C fl ds M Q E h => pure_l_more_kinds q C fl ds M Q E TI h)
  have H47 := fd_l_kinds (sp := (spKinds (cOf [C0, C1, C2, C3, C4, C5, C6, C7, C8, C9, C10, C11, C12, C13, C14, C15, C16, C17]))) (T base) Dn47 H48 Dq.len_kinds Dq.in_kinds (fun q C fl ds M Q E h => pure_l_kinds q C fl ds M Q E TI h)
  have H46 := fd_l_fault (sp := (spFault (cOf [C0, C1, C2, C3, C4, C5, C6, C7, C8, C9, C10, C11, C12, C13, C14, C15, C16, C17]))) (T base) Dn46 H47 (pure_l_fault TI)
  have Dn49 : DnL K mg base "_law_made_right" "_law_made_right" s_l_made_right ["pen"] := ⟨_, _, PySem.W.mg_of X G b49, D49, D49.binds (ps := ["pen"]) (fun _ _ _ _ _ _ us hl => match us, hl with | [_], _ => rfl), lm_of L49 tb⟩
  have H49 := fd_l_made_right (sp := spMade) (T base) Dn49 H1 H4 H21 H22 H23 H24 H26 H37 H40 H44 H46 (by rintro _ _ _ _ ⟨_, _, _, rfl, _⟩; rfl) pure_l_made_right
  have Dn50 : DnL K mg base "_law_reckoned_right" "_law_reckoned_right" s_l_reckoned_right ["one", "other"] := ⟨_, _, PySem.W.mg_of X G b50, D50, D50.binds (ps := ["one", "other"]) (fun _ _ _ _ _ _ us hl => match us, hl with | [_, _], _ => rfl), lm_of L50 tb⟩
  have H50 := fd_l_reckoned_right (sp := spReck) (T base) Dn50 H6 H8 H10 H12 H14 H16 H23 H24 H28 H30 H31 H32 H33 H34 H46 (by rintro _ _ _ _ ⟨_, _, rfl, _⟩; rfl) pure_l_reckoned_right
  have Dn51 : DnL K mg base "_law_refused_right" "_law_refused_right" s_l_refused_right ["one", "odd"] := ⟨_, _, PySem.W.mg_of X G b51, D51, D51.binds (ps := ["one", "odd"]) (fun _ _ _ _ _ _ us hl => match us, hl with | [_, _], _ => rfl), lm_of L51 tb⟩
  have H51 := fd_l_refused_right (sp := spRefused) (T base) Dn51 H6 H8 H10 H12 H14 H16 H46 (by rintro _ _ _ _ ⟨_, _, rfl, _⟩; rfl) pure_l_refused_right
  have Dn52 : DnL K mg base "_law_rows_right" "_law_rows_right" s_l_rows_right ["pen"] := ⟨_, _, PySem.W.mg_of X G b52, D52, D52.binds (ps := ["pen"]) (fun _ _ _ _ _ _ us hl => match us, hl with | [_], _ => rfl), lm_of L52 tb⟩
  have H52 := fd_l_rows_right (sp := spRows) (T base) Dn52 H18 H21 H23 H35 H36 H39 H42 H43 H45 H46 (by rintro _ _ _ _ ⟨_, _, _, rfl, _⟩; rfl) pure_l_rows_right
  exact run_law (T base) H20 H22 H40 H42 H44 H49 H50 H51 H52 (by rintro _ _ _ _ ⟨_, rfl, _⟩; rfl) pure_law D53
end K02
set_option pp.maxSteps 60
open PySem PySem.W PyProof.Rows
set_option maxRecDepth 100000 in
set_option maxHeartbeats 80000000 in
theorem PySem.Challenge.cw_hiddenmoves_k02_ratios_holds : PySem.Challenge.rw_hiddenmoves_k02_ratios.Holds := by
  w_on; o_law; k_head; (case hw => w_witness2); k_fill
  refine Dq.walkD (l := PySem.Challenge.rw_hiddenmoves_k02_ratios) (n := 63) (k := 8) (x := "script") (sp := fun _ => K02.sp_law fun _ => 0) (by rfl) (by decide) (by rfl) ⟨⟨rfl, by decide, by decide⟩, rfl⟩ (fun w h Y => PySem.W.km_in_of Y) (fun w => by kernel_rfl) ?F ?S
  case S =>
    intro K ns hl
    exact ⟨ns, rfl, hl, rfl, fun _ => rfl⟩
  case F =>
    intro w mg fa h KX G hmg
    refine' K02.all_mk KX G hmg ?a0 ?a1 ?a2 ?a3 ?a4 ?a5 ?a6 ?a7 ?a8 ?a9 ?a10 ?a11 ?a12 ?a13 ?a14 ?a15 ?a16 ?a17 ?hinj ?herr ?z_int ?z_bool ?z_str ?z_tuple ?z_list ?z_len ?z_repr ?z_range ?z_isinstance ?z_ValueError ?z_abs ?z_all ?z_zip ?y_gcd ?i0 ?t0 ?F0 ?i1 ?t1 ?F1 ?i2 ?t2 ?F2 ?i3 ?t3 ?F3 ?i4 ?t4 ?F4 ?i5 ?t5 ?F5 ?i6 ?t6 ?F6 ?i7 ?t7 ?F7 ?i8 ?t8 ?F8 ?i9 ?t9 ?F9 ?i10 ?t10 ?F10 ?i11 ?t11 ?F11 ?i12 ?t12 ?F12 ?i13 ?t13 ?F13 ?i14 ?t14 ?F14 ?x0 ?x1 ?b0 ?D0 ?b1 ?D1 ?b2 ?D2 ?b3 ?D3 ?b4 ?D4 ?b5 ?D5 ?b6 ?D6 ?b7 ?D7 ?b8 ?D8 ?b9 ?D9 ?b10 ?D10 ?b11 ?D11 ?b12 ?D12 ?b13 ?D13 ?b14 ?D14 ?b15 ?D15 ?b16 ?D16 ?b17 ?D17 ?b18 ?D18 ?b19 ?D19 ?b20 ?D20 ?b21 ?D21 ?b22 ?D22 ?b23 ?D23 ?b24 ?D24 ?b25 ?D25 ?b26 ?D26 ?b27 ?D27 ?b28 ?D28 ?b29 ?D29 ?b30 ?D30 ?b31 ?D31 ?b32 ?D32 ?b33 ?D33 ?b34 ?D34 ?b35 ?D35 ?b36 ?D36 ?b37 ?D37 ?b38 ?D38 ?b39 ?D39 ?b40 ?D40 ?b41 ?D41 ?b42 ?D42 ?b43 ?D43 ?b44 ?D44 ?b45 ?D45 ?b46 ?D46 ?b47 ?D47 ?b48 ?D48 ?b49 ?D49 ?L49 ?b50 ?D50 ?L50 ?b51 ?D51 ?L51 ?b52 ?D52 ?L52 ?b53 ?D53
    (case a0 => k_is)
    (case a1 => k_is)
    (case a2 => k_is)
    (case a3 => k_is)
    (case a4 => k_is)
    (case a5 => k_is)
    (case a6 => k_is)
    (case a7 => k_is)
    (case a8 => k_is)
    (case a9 => k_is)
    (case a10 => k_is)
    (case a11 => k_is)
    (case a12 => k_is)
    (case a13 => k_is)
    (case a14 => k_is)
    (case a15 => k_is)
    (case a16 => k_is)
    (case a17 => k_is)
    (case hinj => decide +kernel)
    (case herr => kernel_rfl)
    (case z_int => k_is)
    (case z_bool => k_is)
    (case z_str => k_is)
    (case z_tuple => k_is)
    (case z_list => k_is)
    (case z_len => k_is)
    (case z_repr => k_is)
    (case z_range => k_is)
    (case z_isinstance => k_is)
    (case z_ValueError => k_is)
    (case z_abs => k_is)
    (case z_all => k_is)
    (case z_zip => k_is)
    (case y_gcd => k_is)
    (case i0 => k_is)
    (case t0 => k_is)
    (case F0 => (refine' L2.fun_mk ?l ?c ?k; (case l => k_is); (case c => k_is); (case k => k_is)))
    (case i1 => k_is)
    (case t1 => k_is)
    (case F1 => (refine' L2.fun_mk ?l ?c ?k; (case l => k_is); (case c => k_is); (case k => k_is)))
    (case i2 => k_is)
    (case t2 => k_is)
    (case F2 => (refine' L2.fun_mk ?l ?c ?k; (case l => k_is); (case c => k_is); (case k => k_is)))
    (case i3 => k_is)
    (case t3 => k_is)
    (case F3 => (refine' L2.fun_mk ?l ?c ?k; (case l => k_is); (case c => k_is); (case k => k_is)))
    (case i4 => k_is)
    (case t4 => k_is)
    (case F4 => (refine' L2.fun_mk ?l ?c ?k; (case l => k_is); (case c => k_is); (case k => k_is)))
    (case i5 => k_is)
    (case t5 => k_is)
    (case F5 => (refine' L2.fun_mk ?l ?c ?k; (case l => k_is); (case c => k_is); (case k => k_is)))
    (case i6 => k_is)
    (case t6 => k_is)
    (case F6 => (refine' L2.fun_mk ?l ?c ?k; (case l => k_is); (case c => k_is); (case k => k_is)))
    (case i7 => k_is)
    (case t7 => k_is)
    (case F7 => (refine' L2.fun_mk ?l ?c ?k; (case l => k_is); (case c => k_is); (case k => k_is)))
    (case i8 => k_is)
    (case t8 => k_is)
    (case F8 => (refine' L2.fun_mk ?l ?c ?k; (case l => k_is); (case c => k_is); (case k => k_is)))
    (case i9 => k_is)
    (case t9 => k_is)
    (case F9 => (refine' L2.fun_mk ?l ?c ?k; (case l => k_is); (case c => k_is); (case k => k_is)))
    (case i10 => k_is)
    (case t10 => k_is)
    (case F10 => (refine' L2.fun_mk ?l ?c ?k; (case l => k_is); (case c => k_is); (case k => k_is)))
    (case i11 => k_is)
    (case t11 => k_is)
    (case F11 => (refine' L2.fun_mk ?l ?c ?k; (case l => k_is); (case c => k_is); (case k => k_is)))
    (case i12 => k_is)
    (case t12 => k_is)
    (case F12 => (refine' L2.fun_mk ?l ?c ?k; (case l => k_is); (case c => k_is); (case k => k_is)))
    (case i13 => k_is)
    (case t13 => k_is)
    (case F13 => (refine' L2.fun_mk ?l ?c ?k; (case l => k_is); (case c => k_is); (case k => k_is)))
    (case i14 => k_is)
    (case t14 => k_is)
    (case F14 => (refine' L2.fun_mk ?l ?c ?k; (case l => k_is); (case c => k_is); (case k => k_is)))
    (case x0 => kernel_rfl)
    (case x1 => kernel_rfl)
    (case b0 => k_is)
    (case D0 => (refine' L2.fun_mk ?l ?c ?k; (case l => k_is); (case c => k_is); (case k => k_is)))
    (case b1 => k_is)
    (case D1 => (refine' L2.fun_mk ?l ?c ?k; (case l => k_is); (case c => k_is); (case k => k_is)))
    (case b2 => k_is)
    (case D2 => (refine' L2.fun_mk ?l ?c ?k; (case l => k_is); (case c => k_is); (case k => k_is)))
    (case b3 => k_is)
    (case D3 => (refine' L2.fun_mk ?l ?c ?k; (case l => k_is); (case c => k_is); (case k => k_is)))
    (case b4 => k_is)
    (case D4 => (refine' L2.fun_mk ?l ?c ?k; (case l => k_is); (case c => k_is); (case k => k_is)))
    (case b5 => k_is)
    (case D5 => (refine' L2.fun_mk ?l ?c ?k; (case l => k_is); (case c => k_is); (case k => k_is)))
    (case b6 => k_is)
    (case D6 => (refine' L2.fun_mk ?l ?c ?k; (case l => k_is); (case c => k_is); (case k => k_is)))
    (case b7 => k_is)
    (case D7 => (refine' L2.fun_mk ?l ?c ?k; (case l => k_is); (case c => k_is); (case k => k_is)))
    (case b8 => k_is)
    (case D8 => (refine' L2.fun_mk ?l ?c ?k; (case l => k_is); (case c => k_is); (case k => k_is)))
    (case b9 => k_is)
    (case D9 => (refine' L2.fun_mk ?l ?c ?k; (case l => k_is); (case c => k_is); (case k => k_is)))
    (case b10 => k_is)
    (case D10 => (refine' L2.fun_mk ?l ?c ?k; (case l => k_is); (case c => k_is); (case k => k_is)))
    (case b11 => k_is)
    (case D11 => (refine' L2.fun_mk ?l ?c ?k; (case l => k_is); (case c => k_is); (case k => k_is)))
    (case b12 => k_is)
    (case D12 => (refine' L2.fun_mk ?l ?c ?k; (case l => k_is); (case c => k_is); (case k => k_is)))
    (case b13 => k_is)
    (case D13 => (refine' L2.fun_mk ?l ?c ?k; (case l => k_is); (case c => k_is); (case k => k_is)))
    (case b14 => k_is)
    (case D14 => (refine' L2.fun_mk ?l ?c ?k; (case l => k_is); (case c => k_is); (case k => k_is)))
    (case b15 => k_is)
    (case D15 => (refine' L2.fun_mk ?l ?c ?k; (case l => k_is); (case c => k_is); (case k => k_is)))
    (case b16 => k_is)
    (case D16 => (refine' L2.fun_mk ?l ?c ?k; (case l => k_is); (case c => k_is); (case k => k_is)))
    (case b17 => k_is)
    (case D17 => (refine' L2.fun_mk ?l ?c ?k; (case l => k_is); (case c => k_is); (case k => k_is)))
    (case b18 => k_is)
    (case D18 => (refine' L2.fun_mk ?l ?c ?k; (case l => k_is); (case c => k_is); (case k => k_is)))
    (case b19 => k_is)
    (case D19 => (refine' L2.fun_mk ?l ?c ?k; (case l => k_is); (case c => k_is); (case k => k_is)))
    (case b20 => k_is)
    (case D20 => (refine' L2.fun_mk ?l ?c ?k; (case l => k_is); (case c => k_is); (case k => k_is)))
    (case b21 => k_is)
    (case D21 => (refine' L2.fun_mk ?l ?c ?k; (case l => k_is); (case c => k_is); (case k => k_is)))
    (case b22 => k_is)
    (case D22 => (refine' L2.fun_mk ?l ?c ?k; (case l => k_is); (case c => k_is); (case k => k_is)))
    (case b23 => k_is)
    (case D23 => (refine' L2.fun_mk ?l ?c ?k; (case l => k_is); (case c => k_is); (case k => k_is)))
    (case b24 => k_is)
    (case D24 => (refine' L2.fun_mk ?l ?c ?k; (case l => k_is); (case c => k_is); (case k => k_is)))
    (case b25 => k_is)
    (case D25 => (refine' L2.fun_mk ?l ?c ?k; (case l => k_is); (case c => k_is); (case k => k_is)))
    (case b26 => k_is)
    (case D26 => (refine' L2.fun_mk ?l ?c ?k; (case l => k_is); (case c => k_is); (case k => k_is)))
    (case b27 => k_is)
    (case D27 => (refine' L2.fun_mk ?l ?c ?k; (case l => k_is); (case c => k_is); (case k => k_is)))
    (case b28 => k_is)
    (case D28 => (refine' L2.fun_mk ?l ?c ?k; (case l => k_is); (case c => k_is); (case k => k_is)))
    (case b29 => k_is)
    (case D29 => (refine' L2.fun_mk ?l ?c ?k; (case l => k_is); (case c => k_is); (case k => k_is)))
    (case b30 => k_is)
    (case D30 => (refine' L2.fun_mk ?l ?c ?k; (case l => k_is); (case c => k_is); (case k => k_is)))
    (case b31 => k_is)
    (case D31 => (refine' L2.fun_mk ?l ?c ?k; (case l => k_is); (case c => k_is); (case k => k_is)))
    (case b32 => k_is)
    (case D32 => (refine' L2.fun_mk ?l ?c ?k; (case l => k_is); (case c => k_is); (case k => k_is)))
    (case b33 => k_is)
    (case D33 => (refine' L2.fun_mk ?l ?c ?k; (case l => k_is); (case c => k_is); (case k => k_is)))
    (case b34 => k_is)
    (case D34 => (refine' L2.fun_mk ?l ?c ?k; (case l => k_is); (case c => k_is); (case k => k_is)))
    (case b35 => k_is)
    (case D35 => (refine' L2.fun_mk ?l ?c ?k; (case l => k_is); (case c => k_is); (case k => k_is)))
    (case b36 => k_is)
    (case D36 => (refine' L2.fun_mk ?l ?c ?k; (case l => k_is); (case c => k_is); (case k => k_is)))
    (case b37 => k_is)
    (case D37 => (refine' L2.fun_mk ?l ?c ?k; (case l => k_is); (case c => k_is); (case k => k_is)))
    (case b38 => k_is)
    (case D38 => (refine' L2.fun_mk ?l ?c ?k; (case l => k_is); (case c => k_is); (case k => k_is)))
    (case b39 => k_is)
    (case D39 => (refine' L2.fun_mk ?l ?c ?k; (case l => k_is); (case c => k_is); (case k => k_is)))
    (case b40 => k_is)
    (case D40 => (refine' L2.fun_mk ?l ?c ?k; (case l => k_is); (case c => k_is); (case k => k_is)))
    (case b41 => k_is)
    (case D41 => (refine' L2.fun_mk ?l ?c ?k; (case l => k_is); (case c => k_is); (case k => k_is)))
    (case b42 => k_is)
    (case D42 => (refine' L2.fun_mk ?l ?c ?k; (case l => k_is); (case c => k_is); (case k => k_is)))
    (case b43 => k_is)
    (case D43 => (refine' L2.fun_mk ?l ?c ?k; (case l => k_is); (case c => k_is); (case k => k_is)))
    (case b44 => k_is)
    (case D44 => (refine' L2.fun_mk ?l ?c ?k; (case l => k_is); (case c => k_is); (case k => k_is)))
    (case b45 => k_is)
    (case D45 => (refine' L2.fun_mk ?l ?c ?k; (case l => k_is); (case c => k_is); (case k => k_is)))
    (case b46 => k_is)
    (case D46 => (refine' L2.fun_mk ?l ?c ?k; (case l => k_is); (case c => k_is); (case k => k_is)))
    (case b47 => k_is)
    (case D47 => (refine' L2.fun_mk ?l ?c ?k; (case l => k_is); (case c => k_is); (case k => k_is)))
    (case b48 => k_is)
    (case D48 => (refine' L2.fun_mk ?l ?c ?k; (case l => k_is); (case c => k_is); (case k => k_is)))
    (case b49 => k_is)
    (case D49 => (refine' L2.fun_mk ?l ?c ?k; (case l => k_is); (case c => k_is); (case k => k_is)))
    (case L49 => kernel_rfl)
    (case b50 => k_is)
    (case D50 => (refine' L2.fun_mk ?l ?c ?k; (case l => k_is); (case c => k_is); (case k => k_is)))
    (case L50 => kernel_rfl)
    (case b51 => k_is)
    (case D51 => (refine' L2.fun_mk ?l ?c ?k; (case l => k_is); (case c => k_is); (case k => k_is)))
    (case L51 => kernel_rfl)
    (case b52 => k_is)
    (case D52 => (refine' L2.fun_mk ?l ?c ?k; (case l => k_is); (case c => k_is); (case k => k_is)))
    (case L52 => kernel_rfl)
    (case b53 => k_is)
    (case D53 => (refine' L2.fun_mk ?l ?c ?k; (case l => k_is); (case c => k_is); (case k => k_is)))
#print axioms PySem.Challenge.cw_hiddenmoves_k02_ratios_holds
