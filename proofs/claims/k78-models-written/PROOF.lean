import PyProof.Rows.All
import Wide.All
import OpenK.AllK
import Wide.FinOn
import HandS.ForMost
import HandS.Walk
import HandS.Star
import HandS.IsInst
import HandS.More
import HandS.Zip
import KE.GoesNew
import KE.GoesEnum
import KE.GoesMore
import HandS.Wide
import HandS.TupAny
import HandS.Steps
import HandS.RaiseMore
import HandS.Text
import HandS.Replace
import HandS.Dict
import HandS.Defaults
import HandS.HeadEnd
import HandS.HeadHook1
import HandS.HeadHook2
import HandS.HeadHook3
import HandS.HeadHook4
import HandS.Head0
import HandS.Head1
import HandS.Head2
import HandS.Codes
import KE.KStateDown
import PySem.Challenge.RW_eventsim_k78_models_written
set_option Elab.async false
set_option linter.all false
set_option maxRecDepth 100000
set_option maxHeartbeats 0
/-! CM, the clean machine. Part a: data by value, the abstract heap, how both lie in the hand layer's heap. -/
namespace CM
open PySem L2 PySem.Spec PyProof.Rows

/-- a value: immutable data by value, a mutable object by its number, a fixed list, a fixed dict -/
inductive D where
  | non | bl (b : Bool) | int (i : Int) | str (x : Str) | tup (xs : List D) | obj (n : Nat) | fl (xs : List D) | fd (kvs : List (Str × D))
instance : Inhabited D := ⟨.non⟩
/-- a mutable object -/
inductive DO where
  | lst (xs : List D) | ins (c : Str) (fs : List (Str × D)) | dk (kvs : List (Key × D))
abbrev AH := List DO
abbrev Env := List (Option D)
/-- what a step gives -/
inductive R (α : Type) where
  | ok (a : α) (h : AH) | bad

/-- the world in which data lie: the written part, the classes -/
structure Wd where
  K : PySem.W.Frag
  W : World
  cl : Str → Option Addr

/-- a list that is never written -/
def FxL (K : PySem.W.Frag) (H : Hp) (a : Addr) (xs : List V) : Prop :=
  (∃ o, H a = some (.frz o (.lst xs))) ∨ ∃ (o : Obj) (its : Array Value) (n : Nat), K.lookup a = some o ∧ o.cls = .type "list" ∧ o.dict = none ∧ o.data = .seq its n ∧ its.size ≤ sizeLine ∧ Vals xs its.toList
theorem FxL.sq {K : PySem.W.Frag} {H : Hp} {a : Addr} {xs : List V} (h : FxL K H a xs) : SqL K H a xs := by
  rcases h with h | h
  · exact .inl (.inr h)
  · exact .inr h

/-- a flat value -/
def flatD : D → Option V
  | .non => some .non | .bl b => some (.bl b) | .int i => some (.int i) | .str x => some (.str x) | _ => none
/-- a dict of the module: text keys, flat values -/
def FdOk (w : Wd) (a : Addr) (kvs : List (Str × D)) : Prop :=
  (∃ es n, KDict w.K w.W a es n) ∧ ∀ z : Str, match kvs.lookup z with
    | none => PySem.W.nsIn w.K a z = some none
    | some d => ∃ u v, PySem.W.nsIn w.K a z = some (some u) ∧ RelV v u ∧ flatD d = some v

mutual
def VR (w : Wd) (μ : List Addr) (H : Hp) : D → V → Prop
  | .non, v => v = .non
  | .bl b, v => v = .bl b
  | .int i, v => v = .int i
  | .str x, v => v = .str x
  | .tup ds, v => ∃ a xs, v = .ref a ∧ SqT w.K H a xs ∧ VRs w μ H ds xs
  | .obj n, v => ∃ a, μ[n]? = some a ∧ v = .ref a
  | .fl ds, v => ∃ a xs, v = .ref a ∧ FxL w.K H a xs ∧ VRs w μ H ds xs
  | .fd kvs, v => ∃ a, v = .ref a ∧ FdOk w a kvs
def VRs (w : Wd) (μ : List Addr) (H : Hp) : List D → List V → Prop
  | [], vs => vs = []
  | d :: ds, vs => ∃ v r, vs = v :: r ∧ VR w μ H d v ∧ VRs w μ H ds r
end

def OR (w : Wd) (μ : List Addr) (H : Hp) (a : Addr) : DO → Prop
  | .lst ds => ∃ xs, H a = some (.lst xs) ∧ VRs w μ H ds xs
  | .ins c fs => ∃ C dx gs, H a = some (.ins C dx gs) ∧ w.cl c = some C ∧ gs.map (·.1) = fs.map (·.1) ∧ VRs w μ H (fs.map (·.2)) (gs.map (·.2))
  | .dk kvs => ∃ gs, H a = some (.dK gs) ∧ gs.map (·.1) = kvs.map (·.1) ∧ VRs w μ H (kvs.map (·.2)) (gs.map (·.2))

structure Rel (w : Wd) (μ : List Addr) (H : Hp) (h : AH) : Prop where
  len : μ.length = h.length
  nd : μ.Nodup
  obj : ∀ (n : Nat) (o : DO), h[n]? = some o → ∃ a, μ[n]? = some a ∧ OR w μ H a o

structure Stp (w : Wd) (μ : List Addr) (H : Hp) (μ' : List Addr) (H' : Hp) (h' : AH) : Prop where
  ext : ∃ ν, μ' = μ ++ ν ∧ ∀ a ∈ ν, H a = none
  keep : ∀ a o, H a = some o → a ∉ μ → H' a = some o
  rel : Rel w μ' H' h'

section
variable {w : Wd} {μ μ' μ1 μ2 : List Addr} {H H' H1 H2 : Hp} {h h' h1 h2 : AH}
/-- an object's kind: what is numbered is a list, an instance or a dict -/
theorem OR.kind {a : Addr} {o : DO} (r : OR w μ H a o) : (∃ xs, H a = some (.lst xs)) ∨ (∃ C dx gs, H a = some (.ins C dx gs)) ∨ ∃ gs, H a = some (.dK gs) := by
  cases o with
  | lst ds => obtain ⟨xs, e, _⟩ := r; exact .inl ⟨xs, e⟩
  | ins c fs => obtain ⟨C, dx, gs, e, _⟩ := r; exact .inr (.inl ⟨C, dx, gs, e⟩)
  | dk kvs => obtain ⟨gs, e, _⟩ := r; exact .inr (.inr ⟨gs, e⟩)
theorem Rel.kind (r : Rel w μ H h) {a : Addr} (ha : a ∈ μ) : (∃ xs, H a = some (.lst xs)) ∨ (∃ C dx gs, H a = some (.ins C dx gs)) ∨ ∃ gs, H a = some (.dK gs) := by
  obtain ⟨n, hn⟩ := List.getElem?_of_mem ha
  have hl : n < μ.length := (List.getElem?_eq_some_iff.mp hn).1
  have hl' : n < h.length := by rw [← r.len]; exact hl
  obtain ⟨a', ha', o⟩ := r.obj n h[n] (List.getElem?_eq_getElem hl')
  rw [hn] at ha'; cases ha'
  exact o.kind
theorem Rel.some (r : Rel w μ H h) {a : Addr} (ha : a ∈ μ) : ∃ o, H a = some o := by
  rcases r.kind ha with ⟨_, e⟩ | ⟨_, _, _, e⟩ | ⟨_, e⟩ <;> exact ⟨_, e⟩
theorem Rel.notup (r : Rel w μ H h) {a : Addr} {xs : List V} (e : H a = Option.some (.tup xs)) : a ∉ μ := fun ha => by
  rcases r.kind ha with ⟨_, q⟩ | ⟨_, _, _, q⟩ | ⟨_, q⟩ <;> (rw [e] at q; cases q)
theorem Rel.nofrz (r : Rel w μ H h) {a : Addr} {o : Obj} {u : HO} (e : H a = Option.some (.frz o u)) : a ∉ μ := fun ha => by
  rcases r.kind ha with ⟨_, q⟩ | ⟨_, _, _, q⟩ | ⟨_, q⟩ <;> (rw [e] at q; cases q)
theorem Rel.noown (r : Rel w μ H h) {a x : Addr} (e : H a = Option.some (.own x)) : a ∉ μ := fun ha => by
  rcases r.kind ha with ⟨_, q⟩ | ⟨_, _, _, q⟩ | ⟨_, q⟩ <;> (rw [e] at q; cases q)
theorem Rel.fresh (r : Rel w μ H h) {a : Addr} (e : H a = none) : a ∉ μ := fun ha => by
  obtain ⟨o, q⟩ := r.some ha
  rw [e] at q; cases q
theorem Stp.refl (r : Rel w μ H h) : Stp w μ H μ H h := ⟨⟨[], by simp, by simp⟩, fun _ _ e _ => e, r⟩
theorem Stp.mem (s : Stp w μ H μ' H' h') {a : Addr} (ha : a ∈ μ) : a ∈ μ' := by
  obtain ⟨ν, rfl, _⟩ := s.ext
  exact List.mem_append_left _ ha
theorem Stp.notin (s : Stp w μ H μ' H' h') {a : Addr} {o : HO} (e : H a = some o) (ha : a ∉ μ) : a ∉ μ' := by
  obtain ⟨ν, rfl, hf⟩ := s.ext
  intro hm
  rcases List.mem_append.mp hm with q | q
  · exact ha q
  · rw [hf a q] at e; cases e
theorem Stp.ix (s : Stp w μ H μ' H' h') {n : Nat} {a : Addr} (e : μ[n]? = some a) : μ'[n]? = some a := by
  obtain ⟨ν, rfl, _⟩ := s.ext
  rw [List.getElem?_append_left (List.getElem?_eq_some_iff.mp e).1]; exact e
theorem Stp.free (s : Stp w μ H μ' H' h') {a : Addr} (e : H' a = none) : H a = none := by
  cases q : H a with
  | none => rfl
  | some o =>
    by_cases ha : a ∈ μ
    · obtain ⟨o', q'⟩ := s.rel.some (s.mem ha)
      rw [e] at q'; cases q'
    · have := s.keep a o q ha
      rw [e] at this; cases this
theorem Stp.trans (a : Stp w μ H μ1 H1 h1) (b : Stp w μ1 H1 μ2 H2 h2) : Stp w μ H μ2 H2 h2 := by
  refine ⟨?_, fun x o e hx => b.keep x o (a.keep x o e hx) (a.notin e hx), b.rel⟩
  obtain ⟨ν, e1, f1⟩ := a.ext
  obtain ⟨ν', e2, f2⟩ := b.ext
  refine ⟨ν ++ ν', by rw [e2, e1, List.append_assoc], fun x hx => ?_⟩
  rcases List.mem_append.mp hx with q | q
  · exact f1 x q
  · exact a.free (f2 x q)
theorem SqT.keep {K : PySem.W.Frag} {a : Addr} {xs : List V} (q : SqT K H a xs) (hk : ∀ o, H a = some o → (∀ ys, H a = some (.tup ys) → H' a = some o) ∧ (∀ o' u, H a = some (.frz o' u) → H' a = some o)) : SqT K H' a xs := by
  rcases q with (e | ⟨o, e⟩) | q
  · exact .inl (.inl ((hk _ e).1 _ e))
  · exact .inl (.inr ⟨o, (hk _ e).2 _ _ e⟩)
  · exact .inr q
/-- what values lean on is kept -/
structure Kp (w : Wd) (μ : List Addr) (H : Hp) (μ' : List Addr) (H' : Hp) : Prop where
  tup : ∀ a xs, SqT w.K H a xs → SqT w.K H' a xs
  fxl : ∀ a xs, FxL w.K H a xs → FxL w.K H' a xs
  ix : ∀ (n : Nat) (a : Addr), μ[n]? = some a → μ'[n]? = some a
mutual
theorem VR.kp (s : Kp w μ H μ' H') : ∀ {d : D} {v : V}, VR w μ H d v → VR w μ' H' d v
  | .non, _, q => q
  | .bl _, _, q => q
  | .int _, _, q => q
  | .str _, _, q => q
  | .tup ds, v, q => by
    obtain ⟨a, xs, e, q1, q2⟩ := q
    exact ⟨a, xs, e, s.tup a xs q1, VRs.kp s q2⟩
  | .obj n, v, q => by
    obtain ⟨a, e, q⟩ := q
    exact ⟨a, s.ix n a e, q⟩
  | .fl ds, v, q => by
    obtain ⟨a, xs, e, q1, q2⟩ := q
    exact ⟨a, xs, e, s.fxl a xs q1, VRs.kp s q2⟩
  | .fd _, _, q => q
theorem VRs.kp (s : Kp w μ H μ' H') : ∀ {ds : List D} {vs : List V}, VRs w μ H ds vs → VRs w μ' H' ds vs
  | [], _, q => q
  | d :: ds, vs, q => by
    obtain ⟨v, t, e, q1, q2⟩ := q
    exact ⟨v, t, e, VR.kp s q1, VRs.kp s q2⟩
end
theorem Kp.of (hk : ∀ a o, H a = some o → (∀ ys, H a = some (.tup ys) → H' a = some o) ∧ (∀ o' u, H a = some (.frz o' u) → H' a = some o)) (ix : ∀ (n : Nat) (a : Addr), μ[n]? = some a → μ'[n]? = some a) : Kp w μ H μ' H' := by
  refine ⟨fun a xs q => SqT.keep q fun o e => hk a o e, fun a xs q => ?_, ix⟩
  rcases q with ⟨o, e⟩ | q
  · exact .inl ⟨o, (hk _ _ e).2 _ _ e⟩
  · exact .inr q
theorem Stp.kp (s : Stp w μ H μ' H' h') (r : Rel w μ H h) : Kp w μ H μ' H' :=
  .of (fun a o e => ⟨fun ys e' => s.keep a o e (r.notup e'), fun o' u e' => s.keep a o e (r.nofrz e')⟩) fun n a e => s.ix e
theorem VR.mono (s : Stp w μ H μ' H' h') (r : Rel w μ H h) {d : D} {v : V} (q : VR w μ H d v) : VR w μ' H' d v := q.kp (s.kp r)
theorem VRs.mono (s : Stp w μ H μ' H' h') (r : Rel w μ H h) {d : List D} {v : List V} (q : VRs w μ H d v) : VRs w μ' H' d v := q.kp (s.kp r)
theorem VRs.length : ∀ {ds : List D} {vs : List V}, VRs w μ H ds vs → vs.length = ds.length
  | [], _, q => by rw [show _ = [] from q]; rfl
  | d :: ds, vs, q => by
    obtain ⟨v, t, e, q1, q2⟩ := q
    rw [e]; simp [VRs.length q2]
theorem VRs.get : ∀ {ds : List D} {vs : List V} {i : Nat} {d : D}, VRs w μ H ds vs → ds[i]? = some d → ∃ v, vs[i]? = some v ∧ VR w μ H d v
  | [], _, _, _, _, e => by simp at e
  | d :: ds, vs, 0, d', q, e => by
    obtain ⟨v, t, rfl, q1, q2⟩ := q
    simp at e; subst e
    exact ⟨v, rfl, q1⟩
  | d :: ds, vs, i + 1, d', q, e => by
    obtain ⟨v, t, rfl, q1, q2⟩ := q
    simpa using VRs.get q2 (by simpa using e)
theorem VRs.nil : VRs w μ H [] [] := rfl
theorem VRs.cons {d : D} {ds : List D} {v : V} {vs : List V} (q : VR w μ H d v) (qs : VRs w μ H ds vs) : VRs w μ H (d :: ds) (v :: vs) := ⟨v, vs, rfl, q, qs⟩
theorem VRs.append : ∀ {ds es : List D} {vs us : List V}, VRs w μ H ds vs → VRs w μ H es us → VRs w μ H (ds ++ es) (vs ++ us)
  | [], _, vs, _, q, q' => by rw [show vs = [] from q]; exact q'
  | d :: ds, _, vs, _, q, q' => by
    obtain ⟨v, t, rfl, q1, q2⟩ := q
    exact VRs.cons q1 (VRs.append q2 q')
theorem VRs.take : ∀ {ds : List D} {vs : List V} (n : Nat), VRs w μ H ds vs → VRs w μ H (ds.take n) (vs.take n)
  | _, _, 0, _ => by simp; exact VRs.nil
  | [], vs, n + 1, q => by rw [show vs = [] from q]; exact VRs.nil
  | d :: ds, vs, n + 1, q => by
    obtain ⟨v, t, rfl, q1, q2⟩ := q
    exact VRs.cons q1 (VRs.take n q2)
theorem VRs.drop : ∀ {ds : List D} {vs : List V} (n : Nat), VRs w μ H ds vs → VRs w μ H (ds.drop n) (vs.drop n)
  | _, _, 0, q => q
  | [], vs, n + 1, q => by rw [show vs = [] from q]; exact VRs.nil
  | d :: ds, vs, n + 1, q => by
    obtain ⟨v, t, rfl, q1, q2⟩ := q
    exact VRs.drop n q2
theorem VRs.set {d : D} {v : V} (q : VR w μ H d v) : ∀ {ds : List D} {vs : List V} (n : Nat), VRs w μ H ds vs → VRs w μ H (ds.set n d) (vs.set n v)
  | [], vs, n, qs => by rw [show vs = [] from qs]; exact VRs.nil
  | d' :: ds, vs, 0, qs => by
    obtain ⟨v, t, rfl, q1, q2⟩ := qs
    exact VRs.cons q q2
  | d' :: ds, vs, n + 1, qs => by
    obtain ⟨v, t, rfl, q1, q2⟩ := qs
    exact VRs.cons q1 (VRs.set q n q2)
theorem OR.kp (s : Kp w μ H μ' H') {a : Addr} {o : DO} (e : H' a = H a) (q : OR w μ H a o) : OR w μ' H' a o := by
  cases o with
  | lst ds => obtain ⟨xs, e1, q⟩ := q; exact ⟨xs, e.trans e1, q.kp s⟩
  | ins c fs => obtain ⟨C, dx, gs, e1, e2, e3, q⟩ := q; exact ⟨C, dx, gs, e.trans e1, e2, e3, q.kp s⟩
  | dk kvs => obtain ⟨gs, e1, e2, q⟩ := q; exact ⟨gs, e.trans e1, e2, q.kp s⟩
theorem Rel.at (r : Rel w μ H h) {n : Nat} {o : DO} (e : h[n]? = Option.some o) {a : Addr} (ha : μ[n]? = Option.some a) : OR w μ H a o := by
  obtain ⟨a', ha', q⟩ := r.obj n o e
  rw [ha] at ha'; cases ha'
  exact q

theorem kp_upd {p : Addr} {o : HO} (hp : H p = none) : Kp w μ H μ (upd H p o) := by
  have keep : ∀ a u, H a = some u → upd H p o a = some u := fun a u e => by rw [upd_ne (ne_of_none e hp)]; exact e
  exact .of (fun a u e => ⟨fun _ _ => keep a u e, fun _ _ _ => keep a u e⟩) fun _ _ e => e
/-- a thing is laid that has no number: a tuple, or what is thrown away -/
theorem Stp.lay (r : Rel w μ H h) {p : Addr} {o : HO} (hp : H p = none) : Stp w μ H μ (upd H p o) h := by
  refine ⟨⟨[], by simp, by simp⟩, fun a u e _ => by rw [upd_ne (ne_of_none e hp)]; exact e, r.len, r.nd, fun n u e => ?_⟩
  obtain ⟨a, ha, q⟩ := r.obj n u e
  refine ⟨a, ha, q.kp (kp_upd hp) ?_⟩
  obtain ⟨z, ez⟩ := r.some (List.mem_of_getElem? ha)
  rw [upd_ne (ne_of_none ez hp)]
theorem kp_num {p : Addr} : Kp w μ H (μ ++ [p]) H :=
  .of (fun a u e => ⟨fun _ _ => e, fun _ _ _ => e⟩) fun n a e => by rw [List.getElem?_append_left (List.getElem?_eq_some_iff.mp e).1]; exact e
/-- a thing that lies there without a number gets one -/
theorem Stp.num (s : Stp w μ H μ' H' h') {p : Addr} {u : DO} (hp : p ∉ μ') (h0 : H p = none) (q : OR w μ' H' p u) : Stp w μ H (μ' ++ [p]) H' (h' ++ [u]) := by
  obtain ⟨ν, e, hf⟩ := s.ext
  refine ⟨⟨ν ++ [p], by rw [e, List.append_assoc], fun a ha => ?_⟩, s.keep, by simp [s.rel.len], ?_, fun n u' e => ?_⟩
  · rcases List.mem_append.mp ha with z | z
    · exact hf a z
    · rw [List.mem_singleton.mp z]; exact h0
  · refine List.nodup_append.mpr ⟨s.rel.nd, by simp, fun a ha b hb => ?_⟩
    rw [List.mem_singleton.mp hb]
    rintro rfl
    exact hp ha
  · by_cases hn : n < h'.length
    · rw [List.getElem?_append_left hn] at e
      obtain ⟨a, ha, q⟩ := s.rel.obj n u' e
      exact ⟨a, (kp_num (w := w) (H := H')).ix n a ha, q.kp kp_num rfl⟩
    · rw [List.getElem?_append_right (by omega)] at e
      have hn' : n = h'.length := by
        rcases Nat.lt_or_ge (n - h'.length) 1 with q | q
        · omega
        · rw [List.getElem?_eq_none (by simpa using q)] at e; cases e
      subst hn'
      simp at e; subst e
      exact ⟨p, by rw [← s.rel.len]; simp, q.kp kp_num rfl⟩
/-- a numbered thing is changed -/
theorem Stp.set (r : Rel w μ H h) {n : Nat} {a : Addr} {o0 o : HO} {u : DO} (ha : μ[n]? = some a) (e0 : H a = some o0) (hm : ∀ xs, o0 ≠ .tup xs) (hf : ∀ x y, o0 ≠ .frz x y)
    (new : ∀ H', Kp w μ H μ H' → H' a = some o → OR w μ H' a u) : Stp w μ H μ (upd H a o) (h.set n u) ∧ Kp w μ H μ (upd H a o) := by
  have kp : Kp w μ H μ (upd H a o) := by
    refine .of (fun b x e => ?_) fun _ _ e => e
    by_cases hb : b = a
    · subst hb
      rw [e0] at e; cases e
      exact ⟨fun ys e' => absurd (Option.some.inj (e0.symm.trans e')) (hm _), fun x' y e' => absurd (Option.some.inj (e0.symm.trans e')) (hf _ _)⟩
    · rw [upd_ne hb]
      exact ⟨fun _ _ => e, fun _ _ _ => e⟩
  refine ⟨⟨⟨[], by simp, by simp⟩, fun b x e hb => ?_, by simpa using r.len, r.nd, fun i u' e => ?_⟩, kp⟩
  · rw [upd_ne]
    · exact e
    · rintro rfl
      exact hb (List.mem_of_getElem? ha)
  · by_cases hi : i = n
    · subst hi
      have hl : i < h.length := by rw [← r.len]; exact (List.getElem?_eq_some_iff.mp ha).1
      rw [List.getElem?_set_self hl] at e
      cases e
      exact ⟨a, ha, new _ kp upd_same⟩
    · rw [List.getElem?_set_ne (Ne.symm hi)] at e
      obtain ⟨b, hb, q⟩ := r.obj i u' e
      refine ⟨b, hb, q.kp kp ?_⟩
      rw [upd_ne]
      rintro rfl
      exact hi ((List.getElem?_inj (List.getElem?_eq_some_iff.mp hb).1 r.nd).mp (hb.trans ha.symm))
end
end CM

/-! CM, part z: zip of texts, tuples and lists in any mix. -/
namespace CM
open PySem L2 PySem.Spec PyProof.Rows
/-- one side of a zip: how its iterator stands (tn), its length (N), its items (y) -/
structure Side (P : Program) (w : World) (K : PySem.W.Frag) (it lo : Addr) (tn : Nat → Heap → Prop) (N : Hp → Nat → Prop) (y : Nat → Hp → V → Prop) : Prop where
  obj : ∀ i h, tn i h → ∃ o, h.get? it = some o ∧ ∀ v, o.data ≠ .cell v
  keep : ∀ i h h', tn i h → (∀ o, h.get? it = some o → h'.get? it = some o) → tn i h'
  at_ : ∀ (X : Cx), X.prog = P → X.w = w → X.K = K → X.calm = true → ∀ (i n : Nat) (pins : List (Addr × Obj)) (s : Shared) (σ : L2.St) (H : Hp), Inv X pins σ H s → N H n → tn i s.heap →
    ∃ (Pn : Nat → Value → Prop) (St : Nat → Heap → Prop) (rest : List Addr), Draws P w X.A.in1 it (it :: rest) n Pn St ∧ St i s.heap ∧ (∀ v, Pn i v → ∃ x, RelV x v ∧ y i H x) ∧ (∀ h', St (i + 1) h' → tn (i + 1) h') ∧ ∀ b ∈ rest, b < lo
/-- two sides -/
def Itzz (N1 N2 : Hp → Nat → Prop) (y1 y2 : Nat → Hp → V → Prop) : It :=
  ⟨fun i H => ∃ n1 n2, N1 H n1 ∧ N2 H n2 ∧ i < min n1 n2, fun i H v H' => ∃ T x y, v = .ref T ∧ H T = none ∧ H' = upd H T (.tup [x, y]) ∧ y1 i H x ∧ y2 i H y, fun i H => ∃ n1 n2, N1 H n1 ∧ N2 H n2 ∧ i = min n1 n2⟩
theorem turn_zz {P : Program} {w : World} {K : PySem.W.Frag} {elts : List Expr} {kk : Nat} {tpos : Pos} {M : Nat} {tn1 tn2 : Nat → Heap → Prop} {N1 N2 : Hp → Nat → Prop} {y1 y2 : Nat → Hp → V → Prop} (S1 : Side P w K M M tn1 N1 y1) (S2 : Side P w K (M + 1) M tn2 N2 y2) :
    Turn P w K (.Tuple elts kk tpos) (Itzz N1 N2 y1 y2) [M + 4, M + 2, M + 3, M, M + 1] (M + 4) (fun i h => IsZip h (M + 4) (M + 2) (M + 3) .none ∧ IsTupOf2 h (M + 2) (.ref M) (.ref (M + 1)) ∧ (∃ a b, IsTupOf2 h (M + 3) a b) ∧ tn1 i h ∧ tn2 i h) where
  mem := by simp
  obj := fun i h st c hc => by
    obtain ⟨hz, hTI, ⟨x, y, hTO⟩, h1, h2⟩ := st
    have e' : c = M + 4 ∨ c = M + 2 ∨ c = M + 3 ∨ c = M ∨ c = M + 1 := by simpa using hc
    rcases e' with q | q | q | q | q
    · rw [q]; exact ⟨_, hz, fun v q => nomatch q⟩
    · rw [q]; exact ⟨_, hTI, fun v q => nomatch q⟩
    · rw [q]; exact ⟨_, hTO, fun v q => nomatch q⟩
    · rw [q]; exact S1.obj i h h1
    · rw [q]; exact S2.obj i h h2
  keep := fun i h h' st k => by
    obtain ⟨hz, hTI, ⟨x, y, hTO⟩, h1, h2⟩ := st
    exact ⟨k (M + 4) (by simp) _ hz, k (M + 2) (by simp) _ hTI, ⟨x, y, k (M + 3) (by simp) _ hTO⟩, S1.keep i h h' h1 fun o q => k M (by simp) o q, S2.keep i h h' h2 fun o q => k (M + 1) (by simp) o q⟩
  item := by
    intro X hP hw hK hc i pins s σ H E I hf st hg
    subst hP hw hK
    obtain ⟨hz, hTI, hTO, h1, h2⟩ := st
    obtain ⟨n1, n2, l1, l2, hi⟩ := hg
    obtain ⟨P1, St1, r1, D1, st1, g1, b1, lo1⟩ := S1.at_ X rfl rfl rfl hc i n1 pins s σ H I l1 h1
    obtain ⟨P2, St2, r2, D2, st2, g2, b2, lo2⟩ := S2.at_ X rfl rfl rfl hc i n2 pins s σ H I l2 h2
    have G := GoesN.zip2 (elts := elts) (x1 := kk) (pos := tpos) (A := X.A) (zip_sep2 (N := M) lo1 lo2) D1 D2
    refine wpAny_mono (G.goes i s (fun v s2 => ∃ x H', Inv X pins σ H' s2 ∧ RelV x v ∧ (Itzz N1 N2 y1 y2).yld i H x H' ∧ (IsZip s2.heap (M + 4) (M + 2) (M + 3) .none ∧ IsTupOf2 s2.heap (M + 2) (.ref M) (.ref (M + 1)) ∧ (∃ a b, IsTupOf2 s2.heap (M + 3) a b) ∧ tn1 (i + 1) s2.heap ∧ tn2 (i + 1) s2.heap) ∧ ∀ b ∈ [M + 4, M + 2, M + 3, M, M + 1], H' b = none) E hi ⟨hz, hTI, hTO, st1, st2⟩ ?_) (fun r s1 q => q) fun _ _ z => z
    intro v h' tk ⟨T, u1, u2, ev, hT, p1, p2, ht⟩ st' hk htk
    subst ev
    obtain ⟨x1, rx1, q1⟩ := g1 u1 p1
    obtain ⟨x2, rx2, q2⟩ := g2 u2 p2
    have hTn : H T = none := I.hok.fresh hT
    have new : ObjOk X.prog X.w (upd H T (.tup [x1, x2])) h' T (.tup [x1, x2]) :=
      ⟨by show 2 ≤ sizeLine; decide, [u1, u2], .cons rx1 (.cons rx2 .nil), ht⟩
    have hsub : ∀ b, b ∉ [M + 4, M + 2, M + 3, M, M + 1] → b ∉ [M + 4, M + 3, M, M + 1] := fun b hb z => hb (by simp at z ⊢; omega)
    have I1 : Inv X pins σ (upd H T (.tup [x1, x2])) { s with heap := h', toks := tk } :=
      I.turnedNew (t' := tk) (ch := [M + 4, M + 2, M + 3, M, M + 1]) (fun b o hb q => hk b o (hsub b hb) q) hf hT new
    obtain ⟨z1, z2, z3, z4, z5⟩ := st'
    refine ⟨.ref T, _, I1, rfl, ⟨T, x1, x2, rfl, hTn, rfl, q1, q2⟩, ⟨z1, z2, z3, b1 _ z4, b2 _ z5⟩, fun b hb => ?_⟩
    rw [upd_ne]
    · exact (hf b hb).1
    · rintro rfl
      have e' : b = M + 4 ∨ b = M + 2 ∨ b = M + 3 ∨ b = M ∨ b = M + 1 := by simpa using hb
      have hlt : b < s.heap.objs.size := by
        rcases e' with q | q | q | q | q
        · rw [q]; exact Heap.lt_size hz
        · rw [q]; exact Heap.lt_size hTI
        · obtain ⟨a, b', z⟩ := hTO; rw [q]; exact Heap.lt_size z
        · obtain ⟨o, z, _⟩ := S1.obj i _ h1; rw [q]; exact Heap.lt_size z
        · obtain ⟨o, z, _⟩ := S2.obj i _ h2; rw [q]; exact Heap.lt_size z
      exact absurd (Nat.lt_of_lt_of_le hlt hT) (Nat.lt_irrefl _)
  done := by
    intro X hP hw hK hc i pins s σ H E I hf st hg
    subst hP hw hK
    obtain ⟨hz, hTI, hTO, h1, h2⟩ := st
    obtain ⟨n1, n2, l1, l2, hi⟩ := hg
    obtain ⟨P1, St1, r1, D1, st1, g1, b1, lo1⟩ := S1.at_ X rfl rfl rfl hc i n1 pins s σ H I l1 h1
    obtain ⟨P2, St2, r2, D2, st2, g2, b2, lo2⟩ := S2.at_ X rfl rfl rfl hc i n2 pins s σ H I l2 h2
    have G := GoesN.zip2 (elts := elts) (x1 := kk) (pos := tpos) (A := X.A) (zip_sep2 (N := M) lo1 lo2) D1 D2
    subst hi
    have hsub : ∀ b, b ∉ [M + 4, M + 2, M + 3, M, M + 1] → b ∉ [M + 4, M + 3, M, M + 1] := fun b hb z => hb (by simp at z ⊢; omega)
    exact G.stops s (fun s1 => Inv X pins σ H s1) E ⟨hz, hTI, hTO, st1, st2⟩ fun h' tk hk htk =>
      I.turnedL (t' := tk) (ch := [M + 4, M + 2, M + 3, M, M + 1]) (fun b o hb q => hk b o (hsub b hb) q) hf
  self := fun A i s Q E st h => wpAny_pyIter_zip st.1 h

section
variable {P : Program} {w : World} {K : PySem.W.Frag} {it lo a : Addr}
theorem side_tup (hne : a ≠ it) (ha : a < lo) : Side P w K it lo (fun i h => h.IsTupleIter it a i) (fun H n => ∃ xs, SqT K H a xs ∧ xs.length = n) (fun i H x => ∀ xs, SqT K H a xs → xs[i]? = some x) where
  obj := fun i h ⟨o, e, _, d⟩ => ⟨o, e, fun v q => by rw [d] at q; cases q⟩
  keep := fun i h h' st k => st.at k
  at_ := by
    intro X hP hw hK hc i n pins s σ H I ⟨xs, hx, hl⟩ st
    subst hP hw hK
    obtain ⟨its, rv, p, _⟩ := I.tuple hx
    have hn : its.toArray.size = n := by rw [List.size_toArray, ← rv.length, hl]
    subst hn
    refine ⟨_, _, [a], Draws.tuple (A := X.A.in1) (I.ok.hd hc) it a hne its.toArray, ⟨st, p⟩, fun v hv => ?_, fun h' z => z.1, fun b hb => by rw [List.mem_singleton.mp hb]; exact ha⟩
    have hv' : its[i]? = some v := by simpa using hv
    have hi : i < xs.length := by rw [rv.length]; exact (List.getElem?_eq_some_iff.mp hv').1
    obtain ⟨u, hu, ru⟩ := rv.get (List.getElem?_eq_getElem hi)
    rw [hv'] at hu; cases hu
    exact ⟨xs[i], ru, fun ys hy => by rw [I.tuple_inj hy hx]; exact List.getElem?_eq_getElem hi⟩
theorem side_lst (hne : a ≠ it) (ha : a < lo) : Side P w K it lo (fun i h => h.IsListIter it a i) (fun H n => ∃ xs, SqL K H a xs ∧ xs.length = n) (fun i H x => ∀ xs, SqL K H a xs → xs[i]? = some x) where
  obj := fun i h ⟨o, e, _, d⟩ => ⟨o, e, fun v q => by rw [d] at q; cases q⟩
  keep := fun i h h' st k => st.at k
  at_ := by
    intro X hP hw hK hc i n pins s σ H I ⟨xs, hx, hl⟩ st
    subst hP hw hK
    obtain ⟨its, rv, p, _⟩ := I.list hx
    have hn : its.toArray.size = n := by rw [List.size_toArray, ← rv.length, hl]
    subst hn
    refine ⟨_, _, [a], Draws.list (A := X.A.in1) (I.ok.hd hc) it a hne its.toArray, ⟨st, p.isList⟩, fun v hv => ?_, fun h' z => z.1, fun b hb => by rw [List.mem_singleton.mp hb]; exact ha⟩
    have hv' : its[i]? = some v := by simpa using hv
    have hi : i < xs.length := by rw [rv.length]; exact (List.getElem?_eq_some_iff.mp hv').1
    obtain ⟨u, hu, ru⟩ := rv.get (List.getElem?_eq_getElem hi)
    rw [hv'] at hu; cases hu
    exact ⟨xs[i], ru, fun ys hy => by rw [I.list_inj hy hx]; exact List.getElem?_eq_getElem hi⟩
theorem side_str {x : Str} {t : Tok} : Side P w K it lo (fun i h => h.IsStrIter it (strIterType x) x t i) (fun _ n => n = x.cps.size) (fun i _ v => ∃ c, x.cps[i]? = some c ∧ v = .str ⟨#[c]⟩) where
  obj := fun i h st => by
    obtain ⟨o, e, _, d⟩ := st
    exact ⟨o, e, fun v q => by rw [d] at q; cases q⟩
  keep := fun i h h' st k => by
    obtain ⟨o, e, c, d⟩ := st
    exact ⟨o, k o e, c, d⟩
  at_ := by
    intro X hP hw hK hc i n pins s σ H I hl st
    subst hP hw hK hl
    exact ⟨_, _, [], Draws.text (A := X.A.in1) (I.ok.hd hc) it x t, st, fun v ⟨c, u, e, ev⟩ => ⟨.str ⟨#[c]⟩, ⟨u, ev⟩, c, e, rfl⟩, fun h' z => z, fun b hb => nomatch hb⟩
end
end CM

/-! CM, part b: the judgements; names, constants, operators, tests. -/
namespace CM
open PySem L2 PySem.Spec PyProof.Rows

/-! ### what an expression, a test, a statement does, at one state -/
section
variable (X : Cx)
def At (e : Expr) : TE := fun σ H Q => ∀ pins s, Inv X pins σ H s → wpAny (model X.prog X.w) X.A (eval e X.env) (EP X pins σ Q) X.xe s
def AtT (e : Expr) : TT := fun σ H Q => ∀ pins s, Inv X pins σ H s → wpAny (model X.prog X.w) X.A (isTrue e X.env (eval e X.env)) (TP X pins σ Q) X.xe s
def AtW (e : Expr) : TT := fun σ H Q => ∀ whole pins s, Inv X pins σ H s → wpAny (model X.prog X.w) X.A (isTrue e X.env whole) (TP X pins σ Q) X.xe s
def AtA (es : List Expr) : TA := fun σ H Q => ∀ pos pins s, Inv X pins σ H s → wpAny (model X.prog X.w) X.A (spliced (backTo pos (starEach es X.env))) (AP X pins σ Q) X.xe s
def AtS (st : Stmt) : TS := fun D σ H => ∀ pins s, Inv X pins σ H s → wpAny (model X.prog X.w) X.A (exec st X.env) (SP X pins D) X.xe s
def AtSs (st : List Stmt) : TS := fun D σ H => ∀ pins s, Inv X pins σ H s → wpAny (model X.prog X.w) X.A (execs st X.env) (SP X pins D) X.xe s
/-- an operation on two values, a call of a value, at one state -/
def OpAt (f : Value → Value → Sem Value) : R2 := fun x y H Q => ∀ pins s σ v u, Inv X pins σ H s → RelV x v → RelV y u → wpAny (model X.prog X.w) X.A (f v u) (EP X pins σ Q) X.xe s
def CallAt (f : Value) : List V → Hp → VK → Prop := fun xs H Q => ∀ pins s σ us, Inv X pins σ H s → Vals xs us → wpAny (model X.prog X.w) X.A (call f us) (EP X pins σ Q) X.xe s
end
section
variable {X : Cx} {e : Expr} {es : List Expr} {st : Stmt} {sts : List Stmt} {σ : L2.St} {H : Hp}
theorem At.pe : PE X e (At X e) := ⟨fun pins s _ _ _ I h => h pins s I⟩
theorem AtT.pt : PT X e (AtT X e) := ⟨fun pins s _ _ _ I h => h pins s I⟩
theorem AtW.pw : PW X e (AtW X e) := ⟨fun wh pins s _ _ _ I h => h wh pins s I⟩
theorem AtA.pa : PA X es (AtA X es) := ⟨fun pos pins s _ _ _ I h => h pos pins s I⟩
theorem AtS.ps : PS X st (AtS X st) := ⟨fun pins s _ _ _ I h => h pins s I⟩
theorem AtSs.pss : PSs X sts (AtSs X sts) := ⟨fun pins s _ _ _ I h => h pins s I⟩
theorem OpAt.op {f : Value → Value → Sem Value} : OpR X f (OpAt X f) := fun pins s σ _ _ _ v u _ I rx ry h => h pins s σ v u I rx ry
theorem CallAt.cr {f : Value} : CallR X f (CallAt X f) := fun pins s σ _ _ us _ I r h => h pins s σ us I r
theorem At.of {t : TE} {Q : VK} (h : PE X e t) (q : t σ H Q) : At X e σ H Q := fun pins s I => h.run pins s σ H Q I q
theorem AtT.of {t : TT} {Q : Bool → Hp → Prop} (h : PT X e t) (q : t σ H Q) : AtT X e σ H Q := fun pins s I => h.run pins s σ H Q I q
theorem AtW.of {t : TT} {Q : Bool → Hp → Prop} (h : PW X e t) (q : t σ H Q) : AtW X e σ H Q := fun wh pins s I => h.run wh pins s σ H Q I q
theorem AtA.of {t : TA} {Q : List V → Hp → Prop} (h : PA X es t) (q : t σ H Q) : AtA X es σ H Q := fun pos pins s I => h.run pos pins s σ H Q I q
theorem AtS.of {t : TS} {D : Ends} (h : PS X st t) (q : t D σ H) : AtS X st D σ H := fun pins s I => h.run pins s σ H D I q
theorem AtSs.of {t : TS} {D : Ends} (h : PSs X sts t) (q : t D σ H) : AtSs X sts D σ H := fun pins s I => h.run pins s σ H D I q
theorem OpAt.of {f : Value → Value → Sem Value} {r : R2} {x y : V} {Q : VK} (h : OpR X f r) (q : r x y H Q) : OpAt X f x y H Q := fun pins s σ v u I rx ry => h pins s σ H x y v u Q I rx ry q
theorem CallAt.of {f : Value} {r : List V → Hp → VK → Prop} {xs : List V} {Q : VK} (h : CallR X f r) (q : r xs H Q) : CallAt X f xs H Q := fun pins s σ us I rx => h pins s σ H xs us Q I rx q
theorem At.mono {Q Q' : VK} (h : At X e σ H Q) (q : ∀ v H', Q v H' → Q' v H') : At X e σ H Q' := fun pins s I => thn (h pins s I) fun _ _ ⟨v, H', I', r, z⟩ => ⟨v, H', I', r, q v H' z⟩
theorem AtT.mono {Q Q' : Bool → Hp → Prop} (h : AtT X e σ H Q) (q : ∀ v H', Q v H' → Q' v H') : AtT X e σ H Q' := fun pins s I => thn (h pins s I) fun _ _ ⟨H', I', z⟩ => ⟨H', I', q _ H' z⟩
theorem AtW.mono {Q Q' : Bool → Hp → Prop} (h : AtW X e σ H Q) (q : ∀ v H', Q v H' → Q' v H') : AtW X e σ H Q' := fun wh pins s I => thn (h wh pins s I) fun _ _ ⟨H', I', z⟩ => ⟨H', I', q _ H' z⟩
theorem AtA.mono {Q Q' : List V → Hp → Prop} (h : AtA X es σ H Q) (q : ∀ v H', Q v H' → Q' v H') : AtA X es σ H Q' := fun pos pins s I => thn (h pos pins s I) fun _ _ ⟨v, H', I', r, z⟩ => ⟨v, H', I', r, q v H' z⟩
theorem SP.mono {pins : List (Addr × Obj)} {D D' : Ends} {f : Flow} {s' : Shared} (h : SP X pins D f s') (h1 : ∀ σ H, D.nx σ H → D'.nx σ H) (h2 : ∀ v H, D.rt v H → D'.rt v H) (h3 : ∀ σ H, D.bk σ H → D'.bk σ H) (h4 : ∀ σ H, D.ct σ H → D'.ct σ H) : SP X pins D' f s' := by
  cases f with
  | next => obtain ⟨σ', H', I, q⟩ := h; exact ⟨σ', H', I, h1 _ _ q⟩
  | brk => obtain ⟨σ', H', I, q⟩ := h; exact ⟨σ', H', I, h3 _ _ q⟩
  | cont => obtain ⟨σ', H', I, q⟩ := h; exact ⟨σ', H', I, h4 _ _ q⟩
  | ret u => obtain ⟨v, σ', H', I, r, q⟩ := h; exact ⟨v, σ', H', I, r, h2 _ _ q⟩
end

/-! ### the static world -/
structure SC where
  N : List Str
  sc : Scope
  top : Bool
/-- what a def does with its arguments -/
abbrev GF := List D → AH → R D
/-- the world that stays; with what the defs are known to do -/
structure G0 where
  P : Program
  W : World
  K : PySem.W.Frag
  mg : Str → Option Value
  base : Heap
  cl : Str → Option Addr
  con : Str → Option D
  nb : Str → Bool
structure GT extends G0 where
  fn : Str → Option GF
  mt : Str → Str → Option GF
/-- what the interpreter asks of a world -/
structure EvT where
  con : Str → Option D
  nb : Str → Bool
  fn : Str → Option GF
  mt : Str → Str → Option GF
abbrev GT.v (T : GT) : EvT := ⟨T.con, T.nb, T.fn, T.mt⟩
abbrev G0.wd (T : G0) : Wd := ⟨T.K, T.W, T.cl⟩

/-- the promise of a def -/
def spOf (w : Wd) (n : Nat) (g : GF) : Sp := fun vs H Q _ => vs.length = n ∧ ∃ (ds : List D) (h : AH) (d : D) (h' : AH) (μ : List Addr), g ds h = .ok d h' ∧ VRs w μ H ds vs ∧ Rel w μ H h ∧
  ∀ v H' μ', Stp w μ H μ' H' h' → VR w μ' H' d v → Q v H'

/-- a def that keeps its promise, wherever no repr is under way -/
structure FnG (T : G0) (k : Nat) (f : Addr) (fd : FuncData) (ps : List Str) (g : GF) : Prop where
  len : ∀ ds h d h', g ds h = .ok d h' → ds.length = ps.length
  run : ∀ (A : Around) (outer : List PySem.Env) (s : Shared) (H : Hp) (args : Args) (us : List Value) (vs : List V) (Q : VK),
    Room k A → A.guards = some [] → Env0 T.P T.W T.K T.mg T.base A outer s H → BindsTo s fd args (ps.zip us) → Vals vs us → spOf T.wd ps.length g vs H Q E0 →
    codeAny (model T.P T.W) A (.call (.ref f) args) (CR CX0 outer T.P T.W H s Q E0) s
theorem FnG.mono {T : G0} {j k : Nat} {f : Addr} {fd : FuncData} {ps : List Str} {g : GF} (F : FnG T j f fd ps g) (h : j ≤ k) : FnG T k f fd ps g :=
  ⟨F.len, fun A outer s H args us vs Q hr => F.run A outer s H args us vs Q (hr.mono h)⟩
structure GOk (T : GT) (k : Nat) : Prop where
  con : ∀ x d, T.con x = some d → ∃ u v, T.mg x = some u ∧ RelV v u ∧ ∀ μ H h, Rel T.wd μ H h → VR T.wd μ H d v
  fn : ∀ x g, T.fn x = some g → ∃ f fd ps, FnG T.toG0 k f fd ps g ∧ T.mg x = some (.ref f) ∧ PySem.W.keepIn T.K (.ref f) = true ∧ Binds T.K fd ps []
  mt : ∀ c m g, T.mt c m = some g → ∃ C f fd ps, T.cl c = some C ∧ FnG T.toG0 k f fd ps g ∧ Cls T.K C ∧ Meth T.K C m f ∧ Binds T.K fd ps []
  nb : ∀ x, T.nb x = true → T.mg x = none

structure Good (T : GT) (k : Nat) (S : SC) (X : Cx) : Prop where
  prog : X.prog = T.P
  w : X.w = T.W
  K : X.K = T.K
  mg : X.mg = T.mg
  base : X.base = T.base
  N : X.N = S.N
  sc : X.env.scope = S.sc
  calm : X.calm = true
  nd : X.N.Nodup
  room : Room k X.A
  gd : X.A.guards = some []
  xe : X.xe = fun _ _ => False
  fn : S.top = true → ∀ x, X.fn x = true
  kind : S.sc.kind = .function
  ok : GOk T k

/-- the slots -/
def VE (w : Wd) (μ : List Addr) (H : Hp) (ρ : Env) (σ : L2.St) : Prop := σ.length = ρ.length ∧ ∀ (i : Nat) (d : D), ρ[i]? = some (some d) → ∃ v, σ[i]? = some (some v) ∧ VR w μ H d v
theorem VE.mono {w : Wd} {μ μ' : List Addr} {H H' : Hp} {h h' : AH} {ρ : Env} {σ : L2.St} (s : Stp w μ H μ' H' h') (r : Rel w μ H h) (q : VE w μ H ρ σ) : VE w μ' H' ρ σ :=
  ⟨q.1, fun i d e => let ⟨v, e1, q1⟩ := q.2 i d e; ⟨v, e1, q1.mono s r⟩⟩
theorem VE.set {w : Wd} {μ : List Addr} {H : Hp} {ρ : Env} {σ : L2.St} (q : VE w μ H ρ σ) {d : D} {v : V} (r : VR w μ H d v) (i : Nat) : VE w μ H (ρ.set i (some d)) (σ.set i (some v)) := by
  refine ⟨by simp [q.1], fun j d' e => ?_⟩
  by_cases hj : i = j
  · subst hj
    have hl : i < ρ.length := by
      rcases Nat.lt_or_ge i ρ.length with z | z
      · exact z
      · rw [List.getElem?_eq_none (by simpa using z)] at e; cases e
    rw [List.getElem?_set_self hl] at e
    cases e
    exact ⟨v, List.getElem?_set_self (by rw [q.1]; exact hl), r⟩
  · rw [List.getElem?_set_ne hj] at e ⊢
    exact q.2 j d' e

/-- what stands behind an expression -/
def Po (w : Wd) (μ : List Addr) (H : Hp) (h' : AH) (d : D) : VK := fun v H' => ∃ μ', Stp w μ H μ' H' h' ∧ VR w μ' H' d v
def PoB (w : Wd) (μ : List Addr) (H : Hp) (h' : AH) (b : Bool) : Bool → Hp → Prop := fun c H' => c = b ∧ ∃ μ', Stp w μ H μ' H' h'
def PoA (w : Wd) (μ : List Addr) (H : Hp) (h' : AH) (ds : List D) : List V → Hp → Prop := fun vs H' => ∃ μ', Stp w μ H μ' H' h' ∧ VRs w μ' H' ds vs
/-- a new list that no one knows -/
def PoL (w : Wd) (μ : List Addr) (H : Hp) (h' : AH) (ds : List D) : VK := fun v H' => ∃ μ' p xs, v = .ref p ∧ H' p = some (.lst xs) ∧ p ∉ μ' ∧ H p = none ∧ Stp w μ H μ' H' h' ∧ VRs w μ' H' ds xs

abbrev G := Env → AH → R D
abbrev GB := Env → AH → R Bool
abbrev GA := Env → AH → R (List D)
def SE (T : GT) (k : Nat) (S : SC) (e : Expr) (g : G) : Prop := ∀ X, Good T k S X → ∀ ρ h d h', g ρ h = .ok d h' → ∀ μ σ H, VE T.wd μ H ρ σ → Rel T.wd μ H h → At X e σ H (Po T.wd μ H h' d)
def SL (T : GT) (k : Nat) (S : SC) (e : Expr) (g : GA) : Prop := ∀ X, Good T k S X → ∀ ρ h d h', g ρ h = .ok d h' → ∀ μ σ H, VE T.wd μ H ρ σ → Rel T.wd μ H h → At X e σ H (PoL T.wd μ H h' d)
def STt (T : GT) (k : Nat) (S : SC) (e : Expr) (g : GB) : Prop := ∀ X, Good T k S X → ∀ ρ h d h', g ρ h = .ok d h' → ∀ μ σ H, VE T.wd μ H ρ σ → Rel T.wd μ H h → AtT X e σ H (PoB T.wd μ H h' d)
def STw (T : GT) (k : Nat) (S : SC) (e : Expr) (g : GB) : Prop := ∀ X, Good T k S X → ∀ ρ h d h', g ρ h = .ok d h' → ∀ μ σ H, VE T.wd μ H ρ σ → Rel T.wd μ H h → AtW X e σ H (PoB T.wd μ H h' d)
def SA (T : GT) (k : Nat) (S : SC) (es : List Expr) (g : GA) : Prop := ∀ X, Good T k S X → ∀ ρ h d h', g ρ h = .ok d h' → ∀ μ σ H, VE T.wd μ H ρ σ → Rel T.wd μ H h → AtA X es σ H (PoA T.wd μ H h' d)

def R.bind {α β : Type} (x : R α) (f : α → AH → R β) : R β := match x with | .ok a h => f a h | .bad => .bad
theorem R.bind_ok {α β : Type} {x : R α} {f : α → AH → R β} {b : β} {h' : AH} (e : x.bind f = .ok b h') : ∃ a h, x = .ok a h ∧ f a h = .ok b h' := by
  cases x with
  | ok a h => exact ⟨a, h, rfl, e⟩
  | bad => cases e
/-- an answer that may be missing, the heap as it was -/
def R.opt {α : Type} (x : Option α) (h : AH) : R α := match x with | some a => .ok a h | none => .bad
theorem R.opt_ok {α : Type} {x : Option α} {h : AH} {a : α} {h' : AH} (e : R.opt x h = .ok a h') : x = some a ∧ h' = h := by
  cases x with
  | some b => cases e; exact ⟨rfl, rfl⟩
  | none => cases e

section
variable {T : GT} {k : Nat} {S : SC}
/-! ### names and constants -/
def gVar (i : Nat) : G := fun ρ h => match ρ[i]? with | some (some d) => .ok d h | _ => .bad
def gCon (d : D) : G := fun _ h => .ok d h
theorem po_same {w : Wd} {μ : List Addr} {H : Hp} {h : AH} {d : D} {v : V} (r : Rel w μ H h) (q : VR w μ H d v) : Po w μ H h d v H := ⟨μ, Stp.refl r, q⟩
theorem se_var {i : Nat} {x : Str} {pos : Pos} (hN : S.N[i]? = some x) (hv : Vis S.sc x) (hd : (x == ("__debug__" : Str)) = false) (hcd : (x == ("__classdict__" : Str)) = false) : SE T k S (.Name x pos) (gVar i) := by
  intro X g ρ h d h' e μ σ H ve r
  unfold gVar at e
  split at e
  · rename_i d' e'
    cases e
    obtain ⟨v, e1, q⟩ := ve.2 i d e'
    exact At.of (pe_var (i := i) (by rw [g.N]; exact hN) (by rw [g.sc]; exact hv) hd hcd) ⟨v, e1, po_same r q⟩
  · cases e
theorem se_int {i : Int} {j pos} : SE T k S (.Constant (.int i) j pos) (gCon (.int i)) := fun X g ρ h d h' e μ σ H ve r => by
  cases e; exact At.of pe_int (po_same r rfl)
theorem se_bl {i : Bool} {j pos} : SE T k S (.Constant (.bool i) j pos) (gCon (.bl i)) := fun X g ρ h d h' e μ σ H ve r => by
  cases e; exact At.of pe_bl (po_same r rfl)
theorem se_str {i : Str} {j pos} : SE T k S (.Constant (.str i) j pos) (gCon (.str i)) := fun X g ρ h d h' e μ σ H ve r => by
  cases e; exact At.of pe_str (po_same r rfl)
theorem se_non {j pos} : SE T k S (.Constant .none j pos) (gCon .non) := fun X g ρ h d h' e μ σ H ve r => by
  cases e; exact At.of pe_non (po_same r rfl)
theorem Good.gl {X : Cx} (g : Good T k S X) {x : Str} (h : S.sc.names.lookup x = some .globalImplicit) : Gl X x := by
  show X.env.scope.names.lookup x = _
  rw [g.sc]; exact h
theorem se_glob {x : Str} {d : D} {pos : Pos} (hc : T.con x = some d) (hg : S.sc.names.lookup x = some .globalImplicit) (hd : (x == ("__debug__" : Str)) = false) : SE T k S (.Name x pos) (gCon d) := by
  intro X g ρ h d' h' e μ σ H ve r
  cases e
  obtain ⟨u, v, e1, rv, q⟩ := g.ok.con x d hc
  exact At.of (pe_glob (g.gl hg) (by rw [g.mg]; exact e1) rv hd) (po_same r (q μ H h r))

/-! ### two operands -/
def gBin (f : D → D → AH → R D) (a b : G) : G := fun ρ h => (a ρ h).bind fun x h1 => (b ρ h1).bind fun y h2 => f x y h2
/-- what an operation of two values does -/
def OpS (T : GT) (k : Nat) (S : SC) (op : Value → Value → Sem Value) (f : D → D → AH → R D) : Prop := ∀ X, Good T k S X → ∀ x y h d h', f x y h = .ok d h' → ∀ μ H vx vy, Rel T.wd μ H h → VR T.wd μ H x vx → VR T.wd μ H y vy → OpAt X op vx vy H (Po T.wd μ H h' d)
theorem Po.trans {w : Wd} {μ μ1 : List Addr} {H H1 : Hp} {h1 h' : AH} {d : D} {v : V} {H' : Hp} (s : Stp w μ H μ1 H1 h1) (q : Po w μ1 H1 h' d v H') : Po w μ H h' d v H' := by
  obtain ⟨μ', s', q⟩ := q
  exact ⟨μ', s.trans s', q⟩
theorem OpAt.mono {X : Cx} {f : Value → Value → Sem Value} {x y : V} {H : Hp} {Q Q' : VK} (h : OpAt X f x y H Q) (q : ∀ v H', Q v H' → Q' v H') : OpAt X f x y H Q' := fun pins s σ v u I rx ry => thn (h pins s σ v u I rx ry) fun _ _ ⟨v, H', I', r, z⟩ => ⟨v, H', I', r, q v H' z⟩
theorem CallAt.mono {X : Cx} {f : Value} {xs : List V} {H : Hp} {Q Q' : VK} (h : CallAt X f xs H Q) (q : ∀ v H', Q v H' → Q' v H') : CallAt X f xs H Q' := fun pins s σ v I rx => thn (h pins s σ v I rx) fun _ _ ⟨v, H', I', r, z⟩ => ⟨v, H', I', r, q v H' z⟩
/-- two expressions, then a thing to be shown of their values -/
theorem two {X : Cx} (g : Good T k S X) {a b : Expr} {ga gb : G} (sa : SE T k S a ga) (sb : SE T k S b gb) {ρ : Env} {h h1 h2 : AH} {x y : D} (ea : ga ρ h = .ok x h1) (eb : gb ρ h1 = .ok y h2) {μ : List Addr} {σ : L2.St} {H : Hp} (ve : VE T.wd μ H ρ σ) (r : Rel T.wd μ H h)
    {Rx : V → V → Hp → Prop} (hR : ∀ μ2 H2 vx vy, Stp T.wd μ H μ2 H2 h2 → VR T.wd μ2 H2 x vx → VR T.wd μ2 H2 y vy → Rx vx vy H2) : At X a σ H fun vx H1 => At X b σ H1 fun vy H2 => Rx vx vy H2 := by
  refine (sa X g ρ h x h1 ea μ σ H ve r).mono fun vx H1 ⟨μ1, s1, q1⟩ => ?_
  refine (sb X g ρ h1 y h2 eb μ1 σ H1 (ve.mono s1 r) s1.rel).mono fun vy H2 ⟨μ2, s2, q2⟩ => ?_
  exact hR μ2 H2 vx vy (s1.trans s2) (q1.mono s2 s1.rel) q2
theorem se_bin {op : Operator} {a b : Expr} {pos : Pos} {f : D → D → AH → R D} {ga gb : G} (ho : OpS T k S (binaryOp op) f) (sa : SE T k S a ga) (sb : SE T k S b gb) : SE T k S (.BinOp a op b pos) (gBin f ga gb) := by
  intro X g ρ h d h' e μ σ H ve r
  obtain ⟨x, h1, ea, e⟩ := R.bind_ok e
  obtain ⟨y, h2, eb, e⟩ := R.bind_ok e
  refine At.of (pe_op OpAt.op At.pe At.pe) (two g sa sb ea eb ve r fun μ2 H2 vx vy s q1 q2 => ?_)
  exact (ho X g x y h2 d h' e μ2 H2 vx vy s.rel q1 q2).mono fun v H' q => Po.trans s q
/-- a comparison with one operator -/
theorem se_cmp {op : CmpOp} {a b : Expr} {pos : Pos} {f : D → D → AH → R D} {ga gb : G} (ho : OpS T k S (compareOp op) f) (hm : behindInMarks op b = false) (sa : SE T k S a ga) (sb : SE T k S b gb) : SE T k S (.Compare a [op] [b] pos) (gBin f ga gb) := by
  intro X g ρ h d h' e μ σ H ve r
  obtain ⟨x, h1, ea, e⟩ := R.bind_ok e
  obtain ⟨y, h2, eb, e⟩ := R.bind_ok e
  refine At.of (pe_cmpR OpAt.op At.pe At.pe hm) (two g sa sb ea eb ve r fun μ2 H2 vx vy s q1 q2 => ?_)
  exact (ho X g x y h2 d h' e μ2 H2 vx vy s.rel q1 q2).mono fun v H' q => Po.trans s q
/-- a test by its value, a bool -/
def gTrue (g : G) : GB := fun ρ h => (g ρ h).bind fun d h1 => match d with | .bl b => .ok b h1 | _ => .bad
theorem gTrue_ok {g : G} {ρ : Env} {h h' : AH} {b : Bool} (e : gTrue g ρ h = .ok b h') : g ρ h = .ok (.bl b) h' := by
  obtain ⟨d, h1, e1, e⟩ := R.bind_ok e
  cases d <;> first | (cases e; exact e1) | cases e
theorem stt_cmp {op : CmpOp} {a b : Expr} {pos : Pos} {f : D → D → AH → R D} {ga gb : G} (ho : OpS T k S (compareOp op) f) (hm : behindInMarks op b = false) (sa : SE T k S a ga) (sb : SE T k S b gb) : STt T k S (.Compare a [op] [b] pos) (gTrue (gBin f ga gb)) := by
  intro X g ρ h d h' e μ σ H ve r
  have e := gTrue_ok e
  obtain ⟨x, h1, ea, e⟩ := R.bind_ok e
  obtain ⟨y, h2, eb, e⟩ := R.bind_ok e
  refine AtT.of (pt_cmpR OpAt.op At.pe At.pe hm) (two g sa sb ea eb ve r fun μ2 H2 vx vy s q1 q2 => ?_)
  exact (ho X g x y h2 _ h' e μ2 H2 vx vy s.rel q1 q2).mono fun v H' q => by
    obtain ⟨μ', s', q⟩ := Po.trans s q
    exact ⟨d, q, rfl, μ', s'⟩
theorem stt_val {e : Expr} {ge : G} (he : ∀ env whole, isTrue e env whole = (do let v ← whole; standAt e.pos; holding [v] (truthy v))) (s : SE T k S e ge) : STt T k S e (gTrue ge) := by
  intro X g ρ h d h' eq μ σ H ve r
  have eq := gTrue_ok eq
  refine AtT.of (pt_val At.pe (he X.env)) ((s X g ρ h _ h' eq μ σ H ve r).mono fun v H' ⟨μ', s', q⟩ => ?_)
  exact ⟨d, q, rfl, μ', s'⟩

/-! ### not, and, or, if .. else -/
def gNotB (a : GB) : GB := fun ρ h => (a ρ h).bind fun b h1 => .ok (!b) h1
def gAndB (a b : GB) : GB := fun ρ h => (a ρ h).bind fun c h1 => if c then b ρ h1 else .ok false h1
def gOrB (a b : GB) : GB := fun ρ h => (a ρ h).bind fun c h1 => if c then .ok true h1 else b ρ h1
def gNotV (a : G) : G := fun ρ h => (a ρ h).bind fun d h1 => match d with | .bl b => .ok (.bl (!b)) h1 | _ => .bad
def gAndV (a b : G) : G := fun ρ h => (a ρ h).bind fun d h1 => match d with | .bl c => (if c then b ρ h1 else .ok (.bl false) h1) | _ => .bad
def gOrV (a b : G) : G := fun ρ h => (a ρ h).bind fun d h1 => match d with | .bl c => (if c then .ok (.bl true) h1 else b ρ h1) | _ => .bad
def gIfE (t : GB) (a b : G) : G := fun ρ h => (t ρ h).bind fun c h1 => if c then a ρ h1 else b ρ h1
theorem PoB.trans {w : Wd} {μ μ1 : List Addr} {H H1 : Hp} {h1 h' : AH} {d c : Bool} {H' : Hp} (s : Stp w μ H μ1 H1 h1) (q : PoB w μ1 H1 h' d c H') : PoB w μ H h' d c H' := by
  obtain ⟨e, μ', s'⟩ := q
  exact ⟨e, μ', s.trans s'⟩
theorem stt_not {a : Expr} {pos : Pos} {ga : GB} (sa : STt T k S a ga) : STt T k S (.UnaryOp .Not a pos) (gNotB ga) := by
  intro X g ρ h d h' e μ σ H ve r
  obtain ⟨b, h1, ea, e⟩ := R.bind_ok e
  cases e
  exact AtT.of (pt_not AtT.pt) ((sa X g ρ h b _ ea μ σ H ve r).mono fun c H' ⟨e, q⟩ => ⟨by rw [e], q⟩)
theorem stw_and1 {a : Expr} {pos : Pos} {ga : GB} (sa : STt T k S a ga) : STw T k S (.BoolOp .And [a] pos) ga :=
  fun X g ρ h d h' e μ σ H ve r => AtW.of (pw_and1 AtT.pt) (sa X g ρ h d h' e μ σ H ve r)
theorem stw_or1 {a : Expr} {pos : Pos} {ga : GB} (sa : STt T k S a ga) : STw T k S (.BoolOp .Or [a] pos) ga :=
  fun X g ρ h d h' e μ σ H ve r => AtW.of (pw_or1 AtT.pt) (sa X g ρ h d h' e μ σ H ve r)
theorem stw_and {a b : Expr} {es : List Expr} {pos : Pos} {ga gb : GB} (sa : STt T k S a ga) (sb : STw T k S (.BoolOp .And (b :: es) pos) gb) : STw T k S (.BoolOp .And (a :: b :: es) pos) (gAndB ga gb) := by
  intro X g ρ h d h' e μ σ H ve r
  obtain ⟨c, h1, ea, e⟩ := R.bind_ok e
  refine AtW.of (pw_and AtT.pt AtW.pw) ((sa X g ρ h c h1 ea μ σ H ve r).mono fun c' H1 ⟨ec, μ1, s1⟩ => ?_)
  subst ec
  cases c' with
  | true => exact (sb X g ρ h1 d h' e μ1 σ H1 (ve.mono s1 r) s1.rel).mono fun c H' q => PoB.trans s1 q
  | false => cases e; exact ⟨rfl, μ1, s1⟩
theorem stw_or {a b : Expr} {es : List Expr} {pos : Pos} {ga gb : GB} (sa : STt T k S a ga) (sb : STw T k S (.BoolOp .Or (b :: es) pos) gb) : STw T k S (.BoolOp .Or (a :: b :: es) pos) (gOrB ga gb) := by
  intro X g ρ h d h' e μ σ H ve r
  obtain ⟨c, h1, ea, e⟩ := R.bind_ok e
  refine AtW.of (pw_or AtT.pt AtW.pw) ((sa X g ρ h c h1 ea μ σ H ve r).mono fun c' H1 ⟨ec, μ1, s1⟩ => ?_)
  subst ec
  cases c' with
  | false => exact (sb X g ρ h1 d h' e μ1 σ H1 (ve.mono s1 r) s1.rel).mono fun c H' q => PoB.trans s1 q
  | true => cases e; exact ⟨rfl, μ1, s1⟩
theorem stt_of_w {e : Expr} {ge : GB} (s : STw T k S e ge) : STt T k S e ge := fun X g ρ h d h' eq μ σ H ve r => fun pins st I => s X g ρ h d h' eq μ σ H ve r _ pins st I
theorem se_not {a : Expr} {pos : Pos} {ga : G} (sa : SE T k S a ga) : SE T k S (.UnaryOp .Not a pos) (gNotV ga) := by
  intro X g ρ h d h' e μ σ H ve r
  obtain ⟨b, h1, ea, e⟩ := R.bind_ok e
  cases b <;> first | cases e | skip
  rename_i b
  exact At.of (pe_not At.pe) ((sa X g ρ h _ _ ea μ σ H ve r).mono fun c H' ⟨μ', s, q⟩ => ⟨b, q, μ', s, rfl⟩)
theorem se_one {op : BoolOp} {a : Expr} {pos : Pos} {ga : G} (sa : SE T k S a ga) : SE T k S (.BoolOp op [a] pos) ga :=
  fun X g ρ h d h' e μ σ H ve r => At.of (pe_one At.pe) (sa X g ρ h d h' e μ σ H ve r)
theorem se_and {a b : Expr} {es : List Expr} {pos : Pos} {ga gb : G} (sa : SE T k S a ga) (sb : SE T k S (.BoolOp .And (b :: es) pos) gb) : SE T k S (.BoolOp .And (a :: b :: es) pos) (gAndV ga gb) := by
  intro X g ρ h d h' e μ σ H ve r
  obtain ⟨x, h1, ea, e⟩ := R.bind_ok e
  cases x <;> first | cases e | skip
  rename_i c
  refine At.of (pe_and At.pe At.pe) ((sa X g ρ h _ h1 ea μ σ H ve r).mono fun v H1 ⟨μ1, s1, q1⟩ => ⟨c, q1, ?_⟩)
  cases c with
  | true => exact (sb X g ρ h1 d h' e μ1 σ H1 (ve.mono s1 r) s1.rel).mono fun c H' q => Po.trans s1 q
  | false => cases e; exact ⟨μ1, s1, rfl⟩
theorem se_or {a b : Expr} {es : List Expr} {pos : Pos} {ga gb : G} (sa : SE T k S a ga) (sb : SE T k S (.BoolOp .Or (b :: es) pos) gb) : SE T k S (.BoolOp .Or (a :: b :: es) pos) (gOrV ga gb) := by
  intro X g ρ h d h' e μ σ H ve r
  obtain ⟨x, h1, ea, e⟩ := R.bind_ok e
  cases x <;> first | cases e | skip
  rename_i c
  refine At.of (pe_or At.pe At.pe) ((sa X g ρ h _ h1 ea μ σ H ve r).mono fun v H1 ⟨μ1, s1, q1⟩ => ⟨c, q1, ?_⟩)
  cases c with
  | false => exact (sb X g ρ h1 d h' e μ1 σ H1 (ve.mono s1 r) s1.rel).mono fun c H' q => Po.trans s1 q
  | true => cases e; exact ⟨μ1, s1, rfl⟩
theorem se_ifE {t a b : Expr} {pos : Pos} {gt : GB} {ga gb : G} (st : STt T k S t gt) (sa : SE T k S a ga) (sb : SE T k S b gb) : SE T k S (.IfExp t a b pos) (gIfE gt ga gb) := by
  intro X g ρ h d h' e μ σ H ve r
  obtain ⟨c, h1, ea, e⟩ := R.bind_ok e
  refine At.of (pe_ifExp AtT.pt At.pe At.pe) ((st X g ρ h _ h1 ea μ σ H ve r).mono fun c' H1 ⟨ec, μ1, s1⟩ => ?_)
  subst ec
  cases c' with
  | true => exact (sa X g ρ h1 d h' e μ1 σ H1 (ve.mono s1 r) s1.rel).mono fun c H' q => Po.trans s1 q
  | false => exact (sb X g ρ h1 d h' e μ1 σ H1 (ve.mono s1 r) s1.rel).mono fun c H' q => Po.trans s1 q
def gNeg (a : G) : G := fun ρ h => (a ρ h).bind fun d h1 => match d with | .int i => .ok (.int (-i)) h1 | _ => .bad
theorem se_neg {a : Expr} {pos : Pos} {ga : G} (sa : SE T k S a ga) : SE T k S (.UnaryOp .USub a pos) (gNeg ga) := by
  intro X g ρ h d h' e μ σ H ve r
  obtain ⟨b, h1, ea, e⟩ := R.bind_ok e
  cases b <;> first | cases e | skip
  rename_i b
  exact At.of (pe_un un_neg At.pe) ((sa X g ρ h _ _ ea μ σ H ve r).mono fun c H' ⟨μ', s, q⟩ => ⟨b, q, μ', s, rfl⟩)
end
end CM

/-! CM, part c: operators by values, displays, calls, subscripts. -/
namespace CM
open PySem L2 PySem.Spec PyProof.Rows
abbrev LIM : Nat := 1000000
theorem lim_le {n : Nat} (h : n ≤ LIM) : n ≤ sizeLine := by rw [sizeLine_eq]; exact Nat.le_trans h (by decide)
theorem lim_lt {n : Nat} (h : n ≤ LIM) : n < sizeLine := by rw [sizeLine_eq]; exact Nat.lt_of_le_of_lt h (by decide)
section
variable {T : GT} {k : Nat} {S : SC} {w : Wd} {μ : List Addr} {H : Hp} {h : AH}
/-! ### the list behind a number, a sequence -/
/-- what a value holds as a sequence of values: a tuple, a list -/
def seqOf (h : AH) : D → Option (List D)
  | .tup ds => some ds
  | .fl ds => some ds
  | .obj n => match h[n]? with | some (.lst ds) => some ds | _ => none
  | _ => none
theorem seqOf_vr {d : D} {ds : List D} {v : V} (r : Rel w μ H h) (e : seqOf h d = some ds) (q : VR w μ H d v) : ∃ p xs, v = .ref p ∧ (SqT w.K H p xs ∨ SqL w.K H p xs) ∧ VRs w μ H ds xs := by
  cases d with
  | tup es => cases e; obtain ⟨a, xs, rfl, q1, q2⟩ := q; exact ⟨a, xs, rfl, .inl q1, q2⟩
  | fl es => cases e; obtain ⟨a, xs, rfl, q1, q2⟩ := q; exact ⟨a, xs, rfl, .inr q1.sq, q2⟩
  | obj n =>
    obtain ⟨a, ha, rfl⟩ := q
    simp only [seqOf] at e
    split at e
    · rename_i ds' e'
      cases e
      obtain ⟨xs, e1, q1⟩ := r.at e' ha
      exact ⟨a, xs, rfl, .inr (SqL.of e1), q1⟩
    · cases e
  | _ => cases e
theorem lst_vr {n : Nat} {ds : List D} {v : V} (r : Rel w μ H h) (e : h[n]? = some (.lst ds)) (q : VR w μ H (.obj n) v) : ∃ p xs, v = .ref p ∧ μ[n]? = some p ∧ H p = some (.lst xs) ∧ VRs w μ H ds xs := by
  obtain ⟨a, ha, rfl⟩ := q
  obtain ⟨xs, e1, q1⟩ := r.at e ha
  exact ⟨a, xs, rfl, ha, e1, q1⟩
/-- a new list, thrown at the end of an expression, gets its number -/
theorem PoL.num {ds : List D} {v : V} {H' : Hp} {h' : AH} (q : PoL w μ H h' ds v H') : Po w μ H (h' ++ [.lst ds]) (.obj h'.length) v H' := by
  obtain ⟨μ', p, xs, rfl, e, hp, h0, s, q⟩ := q
  exact ⟨μ' ++ [p], s.num hp h0 ⟨xs, e, q⟩, p, by rw [← s.rel.len]; simp, rfl⟩
def gAlloc (ga : GA) : G := fun ρ h => (ga ρ h).bind fun ds h1 => .ok (.obj h1.length) (h1 ++ [.lst ds])
theorem se_alloc {e : Expr} {ga : GA} (s : SL T k S e ga) : SE T k S e (gAlloc ga) := by
  intro X g ρ h d h' eq μ σ H ve r
  obtain ⟨ds, h1, ea, eq⟩ := R.bind_ok eq
  cases eq
  exact (s X g ρ h ds h1 ea μ σ H ve r).mono fun v H' q => q.num
theorem PoL.trans {μ1 : List Addr} {H1 : Hp} {h1 h' : AH} {ds : List D} {v : V} {H' : Hp} (s : Stp w μ H μ1 H1 h1) (q : PoL w μ1 H1 h' ds v H') : PoL w μ H h' ds v H' := by
  obtain ⟨μ', p, xs, e0, e, hp, h0, s', q⟩ := q
  exact ⟨μ', p, xs, e0, e, hp, s.free h0, s.trans s', q⟩
/-- a list that was just laid -/
theorem pol_new {ds : List D} {xs : List V} {p : Addr} (r : Rel w μ H h) (hp : H p = none) (q : VRs w μ H ds xs) : PoL w μ H h ds (.ref p) (upd H p (.lst xs)) :=
  ⟨μ, p, xs, rfl, upd_same, r.fresh hp, hp, Stp.lay r hp, q.kp (kp_upd hp)⟩
theorem po_tup {ds : List D} {xs : List V} {p : Addr} (r : Rel w μ H h) (hp : H p = none) (q : VRs w μ H ds xs) : Po w μ H h (.tup ds) (.ref p) (upd H p (.tup xs)) :=
  ⟨μ, Stp.lay r hp, p, xs, rfl, SqT.of upd_same, q.kp (kp_upd hp)⟩

/-! ### arguments and displays -/
def gaNil : GA := fun _ h => .ok [] h
def gaCons (g : G) (ga : GA) : GA := fun ρ h => (g ρ h).bind fun d h1 => (ga ρ h1).bind fun ds h2 => .ok (d :: ds) h2
def gaStar (g : G) (ga : GA) : GA := fun ρ h => (g ρ h).bind fun d h1 => match seqOf h1 d with | some es => ((ga ρ h1).bind fun ds h2 => .ok (es ++ ds) h2) | none => .bad
theorem sa_nil : SA T k S [] gaNil := fun X g ρ h d h' e μ σ H ve r => by
  cases e; exact AtA.of pa_nil ⟨μ, Stp.refl r, VRs.nil⟩
theorem sa_cons {e : Expr} {es : List Expr} {ge : G} {ga : GA} (s : SE T k S e ge) (sa : SA T k S es ga) (hs : ∀ env, starEach (e :: es) env = (false, eval e env) :: starEach es env) : SA T k S (e :: es) (gaCons ge ga) := by
  intro X g ρ h d h' eq μ σ H ve r
  obtain ⟨x, h1, ea, eq⟩ := R.bind_ok eq
  obtain ⟨ds, h2, eb, eq⟩ := R.bind_ok eq
  cases eq
  refine AtA.of (pa_cons At.pe AtA.pa (hs _)) ((s X g ρ h x h1 ea μ σ H ve r).mono fun v H1 ⟨μ1, s1, q1⟩ => ?_)
  exact (sa X g ρ h1 ds _ eb μ1 σ H1 (ve.mono s1 r) s1.rel).mono fun vs H2 ⟨μ2, s2, q2⟩ => ⟨μ2, s1.trans s2, VRs.cons (q1.mono s2 s1.rel) q2⟩
theorem sa_star {e : Expr} {p : Pos} {es : List Expr} {ge : G} {ga : GA} (s : SE T k S e ge) (sa : SA T k S es ga) : SA T k S (.Starred e p :: es) (gaStar ge ga) := by
  intro X g ρ h d h' eq μ σ H ve r
  obtain ⟨x, h1, ea, eq⟩ := R.bind_ok eq
  split at eq
  · rename_i es' e'
    obtain ⟨ds, h2, eb, eq⟩ := R.bind_ok eq
    cases eq
    refine AtA.of (StX.pa_star At.pe AtA.pa) ((s X g ρ h x h1 ea μ σ H ve r).mono fun v H1 ⟨μ1, s1, q1⟩ => ?_)
    obtain ⟨a, xs, rfl, hq, q⟩ := seqOf_vr s1.rel e' q1
    refine ⟨a, xs, rfl, by rw [g.K]; exact hq, ?_⟩
    exact (sa X g ρ h1 ds _ eb μ1 σ H1 (ve.mono s1 r) s1.rel).mono fun vs H2 ⟨μ2, s2, q2⟩ => ⟨μ2, s1.trans s2, (q.mono s2 s1.rel).append q2⟩
  · cases eq
def gTup (ga : GA) : G := fun ρ h => (ga ρ h).bind fun ds h1 => if ds.length ≤ LIM then .ok (.tup ds) h1 else .bad
def gLst (ga : GA) : GA := fun ρ h => (ga ρ h).bind fun ds h1 => if ds.length ≤ LIM then .ok ds h1 else .bad
theorem se_tup {es : List Expr} {x1 : Nat} {pos : Pos} {ga : GA} (sa : SA T k S es ga) : SE T k S (.Tuple es x1 pos) (gTup ga) := by
  intro X g ρ h d h' eq μ σ H ve r
  obtain ⟨ds, h1, ea, eq⟩ := R.bind_ok eq
  split at eq
  · rename_i hl
    cases eq
    refine At.of (pe_tup AtA.pa) ((sa X g ρ h ds _ ea μ σ H ve r).mono fun vs H1 ⟨μ1, s1, q1⟩ => ⟨lim_le (by rw [q1.length]; exact hl), fun p hp => ?_⟩)
    exact Po.trans s1 (po_tup s1.rel hp q1)
  · cases eq
theorem sl_lst {es : List Expr} {pos : Pos} {ga : GA} (sa : SA T k S es ga) : SL T k S (.List es pos) (gLst ga) := by
  intro X g ρ h d h' eq μ σ H ve r
  obtain ⟨ds, h1, ea, eq⟩ := R.bind_ok eq
  split at eq
  · rename_i hl
    cases eq
    refine At.of (pe_lst AtA.pa) ((sa X g ρ h _ _ ea μ σ H ve r).mono fun vs H1 ⟨μ1, s1, q1⟩ => ⟨lim_le (by rw [q1.length]; exact hl), fun p hp => ?_⟩)
    exact PoL.trans s1 (pol_new s1.rel hp q1)
  · cases eq

/-! ### calls -/
def gCall (f : GF) (ga : GA) : G := fun ρ h => (ga ρ h).bind fun ds h1 => f ds h1
theorem po_of_sp {n : Nat} {f : GF} {vs : List V} {ds : List D} {d : D} {h' : AH} {Q : VK} (r : Rel w μ H h) (q : VRs w μ H ds vs) (hl : ds.length = n) (e : f ds h = .ok d h') (hq : ∀ v H', Po w μ H h' d v H' → Q v H') : spOf w n f vs H Q E0 :=
  ⟨by rw [q.length, hl], ds, h, d, h', μ, e, q, r, fun v H' μ' s q' => hq v H' ⟨μ', s, q'⟩⟩
/-- the callee runs -/
theorem run_G {X : Cx} (g : Good T k S X) {a : Addr} {fd : FuncData} {ps : List Str} {f : GF} (F : FnG T.toG0 k a fd ps f) (hb : Binds T.K fd ps []) {pins : List (Addr × Obj)} {σ : L2.St} {s : Shared} {Q : VK} {us : List Value} {vs : List V}
    (I : Inv X pins σ H s) (rv : Vals vs us) (hsp : spOf T.wd ps.length f vs H Q E0) : wpAny (model X.prog X.w) X.A (call (.ref a) us) (EP X pins σ Q) X.xe s := by
  have hl : us.length = ps.length := by rw [← rv.length]; exact hsp.1
  have e0 : Env0 T.P T.W T.K T.mg T.base X.A X.stack s H := by
    have z := I.env0
    rw [g.prog, g.w, g.K, g.mg, g.base] at z
    exact z
  have bd := hb s us (by rw [← g.K]; exact I.kIn) (by rw [List.append_nil]; exact hl)
  rw [List.append_nil] at bd
  rw [g.prog, g.w]
  refine wpAny_call (codeAny_mono (F.run X.A X.stack s H ⟨us, []⟩ us vs Q g.room g.gd e0 bd rv hsp) fun r s' hq => ?_)
  cases r with
  | error e => exact hq.elim
  | ok fl =>
    cases fl with
    | ret u => exact I.after (by rw [g.prog, g.w]; exact hq)
    | next => exact hq.elim
    | brk => exact hq.elim
    | cont => exact hq.elim
theorem se_call {x : Str} {e : Expr} {es : List Expr} {p pos : Pos} {f : GF} {ga : GA} (hf : T.fn x = some f) (hg : S.sc.names.lookup x = some .globalImplicit) (sa : SA T k S (e :: es) ga) (hdb : (x == ("__debug__" : Str)) = false)
    (hs : ∀ env, starEach (e :: es) env = (false, eval e env) :: starEach es env) (hpl : ∀ env, (backTo pos (starEach es env)).any (·.1) = false) : SE T k S (.Call (.Name x p) (e :: es) [] pos) (gCall f ga) := by
  intro X g ρ h d h' eq μ σ H ve r pins s I
  obtain ⟨ds, h1, ea, eq⟩ := R.bind_ok eq
  obtain ⟨a, fd, ps, F, hm, hk, hb⟩ := g.ok.fn x f hf
  refine wpAny_Call_Name_kw (ld_glob I (g.gl hg) (by rw [g.mg]; exact hm) ?_ hdb)
  refine PySem.W.callWith_K (h₀ := X.base) I.ok.mod.kin (by rw [g.K]; exact hk) (thn (sa X g ρ h ds h1 ea μ σ H ve r pos pins s I) fun us s1 ⟨vs, H1, I1, rv, μ1, s1', q1⟩ => ⟨I1.kIn, ?_⟩) (hs _) (hpl _)
  exact run_G g F hb I1 rv (po_of_sp s1'.rel q1 (F.len _ _ _ _ eq) eq fun v H' q => Po.trans s1' q)
theorem se_call0 {x : Str} {p pos : Pos} {f : GF} (hf : T.fn x = some f) (hg : S.sc.names.lookup x = some .globalImplicit) (hdb : (x == ("__debug__" : Str)) = false) : SE T k S (.Call (.Name x p) [] [] pos) (gCall f gaNil) := by
  intro X g ρ h d h' eq μ σ H ve r pins s I
  obtain ⟨ds, h1, ea, eq⟩ := R.bind_ok eq
  cases ea
  obtain ⟨a, fd, ps, F, hm, hk, hb⟩ := g.ok.fn x f hf
  refine wpAny_Call_Name_kw (ld_glob I (g.gl hg) (by rw [g.mg]; exact hm) ?_ hdb)
  exact PySem.W.callWith_K0 I.kIn (by rw [g.K]; exact hk) (run_G (us := []) g F hb I .nil (po_of_sp r VRs.nil (F.len _ _ _ _ eq) eq fun v H' q => q))
/-- what a built-in does -/
def CallS (T : GT) (k : Nat) (S : SC) (f : Value) (fn : GF) : Prop := ∀ X, Good T k S X → ∀ ds h d h', fn ds h = .ok d h' → ∀ μ H vs, Rel T.wd μ H h → VRs T.wd μ H ds vs → CallAt X f vs H (Po T.wd μ H h' d)
theorem se_callB {x : Str} {id : String} {e : Expr} {es : List Expr} {p pos : Pos} {f : GF} {ga : GA} (hc : CallS T k S (.builtin id) f) (hnb : T.nb x = true) (hg : S.sc.names.lookup x = some .globalImplicit) (hv : bootBuiltins x = some (.builtin id)) (sa : SA T k S (e :: es) ga)
    (hn : x ≠ "__name__") (hdb : (x == ("__debug__" : Str)) = false)
    (hs : ∀ env, starEach (e :: es) env = (false, eval e env) :: starEach es env) (hpl : ∀ env, (backTo pos (starEach es env)).any (·.1) = false) : SE T k S (.Call (.Name x p) (e :: es) [] pos) (gCall f ga) := by
  intro X g ρ h d h' eq μ σ H ve r
  obtain ⟨ds, h1, ea, eq⟩ := R.bind_ok eq
  refine At.of (pe_callB CallAt.cr (g.gl hg) (by rw [g.mg]; exact g.ok.nb x hnb) hv AtA.pa hn hdb (hs _) (hpl _)) ?_
  refine (sa X g ρ h ds h1 ea μ σ H ve r).mono fun vs H1 ⟨μ1, s1, q1⟩ => ?_
  exact (hc X g ds h1 d h' eq μ1 H1 vs s1.rel q1).mono fun v H' q => Po.trans s1 q
theorem se_callTy {x : Str} {id : String} {e : Expr} {es : List Expr} {p pos : Pos} {f : GF} {ga : GA} (hc : CallS T k S (.type id) f) (hnb : T.nb x = true) (hg : S.sc.names.lookup x = some .globalImplicit) (hv : bootBuiltins x = some (.type id)) (sa : SA T k S (e :: es) ga)
    (hn : x ≠ "__name__") (hdb : (x == ("__debug__" : Str)) = false)
    (hs : ∀ env, starEach (e :: es) env = (false, eval e env) :: starEach es env) (hpl : ∀ env, (backTo pos (starEach es env)).any (·.1) = false) : SE T k S (.Call (.Name x p) (e :: es) [] pos) (gCall f ga) := by
  intro X g ρ h d h' eq μ σ H ve r
  obtain ⟨ds, h1, ea, eq⟩ := R.bind_ok eq
  refine At.of (pe_callTy CallAt.cr (g.gl hg) (by rw [g.mg]; exact g.ok.nb x hnb) hv AtA.pa hn hdb (hs _) (hpl _)) ?_
  refine (sa X g ρ h ds h1 ea μ σ H ve r).mono fun vs H1 ⟨μ1, s1, q1⟩ => ?_
  exact (hc X g ds h1 d h' eq μ1 H1 vs s1.rel q1).mono fun v H' q => Po.trans s1 q
/-- what a built-in does with a new list that no one knows -/
def CallLS (T : GT) (k : Nat) (S : SC) (f : Value) (fn : List D → Option D) : Prop := ∀ X, Good T k S X → ∀ ds d, fn ds = some d → ∀ μ H h p xs, Rel T.wd μ H h → H p = some (.lst xs) → VRs T.wd μ H ds xs → CallAt X f [.ref p] H (Po T.wd μ H h d)
def gCallL (f : List D → Option D) (ga : GA) : G := fun ρ h => (ga ρ h).bind fun ds h1 => R.opt (f ds) h1
theorem se_callBL {x : Str} {id : String} {e : Expr} {p pos : Pos} {f : List D → Option D} {ga : GA} (hc : CallLS T k S (.builtin id) f) (hnb : T.nb x = true) (hg : S.sc.names.lookup x = some .globalImplicit) (hv : bootBuiltins x = some (.builtin id)) (sa : SL T k S e ga)
    (hn : x ≠ "__name__") (hdb : (x == ("__debug__" : Str)) = false) (hs : ∀ env, starEach [e] env = [(false, eval e env)]) : SE T k S (.Call (.Name x p) [e] [] pos) (gCallL f ga) := by
  intro X g ρ h d h' eq μ σ H ve r
  obtain ⟨ds, h1, ea, eq⟩ := R.bind_ok eq
  obtain ⟨eq', rfl⟩ := R.opt_ok eq
  refine At.of (pe_callB CallAt.cr (g.gl hg) (by rw [g.mg]; exact g.ok.nb x hnb) hv (pa_cons At.pe pa_nil (hs _)) hn hdb (by rw [hs]; rfl) (by rfl)) ?_
  refine (sa X g ρ h ds _ ea μ σ H ve r).mono fun v H1 ⟨μ1, p, xs, e0, e1, hp, h0, s1, q1⟩ => ?_
  subst e0
  exact (hc X g ds d eq' μ1 H1 _ p xs s1.rel e1 q1).mono fun v H' q => Po.trans s1 q
theorem se_callTyL {x : Str} {id : String} {e : Expr} {p pos : Pos} {f : List D → Option D} {ga : GA} (hc : CallLS T k S (.type id) f) (hnb : T.nb x = true) (hg : S.sc.names.lookup x = some .globalImplicit) (hv : bootBuiltins x = some (.type id)) (sa : SL T k S e ga)
    (hn : x ≠ "__name__") (hdb : (x == ("__debug__" : Str)) = false) (hs : ∀ env, starEach [e] env = [(false, eval e env)]) : SE T k S (.Call (.Name x p) [e] [] pos) (gCallL f ga) := by
  intro X g ρ h d h' eq μ σ H ve r
  obtain ⟨ds, h1, ea, eq⟩ := R.bind_ok eq
  obtain ⟨eq', rfl⟩ := R.opt_ok eq
  refine At.of (pe_callTy CallAt.cr (g.gl hg) (by rw [g.mg]; exact g.ok.nb x hnb) hv (pa_cons At.pe pa_nil (hs _)) hn hdb (by rw [hs]; rfl) (by rfl)) ?_
  refine (sa X g ρ h ds _ ea μ σ H ve r).mono fun v H1 ⟨μ1, p, xs, e0, e1, hp, h0, s1, q1⟩ => ?_
  subst e0
  exact (hc X g ds d eq' μ1 H1 _ p xs s1.rel e1 q1).mono fun v H' q => Po.trans s1 q
end
end CM

/-! CM, part d: operators by values, built-ins. -/
namespace CM
open PySem L2 PySem.Spec PyProof.Rows
/-! ### data without numbers, as the library's PyData -/
mutual
def pd0 : D → Option PyData
  | .non => some .none
  | .bl b => some (.bool b)
  | .int i => some (.int i)
  | .str x => some (.str x)
  | .tup ds => (pd0s ds).map .tuple
  | .fl ds => (pd0s ds).map .list
  | .obj _ => none
  | .fd _ => none
def pd0s : List D → Option (List PyData)
  | [] => some []
  | d :: ds => (pd0 d).bind fun x => (pd0s ds).map fun xs => x :: xs
end
def pdH (h : AH) : D → Option PyData
  | .obj n => match h[n]? with | some (.lst ds) => (pd0s ds).map .list | _ => none
  | d => pd0 d
section
variable {T : GT} {k : Nat} {S : SC} {w : Wd} {μ : List Addr} {H : Hp} {h : AH}
mutual
theorem pd0_dp : ∀ {d : D} {x : PyData} {v : V}, pd0 d = some x → VR w μ H d v → Dp w.K H v x
  | .non, _, _, e, q => by cases e; rw [show _ = V.non from q]; exact .non
  | .bl b, _, _, e, q => by cases e; rw [show _ = V.bl b from q]; exact .bl b
  | .int i, _, _, e, q => by cases e; rw [show _ = V.int i from q]; exact .int i
  | .str x, _, _, e, q => by cases e; rw [show _ = V.str x from q]; exact .str x
  | .tup ds, x, v, e, q => by
    obtain ⟨a, xs, rfl, q1, q2⟩ := q
    obtain ⟨y, e1, e2⟩ := Option.map_eq_some_iff.mp (show (pd0s ds).map PyData.tuple = some x from e)
    subst e2
    exact .tup q1 (pd0s_dp e1 q2)
  | .fl ds, x, v, e, q => by
    obtain ⟨a, xs, rfl, q1, q2⟩ := q
    obtain ⟨y, e1, e2⟩ := Option.map_eq_some_iff.mp (show (pd0s ds).map PyData.list = some x from e)
    subst e2
    exact .lst q1.sq (pd0s_dp e1 q2)
  | .obj _, _, _, e, _ => by cases e
  | .fd _, _, _, e, _ => by cases e
theorem pd0s_dp : ∀ {ds : List D} {xs : List PyData} {vs : List V}, pd0s ds = some xs → VRs w μ H ds vs → DpAll w.K H vs xs
  | [], _, vs, e, q => by cases e; rw [show vs = [] from q]; exact .nil
  | d :: ds, _, vs, e, q => by
    obtain ⟨v, t, rfl, q1, q2⟩ := q
    obtain ⟨x, e1, e2⟩ := Option.bind_eq_some_iff.mp (show (pd0 d).bind (fun x => (pd0s ds).map fun xs => x :: xs) = some _ from e)
    obtain ⟨xs, e3, e4⟩ := Option.map_eq_some_iff.mp e2
    subst e4
    exact .cons (pd0_dp e1 q1) (pd0s_dp e3 q2)
end
theorem pdH_dp {d : D} {x : PyData} {v : V} (r : Rel w μ H h) (e : pdH h d = some x) (q : VR w μ H d v) : Dp w.K H v x := by
  cases d with
  | obj n =>
    simp only [pdH] at e
    split at e
    · rename_i ds e'
      obtain ⟨y, e1, e2⟩ := Option.map_eq_some_iff.mp e
      subst e2
      obtain ⟨p, xs, rfl, _, e3, q⟩ := lst_vr r e' q
      exact .lst (SqL.of e3) (pd0s_dp e1 q)
    · cases e
  | _ => exact pd0_dp e q

/-! ### arithmetic -/
def dAdd (x y : D) (h : AH) : R D := match x, y with
  | .int i, .int j => .ok (.int (i + j)) h
  | .str a, .str b => if a.length + b.length ≤ LIM then .ok (.str (a ++ b)) h else .bad
  | .tup a, .tup b => if a.length + b.length ≤ LIM then .ok (.tup (a ++ b)) h else .bad
  | .obj n, .obj m => (match h[n]?, h[m]? with | some (.lst a), some (.lst b) => (if a.length + b.length ≤ LIM then .ok (.obj h.length) (h ++ [.lst (a ++ b)]) else .bad) | _, _ => .bad)
  | _, _ => .bad
theorem add_ok : OpS T k S (binaryOp .Add) dAdd := by
  intro X g x y h d h' e μ H vx vy r qx qy
  unfold dAdd at e
  split at e
  · rename_i i j
    cases e
    cases qx; cases qy
    exact OpAt.of op_add ⟨i, j, rfl, rfl, po_same r rfl⟩
  · rename_i a b
    split at e
    · rename_i hl
      cases e
      cases qx; cases qy
      exact OpAt.of op_add_str ⟨a, b, rfl, rfl, lim_le hl, po_same r rfl⟩
    · cases e
  · rename_i a b
    split at e
    · rename_i hl
      cases e
      obtain ⟨p, xs, rfl, p1, p2⟩ := qx
      obtain ⟨q, ys, rfl, q1, q2⟩ := qy
      have hz : xs.length + ys.length ≤ sizeLine := by rw [p2.length, q2.length]; exact lim_le hl
      refine OpAt.of op_catA ⟨p, q, xs, ys, rfl, rfl, by rw [g.K]; exact p1, by rw [g.K]; exact q1, hz, fun e => ?_, fun _ e => ?_, fun _ _ t ht => ?_⟩
      · subst e
        have ha : a = [] := List.length_eq_zero_iff.mp (by have := p2.length; simpa using this.symm)
        subst ha
        exact po_same r ⟨q, ys, rfl, q1, q2⟩
      · subst e
        have hb : b = [] := List.length_eq_zero_iff.mp (by have := q2.length; simpa using this.symm)
        subst hb
        rw [List.append_nil]
        exact po_same r ⟨p, xs, rfl, p1, p2⟩
      · exact po_tup r ht (p2.append q2)
    · cases e
  · rename_i n m
    split at e
    · rename_i a b e1 e2
      split at e
      · rename_i hl
        cases e
        obtain ⟨p, xs, rfl, _, p1, p2⟩ := lst_vr r e1 qx
        obtain ⟨q, ys, rfl, _, q1, q2⟩ := lst_vr r e2 qy
        have hz : xs.length + ys.length ≤ sizeLine := by rw [p2.length, q2.length]; exact lim_le hl
        exact OpAt.of op_cat ⟨p, q, xs, ys, rfl, rfl, p1, q1, hz, fun t ht => (pol_new r ht (p2.append q2)).num⟩
      · cases e
    · cases e
  · cases e
def dInt2 (C : Int → Int → Bool) (f : Int → Int → Int) (x y : D) (h : AH) : R D := match x, y with
  | .int i, .int j => if C i j then .ok (.int (f i j)) h else .bad
  | _, _ => .bad
theorem int2_ok {op : Value → Value → Sem Value} {C : Int → Int → Bool} {f : Int → Int → Int} {C' : Int → Int → Prop} (ho : ∀ X : Cx, OpR X op (rI C' fun i j => .int (f i j))) (hc : ∀ i j, C i j = true → C' i j) : OpS T k S op (dInt2 C f) := by
  intro X g x y h d h' e μ H vx vy r qx qy
  unfold dInt2 at e
  split at e
  · rename_i i j
    split at e
    · rename_i c
      cases e
      cases qx; cases qy
      exact OpAt.of (ho X) ⟨i, j, rfl, rfl, hc i j c, po_same r rfl⟩
    · cases e
  · cases e
def dSub := dInt2 (fun _ _ => true) fun i j => i - j
theorem sub_ok : OpS T k S (binaryOp .Sub) dSub := int2_ok (C' := fun _ _ => True) (fun X pins s σ H x y v u Q I rx ry h => by
  obtain ⟨i, j, e1, e2, _, q⟩ := h
  exact op_sub pins s σ H x y v u Q I rx ry ⟨i, j, e1, e2, q⟩) fun _ _ _ => trivial
/-- below 2^62, on one side -/
def smallI (i : Int) : Bool := decide (-(2 ^ 64) < i ∧ i < 2 ^ 64)
def dMul := dInt2 (fun i j => smallI i || smallI j) fun i j => i * j
theorem mul_ok : OpS T k S (binaryOp .Mult) dMul := int2_ok (fun X => op_mul) fun i j c => by
  simp only [smallI, Bool.or_eq_true, decide_eq_true_eq] at c
  exact c
def dDiv := dInt2 (fun _ j => decide (0 < j ∧ j < 2 ^ 64)) fun i j => i / j
theorem div_ok : OpS T k S (binaryOp .FloorDiv) dDiv := int2_ok (fun X => op_fdivW) fun i j c => by
  simp only [decide_eq_true_eq] at c
  exact wide_div c.1 (b := 64) (by omega) (by decide) (by decide)
def dMod := dInt2 (fun _ j => decide (0 < j)) fun i j => i % j
theorem mod_ok : OpS T k S (binaryOp .Mod) dMod := int2_ok (fun X => op_mod) fun i j c => by simpa using c
def dPow := dInt2 (fun i j => decide (0 ≤ j ∧ j ≤ 100) && smallI i) fun i j => i ^ j.toNat
theorem pow_ok : OpS T k S (binaryOp .Pow) dPow := int2_ok (fun X => op_pow) fun i j c => by
  simp only [smallI, Bool.and_eq_true, decide_eq_true_eq] at c
  exact ⟨by omega, by omega, by omega⟩

/-! ### comparisons -/
def dCmpI (p : Int → Int → Bool) (x y : D) (h : AH) : R D := match x, y with
  | .int i, .int j => .ok (.bl (p i j)) h
  | _, _ => .bad
theorem cmpI_ok {op : Value → Value → Sem Value} {p : Int → Int → Bool} (ho : ∀ X : Cx, OpR X op (rI0 fun i j => .bl (p i j))) : OpS T k S op (dCmpI p) := by
  intro X g x y h d h' e μ H vx vy r qx qy
  unfold dCmpI at e
  split at e
  · rename_i i j
    cases e
    cases qx; cases qy
    exact OpAt.of (ho X) ⟨i, j, rfl, rfl, po_same r rfl⟩
  · cases e
def dLt := dCmpI fun i j => decide (i < j)
def dLe := dCmpI fun i j => decide (i ≤ j)
def dGt := dCmpI fun i j => decide (j < i)
def dGe := dCmpI fun i j => decide (j ≤ i)
theorem lt_ok : OpS T k S (compareOp .Lt) dLt := cmpI_ok fun X => op_lt
theorem le_ok : OpS T k S (compareOp .LtE) dLe := cmpI_ok fun X => op_le
theorem gt_ok : OpS T k S (compareOp .Gt) dGt := cmpI_ok fun X => op_gt
theorem ge_ok : OpS T k S (compareOp .GtE) dGe := cmpI_ok fun X => op_ge
/-- == : flat values of like kinds; else data -/
def eqD (h : AH) : D → D → Option Bool
  | .int i, .int j => some (decide (i = j))
  | .str a, .str b => some (decide (a = b))
  | .non, .non => some true
  | .bl a, .bl b => some (decide (a = b))
  | .non, .int _ => some false
  | .int _, .non => some false
  | .non, .bl _ => some false
  | .bl _, .non => some false
  | .non, .str _ => some false
  | .str _, .non => some false
  | .int _, .str _ => some false
  | .str _, .int _ => some false
  | x, y => match pdH h x, pdH h y with
    | some a, some b => if SeqAt.shaped a && SeqAt.shaped b then some (PyData.eqv a b) else none
    | _, _ => none
theorem eqD_at {op : CmpOp} {f : Bool → Bool} (ho : ∀ X : Cx, OpR X (compareOp op) fun x y H Q => scal x y = true ∧ Q (.bl (f (decide (x = y)))) H)
    (hd : ∀ X : Cx, X.A.units + 64 < cLine → OpR X (compareOp op) fun x y H Q => ∃ d e, Dp X.K H x d ∧ Dp X.K H y e ∧ SeqAt.shaped d = true ∧ SeqAt.shaped e = true ∧ Q (.bl (f (PyData.eqv d e))) H) :
    OpS T k S (compareOp op) fun x y h => match eqD h x y with | some b => .ok (.bl (f b)) h | none => .bad := by
  intro X g x y h d h' e μ H vx vy r qx qy
  have fin : ∀ b, eqD h x y = some b → R.ok d h' = .ok (.bl (f b)) h := fun b eb => by
    simp only [eb] at e
    exact e.symm
  have dp : ∀ a b, pdH h x = some a → pdH h y = some b → SeqAt.shaped a = true → SeqAt.shaped b = true → eqD h x y = some (PyData.eqv a b) → OpAt X (compareOp op) vx vy H (Po T.wd μ H h' d) := fun a b ea eb sa sb ee => by
    have := fin _ ee
    injection this with h1 h2
    subst h1 h2
    refine OpAt.of (hd X (by have := g.room.units; omega)) ⟨a, b, by rw [g.K]; exact pdH_dp r ea qx, by rw [g.K]; exact pdH_dp r eb qy, sa, sb, po_same r rfl⟩
  have sc : ∀ (u v : V), vx = u → vy = v → scal u v = true → eqD h x y = some (decide (u = v)) → OpAt X (compareOp op) vx vy H (Po T.wd μ H h' d) := fun u v e1 e2 hs ee => by
    subst e1 e2
    have := fin _ ee
    injection this with h1 h2
    subst h1 h2
    exact OpAt.of (ho X) ⟨hs, po_same r rfl⟩
  cases hq : eqD h x y with
  | none => simp only [hq] at e; cases e
  | some b =>
    unfold eqD at hq
    split at hq
    all_goals first
      | (rename_i i j; exact sc _ _ qx qy rfl (by simp [eqD]))
      | (rename_i i; exact sc _ _ qx qy rfl (by simp [eqD]))
      | (exact sc _ _ qx qy rfl (by simp [eqD]))
      | skip
    split at hq
    · rename_i a b' ea eb
      split at hq
      · rename_i hs
        simp only [Bool.and_eq_true] at hs
        refine dp a b' ea eb hs.1 hs.2 ?_
        unfold eqD
        split <;> first
          | (exfalso; simp_all; done)
          | (rw [ea, eb]; simp [hs.1, hs.2])
      · cases hq
    · cases hq
def dEq (x y : D) (h : AH) : R D := match eqD h x y with | some b => .ok (.bl b) h | none => .bad
def dNe (x y : D) (h : AH) : R D := match eqD h x y with | some b => .ok (.bl (!b)) h | none => .bad
theorem eq_ok : OpS T k S (compareOp .Eq) dEq := eqD_at (f := id) (fun X => op_eq) fun X hu => op_eqD hu
theorem ne_ok : OpS T k S (compareOp .NotEq) dNe := eqD_at (f := Bool.not) (fun X => op_ne) fun X hu => op_neD hu
def isNonD : D → Bool
  | .non => true
  | _ => false
def dIsN (x y : D) (h : AH) : R D := match y with | .non => .ok (.bl (isNonD x)) h | _ => .bad
def dIsNotN (x y : D) (h : AH) : R D := match y with | .non => .ok (.bl (!isNonD x)) h | _ => .bad
theorem non_of {d : D} {v : V} (q : VR w μ H d v) : decide (v = .non) = isNonD d := by
  cases d with
  | non => rw [show v = _ from q]; rfl
  | bl b => rw [show v = _ from q]; rfl
  | int b => rw [show v = _ from q]; rfl
  | str b => rw [show v = _ from q]; rfl
  | tup b => obtain ⟨a, xs, rfl, _⟩ := q; rfl
  | fl b => obtain ⟨a, xs, rfl, _⟩ := q; rfl
  | obj b => obtain ⟨a, _, rfl⟩ := q; rfl
  | fd b => obtain ⟨a, rfl, _⟩ := q; rfl
theorem isN_ok : OpS T k S (compareOp .Is) dIsN := by
  intro X g x y h d h' e μ H vx vy r qx qy
  unfold dIsN at e
  split at e
  · cases e
    exact OpAt.of op_isN ⟨qy, by rw [non_of qx]; exact po_same r rfl⟩
  · cases e
theorem isNotN_ok : OpS T k S (compareOp .IsNot) dIsNotN := by
  intro X g x y h d h' e μ H vx vy r qx qy
  unfold dIsNotN at e
  split at e
  · cases e
    exact OpAt.of op_notN ⟨qy, by rw [non_of qx]; exact po_same r rfl⟩
  · cases e
/-- in: a text in a tuple or list of texts (flat values); a text of one sign in a text; a text in a fixed dict -/
def flatEq : D → D → Option Bool
  | .int i, .int j => some (decide (i = j))
  | .str a, .str b => some (decide (a = b))
  | .non, .non => some true
  | .non, .int _ => some false
  | .int _, .non => some false
  | .non, .str _ => some false
  | .str _, .non => some false
  | .int _, .str _ => some false
  | .str _, .int _ => some false
  | _, _ => none
def inSeq (x : D) : List D → Option Bool
  | [] => some false
  | y :: ys => (flatEq y x).bind fun b => (inSeq x ys).map fun c => b || c
theorem flatEq_v {x y : D} {vx vy : V} {b : Bool} (e : flatEq y x = some b) (qx : VR w μ H x vx) (qy : VR w μ H y vy) : flatV vx = true ∧ flatV vy = true ∧ eqV vy vx = b := by
  unfold flatEq at e
  split at e <;> (first | (cases e; done) | (cases e; cases qx; cases qy; refine ⟨rfl, rfl, ?_⟩ <;> first | rfl | (simp only [eqV]; exact beq_eq_decide ..) | simp [eqV]))
theorem inSeq_v {x : D} {vx : V} (fx : flatV vx = true) : ∀ {ds : List D} {vs : List V} {b : Bool}, inSeq x ds = some b → VR w μ H x vx → VRs w μ H ds vs → vs.all flatV = true ∧ inV vx vs = b
  | [], vs, b, e, _, q => by cases e; rw [show vs = [] from q]; exact ⟨rfl, rfl⟩
  | d :: ds, vs, b, e, qx, q => by
    obtain ⟨v, t, rfl, q1, q2⟩ := q
    obtain ⟨c, e1, e2⟩ := Option.bind_eq_some_iff.mp (show (flatEq d x).bind (fun b => (inSeq x ds).map fun c => b || c) = some b from e)
    obtain ⟨c', e3, e4⟩ := Option.map_eq_some_iff.mp e2
    subst e4
    obtain ⟨f1, f2, f3⟩ := flatEq_v e1 qx q1
    obtain ⟨g1, g2⟩ := inSeq_v fx e3 qx q2
    refine ⟨by rw [List.all_cons, f2, g1]; rfl, ?_⟩
    unfold inV at g2 ⊢
    rw [List.any_cons, f3, g2]
def flat0 : D → Bool
  | .int _ => true | .str _ => true | .non => true | _ => false
theorem flat0_v {x : D} {v : V} (f : flat0 x = true) (q : VR w μ H x v) : flatV v = true := by
  cases x <;> first | (cases f; done) | (rw [show v = _ from q]; rfl)
def inD (h : AH) (x y : D) : Option Bool := match y with
  | .str z => (match x with | .str s => (match s.cps.toList with | [c] => some (decide (c ∈ z.cps.toList)) | _ => none) | _ => none)
  | .fd kvs => (match x with | .str s => some (kvs.lookup s).isSome | _ => none)
  | _ => (match seqOf h y with | some ds => if flat0 x then inSeq x ds else none | none => none)
def dIn (x y : D) (h : AH) : R D := match inD h x y with | some b => .ok (.bl b) h | none => .bad
def dNotIn (x y : D) (h : AH) : R D := match inD h x y with | some b => .ok (.bl (!b)) h | none => .bad
end
end CM

/-! CM, part e: in, built-ins, methods of built-in types. -/
namespace CM
open PySem L2 PySem.Spec PyProof.Rows
section
variable {T : GT} {k : Nat} {S : SC} {w : Wd} {μ : List Addr} {H : Hp} {h : AH}
theorem inD_at {op : CmpOp} {f : Bool → Bool}
    (h1 : ∀ X : Cx, OpR X (compareOp op) fun x y H Q => ∃ (c : Nat) (z : Str), x = .str ⟨#[c]⟩ ∧ y = .str z ∧ Q (.bl (f (decide (c ∈ z.cps.toList)))) H)
    (h2 : ∀ (X : Cx) (d : Addr) (es : Array DictEntry) (n : Nat), KDict X.K X.w d es n → OpR X (compareOp op) fun x y H Q => ∃ (z : Str) (r : Option Value), x = .str z ∧ y = .ref d ∧ PySem.W.nsIn X.K d z = some r ∧ Q (.bl (f r.isSome)) H)
    (h3 : ∀ X : Cx, OpR X (compareOp op) fun x y H Q => ∃ p xs, y = .ref p ∧ (SqL X.K H p xs ∨ SqT X.K H p xs) ∧ flatV x = true ∧ xs.all flatV = true ∧ Q (.bl (f (inV x xs))) H) :
    OpS T k S (compareOp op) fun x y h => match inD h x y with | some b => .ok (.bl (f b)) h | none => .bad := by
  intro X g x y h d h' e μ H vx vy r qx qy
  cases hq : inD h x y with
  | none => simp only [hq] at e; cases e
  | some b =>
    simp only [hq] at e
    cases e
    have sq : ∀ ds, seqOf h y = some ds → (if flat0 x then inSeq x ds else none) = some b → OpAt X (compareOp op) vx vy H (Po T.wd μ H h (.bl (f b))) := fun ds e1 e2 => by
      split at e2
      · rename_i hf
        obtain ⟨p, xs, rfl, hp, qs⟩ := seqOf_vr r e1 qy
        obtain ⟨g1, g2⟩ := inSeq_v (flat0_v hf qx) e2 qx qs
        exact OpAt.of (h3 X) ⟨p, xs, rfl, by rw [g.K]; exact hp.symm, flat0_v hf qx, g1, by rw [g2]; exact po_same r rfl⟩
      · cases e2
    cases y with
    | str z =>
      cases x with
      | str s =>
        simp only [inD] at hq
        split at hq
        · rename_i c ec
          cases hq
          have es : s = ⟨#[c]⟩ := by
            obtain ⟨a⟩ := s
            simp only at ec
            congr 1
            exact Array.ext' (by simpa using ec)
          subst es
          cases qx; cases qy
          exact OpAt.of (h1 X) ⟨c, z, rfl, rfl, po_same r rfl⟩
        · cases hq
      | _ => cases hq
    | fd kvs =>
      cases x with
      | str s =>
        cases hq
        obtain ⟨a, rfl, ⟨es, n, kd⟩, hk⟩ := qy
        cases qx
        have hs := hk s
        have kd' : KDict X.K X.w a es n := by rw [g.K, g.w]; exact kd
        cases hl : kvs.lookup s with
        | none =>
          simp only [hl] at hs
          exact OpAt.of (h2 X a es n kd') ⟨s, none, rfl, rfl, by rw [g.K]; exact hs, po_same r rfl⟩
        | some d =>
          simp only [hl] at hs
          obtain ⟨u, v, e1, _⟩ := hs
          exact OpAt.of (h2 X a es n kd') ⟨s, some u, rfl, rfl, by rw [g.K]; exact e1, po_same r rfl⟩
      | _ => cases hq
    | tup ds => exact sq ds rfl hq
    | fl ds => exact sq ds rfl hq
    | obj m =>
      have hq' : (match seqOf h (.obj m) with | some ds => if flat0 x then inSeq x ds else none | none => none) = some b := hq
      split at hq'
      · rename_i ds e1
        exact sq ds e1 hq'
      · cases hq'
    | _ => cases hq
theorem in_ok : OpS T k S (compareOp .In) dIn := inD_at (f := id) (fun X => op_in_sign) (fun X d es n D => op_in_kd D) fun X => op_in_seq
theorem notIn_ok : OpS T k S (compareOp .NotIn) dNotIn := inD_at (f := Bool.not) (fun X => op_notIn_sign) (fun X d es n D => op_notIn_kd D) fun X => op_notIn_seq

/-! ### built-ins by values -/
def bLen : GF := fun ds h => match ds with
  | [.str x] => if x.length ≤ LIM then .ok (.int x.length) h else .bad
  | [d] => (match seqOf h d with | some es => .ok (.int es.length) h | none => .bad)
  | _ => .bad
theorem vrs1 {d : D} {vs : List V} (q : VRs w μ H [d] vs) : ∃ v, vs = [v] ∧ VR w μ H d v := by
  obtain ⟨v, t, rfl, q1, q2⟩ := q
  rw [show t = [] from q2]
  exact ⟨v, rfl, q1⟩
theorem vrs2 {d e : D} {vs : List V} (q : VRs w μ H [d, e] vs) : ∃ v u, vs = [v, u] ∧ VR w μ H d v ∧ VR w μ H e u := by
  obtain ⟨v, t, rfl, q1, q2⟩ := q
  obtain ⟨u, rfl, q3⟩ := vrs1 q2
  exact ⟨v, u, rfl, q1, q3⟩
theorem bLen_ok : CallS T k S (.builtin "len") bLen := by
  intro X g ds h d h' e μ H vs r q
  unfold bLen at e
  split at e
  · rename_i x
    split at e
    · rename_i hl
      cases e
      obtain ⟨v, rfl, qv⟩ := vrs1 q
      cases qv
      exact CallAt.of call_len ⟨.str x, x.length, rfl, ⟨lim_le hl, rfl⟩, po_same r rfl⟩
    · cases e
  · rename_i d' _
    split at e
    · rename_i es e1
      cases e
      obtain ⟨v, rfl, qv⟩ := vrs1 q
      obtain ⟨p, xs, rfl, hp, qs⟩ := seqOf_vr r e1 qv
      refine CallAt.of call_len ⟨.ref p, xs.length, rfl, ?_, by rw [qs.length]; exact po_same r rfl⟩
      rw [g.K]
      rcases hp with hp | hp
      · exact .inr ⟨xs, hp, rfl⟩
      · exact .inl ⟨xs, hp, rfl⟩
    · cases e
  · cases e
def bMax : GF := fun ds h => match ds with | [.int i, .int j] => .ok (.int (if j > i then j else i)) h | _ => .bad
def bMin : GF := fun ds h => match ds with | [.int i, .int j] => .ok (.int (if j < i then j else i)) h | _ => .bad
theorem bMax_ok : CallS T k S (.builtin "max") bMax := by
  intro X g ds h d h' e μ H vs r q
  unfold bMax at e
  split at e
  · rename_i i j
    cases e
    obtain ⟨v, u, rfl, q1, q2⟩ := vrs2 q
    cases q1; cases q2
    exact CallAt.of (call_max2 g.calm) ⟨i, j, rfl, po_same r rfl⟩
  · cases e
theorem bMin_ok : CallS T k S (.builtin "min") bMin := by
  intro X g ds h d h' e μ H vs r q
  unfold bMin at e
  split at e
  · rename_i i j
    cases e
    obtain ⟨v, u, rfl, q1, q2⟩ := vrs2 q
    cases q1; cases q2
    exact CallAt.of (call_min2 g.calm) ⟨i, j, rfl, po_same r rfl⟩
  · cases e
/-- str of an int (below ten thousand digits of two), of a text -/
def bStr : GF := fun ds h => match ds with
  | [.int i] => if i.natAbs < 2 ^ 1000 then .ok (.str (toString i)) h else .bad
  | [.str x] => .ok (.str x) h
  | _ => .bad
theorem log2_small {n : Nat} (h : n < 2 ^ 1000) : n.log2 < 1920 := by
  by_cases h0 : n = 0
  · subst h0; decide
  · have := (Nat.log2_lt h0).mpr h
    omega
theorem bStr_ok : CallS T k S (.type "str") bStr := by
  intro X g ds h d h' e μ H vs r q
  unfold bStr at e
  split at e
  · rename_i i
    split at e
    · rename_i hl
      cases e
      obtain ⟨v, rfl, qv⟩ := vrs1 q
      cases qv
      exact CallAt.of call_str_int ⟨i, rfl, log2_small hl, po_same r rfl⟩
    · cases e
  · rename_i x
    cases e
    obtain ⟨v, rfl, qv⟩ := vrs1 q
    cases qv
    exact CallAt.of SkE.call_str_str ⟨x, rfl, po_same r rfl⟩
  · cases e
def bTuple : GF := fun ds h => match ds with
  | [d] => (match seqOf h d with | some es => .ok (.tup es) h | none => .bad)
  | _ => .bad
theorem bTuple_ok : CallS T k S (.type "tuple") bTuple := by
  intro X g ds h d h' e μ H vs r q
  unfold bTuple at e
  split at e
  · split at e
    · rename_i es e1
      cases e
      obtain ⟨v, rfl, qv⟩ := vrs1 q
      obtain ⟨p, xs, rfl, hp, qs⟩ := seqOf_vr r e1 qv
      rw [show T.wd.K = X.K from g.K.symm] at hp
      rcases hp with hp | hp
      · exact CallAt.of call_tuple_of ⟨p, xs, rfl, .inr ⟨hp, po_same r ⟨p, xs, rfl, by rw [show T.wd.K = X.K from g.K.symm]; exact hp, qs⟩⟩⟩
      · exact CallAt.of call_tuple_of ⟨p, xs, rfl, .inl ⟨hp, fun l hl => po_tup r hl qs⟩⟩
    · cases e
  · cases e
def bList : GF := fun ds h => match ds with
  | [d] => (match seqOf h d with | some es => .ok (.obj h.length) (h ++ [.lst es]) | none => .bad)
  | _ => .bad
theorem bList_ok : CallS T k S (.type "list") bList := by
  intro X g ds h d h' e μ H vs r q
  unfold bList at e
  split at e
  · split at e
    · rename_i es e1
      cases e
      obtain ⟨v, rfl, qv⟩ := vrs1 q
      obtain ⟨p, xs, rfl, hp, qs⟩ := seqOf_vr r e1 qv
      rw [show T.wd.K = X.K from g.K.symm] at hp
      exact CallAt.of call_list_of ⟨p, xs, rfl, hp.symm, fun l hl => (pol_new r hl qs).num⟩
    · cases e
  · cases e
/-- repr of data -/
def bRepr : GF := fun ds h => match ds with
  | [d] => (match pdH h d with
    | some x => if x.showable && !x.hasDict && decide (x.shown.length ≤ sizeLine) && decide (x.depth ≤ 40) then .ok (.str x.shown) h else .bad
    | none => .bad)
  | _ => .bad
theorem bRepr_ok : CallS T k S (.builtin "repr") bRepr := by
  intro X g ds h d h' e μ H vs r q
  unfold bRepr at e
  split at e
  · rename_i d0
    split at e
    · rename_i x e1
      split at e
      · rename_i hc
        simp only [Bool.and_eq_true, decide_eq_true_eq, Bool.not_eq_true'] at hc
        obtain ⟨⟨⟨c1, c2⟩, c3⟩, c4⟩ := hc
        cases e
        obtain ⟨v, rfl, qv⟩ := vrs1 q
        have dp : Dp X.K H v x := by rw [g.K]; exact pdH_dp r e1 qv
        intro pins s σ us I rs
        obtain ⟨u, rfl, ru⟩ := Vals.one rs
        have fin : ∀ t s2, Inv X pins σ H s2 → EP X pins σ (Po T.wd μ H h (.str x.shown)) (.str x.shown t) s2 := fun t s2 I2 => ⟨.str x.shown, H, I2, ⟨t, rfl⟩, po_same r rfl⟩
        have hu := g.room.units
        cases hx : x with
        | none =>
          subst hx; cases dp
          cases ru
          exact PySem.P.repr_of_none (fin _ _ (I.tok _))
        | bool b =>
          subst hx; cases dp
          cases ru
          exact PySem.P.repr_of_bool (fin _ _ (I.tok _))
        | int i =>
          subst hx; cases dp
          obtain ⟨t, rfl⟩ := ru
          exact PySem.P.repr_of_int (by simpa [PyData.showable] using c1) (fin _ _ (I.tok _))
        | str z =>
          subst hx; cases dp
          obtain ⟨t, rfl⟩ := ru
          exact PySem.P.repr_of_str (fin _ _ (I.tok _)) c3
        | dict kvs => subst hx; cases c2
        | list xs =>
          subst hx
          obtain ⟨as, rd⟩ := Dp.reads I _ _ _ dp ru
          cases dp
          cases ru
          exact repr_of_reads' rd c1 (PyData.noDict_hsm c2) g.gd (by omega) (fun _ _ e => e) (fun h' t tk hk => fin _ _ (I.kept (t' := tk) hk)) c3
        | tuple xs =>
          subst hx
          obtain ⟨as, rd⟩ := Dp.reads I _ _ _ dp ru
          cases dp
          cases ru
          exact repr_of_reads' rd c1 (PyData.noDict_hsm c2) g.gd (by omega) (fun _ _ e => e) (fun h' t tk hk => fin _ _ (I.kept (t' := tk) hk)) c3
      · cases e
    · cases e
  · cases e
/-! .. with a new list -/
def boolsOf : List D → Option (List Bool)
  | [] => some []
  | .bl b :: ds => (boolsOf ds).map fun bs => b :: bs
  | _ => none
def intsOf : List D → Option (List Int)
  | [] => some []
  | .int b :: ds => (intsOf ds).map fun bs => b :: bs
  | _ => none
def strsOf : List D → Option (List Str)
  | [] => some []
  | .str b :: ds => (strsOf ds).map fun bs => b :: bs
  | _ => none
theorem boolsOf_v : ∀ {ds : List D} {bs : List Bool} {vs : List V}, boolsOf ds = some bs → VRs w μ H ds vs → vs = bs.map V.bl
  | [], _, vs, e, q => by cases e; exact q
  | .bl b :: ds, _, vs, e, q => by
    obtain ⟨v, t, rfl, q1, q2⟩ := q
    obtain ⟨bs, e1, e2⟩ := Option.map_eq_some_iff.mp (show (boolsOf ds).map (fun bs => b :: bs) = some _ from e)
    subst e2
    rw [boolsOf_v e1 q2, show v = V.bl b from q1]; rfl
theorem intsOf_v : ∀ {ds : List D} {bs : List Int} {vs : List V}, intsOf ds = some bs → VRs w μ H ds vs → vs = bs.map V.int
  | [], _, vs, e, q => by cases e; exact q
  | .int b :: ds, _, vs, e, q => by
    obtain ⟨v, t, rfl, q1, q2⟩ := q
    obtain ⟨bs, e1, e2⟩ := Option.map_eq_some_iff.mp (show (intsOf ds).map (fun bs => b :: bs) = some _ from e)
    subst e2
    rw [intsOf_v e1 q2, show v = V.int b from q1]; rfl
theorem strsOf_v : ∀ {ds : List D} {bs : List Str} {vs : List V}, strsOf ds = some bs → VRs w μ H ds vs → vs = bs.map V.str
  | [], _, vs, e, q => by cases e; exact q
  | .str b :: ds, _, vs, e, q => by
    obtain ⟨v, t, rfl, q1, q2⟩ := q
    obtain ⟨bs, e1, e2⟩ := Option.map_eq_some_iff.mp (show (strsOf ds).map (fun bs => b :: bs) = some _ from e)
    subst e2
    rw [strsOf_v e1 q2, show v = V.str b from q1]; rfl
def lAll (ds : List D) : Option D := (boolsOf ds).map fun bs => .bl (bs.all id)
def lAny (ds : List D) : Option D := (boolsOf ds).map fun bs => .bl (bs.any id)
def lSum (ds : List D) : Option D := (intsOf ds).map fun bs => .int bs.sum
def lTup (ds : List D) : Option D := some (.tup ds)
def lLen (ds : List D) : Option D := some (.int ds.length)
theorem lAll_ok : CallLS T k S (.builtin "all") lAll := by
  intro X g ds d e μ H h p xs r hp q
  obtain ⟨bs, e1, e2⟩ := Option.map_eq_some_iff.mp e
  subst e2
  exact CallAt.of (cr_all g.calm) ⟨p, bs, rfl, by rw [← boolsOf_v e1 q]; exact SqL.of hp, po_same r rfl⟩
theorem lAny_ok : CallLS T k S (.builtin "any") lAny := by
  intro X g ds d e μ H h p xs r hp q
  obtain ⟨bs, e1, e2⟩ := Option.map_eq_some_iff.mp e
  subst e2
  exact CallAt.of (cr_any g.calm) ⟨p, bs, rfl, by rw [← boolsOf_v e1 q]; exact SqL.of hp, po_same r rfl⟩
theorem lSum_ok : CallLS T k S (.builtin "sum") lSum := by
  intro X g ds d e μ H h p xs r hp q
  obtain ⟨bs, e1, e2⟩ := Option.map_eq_some_iff.mp e
  subst e2
  exact CallAt.of (cr_sum g.calm) ⟨p, bs, rfl, by rw [← intsOf_v e1 q]; exact SqL.of hp, po_same r rfl⟩
theorem lLen_ok : CallLS T k S (.builtin "len") lLen := by
  intro X g ds d e μ H h p xs r hp q
  cases e
  exact CallAt.of call_len ⟨.ref p, xs.length, rfl, .inl ⟨xs, SqL.of hp, rfl⟩, by rw [q.length]; exact po_same r rfl⟩
theorem lTup_ok : CallLS T k S (.type "tuple") lTup := by
  intro X g ds d e μ H h p xs r hp q
  cases e
  exact CallAt.of call_tuple_of ⟨p, xs, rfl, .inl ⟨SqL.of hp, fun l hl => po_tup r hl q⟩⟩

/-! ### isinstance -/
def tyD (h : AH) : D → Option String
  | .non => some "NoneType" | .bl _ => some "bool" | .int _ => some "int" | .str _ => some "str" | .tup _ => some "tuple"
  | .obj n => (match h[n]? with | some (.lst _) => some "list" | some (.dk _) => some "dict" | _ => none)
  | _ => none
theorem tyD_v {d : D} {t : String} {v : V} (r : Rel w μ H h) (e : tyD h d = some t) (q : VR w μ H d v) : TyX w.K H v (.type t) := by
  cases d with
  | non => cases e; rw [show v = _ from q]; exact .base .non
  | bl b => cases e; rw [show v = _ from q]; exact .base (.bl b)
  | int b => cases e; rw [show v = _ from q]; exact .base (.int b)
  | str b => cases e; rw [show v = _ from q]; exact .base (.str b)
  | tup ds =>
    cases e
    obtain ⟨a, xs, rfl, q1, q2⟩ := q
    rcases q1 with (q1 | ⟨o, q1⟩) | ⟨o, its, n, q1, q3, _⟩
    · exact .base (.tup q1)
    · exact .fTuple q1
    · exact .kTuple q1 q3
  | obj n =>
    obtain ⟨a, ha, rfl⟩ := q
    simp only [tyD] at e
    split at e
    · rename_i ds e'
      cases e
      obtain ⟨xs, e1, q1⟩ := r.at e' ha
      exact .base (.lst e1)
    · rename_i ds e'
      cases e
      obtain ⟨xs, e1, q1⟩ := r.at e' ha
      exact .base (.dK e1)
    · cases e
  | _ => cases e
def gIsi (t : String) (ge : G) : G := fun ρ h => (ge ρ h).bind fun d h1 => match (tyD h1 d).bind fun s => kitB s t with | some b => .ok (.bl b) h1 | none => .bad
theorem se_isi {t : String} {e : Expr} {x : Str} {p p2 pos : Pos} {ge : G} (s : SE T k S e ge) (hnb : T.nb "isinstance" = true) (hg : S.sc.names.lookup ("isinstance" : Str) = some .globalImplicit) (hnt : T.nb x = true) (hgt : S.sc.names.lookup x = some .globalImplicit)
    (hv : bootBuiltins x = some (.type t)) (hn : x ≠ "__name__") (hdb : (x == ("__debug__" : Str)) = false) (hs : ∀ env e2, starEach [e, e2] env = (false, eval e env) :: starEach [e2] env) : SE T k S (.Call (.Name "isinstance" p) [e, .Name x p2] [] pos) (gIsi t ge) := by
  intro X g ρ h d h' eq μ σ H ve r
  obtain ⟨y, h1, ea, eq⟩ := R.bind_ok eq
  split at eq
  · rename_i b eb
    cases eq
    obtain ⟨t', e1, e2⟩ := Option.bind_eq_some_iff.mp eb
    refine At.of (pe_callB call_isi (g.gl hg) (by rw [g.mg]; exact g.ok.nb _ hnb) (by decide +kernel) (pa_cons At.pe (pa_cons (pe_bltn (v := .ty t) (g.gl hgt) (by rw [g.mg]; exact g.ok.nb _ hnt) hv rfl hn hdb) pa_nil) (hs _ _)) (by decide) (by decide) (hs _ _) (by rfl)) ?_
    refine (s X g ρ h y _ ea μ σ H ve r).mono fun v H1 ⟨μ1, s1, q1⟩ => ?_
    refine ⟨v, .ty t, .type t', .type t, b, rfl, .ty t, by rw [g.K]; exact tyD_v s1.rel e1 q1, kit_ty e2, μ1, s1, rfl⟩
  · cases eq
end
end CM

/-! CM, part f: methods of built-in types, subscripts, slices. -/
namespace CM
open PySem L2 PySem.Spec PyProof.Rows
section
variable {T : GT} {k : Nat} {S : SC} {w : Wd} {μ : List Addr} {H : Hp} {h : AH}
/-! ### methods by values -/
def MtAt (X : Cx) (id : String) : V → List V → Hp → VK → Prop := fun x xs H Q => ∀ pins s σ v us, Inv X pins σ H s → RelV x v → Vals xs us → wpAny (model X.prog X.w) X.A (call (.builtin id) (v :: us)) (EP X pins σ Q) X.xe s
theorem MtAt.mr {X : Cx} {id : String} : MtR X id (MtAt X id) := fun pins s σ _ _ _ v us _ I rx r h => h pins s σ v us I rx r
theorem MtAt.of {X : Cx} {id : String} {r : V → List V → Hp → VK → Prop} {x : V} {xs : List V} {Q : VK} (hm : MtR X id r) (q : r x xs H Q) : MtAt X id x xs H Q := fun pins s σ v us I rx rs => hm pins s σ H x xs v us Q I rx rs q
theorem MtAt.mono {X : Cx} {id : String} {x : V} {xs : List V} {Q Q' : VK} (h : MtAt X id x xs H Q) (q : ∀ v H', Q v H' → Q' v H') : MtAt X id x xs H Q' := fun pins s σ v us I rx rs => thn (h pins s σ v us I rx rs) fun _ _ ⟨v, H', I', r, z⟩ => ⟨v, H', I', r, q v H' z⟩
/-- a receiver of a type -/
def rcv (Tn : String) (h : AH) (x : D) : Bool := match x with
  | .str _ => Tn == "str"
  | .obj n => Tn == "list" && (match h[n]? with | some (.lst _) => true | _ => false)
  | _ => false
theorem rcv_v {Tn : String} {x : D} {v : V} (r : Rel w μ H h) (e : rcv Tn h x = true) (q : VR w μ H x v) : tyV w.K Tn v H := by
  cases x with
  | str z =>
    rw [show v = _ from q]
    show Tn = "str"
    simpa [rcv] using e
  | obj n =>
    obtain ⟨a, ha, rfl⟩ := q
    simp only [rcv, Bool.and_eq_true, beq_iff_eq] at e
    obtain ⟨e1, e2⟩ := e
    split at e2
    · rename_i ds e'
      obtain ⟨xs, e3, q1⟩ := r.at e' ha
      exact .inl ⟨e1, xs, SqL.of e3⟩
    · cases e2
  | _ => cases e
/-- what a method does: the receiver, the arguments -/
def MethS (T : GT) (k : Nat) (S : SC) (id : String) (f : D → GF) : Prop := ∀ X, Good T k S X → ∀ x ds h d h', f x ds h = .ok d h' → ∀ μ H vx vs, Rel T.wd μ H h → VR T.wd μ H x vx → VRs T.wd μ H ds vs → MtAt X id vx vs H (Po T.wd μ H h' d)
def gMeth (Tn : String) (f : D → GF) (go : G) (ga : GA) : G := fun ρ h => (go ρ h).bind fun x h1 => if rcv Tn h1 x then (ga ρ h1).bind fun ds h2 => f x ds h2 else .bad
theorem se_meth {Tn id : String} {name : Str} {o e : Expr} {es : List Expr} {apos pos : Pos} {f : D → GF} {go : G} {ga : GA} (pa : PlainAttrs Tn) (slot : Slot Tn name id) (hty : typeOf (.builtin id) = pure (.type "method_descriptor")) (hm : MethS T k S id f)
    (so : SE T k S o go) (sa : SA T k S (e :: es) ga) (hbase : ∀ env, attributeBase o name env (eval o env) = eval o env)
    (hfew : ∀ env, ((backTo pos (starEach (e :: es) env)).all (fun x => !x.1) && (backToKw pos (keywordEach [] env)).all (fun x => x.1.isSome)
      && decide ((e :: es).length + ([] : List Keyword).length + (if ([] : List Keyword).isEmpty then 0 else 1) < 30)) = true)
    (hline : (apos.endLine == pos.line) = true) (hs : ∀ env, starEach (e :: es) env = (false, eval e env) :: starEach es env) (hpl : ∀ env, (backTo pos (starEach es env)).any (·.1) = false) :
    SE T k S (.Call (.Attribute o name apos) (e :: es) [] pos) (gMeth Tn f go ga) := by
  intro X g ρ h d h' eq μ σ H ve r
  obtain ⟨x, h1, ea, eq⟩ := R.bind_ok eq
  split at eq
  · rename_i hr
    obtain ⟨ds, h2, eb, eq⟩ := R.bind_ok eq
    refine At.of (pe_bm pa slot hty MtAt.mr At.pe AtA.pa (hbase _) (hfew _) hline (hs _) (hpl _)) ?_
    refine (so X g ρ h x h1 ea μ σ H ve r).mono fun vx H1 ⟨μ1, s1, q1⟩ => ⟨by rw [g.K]; exact rcv_v s1.rel hr q1, ?_⟩
    refine (sa X g ρ h1 ds h2 eb μ1 σ H1 (ve.mono s1 r) s1.rel).mono fun vs H2 ⟨μ2, s2, q2⟩ => ?_
    exact (hm X g x ds h2 d h' eq μ2 H2 vx vs s2.rel (q1.mono s2 s1.rel) q2).mono fun v H' q => Po.trans (s1.trans s2) q
  · cases eq
theorem se_meth0 {Tn id : String} {name : Str} {o : Expr} {apos pos : Pos} {f : D → GF} {go : G} (pa : PlainAttrs Tn) (slot : Slot Tn name id) (hty : typeOf (.builtin id) = pure (.type "method_descriptor")) (hm : MethS T k S id f)
    (so : SE T k S o go) (hbase : ∀ env, attributeBase o name env (eval o env) = eval o env) (hline : (apos.endLine == pos.line) = true) :
    SE T k S (.Call (.Attribute o name apos) [] [] pos) (gMeth Tn f go gaNil) := by
  intro X g ρ h d h' eq μ σ H ve r
  obtain ⟨x, h1, ea, eq⟩ := R.bind_ok eq
  split at eq
  · rename_i hr
    obtain ⟨ds, h2, eb, eq⟩ := R.bind_ok eq
    cases eb
    refine At.of (pe_bm0 pa slot hty MtAt.mr At.pe (hbase _) hline) ?_
    refine (so X g ρ h x h1 ea μ σ H ve r).mono fun vx H1 ⟨μ1, s1, q1⟩ => ⟨by rw [g.K]; exact rcv_v s1.rel hr q1, ?_⟩
    exact (hm X g x [] h1 d h' eq μ1 H1 vx [] s1.rel q1 VRs.nil).mono fun v H' q => Po.trans s1 q
  · cases eq
/-- a method whose one argument is a new list that no one knows -/
def gMethL (Tn : String) (f : D → List D → Option D) (go : G) (ga : GA) : G := fun ρ h => (go ρ h).bind fun x h1 => if rcv Tn h1 x then (ga ρ h1).bind fun ds h2 => R.opt (f x ds) h2 else .bad
def MethLS (T : GT) (k : Nat) (S : SC) (id : String) (f : D → List D → Option D) : Prop := ∀ X, Good T k S X → ∀ x ds d, f x ds = some d → ∀ μ H h vx p xs, Rel T.wd μ H h → VR T.wd μ H x vx → H p = some (.lst xs) → VRs T.wd μ H ds xs → MtAt X id vx [.ref p] H (Po T.wd μ H h d)
theorem se_methL {Tn id : String} {name : Str} {o e : Expr} {apos pos : Pos} {f : D → List D → Option D} {go : G} {ga : GA} (pa : PlainAttrs Tn) (slot : Slot Tn name id) (hty : typeOf (.builtin id) = pure (.type "method_descriptor")) (hm : MethLS T k S id f)
    (so : SE T k S o go) (sa : SL T k S e ga) (hbase : ∀ env, attributeBase o name env (eval o env) = eval o env)
    (hfew : ∀ env, ((backTo pos (starEach [e] env)).all (fun x => !x.1) && (backToKw pos (keywordEach [] env)).all (fun x => x.1.isSome)
      && decide (([e] : List Expr).length + ([] : List Keyword).length + (if ([] : List Keyword).isEmpty then 0 else 1) < 30)) = true)
    (hline : (apos.endLine == pos.line) = true) (hs : ∀ env, starEach [e] env = [(false, eval e env)]) :
    SE T k S (.Call (.Attribute o name apos) [e] [] pos) (gMethL Tn f go ga) := by
  intro X g ρ h d h' eq μ σ H ve r
  obtain ⟨x, h1, ea, eq⟩ := R.bind_ok eq
  split at eq
  · rename_i hr
    obtain ⟨ds, h2, eb, eq⟩ := R.bind_ok eq
    obtain ⟨eq', rfl⟩ := R.opt_ok eq
    refine At.of (pe_bm pa slot hty MtAt.mr At.pe (pa_cons At.pe pa_nil (by rw [hs]; rfl)) (hbase _) (hfew _) hline (by rw [hs]; rfl) (by rfl)) ?_
    refine (so X g ρ h x h1 ea μ σ H ve r).mono fun vx H1 ⟨μ1, s1, q1⟩ => ⟨by rw [g.K]; exact rcv_v s1.rel hr q1, ?_⟩
    refine (sa X g ρ h1 ds _ eb μ1 σ H1 (ve.mono s1 r) s1.rel).mono fun v H2 ⟨μ2, p, xs, e0, e1, hp, h0, s2, q2⟩ => ?_
    subst e0
    exact (hm X g x ds d eq' μ2 H2 _ vx p xs s2.rel (q1.mono s2 s1.rel) e1 q2).mono fun v H' q => Po.trans (s1.trans s2) q
  · cases eq

/-! the methods -/
def mAppend (x : D) : GF := fun ds h => match x, ds with
  | .obj n, [d] => (match h[n]? with | some (.lst xs) => (if xs.length ≤ LIM then .ok .non (h.set n (.lst (xs ++ [d]))) else .bad) | _ => .bad)
  | _, _ => .bad
theorem set_lst {n : Nat} {a : Addr} {ds es : List D} {xs : List V} (r : Rel w μ H h) (ha : μ[n]? = some a) (e0 : H a = some (.lst xs)) {ys : List V} (q : VRs w μ H es ys) : Po w μ H (h.set n (.lst es)) .non .non (upd H a (.lst ys)) := by
  obtain ⟨s, kp⟩ := Stp.set (u := .lst es) r ha e0 (by intro z q; cases q) (by intro z y q; cases q) (o := .lst ys) fun H' kp e => ⟨ys, e, q.kp kp⟩
  exact ⟨μ, s, rfl⟩
theorem mAppend_ok : MethS T k S "list.append" mAppend := by
  intro X g x ds h d h' e μ H vx vs r qx q
  unfold mAppend at e
  split at e
  · split at e
    · rename_i n d' xs e1
      split at e
      · rename_i hl
        cases e
        obtain ⟨p, ys, rfl, ha, e2, q2⟩ := lst_vr r e1 qx
        obtain ⟨v, rfl, q3⟩ := vrs1 q
        exact MtAt.of mt_append ⟨p, ys, v, rfl, rfl, e2, lim_lt (by rw [q2.length]; exact hl), set_lst (ds := xs) r ha e2 (q2.append (VRs.cons q3 VRs.nil))⟩
      · cases e
    · cases e
  · cases e
def mExtend (x : D) : GF := fun ds h => match x, ds with
  | .obj n, [.obj m] => (match h[n]?, h[m]? with | some (.lst xs), some (.lst ys) => (if xs.length + ys.length ≤ LIM then .ok .non (h.set n (.lst (xs ++ ys))) else .bad) | _, _ => .bad)
  | _, _ => .bad
theorem mExtend_ok : MethS T k S "list.extend" mExtend := by
  intro X g x ds h d h' e μ H vx vs r qx q
  unfold mExtend at e
  split at e
  · split at e
    · rename_i n m xs ys e1 e1'
      split at e
      · rename_i hl
        cases e
        obtain ⟨v, rfl, q3⟩ := vrs1 q
        obtain ⟨p, us, rfl, ha, e2, q2⟩ := lst_vr r e1 qx
        obtain ⟨p', us', rfl, _, e2', q2'⟩ := lst_vr r e1' q3
        exact MtAt.of mt_extend ⟨p, p', us, us', rfl, rfl, e2, e2', lim_le (by rw [q2.length, q2'.length]; exact hl), set_lst (ds := xs) r ha e2 (q2.append q2')⟩
      · cases e
    · cases e
  · cases e
/-- join: the texts of a sequence -/
def joinD (a : Str) (ds : List D) : Option D := match strsOf ds with
  | some ys => if (ys.map (·.length)).sum + ys.length * a.length ≤ LIM then some (.str (Txt.join a ys)) else none
  | none => none
def mJoin (x : D) : GF := fun ds h => match x, ds with
  | .str a, [d] => (match seqOf h d with | some es => R.opt (joinD a es) h | none => .bad)
  | _, _ => .bad
theorem mJoin_ok : MethS T k S "str.join" mJoin := by
  intro X g x ds h d h' e μ H vx vs r qx q
  unfold mJoin at e
  split at e
  · rename_i a d'
    split at e
    · rename_i es e1
      obtain ⟨e2, rfl⟩ := R.opt_ok e
      unfold joinD at e2
      split at e2
      · rename_i ys e3
        split at e2
        · rename_i hl
          cases e2
          obtain ⟨v, rfl, q3⟩ := vrs1 q
          obtain ⟨p, xs, rfl, hp, qs⟩ := seqOf_vr r e1 q3
          rw [show T.wd.K = X.K from g.K.symm, strsOf_v e3 qs] at hp
          cases qx
          exact MtAt.of mt_join ⟨a, p, ys, rfl, rfl, hp.symm, Nat.le_trans hl (by decide), po_same r rfl⟩
        · cases e2
      · cases e2
    · cases e
  · cases e
def lJoin (x : D) (ds : List D) : Option D := match x with | .str a => joinD a ds | _ => none
theorem lJoin_ok : MethLS T k S "str.join" lJoin := by
  intro X g x ds d e μ H h vx p xs r qx hp q
  unfold lJoin at e
  split at e
  · rename_i a
    unfold joinD at e
    split at e
    · rename_i ys e3
      split at e
      · rename_i hl
        cases e
        cases qx
        exact MtAt.of mt_join ⟨a, p, ys, rfl, rfl, .inl (by rw [← strsOf_v e3 q]; exact SqL.of hp), Nat.le_trans hl (by decide), po_same r rfl⟩
      · cases e
    · cases e
  · cases e
def mIndex (x : D) : GF := fun ds h => match x, ds with
  | .str a, [.str b] => (match Builtin.Str.occurrences a b 0 a.length 1 with | i :: _ => .ok (.int (i : Nat)) h | [] => .bad)
  | _, _ => .bad
theorem mIndex_ok : MethS T k S "str.index" mIndex := by
  intro X g x ds h d h' e μ H vx vs r qx q
  unfold mIndex at e
  split at e
  · rename_i a b
    split at e
    · rename_i i rest e1
      cases e
      obtain ⟨v, rfl, q3⟩ := vrs1 q
      cases qx; cases q3
      exact MtAt.of mt_sindex ⟨a, b, i, rest, rfl, rfl, e1, po_same r rfl⟩
    · cases e
  · cases e
def mSplit (x : D) : GF := fun ds h => match x, ds with
  | .str a, [.str b] => if b.length != 0 && decide (a.length + 2 ≤ LIM) then .ok (.obj h.length) (h ++ [.lst ((Txt.split a b).map D.str)]) else .bad
  | _, _ => .bad
theorem vrs_strs : ∀ (ys : List Str), VRs w μ H (ys.map D.str) (ys.map V.str)
  | [] => VRs.nil
  | y :: ys => VRs.cons rfl (vrs_strs ys)
theorem mSplit_ok : MethS T k S "str.split" mSplit := by
  intro X g x ds h d h' e μ H vx vs r qx q
  unfold mSplit at e
  split at e
  · rename_i a b
    split at e
    · rename_i hc
      simp only [Bool.and_eq_true, bne_iff_ne, decide_eq_true_eq] at hc
      cases e
      obtain ⟨v, rfl, q3⟩ := vrs1 q
      cases qx; cases q3
      exact MtAt.of mt_split ⟨a, b, rfl, rfl, by simpa using hc.1, lim_le hc.2, fun p hp => (pol_new r hp (vrs_strs _)).num⟩
    · cases e
  · cases e
/-! ### d.get(k, x) of a fixed dict -/
theorem flatD_v {d : D} {v : V} (e : flatD d = some v) : VR w μ H d v := by
  cases d <;> first | (cases e; rfl) | cases e
theorem kd_get2 {X : Cx} {pins : List (Addr × Obj)} {σ : L2.St} {s : Shared} {a : Addr} {es : Array DictEntry} {n : Nat} {z : Str} {o : Option Value} {u r : Value} {Q : Value → Shared → Prop} (D : KDict X.K X.w a es n) (I : Inv X pins σ H s) (ru : RelV (.str z) u)
    (ho : PySem.W.nsIn X.K a z = some o) (h : ∀ s', Inv X pins σ H s' → Q (o.getD r) s') : wpAny (model X.prog X.w) X.A (call (.builtin "dict.get") [.ref a, u, r]) Q X.xe s := by
  obtain ⟨t, rfl⟩ := ru
  have hm := PySem.W.mapOf_K (prog := X.prog) (w := X.w) I.kIn D.at_ D.lit
  refine call_meetsIn PySem.F.slot_dict_get hm.typeIs PySem.F.entry_dict_get (PySem.F.args_dict_get_3 _ _ _) (meets_dict_get_default (strKind X.prog X.w) a (PySem.strKind_is X.prog X.w z t) D.low r) ⟨_, hm, ?_⟩
  rw [PySem.W.find_K D.at_ ho]
  exact h _ (I.tok _)
def gGet (go gi gx : G) : G := fun ρ h => (go ρ h).bind fun d h1 => match d with
  | .fd kvs => ((gi ρ h1).bind fun i h2 => match i with
    | .str z => ((gx ρ h2).bind fun x h3 => .ok ((kvs.lookup z).getD x) h3)
    | _ => .bad)
  | _ => .bad
theorem se_get {o e f : Expr} {apos pos : Pos} {go ge gf : G} (so : SE T k S o go) (se : SE T k S e ge) (sf : SE T k S f gf) (hbase : ∀ env, attributeBase o "get" env (eval o env) = eval o env)
    (hfew : ∀ env, ((backTo pos (starEach [e, f] env)).all (fun x => !x.1) && (backToKw pos (keywordEach [] env)).all (fun x => x.1.isSome)
      && decide (([e, f] : List Expr).length + ([] : List Keyword).length + (if ([] : List Keyword).isEmpty then 0 else 1) < 30)) = true)
    (hline : (apos.endLine == pos.line) = true) (ht : ∀ env, backTo pos (starEach [e, f] env) = [(false, eval e env), (false, eval f env)]) :
    SE T k S (.Call (.Attribute o "get" apos) [e, f] [] pos) (gGet go ge gf) := by
  intro X g ρ h d h' eq μ σ H ve r
  obtain ⟨x, h1, ea, eq⟩ := R.bind_ok eq
  split at eq
  · rename_i kvs
    obtain ⟨i, h2, eb, eq⟩ := R.bind_ok eq
    split at eq
    · rename_i z
      obtain ⟨y, h3, ec, eq⟩ := R.bind_ok eq
      cases eq
      intro pins s I
      refine wpAny_Call_method (hbase _) (hfew _) hline PySem.F.plainAttrs_dict PySem.F.slot_dict_get PySem.F.type_dict_get (thn (so X g ρ h _ h1 ea μ σ H ve r pins s I) fun u s1 ⟨vo, H1, I1, ro, μ1, st1, qo⟩ => ?_)
      obtain ⟨a, rfl, ⟨es, n, kd⟩, hk⟩ := qo
      obtain rfl : u = Value.ref a := ro
      have kd' : KDict X.K X.w a es n := by rw [g.K, g.w]; exact kd
      have hm := PySem.W.mapOf_K (prog := X.prog) (w := X.w) I1.kIn kd'.at_ kd'.lit
      refine ⟨hm.typeIs, fun b q => ?_, ?_⟩
      · cases q
        exact ⟨_, I1.kIn _ _ kd'.at_, rfl⟩
      rw [ht]
      refine Calls.callWith_builtin rfl (Calls.evalArgs_plain (Calls.spliced_cons (thn (se X g ρ h1 _ h2 eb μ1 σ H1 (ve.mono st1 r) st1.rel pins s1 I1) fun iv s2 ⟨vi, H2, I2, ri, μ2, st2, qi⟩ =>
        Calls.spliced_cons (thn (sf X g ρ h2 y _ ec μ2 σ H2 ((ve.mono st1 r).mono st2 st1.rel) st2.rel pins s2 I2) fun fv s3 ⟨vf, H3, I3, rf, μ3, st3, qf⟩ => Calls.spliced_nil ?_))))
      have st := (st1.trans st2).trans st3
      cases qi
      have hs := hk z
      cases hl : kvs.lookup z with
      | none =>
        simp only [hl] at hs
        refine kd_get2 (o := none) kd' I3 ri (by rw [g.K]; exact hs) fun s4 I4 => ⟨vf, H3, I4, rf, μ3, st, qf⟩
      | some d0 =>
        simp only [hl] at hs
        obtain ⟨u0, v0, e1, r0, f0⟩ := hs
        exact kd_get2 (o := some u0) kd' I3 ri (by rw [g.K]; exact e1) fun s4 I4 => ⟨v0, H3, I4, r0, μ3, st, flatD_v f0⟩
    · cases eq
  · cases eq

/-! ### subscripts -/
def IxAt (X : Cx) : R2 := fun x y H Q => ∀ value slice pins s σ v u, Inv X pins σ H s → RelV x v → RelV y u → subscripted slice false v u = operate [v, u] (getItem v u) → wpAny (model X.prog X.w) X.A (subscriptTail value slice v u) (EP X pins σ Q) X.xe s
theorem IxAt.ir {X : Cx} : IxR X (IxAt X) := fun value slice pins s σ _ _ _ v u _ I rx ry h hs => h value slice pins s σ v u I rx ry hs
theorem IxAt.of {X : Cx} {r : R2} {x y : V} {Q : VK} (hr : IxR X r) (q : r x y H Q) : IxAt X x y H Q := fun value slice pins s σ v u I rx ry hs => hr value slice pins s σ H x y v u Q I rx ry q hs
theorem IxAt.mono {X : Cx} {x y : V} {Q Q' : VK} (h : IxAt X x y H Q) (q : ∀ v H', Q v H' → Q' v H') : IxAt X x y H Q' := fun value slice pins s σ v u I rx ry hs => thn (h value slice pins s σ v u I rx ry hs) fun _ _ ⟨v, H', I', r, z⟩ => ⟨v, H', I', r, q v H' z⟩
def ixD (h : AH) (x y : D) : Option D := match x, y with
  | .str z, .int i => if z.length ≤ LIM then (atI z.cps.toList i).map fun c => .str ⟨#[c]⟩ else none
  | .fd kvs, .str z => kvs.lookup z
  | x, .int i => (match seqOf h x with | some ds => atI ds i | none => none)
  | _, _ => none
def dIx (x y : D) (h : AH) : R D := R.opt (ixD h x y) h
theorem atI_vr {ds : List D} {vs : List V} {i : Int} {d : D} (q : VRs w μ H ds vs) (e : atI ds i = some d) : ∃ v, atI vs i = some v ∧ VR w μ H d v := by
  unfold atI at e ⊢
  obtain ⟨j, e1, e2⟩ := Option.bind_eq_some_iff.mp e
  obtain ⟨v, e3, q3⟩ := q.get e2
  exact ⟨v, by rw [q.length, e1]; exact e3, q3⟩
theorem dIx_ok {X : Cx} (g : Good T k S X) {x y : D} {d : D} {h' : AH} (e0 : dIx x y h = .ok d h') {vx vy : V} (r : Rel T.wd μ H h) (qx : VR T.wd μ H x vx) (qy : VR T.wd μ H y vy) : IxAt X vx vy H (Po T.wd μ H h' d) := by
  obtain ⟨e, eh⟩ := R.opt_ok e0
  subst h'
  clear e0
  have sq : ∀ ds i, seqOf h x = some ds → y = .int i → atI ds i = some d → IxAt X vx vy H (Po T.wd μ H h d) := fun ds i e1 e2 e3 => by
    subst e2
    cases qy
    obtain ⟨p, xs, rfl, hp, qs⟩ := seqOf_vr r e1 qx
    obtain ⟨v, e4, q4⟩ := atI_vr qs e3
    rw [show T.wd.K = X.K from g.K.symm] at hp
    rcases hp with hp | hp
    · exact IxAt.of ix_seq (.inr (.inl ⟨p, xs, i, v, rfl, rfl, hp, e4, po_same r q4⟩))
    · exact IxAt.of ix_seq (.inl ⟨p, xs, i, v, rfl, rfl, hp, e4, po_same r q4⟩)
  unfold ixD at e
  split at e
  · rename_i z i
    split at e
    · rename_i hl
      obtain ⟨c, e1, e2⟩ := Option.map_eq_some_iff.mp e
      subst e2
      cases qx; cases qy
      exact IxAt.of ix_seq (.inr (.inr ⟨z, i, c, rfl, rfl, lim_le hl, e1, po_same r rfl⟩))
    · cases e
  · rename_i kvs z
    obtain ⟨a, rfl, ⟨es, n, kd⟩, hk⟩ := qx
    cases qy
    have hs := hk z
    simp only [e] at hs
    obtain ⟨u0, v0, e1, r0, f0⟩ := hs
    exact IxAt.of ix_kdict ⟨a, z, v0, rfl, rfl, ⟨es, n, u0, by rw [g.K]; exact kd.at_, by rw [g.w]; exact kd.lit, by rw [g.K]; exact e1, r0⟩, po_same r (flatD_v f0)⟩
  · rename_i i _
    split at e
    · rename_i ds e1
      exact sq ds i e1 rfl e
    · cases e
  · cases e
theorem se_ix {a b : Expr} {pos : Pos} {ga gb : G} (hp : ∀ o i, subscripted b false o i = operate [o, i] (getItem o i)) (sa : SE T k S a ga) (sb : SE T k S b gb) : SE T k S (.Subscript a b pos) (gBin dIx ga gb) := by
  intro X g ρ h d h' e μ σ H ve r
  obtain ⟨x, h1, ea, e⟩ := R.bind_ok e
  obtain ⟨y, h2, eb, e⟩ := R.bind_ok e
  refine At.of (pe_ix IxAt.ir At.pe At.pe hp) (two g sa sb ea eb ve r fun μ2 H2 vx vy s q1 q2 => ?_)
  exact (dIx_ok g e s.rel q1 q2).mono fun v H' q => Po.trans s q
end
end CM

/-! CM, part g: what is walked; targets; comprehensions. -/
namespace CM
open PySem L2 PySem.Spec PyProof.Rows
/-- what is walked: given values; a list object, read at each turn; two of them side by side -/
inductive IterD where
  | vals (ds : List D) | live (m len : Nat) | zip (a b : IterD)
def IterD.len : IterD → Nat
  | .vals ds => ds.length
  | .live _ n => n
  | .zip a b => min a.len b.len
/-- the item at turn i -/
def IterD.get (i : Nat) (h : AH) : IterD → Option D
  | .vals ds => ds[i]?
  | .live m n => match h[m]? with | some (.lst ys) => if ys.length = n then ys[i]? else none | _ => none
  | .zip a b => match a.get i h, b.get i h with | some x, some y => some (.tup [x, y]) | _, _ => none
/-- it may stop -/
def IterD.fin (h : AH) : IterD → Bool
  | .vals _ => true
  | .live m n => match h[m]? with | some (.lst ys) => ys.length == n | _ => false
  | .zip a b => a.fin h && b.fin h
abbrev GI := Env → AH → R IterD
def AtI (X : Cx) (tg iter : Expr) : TI := fun σ H R => ∀ pins s, Inv X pins σ H s → wpAny (model X.prog X.w) X.A (eval iter X.env) (fun v s1 => wpAny (model X.prog X.w) X.A (pyIter v) (PIE X pins σ tg R) X.xe s1) X.xe s
theorem AtI.pi {X : Cx} {tg iter : Expr} : PI X tg iter (AtI X tg iter) := ⟨fun pins s _ _ _ I h => h pins s I⟩
theorem AtI.of {X : Cx} {tg iter : Expr} {wi : TI} {σ : L2.St} {H : Hp} {R : It → Hp → Prop} (h : PI X tg iter wi) (q : wi σ H R) : AtI X tg iter σ H R := fun pins s I => h.run pins s σ H R I q
/-- J walks as it says, from here on -/
structure Wk (w : Wd) (J : It) (it : IterD) (μ : List Addr) (H : Hp) : Prop where
  goes : ∀ i μ1 H1 h1 d, i < it.len → Stp w μ H μ1 H1 h1 → IterD.get i h1 it = some d → J.go i H1
  stops : ∀ μ1 H1 h1, Stp w μ H μ1 H1 h1 → IterD.fin h1 it = true → J.stop it.len H1
  yields : ∀ i μ1 H1 h1 d x H2, i < it.len → Stp w μ H μ1 H1 h1 → IterD.get i h1 it = some d → J.yld i H1 x H2 → Stp w μ1 H1 μ1 H2 h1 ∧ VR w μ1 H2 d x
def SI (T : GT) (k : Nat) (S : SC) (tg iter : Expr) (gi : GI) : Prop := ∀ X, Good T k S X → ∀ ρ h it h', gi ρ h = .ok it h' → ∀ μ σ H, VE T.wd μ H ρ σ → Rel T.wd μ H h → AtI X tg iter σ H fun J H' => ∃ μ', Stp T.wd μ H μ' H' h' ∧ Wk T.wd J it μ' H'
section
variable {T : GT} {k : Nat} {S : SC} {w : Wd} {μ : List Addr} {H : Hp} {h : AH}
/-- what a value gives when it is walked -/
def iterOf (h : AH) : D → Option IterD
  | .tup ds => some (.vals ds)
  | .fl ds => some (.vals ds)
  | .str x => some (.vals (x.cps.toList.map fun c => D.str ⟨#[c]⟩))
  | .obj n => match h[n]? with | some (.lst ds) => some (.live n ds.length) | _ => none
  | _ => none
theorem wk_tup {a : Addr} {ds : List D} {xs : List V} (r : Rel w μ H h) (hs : SqT w.K H a xs) (q : VRs w μ H ds xs) : Wk w (Itt w.K a) (.vals ds) μ H := by
  refine ⟨fun i μ1 H1 h1 d hi s e => ?_, fun μ1 H1 h1 s _ => ⟨xs, (s.kp r).tup _ _ hs, by rw [q.length]; exact Nat.le_refl _⟩, fun i μ1 H1 h1 d x H2 hi s e y => ?_⟩
  · have hi' : i < xs.length := by rw [q.length]; exact hi
    exact ⟨xs, xs[i], (s.kp r).tup _ _ hs, by simp [hi']⟩
  · obtain ⟨e2, y⟩ := y
    subst e2
    obtain ⟨v, e3, q3⟩ := q.get (show ds[i]? = some d from e)
    have := y xs ((s.kp r).tup _ _ hs)
    rw [e3] at this; cases this
    exact ⟨Stp.refl s.rel, q3.mono s r⟩
theorem wk_fl {a : Addr} {ds : List D} {xs : List V} (r : Rel w μ H h) (hs : FxL w.K H a xs) (q : VRs w μ H ds xs) : Wk w (Itl w.K a) (.vals ds) μ H := by
  refine ⟨fun i μ1 H1 h1 d hi s e => ?_, fun μ1 H1 h1 s _ => ⟨xs, ((s.kp r).fxl _ _ hs).sq, by rw [q.length]; exact Nat.le_refl _⟩, fun i μ1 H1 h1 d x H2 hi s e y => ?_⟩
  · have hi' : i < xs.length := by rw [q.length]; exact hi
    exact ⟨xs, xs[i], ((s.kp r).fxl _ _ hs).sq, by simp [hi']⟩
  · obtain ⟨e2, y⟩ := y
    subst e2
    obtain ⟨v, e3, q3⟩ := q.get (show ds[i]? = some d from e)
    have := y xs ((s.kp r).fxl _ _ hs).sq
    rw [e3] at this; cases this
    exact ⟨Stp.refl s.rel, q3.mono s r⟩
/-- a list without a number, just laid: it stays -/
theorem wk_new {a : Addr} {ds : List D} {xs : List V} (r : Rel w μ H h) (ha : a ∉ μ) (hs : H a = some (.lst xs)) (q : VRs w μ H ds xs) : Wk w (Itl w.K a) (.vals ds) μ H := by
  have st : ∀ {μ1 H1 h1}, Stp w μ H μ1 H1 h1 → SqL w.K H1 a xs := fun s => SqL.of (s.keep a _ hs ha)
  refine ⟨fun i μ1 H1 h1 d hi s e => ?_, fun μ1 H1 h1 s _ => ⟨xs, st s, by rw [q.length]; exact Nat.le_refl _⟩, fun i μ1 H1 h1 d x H2 hi s e y => ?_⟩
  · have hi' : i < xs.length := by rw [q.length]; exact hi
    exact ⟨xs, xs[i], st s, by simp [hi']⟩
  · obtain ⟨e2, y⟩ := y
    subst e2
    obtain ⟨v, e3, q3⟩ := q.get (show ds[i]? = some d from e)
    have := y xs (st s)
    rw [e3] at this; cases this
    exact ⟨Stp.refl s.rel, q3.mono s r⟩
theorem wk_live {a : Addr} {n len : Nat} (ha : μ[n]? = some a) : Wk w (Itl w.K a) (.live n len) μ H := by
  have at_ : ∀ {i μ1 H1 h1 d}, Stp w μ H μ1 H1 h1 → IterD.get i h1 (IterD.live n len) = some d → ∃ ys xs, ys[i]? = some d ∧ H1 a = some (.lst xs) ∧ VRs w μ1 H1 ys xs := fun {i μ1 H1 h1 d} s e => by
    simp only [IterD.get] at e
    split at e
    · rename_i ys e1
      split at e
      · obtain ⟨xs, e3, q⟩ := s.rel.at e1 (s.ix ha)
        exact ⟨ys, xs, e, e3, q⟩
      · cases e
    · cases e
  refine ⟨fun i μ1 H1 h1 d hi s e => ?_, fun μ1 H1 h1 s e => ?_, fun i μ1 H1 h1 d x H2 hi s e y => ?_⟩
  · obtain ⟨ys, xs, e1, e2, q⟩ := at_ s e
    obtain ⟨v, e3, _⟩ := q.get e1
    exact ⟨xs, v, SqL.of e2, e3⟩
  · simp only [IterD.fin] at e
    split at e
    · rename_i ys e1
      obtain ⟨xs, e3, q⟩ := s.rel.at e1 (s.ix ha)
      exact ⟨xs, SqL.of e3, by rw [q.length, beq_iff_eq.mp e]; exact Nat.le_refl _⟩
    · cases e
  · obtain ⟨ys, xs, e1, e2, q⟩ := at_ s e
    obtain ⟨v, e3, q3⟩ := q.get e1
    obtain ⟨e4, y⟩ := y
    subst e4
    have := y xs (SqL.of e2)
    rw [e3] at this; cases this
    exact ⟨Stp.refl s.rel, q3⟩
def giVal (ge : G) : GI := fun ρ h => (ge ρ h).bind fun d h1 => R.opt (iterOf h1 d) h1
theorem si_val {tg e : Expr} {ge : G} (s : SE T k S e ge) : SI T k S tg e (giVal ge) := by
  intro X g ρ h it h' eq μ σ H ve r
  obtain ⟨d, h1, ea, eq⟩ := R.bind_ok eq
  obtain ⟨e1, e2⟩ := R.opt_ok eq
  subst e2
  have sa := s X g ρ h d _ ea μ σ H ve r
  cases d with
  | tup ds =>
    cases e1
    refine AtI.of (pi_tup At.pe) (sa.mono fun v H1 ⟨μ1, s1, q1⟩ => ?_)
    obtain ⟨a, xs, rfl, q2, q3⟩ := q1
    rw [g.K]
    exact ⟨a, rfl, ⟨xs, q2⟩, μ1, s1, wk_tup s1.rel q2 q3⟩
  | fl ds =>
    cases e1
    refine AtI.of (pi_list At.pe) (sa.mono fun v H1 ⟨μ1, s1, q1⟩ => ?_)
    obtain ⟨a, xs, rfl, q2, q3⟩ := q1
    rw [g.K]
    exact ⟨a, rfl, ⟨xs, q2.sq⟩, μ1, s1, wk_fl s1.rel q2 q3⟩
  | str x =>
    cases e1
    refine AtI.of (pi_str At.pe) (sa.mono fun v H1 ⟨μ1, s1, q1⟩ => ?_)
    cases q1
    refine ⟨x, rfl, μ1, s1, fun i μ2 H2 h2 d hi s e => by show i < x.cps.size; simpa [IterD.len] using hi, fun μ2 H2 h2 s e => by show x.cps.size ≤ _; simp [IterD.len], fun i μ2 H2 h2 d y H3 hi s e z => ?_⟩
    obtain ⟨rfl, c, e1, rfl⟩ := z
    have hd : d = .str ⟨#[c]⟩ := by
      simp only [IterD.get, List.getElem?_map, Array.getElem?_toList, e1, Option.map_some] at e
      exact (Option.some.inj e).symm
    subst hd
    exact ⟨Stp.refl s.rel, rfl⟩
  | obj n =>
    simp only [iterOf] at e1
    split at e1
    · rename_i ds e'
      cases e1
      refine AtI.of (pi_list At.pe) (sa.mono fun v H1 ⟨μ1, s1, q1⟩ => ?_)
      obtain ⟨a, ha, rfl⟩ := q1
      obtain ⟨xs, e3, q⟩ := s1.rel.at e' ha
      rw [g.K]
      exact ⟨a, rfl, ⟨xs, SqL.of e3⟩, μ1, s1, wk_live ha⟩
    · cases e1
  | _ => cases e1
/-- over a list that is made for it -/
def giL (ga : GA) : GI := fun ρ h => (ga ρ h).bind fun ds h1 => .ok (.vals ds) h1
theorem si_L {tg e : Expr} {ga : GA} (s : SL T k S e ga) : SI T k S tg e (giL ga) := by
  intro X g ρ h it h' eq μ σ H ve r
  obtain ⟨ds, h1, ea, eq⟩ := R.bind_ok eq
  cases eq
  refine AtI.of (pi_list At.pe) ((s X g ρ h ds _ ea μ σ H ve r).mono fun v H1 ⟨μ1, p, xs, e0, e1, hp, h0, s1, q1⟩ => ?_)
  subst e0
  rw [g.K]
  exact ⟨p, rfl, ⟨xs, SqL.of e1⟩, μ1, s1, wk_new s1.rel hp e1 q1⟩
def giRange (ga : GA) : GI := fun ρ h => (ga ρ h).bind fun ds h1 => match ds with
  | [.int j] => if j < 2 ^ 62 ∧ -(2 ^ 62) ≤ j then .ok (.vals ((List.range j.toNat).map fun i => D.int (i : Nat))) h1 else .bad
  | _ => .bad
theorem si_range1 {tg e : Expr} {p pos : Pos} {ga : GA} (sa : SA T k S [e] ga) (hnb : T.nb "range" = true) (hg : S.sc.names.lookup ("range" : Str) = some .globalImplicit) (hs : ∀ env, starEach [e] env = [(false, eval e env)]) : SI T k S tg (.Call (.Name "range" p) [e] [] pos) (giRange ga) := by
  intro X g ρ h it h' eq μ σ H ve r
  obtain ⟨ds, h1, ea, eq⟩ := R.bind_ok eq
  split at eq
  · rename_i j
    split at eq
    · rename_i hj
      cases eq
      refine AtI.of (pi_range1 (g.gl hg) (by rw [g.mg]; exact g.ok.nb _ hnb) AtA.pa (hs _)) ((sa X g ρ h _ _ ea μ σ H ve r).mono fun vs H1 ⟨μ1, s1, q1⟩ => ?_)
      obtain ⟨v, rfl, q2⟩ := vrs1 q1
      cases q2
      refine ⟨j, rfl, hj.2, hj.1, μ1, s1, fun i μ2 H2 h2 d hi s e => by show i < j.toNat; simpa [IterD.len] using hi, fun μ2 H2 h2 s e => by show j.toNat ≤ _; simp [IterD.len], fun i μ2 H2 h2 d y H3 hi s e z => ?_⟩
      obtain ⟨rfl, rfl⟩ := z
      have hi' : i < j.toNat := by simpa [IterD.len] using hi
      have hd : d = .int (i : Nat) := by
        simp only [IterD.get, List.getElem?_map, List.getElem?_range hi', Option.map_some] at e
        exact (Option.some.inj e).symm
      subst hd
      exact ⟨Stp.refl s.rel, by show V.int (0 + (i : Int)) = _; rw [Int.zero_add]⟩
    · cases eq
  · cases eq

/-! ### zip -/
/-- one side of a zip at its beginning: its iterator object o, and what it gives -/
structure SideOk (T : GT) (M : Nat) (u : Value) (s : Shared) (it : IterD) (μ : List Addr) (H : Hp) where
  o : Obj
  Hh : Heap → Prop
  tn : Addr → Nat → Heap → Prop
  N : Hp → Nat → Prop
  y : Nat → Hp → V → Prop
  begins : Begins u o Hh
  hh : Hh s.heap
  start : ∀ h' a, h'.get? a = some o → tn a 0 h'
  side : ∀ a, M ≤ a → Side T.P T.W T.K a M (tn a) N y
  len : ∀ μ1 H1 h1, Stp T.wd μ H μ1 H1 h1 → (IterD.fin h1 it = true ∨ ∃ i d, IterD.get i h1 it = some d) → N H1 it.len
  val : ∀ i μ1 H1 h1 d x, Stp T.wd μ H μ1 H1 h1 → IterD.get i h1 it = some d → y i H1 x → VR T.wd μ1 H1 d x
theorem side_of {X : Cx} (g : Good T k S X) {pins : List (Addr × Obj)} {σ : L2.St} {s : Shared} {d : D} {it : IterD} {v : V} {u : Value} (I : Inv X pins σ H s) (r : Rel T.wd μ H h) (e : iterOf h d = some it) (q : VR T.wd μ H d v) (ru : RelV v u) : Nonempty (SideOk T s.heap.objs.size u s it μ H) := by
  have tupc : ∀ (a : Addr) (xs : List V) (ds : List D), SqT T.K H a xs → VRs T.wd μ H ds xs → u = .ref a → it = .vals ds → Nonempty (SideOk T s.heap.objs.size u s it μ H) := fun a xs ds hs qs eu ei => by
    subst eu ei
    obtain ⟨its, rv, p, _⟩ := I.tuple (show SqT X.K H a xs by rw [g.K]; exact hs)
    obtain ⟨ob, ho, _⟩ := id p
    have ha : a < s.heap.objs.size := Heap.lt_size ho
    refine ⟨⟨_, _, fun it' i h' => h'.IsTupleIter it' a i, _, _, begins_tuple a its.toArray, p, fun h' b e => ⟨_, e, rfl, rfl⟩, fun b hb => side_tup (Nat.ne_of_lt (Nat.lt_of_lt_of_le ha hb)) ha, fun μ1 H1 h1 st _ => ⟨xs, (st.kp r).tup _ _ hs, by rw [qs.length]; rfl⟩, fun i μ1 H1 h1 d' x st ed hy => ?_⟩⟩
    obtain ⟨v', e3, q3⟩ := qs.get (show ds[i]? = some d' from ed)
    have := hy xs ((st.kp r).tup _ _ hs)
    rw [e3] at this; cases this
    exact q3.mono st r
  cases d with
  | tup ds =>
    cases e
    obtain ⟨a, xs, rfl, q1, q2⟩ := q
    exact tupc a xs ds q1 q2 ru rfl
  | str x =>
    cases e
    cases q
    obtain ⟨t, rfl⟩ := ru
    refine ⟨⟨_, _, fun it' i h' => h'.IsStrIter it' (strIterType x) x t i, _, _, begins_text x t, trivial, fun h' b e => ⟨_, e, rfl, rfl⟩, fun b hb => side_str, fun μ1 H1 h1 st _ => by simp [IterD.len], fun i μ1 H1 h1 d' y st ed hy => ?_⟩⟩
    obtain ⟨c, e1, rfl⟩ := hy
    simp only [IterD.get, List.getElem?_map, Array.getElem?_toList, e1, Option.map_some] at ed
    cases ed
    rfl
  | fl ds =>
    cases e
    obtain ⟨a, xs, rfl, q1, q2⟩ := q
    obtain rfl : u = .ref a := ru
    obtain ⟨its, rv, p, _⟩ := I.list (show SqL X.K H a xs by rw [g.K]; exact q1.sq)
    obtain ⟨ob, nn, ho, _⟩ := id p
    have ha : a < s.heap.objs.size := Heap.lt_size ho
    refine ⟨⟨_, _, fun it' i h' => h'.IsListIter it' a i, _, _, begins_list a its.toArray, p.isList, fun h' b e => ⟨_, e, rfl, rfl⟩, fun b hb => side_lst (Nat.ne_of_lt (Nat.lt_of_lt_of_le ha hb)) ha, fun μ1 H1 h1 st _ => ⟨xs, ((st.kp r).fxl _ _ q1).sq, by rw [q2.length]; rfl⟩, fun i μ1 H1 h1 d' x st ed hy => ?_⟩⟩
    obtain ⟨v', e3, q3⟩ := q2.get (show ds[i]? = some d' from ed)
    have := hy xs ((st.kp r).fxl _ _ q1).sq
    rw [e3] at this; cases this
    exact q3.mono st r
  | obj n =>
    simp only [iterOf] at e
    split at e
    · rename_i ds e'
      cases e
      obtain ⟨a, ha', rfl⟩ := q
      obtain rfl : u = .ref a := ru
      obtain ⟨xs, e3, q2⟩ := r.at e' ha'
      obtain ⟨its, rv, p, _⟩ := I.list (show SqL X.K H a xs from SqL.of e3)
      obtain ⟨ob, nn, ho, _⟩ := id p
      have ha : a < s.heap.objs.size := Heap.lt_size ho
      have at_ : ∀ {μ1 H1 h1 ys}, Stp T.wd μ H μ1 H1 h1 → h1[n]? = some (.lst ys) → ∃ zs, H1 a = some (.lst zs) ∧ VRs T.wd μ1 H1 ys zs := fun st e1 => st.rel.at e1 (st.ix ha')
      refine ⟨⟨_, _, fun it' i h' => h'.IsListIter it' a i, _, _, begins_list a its.toArray, p.isList, fun h' b e => ⟨_, e, rfl, rfl⟩, fun b hb => side_lst (Nat.ne_of_lt (Nat.lt_of_lt_of_le ha hb)) ha, fun μ1 H1 h1 st hf => ?_, fun i μ1 H1 h1 d' x st ed hy => ?_⟩⟩
      · rcases hf with hf | ⟨i, d', hf⟩
        · simp only [IterD.fin] at hf
          split at hf
          · rename_i ys e1
            obtain ⟨zs, e4, q4⟩ := at_ st e1
            exact ⟨zs, SqL.of e4, by rw [q4.length, beq_iff_eq.mp hf]; rfl⟩
          · cases hf
        · simp only [IterD.get] at hf
          split at hf
          · rename_i ys e1
            split at hf
            · rename_i hl
              obtain ⟨zs, e4, q4⟩ := at_ st e1
              exact ⟨zs, SqL.of e4, by rw [q4.length, hl]; rfl⟩
            · cases hf
          · cases hf
      · simp only [IterD.get] at ed
        split at ed
        · rename_i ys e1
          split at ed
          · obtain ⟨zs, e4, q4⟩ := at_ st e1
            obtain ⟨v', e5, q5⟩ := q4.get ed
            have := hy zs (SqL.of e4)
            rw [e5] at this; cases this
            exact q5
          · cases ed
        · cases ed
    · cases e
  | _ => cases e
def giZip (ga : GA) : GI := fun ρ h => (ga ρ h).bind fun ds h1 => match ds with
  | [x, y] => (match iterOf h1 x, iterOf h1 y with | some a, some b => .ok (.zip a b) h1 | _, _ => .bad)
  | _ => .bad
theorem si_zip {e e2 : Expr} {p pos tpos : Pos} {elts : List Expr} {kk : Nat} {ga : GA} (sa : SA T k S [e, e2] ga) (hnb : T.nb "zip" = true) (hg : S.sc.names.lookup ("zip" : Str) = some .globalImplicit)
    (hs : ∀ env, starEach [e, e2] env = (false, eval e env) :: starEach [e2] env) (hpl : ∀ env, (backTo pos (starEach [e2] env)).any (·.1) = false) : SI T k S (.Tuple elts kk tpos) (.Call (.Name "zip" p) [e, e2] [] pos) (giZip ga) := by
  intro X g ρ h it h' eq μ σ H ve r
  obtain ⟨ds, h1, ea, eq⟩ := R.bind_ok eq
  split at eq
  · rename_i dx dy
    split at eq
    · rename_i ia ib e1 e2'
      cases eq
      intro pins s I
      refine Call_ (ld_blt I (g.gl hg) (by rw [g.mg]; exact g.ok.nb _ hnb) PyProof.Rows.boot_zip (PyProof.Rows.callWith_type1 (thn (sa X g ρ h _ _ ea μ σ H ve r pos pins s I) fun us s1 ⟨vs, H1, I1, r1, μ1, st1, q1⟩ => ?_) (hs _) (hpl _)))
      obtain ⟨va, vb, rfl, qa, qb⟩ := vrs2 q1
      obtain ⟨ua, ub, rfl, ra, rb⟩ := Vals.two r1
      obtain ⟨A1⟩ := side_of g I1 st1.rel e1 qa ra
      obtain ⟨A2⟩ := side_of g I1 st1.rel e2' qb rb
      refine zip_begins2 A1.begins A2.begins A1.hh A2.hh fun h' hz hTI hTO g1 g2 hsz hk => wpAny_pyIter_zip hz ?_
      have I2 : Inv X pins σ H1 { s1 with heap := h' } := I1.kept (t' := s1.toks) hk
      have hle : ∀ b, b ∈ [s1.heap.objs.size + 4, s1.heap.objs.size + 2, s1.heap.objs.size + 3, s1.heap.objs.size, s1.heap.objs.size + 1] → s1.heap.objs.size ≤ b := fun b hb => by
        have e' : b = s1.heap.objs.size + 4 ∨ b = s1.heap.objs.size + 2 ∨ b = s1.heap.objs.size + 3 ∨ b = s1.heap.objs.size ∨ b = s1.heap.objs.size + 1 := by simpa using hb
        rcases e' with z | z | z | z | z
        · rw [z]; exact Nat.le_add_right _ _
        · rw [z]; exact Nat.le_add_right _ _
        · rw [z]; exact Nat.le_add_right _ _
        · rw [z]; exact Nat.le_refl _
        · rw [z]; exact Nat.le_add_right _ _
      refine ⟨s1.heap.objs.size + 4, [s1.heap.objs.size + 4, s1.heap.objs.size + 2, s1.heap.objs.size + 3, s1.heap.objs.size, s1.heap.objs.size + 1], (fun i h => IsZip h (s1.heap.objs.size + 4) (s1.heap.objs.size + 2) (s1.heap.objs.size + 3) .none ∧ IsTupOf2 h (s1.heap.objs.size + 2) (.ref s1.heap.objs.size) (.ref (s1.heap.objs.size + 1)) ∧ (∃ a b, IsTupOf2 h (s1.heap.objs.size + 3) a b) ∧ A1.tn s1.heap.objs.size i h ∧ A2.tn (s1.heap.objs.size + 1) i h), Itzz A1.N A2.N A1.y A2.y, H1, rfl, I2,
        (by rw [g.prog, g.w, g.K]; exact turn_zz (tn1 := A1.tn s1.heap.objs.size) (tn2 := A2.tn (s1.heap.objs.size + 1)) (A1.side _ (Nat.le_refl _)) (A2.side _ (Nat.le_add_right _ _))), ⟨hz, hTI, ⟨_, _, hTO⟩, A1.start h' _ g1, A2.start h' _ g2⟩, fun b hb => I1.fpOk (hle b hb) (I1.hok.fresh (hle b hb)), μ1, st1, ?_⟩
      have split2 : ∀ {i h1 d}, (IterD.zip ia ib).get i h1 = some d → ∃ x y, ia.get i h1 = some x ∧ ib.get i h1 = some y ∧ d = .tup [x, y] := fun {i h1 d} ed => by
        simp only [IterD.get] at ed
        split at ed
        · rename_i x y ex ey
          cases ed
          exact ⟨x, y, ex, ey, rfl⟩
        · cases ed
      refine ⟨fun i μ2 H2 h2 d hi s e => ?_, fun μ2 H2 h2 s e => ?_, fun i μ2 H2 h2 d x H3 hi s e y => ?_⟩
      · obtain ⟨x, y, ex, ey, rfl⟩ := split2 e
        exact ⟨_, _, A1.len μ2 H2 h2 s (.inr ⟨i, x, ex⟩), A2.len μ2 H2 h2 s (.inr ⟨i, y, ey⟩), hi⟩
      · simp only [IterD.fin, Bool.and_eq_true] at e
        exact ⟨_, _, A1.len μ2 H2 h2 s (.inl e.1), A2.len μ2 H2 h2 s (.inl e.2), rfl⟩
      · obtain ⟨x', y', ex, ey, rfl⟩ := split2 e
        obtain ⟨Tt, v1, v2, rfl, hT, rfl, y1, y2⟩ := y
        have w1 := A1.val i μ2 H2 h2 x' v1 s ex y1
        have w2 := A2.val i μ2 H2 h2 y' v2 s ey y2
        obtain ⟨μ3, s3, q3⟩ := po_tup s.rel hT (VRs.cons w1 (VRs.cons w2 VRs.nil))
        exact ⟨Stp.lay s.rel hT, Tt, [v1, v2], rfl, SqT.of upd_same, (VRs.cons w1 (VRs.cons w2 VRs.nil)).kp (kp_upd hT)⟩
    · cases eq
  · cases eq

/-! ### targets: names, tuples, subscripts, attributes -/
abbrev GTg := D → Env → AH → R Env
abbrev GTgs := List D → Env → AH → R Env
def AtG (X : Cx) (tg : Expr) : TG := fun v σ H Q => ∀ pins s u, Inv X pins σ H s → RelV v u → wpAny (model X.prog X.w) X.A (assign tg X.env u) (fun _ s' => ∃ σ' H', Inv X pins σ' H' s' ∧ Q σ' H') X.xe s
theorem AtG.pg {X : Cx} {tg : Expr} : PG X tg (AtG X tg) := ⟨fun pins s _ _ _ u _ I r h => h pins s u I r⟩
theorem AtG.of {X : Cx} {tg : Expr} {t : TG} {v : V} {σ : L2.St} {H : Hp} {Q : L2.St → Hp → Prop} (h : PG X tg t) (q : t v σ H Q) : AtG X tg v σ H Q := fun pins s u I r => h.run pins s σ H v u Q I r q
theorem AtG.mono {X : Cx} {tg : Expr} {v : V} {σ : L2.St} {H : Hp} {Q Q' : L2.St → Hp → Prop} (h : AtG X tg v σ H Q) (q : ∀ σ H, Q σ H → Q' σ H) : AtG X tg v σ H Q' := fun pins s u I r => thn (h pins s u I r) fun _ _ ⟨σ', H', I', z⟩ => ⟨σ', H', I', q _ _ z⟩
def AtGs (X : Cx) (ts : List Expr) : TGs := fun vs σ H Q => ∀ pins s us, Inv X pins σ H s → Vals vs us → wpAny (model X.prog X.w) X.A (assignInOrder ((assignEach ts X.env).map (·.2)) us) (fun _ s' => ∃ σ' H', Inv X pins σ' H' s' ∧ Q σ' H') X.xe s
theorem AtGs.pgs {X : Cx} {ts : List Expr} : PGs X ts (AtGs X ts) := ⟨fun pins s _ _ _ us _ I r h => h pins s us I r⟩
theorem AtGs.of {X : Cx} {ts : List Expr} {t : TGs} {vs : List V} {σ : L2.St} {H : Hp} {Q : L2.St → Hp → Prop} (h : PGs X ts t) (q : t vs σ H Q) : AtGs X ts vs σ H Q := fun pins s us I r => h.run pins s σ H vs us Q I r q
/-- what stands behind a store: the slots ixs alone may have changed -/
def PoG (w : Wd) (μ : List Addr) (H : Hp) (h' : AH) (ρ' : Env) (ixs : List Nat) (σ : L2.St) : L2.St → Hp → Prop := fun σ' H' => (∃ μ', Stp w μ H μ' H' h' ∧ VE w μ' H' ρ' σ') ∧ ∀ vs : List Nat, (∀ i ∈ ixs, i ∈ vs) → wipe σ' vs = wipe σ vs
def SG (T : GT) (k : Nat) (S : SC) (tg : Expr) (ixs : List Nat) (gt : GTg) : Prop := ∀ X, Good T k S X → ∀ d ρ h ρ' h', gt d ρ h = .ok ρ' h' → ∀ μ σ H v, VE T.wd μ H ρ σ → Rel T.wd μ H h → VR T.wd μ H d v → AtG X tg v σ H (PoG T.wd μ H h' ρ' ixs σ)
def SGs (T : GT) (k : Nat) (S : SC) (ts : List Expr) (ixs : List Nat) (gt : GTgs) : Prop := ∀ X, Good T k S X → ∀ ds ρ h ρ' h', gt ds ρ h = .ok ρ' h' → ∀ μ σ H vs, VE T.wd μ H ρ σ → Rel T.wd μ H h → VRs T.wd μ H ds vs → AtGs X ts vs σ H (PoG T.wd μ H h' ρ' ixs σ)
theorem wipe_set {i : Nat} {x : Option V} : ∀ {vs : List Nat} {σ : L2.St}, i ∈ vs → wipe (σ.set i x) vs = wipe σ vs
  | v :: vs, σ, h => by
    unfold wipe
    by_cases hv : i = v
    · subst hv
      by_cases hm : i ∈ vs
      · rw [wipe_set hm]
      · have : ∀ (vs : List Nat) (σ : L2.St), i ∉ vs → wipe (σ.set i x) vs = (wipe σ vs).set i x := by
          intro vs
          induction vs with
          | nil => intro σ _; rfl
          | cons u us ih =>
            intro σ hn
            unfold wipe
            rw [ih σ (fun z => hn (List.mem_cons_of_mem _ z)), List.set_comm _ _ (fun e => hn (by rw [e]; exact List.mem_cons_self))]
        rw [this vs σ hm, List.set_set]
    · rw [wipe_set ((List.mem_cons.mp h).resolve_left hv)]
def gtName (i : Nat) : GTg := fun d ρ h => .ok (ρ.set i (some d)) h
theorem sg_name {i : Nat} {x : Str} {pos : Pos} (hi : S.N[i]? = some x) (hx : S.sc.names.lookup x = some .local ∨ (S.top = true ∧ S.sc.names.lookup x = some .cell)) : SG T k S (.Name x pos) [i] (gtName i) := by
  intro X g d ρ h ρ' h' e μ σ H v ve r q
  cases e
  refine AtG.of (pg_name (i := i) g.nd (by rw [g.N]; exact hi) ?_ ?_) ⟨⟨μ, Stp.refl r, ve.set q i⟩, fun vs hv => wipe_set (hv i (by simp))⟩
  · rcases hx with hx | ⟨_, hx⟩
    · exact .inl (by rw [g.sc]; exact hx)
    · exact .inr (by rw [g.sc]; exact hx)
  · rcases hx with hx | ⟨ht, hx⟩
    · exact .inr (by rw [g.sc]; exact hx)
    · exact .inl (g.fn ht x)
def gtsNil : GTgs := fun ds ρ h => match ds with | [] => .ok ρ h | _ => .bad
def gtsCons (t : GTg) (u : GTgs) : GTgs := fun ds ρ h => match ds with | d :: ds => ((t d ρ h).bind fun ρ1 h1 => u ds ρ1 h1) | _ => .bad
theorem sgs_nil : SGs T k S [] [] gtsNil := by
  intro X g ds ρ h ρ' h' e μ σ H vs ve r q
  unfold gtsNil at e
  split at e
  · cases e
    rw [show vs = [] from q]
    exact AtGs.of pgs_nil ⟨rfl, ⟨μ, Stp.refl r, ve⟩, fun _ _ => rfl⟩
  · cases e
theorem sgs_cons {e : Expr} {es : List Expr} {t : GTg} {u : GTgs} {ix ixs : List Nat} (s1 : SG T k S e ix t) (s2 : SGs T k S es ixs u) (hs : ∀ env, (assignEach (e :: es) env).map (·.2) = assign e env :: (assignEach es env).map (·.2)) : SGs T k S (e :: es) (ix ++ ixs) (gtsCons t u) := by
  intro X g ds ρ h ρ' h' eq μ σ H vs ve r q
  unfold gtsCons at eq
  split at eq
  · rename_i d ds
    obtain ⟨ρ1, h1, e1, eq⟩ := R.bind_ok eq
    obtain ⟨v, t', rfl, q1, q2⟩ := q
    refine AtGs.of (pgs_cons AtG.pg AtGs.pgs (hs _)) ⟨v, t', rfl, (s1 X g d ρ h ρ1 h1 e1 μ σ H v ve r q1).mono fun σ1 H1 ⟨⟨μ1, st1, ve1⟩, w1⟩ => ?_⟩
    intro pins s us I rv
    refine thn (s2 X g ds ρ1 h1 ρ' h' eq μ1 σ1 H1 t' ve1 st1.rel (q2.mono st1 r) pins s us I rv) fun _ s' ⟨σ2, H2, I2, ⟨μ2, st2, ve2⟩, w2⟩ => ⟨σ2, H2, I2, ⟨μ2, st1.trans st2, ve2⟩, fun ws hw => ?_⟩
    rw [w2 ws fun i hi => hw i (List.mem_append_right _ hi), w1 ws fun i hi => hw i (List.mem_append_left _ hi)]
  · cases eq
def gtTup (n : Nat) (u : GTgs) : GTg := fun d ρ h => match d with | .tup ds => (if ds.length = n then u ds ρ h else .bad) | _ => .bad
theorem sg_tup {es : List Expr} {kk n : Nat} {pos : Pos} {ixs : List Nat} {u : GTgs} (s : SGs T k S es ixs u) (hn : ∀ env, (assignEach es env).length = n) (hst : ∀ env, (assignEach es env).findIdx? (·.1) = none) : SG T k S (.Tuple es kk pos) ixs (gtTup n u) := by
  intro X g d ρ h ρ' h' e μ σ H v ve r q
  unfold gtTup at e
  split at e
  · rename_i ds
    split at e
    · rename_i hl
      obtain ⟨a, xs, rfl, q1, q2⟩ := q
      exact AtG.of (pg_tup g.calm AtGs.pgs (hn _) (hst _)) ⟨a, xs, rfl, by rw [g.K]; exact q1, by rw [q2.length]; exact hl, s X g ds ρ h ρ' h' e μ σ H xs ve r q2⟩
    · cases e
  · cases e
def gtSub (go gi : G) : GTg := fun d ρ h => (go ρ h).bind fun o h1 => (gi ρ h1).bind fun i h2 => match o, i with
  | .obj n, .int j => (match h2[n]? with | some (.lst xs) => (match ixN xs.length j with | some m => .ok ρ (h2.set n (.lst (xs.set m d))) | none => .bad) | _ => .bad)
  | _, _ => .bad
theorem sg_sub {o i : Expr} {pos : Pos} {go gi : G} (so : SE T k S o go) (si : SE T k S i gi) (ha : ∀ env v, assign (.Subscript o i pos) env v = (do
      let ov ← holding [v] (eval o env)
      let iv ← holding [v, ov] (eval i env)
      standAt pos
      holding [v, ov, iv] (setItem ov iv v)
      release [v, ov, iv] [])) : SG T k S (.Subscript o i pos) [] (gtSub go gi) := by
  intro X g d ρ h ρ' h' e μ σ H v ve r q
  obtain ⟨od, h1, e1, eb⟩ := R.bind_ok e
  obtain ⟨idx, h2, e2, e⟩ := R.bind_ok eb
  clear eb
  split at e
  · rename_i n j
    split at e
    · rename_i xs e3
      split at e
      · rename_i m em
        cases e
        refine AtG.of (pg_sub At.pe At.pe set_list (ha _)) (two g so si e1 e2 ve r fun μ2 H2 vx vy s q1 q2 => ?_)
        obtain ⟨p, ys, rfl, hp, e4, q4⟩ := lst_vr s.rel e3 q1
        cases q2
        refine ⟨p, ys, j, m, rfl, rfl, e4, by rw [q4.length]; exact em, ?_, fun _ _ => rfl⟩
        obtain ⟨st, kp⟩ := Stp.set (u := .lst (xs.set m d)) s.rel hp e4 (by intro z q; cases q) (by intro z y q; cases q) (o := .lst (ys.set m v)) fun H' kp e => ⟨_, e, (VRs.set (q.mono s r) m q4).kp kp⟩
        exact ⟨μ2, s.trans st, (ve.mono s r).mono st s.rel⟩
      · cases e
    · cases e
  · cases e

/-! ### comprehensions -/
def wipeE (ρ : Env) : List Nat → Env
  | [] => ρ
  | v :: vs => (wipeE ρ vs).set v none
theorem VE.wipe {ρ : Env} {σ : L2.St} (q : VE w μ H ρ σ) : ∀ vs : List Nat, VE w μ H (wipeE ρ vs) (wipe σ vs)
  | [] => q
  | v :: vs => by
    have ih := VE.wipe q vs
    refine ⟨by unfold L2.wipe wipeE; simp [ih.1], fun i d e => ?_⟩
    unfold wipeE at e
    unfold L2.wipe
    by_cases hv : v = i
    · subst hv
      by_cases hl : v < (wipeE ρ vs).length
      · rw [List.getElem?_set_self hl] at e; cases e
      · rw [List.getElem?_eq_none (by simpa using hl)] at e; cases e
    · rw [List.getElem?_set_ne hv] at e ⊢
      exact ih.2 i d e
def AtTs (X : Cx) (ifs : List Expr) : TT := fun σ H Q => ∀ pins s, Inv X pins σ H s → wpAny (model X.prog X.w) X.A (forIn ifs true fun c r => if r = true then do let ok ← isTrue c X.env (eval c X.env); pure (ForInStep.yield ok) else pure (ForInStep.yield r)) (TP X pins σ Q) X.xe s
theorem AtTs.pts {X : Cx} {ifs : List Expr} : PTs X ifs (AtTs X ifs) := ⟨fun pins s _ _ _ I h => h pins s I⟩
def SIf (T : GT) (k : Nat) (S : SC) (ifs : List Expr) (g : GB) : Prop := ∀ X, Good T k S X → ∀ ρ h b h', g ρ h = .ok b h' → ∀ μ σ H, VE T.wd μ H ρ σ → Rel T.wd μ H h → AtTs X ifs σ H (PoB T.wd μ H h' b)
def gYes : GB := fun _ h => .ok true h
theorem sif_nil : SIf T k S [] gYes := fun X g ρ h b h' e μ σ H ve r => by
  cases e; exact fun pins s I => pts_nil.run pins s σ H _ I ⟨rfl, μ, Stp.refl r⟩
theorem sif_one {c : Expr} {gc : GB} (sc : STt T k S c gc) : SIf T k S [c] gc := fun X g ρ h b h' e μ σ H ve r =>
  fun pins s I => (pts_one AtT.pt).run pins s σ H _ I (sc X g ρ h b h' e μ σ H ve r)
/-- the items of a comprehension: n turns from turn i on, acc so far -/
def lcLoop (it : IterD) (gt : GTg) (gf : GB) (ge : G) (ρ : Env) : Nat → Nat → List D → AH → R (List D)
  | 0, _, acc, h => if IterD.fin h it then .ok acc h else .bad
  | n + 1, i, acc, h => match IterD.get i h it with
    | none => .bad
    | some d => (gt d ρ h).bind fun ρ1 h1 => (gf ρ1 h1).bind fun b h2 =>
        if b then ((ge ρ1 h2).bind fun y h3 => if acc.length ≤ LIM then lcLoop it gt gf ge ρ n (i + 1) (acc ++ [y]) h3 else .bad) else lcLoop it gt gf ge ρ n (i + 1) acc h2
def gLc (gi : GI) (vs : List Nat) (gt : GTg) (gf : GB) (ge : G) : GA := fun ρ h => (gi ρ h).bind fun it h1 => lcLoop it gt gf ge (wipeE ρ vs) it.len 0 [] h1
theorem Stp.over {μ' : List Addr} {H' : Hp} {h' : AH} (s : Stp w μ H μ' H' h') {p : Addr} {o : HO} (h0 : H p = none) (hp : p ∉ μ') (hx : ∀ xs, H' p ≠ some (.tup xs)) (hf : ∀ x y, H' p ≠ some (.frz x y)) :
    Stp w μ H μ' (upd H' p o) h' ∧ Kp w μ' H' μ' (upd H' p o) := by
  have kp : Kp w μ' H' μ' (upd H' p o) := by
    refine .of (fun a u e => ?_) fun _ _ e => e
    by_cases ha : a = p
    · subst ha
      exact ⟨fun ys e' => absurd e' (hx ys), fun x y e' => absurd e' (hf x y)⟩
    · rw [upd_ne ha]; exact ⟨fun _ _ => e, fun _ _ _ => e⟩
  refine ⟨⟨s.ext, fun a u e ha => ?_, s.rel.len, s.rel.nd, fun n u e => ?_⟩, kp⟩
  · rw [upd_ne]
    · exact s.keep a u e ha
    · rintro rfl; rw [h0] at e; cases e
  · obtain ⟨a, ha, q⟩ := s.rel.obj n u e
    refine ⟨a, ha, q.kp kp ?_⟩
    rw [upd_ne]
    rintro rfl
    exact hp (List.mem_of_getElem? ha)
/-- the static world of a comprehension's block -/
def SC.blk (S : SC) (scope : Scope) : SC := ⟨S.N, relS scope S.sc, false⟩
theorem Good.blk {X : Cx} (g : Good T k S X) {s : Shared} {H : Hp} {scope : Scope} {C : Addr} {cl : List (Str × Addr)} {fp : List Addr} (hk : scope.kind = .function) : Good T k (S.blk scope) (X.blk s H scope (compEnvC scope cl C X.env) fp) :=
  ⟨g.prog, g.w, g.K, g.mg, g.base, g.N, by show relS scope X.env.scope = relS scope S.sc; rw [g.sc], g.calm, g.nd, g.room, g.gd, rfl, (fun z => nomatch z), hk, g.ok⟩
theorem sl_lc {elt tg iter : Expr} {ifs : List Expr} {scope : Scope} {own : List (Str × Nat)} {pos : Pos} {gi : GI} {gt : GTg} {gf : GB} {ge : G} {ixs : List Nat} (hN : blkC S.N S.sc scope own = true) (si : SI T k S tg iter gi)
    (st : SG T k (S.blk scope) tg ixs gt) (sf : SIf T k (S.blk scope) ifs gf) (se : SE T k (S.blk scope) elt ge) (hix : ∀ i ∈ ixs, i ∈ own.map (·.2)) (hs : ∀ env x, foldedSetIterable iter env x = pure x) :
    SL T k S (.ListComp elt [⟨tg, iter, ifs, 0⟩] scope pos) (gLc gi (own.map (·.2)) gt gf ge) ∧ ∀ X, Good T k S X → ∀ ρ h ds h', gLc gi (own.map (·.2)) gt gf ge ρ h = .ok ds h' → ∀ μ σ H, VE T.wd μ H ρ σ → Rel T.wd μ H h → ∀ Q : VK, (∀ v H', PoL T.wd μ H h' ds v H' → Q v H') →
      ∃ (wi : TI) (g : TG) (tt : TT) (te : TE), PI X tg iter wi ∧ (∀ (s : Shared) (H : Hp) (C : Addr) (cl : List (Str × Addr)) (fp : List Addr), PG (X.blk s H scope (compEnvC scope cl C X.env) fp) tg g) ∧
      (∀ (s : Shared) (H : Hp) (C : Addr) (cl : List (Str × Addr)) (fp : List Addr), PTs (X.blk s H scope (compEnvC scope cl C X.env) fp) ifs tt) ∧ (∀ (s : Shared) (H : Hp) (C : Addr) (cl : List (Str × Addr)) (fp : List Addr), PE (X.blk s H scope (compEnvC scope cl C X.env) fp) elt te) ∧
      tLc wi g tt te (own.map (·.2)) σ H Q := by
  have ok := blkOk_by hN
  have core : ∀ X, Good T k S X → ∀ ρ h ds h', gLc gi (own.map (·.2)) gt gf ge ρ h = .ok ds h' → ∀ μ σ H, VE T.wd μ H ρ σ → Rel T.wd μ H h → ∀ Q : VK, (∀ v H', PoL T.wd μ H h' ds v H' → Q v H') →
      ∃ (wi : TI) (g : TG) (tt : TT) (te : TE), PI X tg iter wi ∧ (∀ (s : Shared) (H : Hp) (C : Addr) (cl : List (Str × Addr)) (fp : List Addr), PG (X.blk s H scope (compEnvC scope cl C X.env) fp) tg g) ∧
      (∀ (s : Shared) (H : Hp) (C : Addr) (cl : List (Str × Addr)) (fp : List Addr), PTs (X.blk s H scope (compEnvC scope cl C X.env) fp) ifs tt) ∧ (∀ (s : Shared) (H : Hp) (C : Addr) (cl : List (Str × Addr)) (fp : List Addr), PE (X.blk s H scope (compEnvC scope cl C X.env) fp) elt te) ∧
      tLc wi g tt te (own.map (·.2)) σ H Q := by
    intro X g ρ h ds h' e μ σ H ve r Q hQ
    obtain ⟨it, h1, e1, e⟩ := R.bind_ok e
    -- the block's readings: what holds in every block
    refine ⟨AtI X tg iter, fun v σ H Q => ∀ s H' C cl fp, AtG (X.blk s H' scope (compEnvC scope cl C X.env) fp) tg v σ H Q, fun σ H Q => ∀ s H' C cl fp, AtTs (X.blk s H' scope (compEnvC scope cl C X.env) fp) ifs σ H Q,
      fun σ H Q => ∀ s H' C cl fp, At (X.blk s H' scope (compEnvC scope cl C X.env) fp) elt σ H Q, AtI.pi, fun s H C cl fp => ⟨fun pins s' σ H v u Q I rv q => q _ _ _ _ _ pins s' u I rv⟩, fun s H C cl fp => ⟨fun pins s' σ H Q I q => q _ _ _ _ _ pins s' I⟩,
      fun s H C cl fp => ⟨fun pins s' σ H Q I q => q _ _ _ _ _ pins s' I⟩, ?_⟩
    intro pins s I
    refine wpAny_mono (si X g ρ h it h1 e1 μ σ H ve r pins s I) (fun v s1 hv => wpAny_mono hv (fun itv s2 ⟨it', fp, tn, J, H1, ei, I2, Tn, st2, f2, μ1, s1', wk⟩ => ⟨it', fp, tn, J, H1, ei, I2, Tn, st2, f2, ?_⟩) fun _ _ z => z) fun _ _ z => z
    intro D hD
    have hD0 : H D = none := s1'.free hD
    have hDm : D ∉ μ1 := s1'.rel.fresh hD
    have ve1 := ve.mono s1' r
    have vw := ve1.wipe (own.map (·.2))
    -- the invariant
    refine ⟨fun i m H2 => m = it.len - i ∧ i ≤ it.len ∧ ∃ μ2 h2 acc xs, Stp T.wd μ1 H1 μ2 H2 h2 ∧ D ∉ μ2 ∧ H2 D = some (.lst xs) ∧ VRs T.wd μ2 H2 acc xs ∧ lcLoop it gt gf ge (wipeE ρ (own.map (·.2))) (it.len - i) i acc h2 = .ok ds h',
      ⟨it.len, rfl, Nat.zero_le _, μ1, h1, [], [], Stp.lay s1'.rel hD, hDm, upd_same, VRs.nil, e⟩, ?_⟩
    rintro i m H2 ⟨rfl, hi, μ2, h2, acc, xs, st2', hD2, eD, qa, el⟩
    by_cases hlt : i < it.len
    · refine .inr ?_
      have e3 : it.len - i = (it.len - (i + 1)) + 1 := by omega
      rw [e3] at el
      unfold lcLoop at el
      split at el
      · cases el
      · rename_i d ed
        obtain ⟨ρ1, h3, eg, el⟩ := R.bind_ok el
        obtain ⟨b, h4, ef, el⟩ := R.bind_ok el
        refine ⟨wk.goes i μ2 H2 h2 d hlt st2' ed, fun H' => ∃ μ2 h2 acc xs, Stp T.wd μ1 H1 μ2 H' h2 ∧ D ∉ μ2 ∧ H' D = some (.lst xs) ∧ VRs T.wd μ2 H' acc xs ∧ lcLoop it gt gf ge (wipeE ρ (own.map (·.2))) (it.len - (i + 1)) (i + 1) acc h2 = .ok ds h',
          fun H' q => ⟨it.len - (i + 1), by omega, rfl, hlt, q⟩, fun x H3 y => ?_⟩
        obtain ⟨sy, qx⟩ := wk.yields i μ2 H2 h2 d x H3 hlt st2' ed y
        have eD3 := sy.keep D _ eD hD2
        intro sh Hb C cl fp'
        have gb : Good T k (S.blk scope) (X.blk sh Hb scope (compEnvC scope cl C X.env) fp') := g.blk ok.kind
        refine (st _ gb d _ h2 ρ1 h3 eg μ2 _ H3 x ((vw.mono st2' s1'.rel).mono sy st2'.rel) sy.rel qx).mono fun σ2 H4 ⟨⟨μ4, s4, ve4⟩, hw⟩ => ?_
        have eD4 := s4.keep D _ eD3 hD2
        have hD4 := s4.notin eD3 hD2
        refine ⟨?_, fun sh Hb C cl fp' => ?_⟩
        · rw [hw _ hix]
          -- wipe is idempotent
          have idem : ∀ (vs ws : List Nat) (σ : L2.St), (∀ v ∈ vs, v ∈ ws) → wipe (wipe σ vs) ws = wipe σ ws := by
            intro vs
            induction vs with
            | nil => intro ws σ _; rfl
            | cons v vs ih =>
              intro ws σ hm
              show wipe ((wipe σ vs).set v none) ws = _
              rw [wipe_set (hm v List.mem_cons_self), ih ws σ fun u hu => hm u (List.mem_cons_of_mem _ hu)]
          exact idem _ _ _ fun v hv => hv
        have gb : Good T k (S.blk scope) (X.blk sh Hb scope (compEnvC scope cl C X.env) fp') := g.blk ok.kind
        intro pins' s' I'
        refine thn (sf _ gb ρ1 h3 b h4 ef μ4 σ2 H4 ve4 s4.rel pins' s' I') fun c s'' ⟨H5, I5, ec, μ5, s5⟩ => ⟨H5, I5, ?_⟩
        subst ec
        have eD5 := s5.keep D _ eD4 hD4
        have hD5 := s5.notin eD4 hD4
        have sAll := ((st2'.trans sy).trans s4).trans s5
        have qa5 := (((qa.mono sy st2'.rel).mono s4 sy.rel).mono s5 s4.rel)
        cases c with
        | false => exact ⟨μ5, h4, acc, xs, sAll, hD5, eD5, qa5, el⟩
        | true =>
          simp only [if_true] at el ⊢
          obtain ⟨y, h5, ey, el⟩ := R.bind_ok el
          intro sh Hb C cl fp'
          have gb : Good T k (S.blk scope) (X.blk sh Hb scope (compEnvC scope cl C X.env) fp') := g.blk ok.kind
          refine (se _ gb ρ1 h4 y h5 ey μ5 σ2 H5 (ve4.mono s5 s4.rel) s5.rel).mono fun vy H6 ⟨μ6, s6, qy⟩ => ?_
          have eD6 := s6.keep D _ eD5 hD5
          have hD6 := s6.notin eD5 hD5
          split at el
          · rename_i hl
            refine ⟨xs, eD6, lim_lt (by rw [qa.length]; exact hl), μ6, h5, acc ++ [y], xs ++ [vy], ?_⟩
            obtain ⟨so, ko⟩ := Stp.over (o := .lst (xs ++ [vy])) (sAll.trans s6) hD hD6 (by intro z q; rw [eD6] at q; cases q) (by intro z u q; rw [eD6] at q; cases q)
            exact ⟨so, hD6, upd_same, ((qa5.mono s6 s5.rel).append (VRs.cons qy VRs.nil)).kp ko, el⟩
          · cases el
    · have hi' : i = it.len := by omega
      subst hi'
      refine .inl ?_
      rw [Nat.sub_self] at el
      unfold lcLoop at el
      split at el
      · rename_i hf
        cases el
        exact ⟨wk.stops μ2 H2 h' st2' hf, hQ _ _ ⟨μ2, D, xs, rfl, eD, hD2, hD0, s1'.trans st2', qa⟩⟩
      · cases el
  refine ⟨fun X g ρ h ds h' e μ σ H ve r => ?_, core⟩
  obtain ⟨wi, g', tt, te, hi, hg, ht, he, q⟩ := core X g ρ h ds h' e μ σ H ve r _ fun _ _ z => z
  exact At.of (pe_lc g.calm g.nd hi (by rw [g.N, g.sc]; exact ok) hg ht he (hs _)) q
end
end CM

/-! CM, part h: slices, attributes; statements. -/
namespace CM
open PySem L2 PySem.Spec PyProof.Rows
section
variable {T : GT} {k : Nat} {S : SC} {w : Wd} {μ : List Addr} {H : Hp} {h : AH}
/-! ### slices -/
def cutD (xs : List D) (lo hi : Option Int) : List D := (xs.drop (HT.sIx xs.length 0 lo)).take (HT.sIx xs.length xs.length hi - HT.sIx xs.length 0 lo)
theorem VRs.cut {ds : List D} {vs : List V} (q : VRs w μ H ds vs) (lo hi : Option Int) : VRs w μ H (cutD ds lo hi) (cutV vs lo hi) := by
  unfold cutD cutV
  rw [q.length]
  exact (q.drop _).take _
def SlAt (X : Cx) : V → Option Int → Option Int → Hp → VK → Prop := fun x lo hi H Q => ∀ pins s σ v vl vu sl, Inv X pins σ H s → RelV x v → s.heap.IsSliceOf sl vl vu .none → IsPart vl lo → IsPart vu hi →
  ∃ T id, typeLookup (.type T) "__getitem__" = pure (some (.builtin id)) ∧ s.TypeIs v T ∧ wpAny (model X.prog X.w) X.A (getItem v (.ref sl)) (EP X pins σ Q) X.xe s
theorem SlAt.sr {X : Cx} : SlR X (SlAt X) := fun pins s σ _ _ v vl vu _ _ sl _ I rx hs pl pu q => q pins s σ v vl vu sl I rx hs pl pu
theorem SlAt.of {X : Cx} {r : V → Option Int → Option Int → Hp → VK → Prop} {x : V} {lo hi : Option Int} {Q : VK} (hr : SlR X r) (q : r x lo hi H Q) : SlAt X x lo hi H Q := fun pins s σ v vl vu sl I rx hs pl pu => hr pins s σ H x v vl vu lo hi sl Q I rx hs pl pu q
abbrev GO := Env → AH → R (Option Int)
def AtO (X : Cx) (e : Option Expr) : TO := fun σ H Q => ∀ pins s, Inv X pins σ H s → wpAny (model X.prog X.w) X.A (evalPart e X.env) (fun u s' => ∃ o H', Inv X pins σ H' s' ∧ IsPart u o ∧ Q o H') X.xe s
theorem AtO.po {X : Cx} {e : Option Expr} : PO X e (AtO X e) := ⟨fun pins s _ _ _ I h => h pins s I⟩
def SO (T : GT) (k : Nat) (S : SC) (e : Option Expr) (g : GO) : Prop := ∀ X, Good T k S X → ∀ ρ h o h', g ρ h = .ok o h' → ∀ μ σ H, VE T.wd μ H ρ σ → Rel T.wd μ H h → AtO X e σ H (fun o' H' => o' = o ∧ ∃ μ', Stp T.wd μ H μ' H' h')
def goNone : GO := fun _ h => .ok none h
def goSome (g : G) : GO := fun ρ h => (g ρ h).bind fun d h1 => match d with | .int i => .ok (some i) h1 | _ => .bad
theorem so_none : SO T k S none goNone := fun X g ρ h o h' e μ σ H ve r => by
  cases e; exact fun pins s I => po_none.run pins s σ H _ I ⟨rfl, μ, Stp.refl r⟩
theorem so_some {e : Expr} {ge : G} (s : SE T k S e ge) : SO T k S (some e) (goSome ge) := by
  intro X g ρ h o h' eq μ σ H ve r
  obtain ⟨d, h1, ea, eq⟩ := R.bind_ok eq
  split at eq
  · rename_i i
    cases eq
    intro pins st I
    refine (po_some At.pe).run pins st σ H _ I ((s X g ρ h _ _ ea μ σ H ve r).mono fun v H1 ⟨μ1, s1, q1⟩ => ⟨i, q1, rfl, μ1, s1⟩)
  · cases eq
def slD (h : AH) (x : D) (lo hi : Option Int) : R D := match x with
  | .tup ds => .ok (.tup (cutD ds lo hi)) h
  | .str z => if z.length ≤ LIM then .ok (.str (cutS z lo hi)) h else .bad
  | .obj n => (match h[n]? with | some (.lst ds) => .ok (.obj h.length) (h ++ [.lst (cutD ds lo hi)]) | _ => .bad)
  | _ => .bad
theorem cut_whole {α : Type} {xs : List α} {a b : Nat} (ha : a = 0) (hb : b = xs.length) : (xs.drop a).take (b - a) = xs := by subst ha hb; simp
theorem slD_ok {X : Cx} (g : Good T k S X) {x : D} {lo hi : Option Int} {d : D} {h' : AH} (e : slD h x lo hi = .ok d h') {vx : V} (r : Rel T.wd μ H h) (qx : VR T.wd μ H x vx) : SlAt X vx lo hi H (Po T.wd μ H h' d) := by
  unfold slD at e
  split at e
  · rename_i ds
    cases e
    obtain ⟨p, xs, rfl, q1, q2⟩ := qx
    refine SlAt.of sl_tupA ⟨p, xs, rfl, by rw [g.K]; exact q1, fun hw => ?_, fun _ t ht => po_tup r ht (q2.cut lo hi)⟩
    have e1 : cutD ds lo hi = ds := by
      unfold cutD
      rw [← q2.length]
      exact cut_whole hw.1 (by rw [hw.2, q2.length])
    rw [e1]
    exact po_same r ⟨p, xs, rfl, q1, q2⟩
  · rename_i z
    split at e
    · rename_i hl
      cases e
      cases qx
      exact SlAt.of sl_str ⟨z, rfl, lim_le hl, po_same r rfl⟩
    · cases e
  · rename_i n
    split at e
    · rename_i ds e1
      cases e
      obtain ⟨p, xs, rfl, _, e2, q2⟩ := lst_vr r e1 qx
      exact SlAt.of sl_list ⟨p, xs, rfl, SqL.of e2, fun t ht => (pol_new r ht (q2.cut lo hi)).num⟩
    · cases e
  · cases e
def gSl (ge : G) (gl gh : GO) : G := fun ρ h => (ge ρ h).bind fun x h1 => (gl ρ h1).bind fun lo h2 => (gh ρ h2).bind fun hi h3 => slD h3 x lo hi
theorem se_slice {e : Expr} {lo hi : Option Expr} {p2 pos : Pos} {ge : G} {gl gh : GO} (s : SE T k S e ge) (sl : SO T k S lo gl) (sh : SO T k S hi gh) : SE T k S (.Subscript e (.Slice lo hi none p2) pos) (gSl ge gl gh) := by
  intro X g ρ h d h' eq μ σ H ve r
  obtain ⟨x, h1, e1, eq1⟩ := R.bind_ok eq
  obtain ⟨o1, h2, e2, eq2⟩ := R.bind_ok eq1
  obtain ⟨o2, h3, e3, eq3⟩ := R.bind_ok eq2
  refine At.of (pe_slice SlAt.sr At.pe AtO.po AtO.po) ((s X g ρ h x h1 e1 μ σ H ve r).mono fun vx H1 ⟨μ1, s1, q1⟩ => ?_)
  intro pins st I
  refine thn (sl X g ρ h1 o1 h2 e2 μ1 σ H1 (ve.mono s1 r) s1.rel pins st I) fun u st2 ⟨o', H2, I2, ip, eo, μ2, s2⟩ => ⟨o', H2, I2, ip, ?_⟩
  subst eo
  intro pins st I
  refine thn (sh X g ρ h2 o2 h3 e3 μ2 σ H2 ((ve.mono s1 r).mono s2 s1.rel) s2.rel pins st I) fun u st2 ⟨o'', H3, I3, ip, eo, μ3, s3⟩ => ⟨o'', H3, I3, ip, ?_⟩
  subst eo
  intro pins st sg v vl vu sl' I rx hs pl pu
  obtain ⟨Tn, id, a1, a2, a3⟩ := slD_ok g eq3 s3.rel ((q1.mono s2 s1.rel).mono s3 s2.rel) pins st sg v vl vu sl' I rx hs pl pu
  exact ⟨Tn, id, a1, a2, thn a3 fun _ _ ⟨v, H', I', r, z⟩ => ⟨v, H', I', r, Po.trans ((s1.trans s2).trans s3) z⟩⟩

/-! ### statements -/
inductive Fl where
  | nx | rt (d : D) | bk | ct
abbrev GS := Env → AH → R (Fl × Env)
/-- what is wanted behind a statement that ends so -/
def EndsOk (w : Wd) (μ : List Addr) (H : Hp) (h' : AH) (fl : Fl) (ρ' : Env) (D : Ends) : Prop := match fl with
  | .nx => ∀ μ' σ' H', Stp w μ H μ' H' h' → VE w μ' H' ρ' σ' → D.nx σ' H'
  | .rt d => ∀ μ' v H', Stp w μ H μ' H' h' → VR w μ' H' d v → D.rt v H'
  | .bk => ∀ μ' σ' H', Stp w μ H μ' H' h' → VE w μ' H' ρ' σ' → D.bk σ' H'
  | .ct => ∀ μ' σ' H', Stp w μ H μ' H' h' → VE w μ' H' ρ' σ' → D.ct σ' H'
theorem EndsOk.trans {μ1 : List Addr} {H1 : Hp} {h1 h' : AH} {fl : Fl} {ρ' : Env} {D : Ends} (s : Stp w μ H μ1 H1 h1) (q : EndsOk w μ H h' fl ρ' D) : EndsOk w μ1 H1 h' fl ρ' D := by
  cases fl with
  | nx => exact fun μ' σ' H' s' v => q μ' σ' H' (s.trans s') v
  | rt d => exact fun μ' σ' H' s' v => q μ' σ' H' (s.trans s') v
  | bk => exact fun μ' σ' H' s' v => q μ' σ' H' (s.trans s') v
  | ct => exact fun μ' σ' H' s' v => q μ' σ' H' (s.trans s') v
def SS (T : GT) (k : Nat) (S : SC) (st : Stmt) (g : GS) : Prop := ∀ X, Good T k S X → ∀ ρ h fl ρ' h', g ρ h = .ok (fl, ρ') h' → ∀ μ σ H D, VE T.wd μ H ρ σ → Rel T.wd μ H h → EndsOk T.wd μ H h' fl ρ' D → AtS X st D σ H
def SSs (T : GT) (k : Nat) (S : SC) (st : List Stmt) (g : GS) : Prop := ∀ X, Good T k S X → ∀ ρ h fl ρ' h', g ρ h = .ok (fl, ρ') h' → ∀ μ σ H D, VE T.wd μ H ρ σ → Rel T.wd μ H h → EndsOk T.wd μ H h' fl ρ' D → AtSs X st D σ H
def gsNil : GS := fun ρ h => .ok (.nx, ρ) h
def gsSeq (a b : GS) : GS := fun ρ h => (a ρ h).bind fun p h1 => match p with | (.nx, ρ1) => b ρ1 h1 | q => .ok q h1
theorem sss_nil : SSs T k S [] gsNil := fun X g ρ h fl ρ' h' e μ σ H D ve r q => by
  cases e; exact AtSs.of pss_nil (q μ σ H (Stp.refl r) ve)
theorem sss_cons {st : Stmt} {sts : List Stmt} {ga gb : GS} (sa : SS T k S st ga) (sb : SSs T k S sts gb) : SSs T k S (st :: sts) (gsSeq ga gb) := by
  intro X g ρ h fl ρ' h' e μ σ H D ve r q
  obtain ⟨⟨f1, ρ1⟩, h1, e1, e⟩ := R.bind_ok e
  refine AtSs.of (pss_cons AtS.ps AtSs.pss) ?_
  cases f1 with
  | nx => exact sa X g ρ h .nx ρ1 h1 e1 μ σ H _ ve r fun μ1 σ1 H1 s1 ve1 => sb X g ρ1 h1 fl ρ' h' e μ1 σ1 H1 D ve1 s1.rel (q.trans s1)
  | rt d => cases e; exact sa X g ρ h _ _ _ e1 μ σ H _ ve r q
  | bk => cases e; exact sa X g ρ h _ _ _ e1 μ σ H _ ve r q
  | ct => cases e; exact sa X g ρ h _ _ _ e1 μ σ H _ ve r q
theorem ss_pass {pos : Pos} : SS T k S (.Pass pos) gsNil := fun X g ρ h fl ρ' h' e μ σ H D ve r q => by
  cases e; exact AtS.of ps_pass (q μ σ H (Stp.refl r) ve)
def gsBrk : GS := fun ρ h => .ok (.bk, ρ) h
def gsCt : GS := fun ρ h => .ok (.ct, ρ) h
theorem ss_break {pos : Pos} : SS T k S (.Break pos) gsBrk := fun X g ρ h fl ρ' h' e μ σ H D ve r q => by
  cases e; exact AtS.of ps_break (q μ σ H (Stp.refl r) ve)
theorem ss_continue {pos : Pos} : SS T k S (.Continue pos) gsCt := fun X g ρ h fl ρ' h' e μ σ H D ve r q => by
  cases e; exact AtS.of ps_continue (q μ σ H (Stp.refl r) ve)
def gsBad : GS := fun _ _ => .bad
theorem ss_bad {st : Stmt} : SS T k S st gsBad := fun X g ρ h fl ρ' h' e => nomatch e
def gsExpr (ge : G) : GS := fun ρ h => (ge ρ h).bind fun _ h1 => .ok (.nx, ρ) h1
theorem ss_expr {e : Expr} {pos : Pos} {ge : G} (s : SE T k S e ge) (hs : ∀ env, swapsWith e none pos.line env = pure false) : SS T k S (.Expr e pos) (gsExpr ge) := by
  intro X g ρ h fl ρ' h' eq μ σ H D ve r q
  obtain ⟨d, h1, e1, eq⟩ := R.bind_ok eq
  cases eq
  exact AtS.of (ps_expr At.pe (hs _)) ((s X g ρ h d _ e1 μ σ H ve r).mono fun v H1 ⟨μ1, s1, _⟩ => q μ1 σ H1 s1 (ve.mono s1 r))
def gsRet (ge : G) : GS := fun ρ h => (ge ρ h).bind fun d h1 => .ok (.rt d, ρ) h1
theorem ss_ret {e : Expr} {pos : Pos} {ge : G} (s : SE T k S e ge) : SS T k S (.Return (some e) pos) (gsRet ge) := by
  intro X g ρ h fl ρ' h' eq μ σ H D ve r q
  obtain ⟨d, h1, e1, eq⟩ := R.bind_ok eq
  cases eq
  exact AtS.of (ps_ret At.pe) ((s X g ρ h d _ e1 μ σ H ve r).mono fun v H1 ⟨μ1, s1, q1⟩ => q μ1 v H1 s1 q1)
def gsRetN : GS := fun ρ h => .ok (.rt .non, ρ) h
theorem ss_retN {pos : Pos} : SS T k S (.Return none pos) gsRetN := fun X g ρ h fl ρ' h' e μ σ H D ve r q => by
  cases e; exact AtS.of ps_retN (q μ .non H (Stp.refl r) rfl)
def gsIf (gt : GB) (ga gb : GS) : GS := fun ρ h => (gt ρ h).bind fun b h1 => if b then ga ρ h1 else gb ρ h1
theorem ss_if {t : Expr} {a b : List Stmt} {pos : Pos} {gt : GB} {ga gb : GS} (st : STt T k S t gt) (sa : SSs T k S a ga) (sb : SSs T k S b gb) : SS T k S (.If t a b pos) (gsIf gt ga gb) := by
  intro X g ρ h fl ρ' h' e μ σ H D ve r q
  obtain ⟨b', h1, e1, e⟩ := R.bind_ok e
  refine AtS.of (ps_if AtT.pt AtSs.pss AtSs.pss) ((st X g ρ h b' h1 e1 μ σ H ve r).mono fun c H1 ⟨ec, μ1, s1⟩ => ?_)
  subst ec
  cases c with
  | true => exact sa X g ρ h1 fl ρ' h' e μ1 σ H1 D (ve.mono s1 r) s1.rel (q.trans s1)
  | false => exact sb X g ρ h1 fl ρ' h' e μ1 σ H1 D (ve.mono s1 r) s1.rel (q.trans s1)
/-- target = value -/
def gsAsg (ge : G) (gt : GTg) : GS := fun ρ h => (ge ρ h).bind fun d h1 => (gt d ρ h1).bind fun ρ1 h2 => .ok (.nx, ρ1) h2
theorem ss_asg {tg e : Expr} {pos : Pos} {ge : G} {gt : GTg} {ixs : List Nat} (s : SE T k S e ge) (sg : SG T k S tg ixs gt) (hs : ∀ env, swapsWithSole [tg] e pos.line env = pure false) (hw : ∀ env, env.scope = S.sc → swappedStores [tg] e env = pure none)
    (h1 : ∀ env, (assignEach [tg] env).map (·.2) = [assign tg env]) : SS T k S (.Assign [tg] e pos) (gsAsg ge gt) := by
  intro X g ρ h fl ρ' h' eq μ σ H D ve r q
  obtain ⟨d, h2, e1, eq⟩ := R.bind_ok eq
  obtain ⟨ρ1, h3, e2, eq⟩ := R.bind_ok eq
  cases eq
  refine AtS.of (ps_asg At.pe AtG.pg (hs _) (hw _ g.sc) (h1 _)) ((s X g ρ h d h2 e1 μ σ H ve r).mono fun v H1 ⟨μ1, s1, q1⟩ => ?_)
  exact (sg X g d ρ h2 _ _ e2 μ1 σ H1 v (ve.mono s1 r) s1.rel q1).mono fun σ2 H2 ⟨⟨μ2, s2, ve2⟩, _⟩ => q μ2 σ2 H2 (s1.trans s2) ve2
theorem ss_set {i : Nat} {x : Str} {e : Expr} {pos pos' : Pos} {ge : G} (s : SE T k S e ge) (hi : S.N[i]? = some x) (hx : S.sc.names.lookup x = some .local ∨ (S.top = true ∧ S.sc.names.lookup x = some .cell))
    (hs : ∀ env, env.scope = S.sc → swapsWith e (some (.Name x pos')) pos.line env = pure false) : SS T k S (.Assign [.Name x pos'] e pos) (gsAsg ge (gtName i)) := by
  intro X g ρ h fl ρ' h' eq μ σ H D ve r q
  obtain ⟨d, h2, e1, eq⟩ := R.bind_ok eq
  cases eq
  refine AtS.of (ps_set (i := i) g.nd (by rw [g.N]; exact hi) ?_ At.pe (hs _ g.sc) ?_) ((s X g ρ h d _ e1 μ σ H ve r).mono fun v H1 ⟨μ1, s1, q1⟩ => q μ1 _ H1 s1 ((ve.mono s1 r).set q1 i))
  · rcases hx with hx | ⟨_, hx⟩
    · exact .inl (by rw [g.sc]; exact hx)
    · exact .inr (by rw [g.sc]; exact hx)
  · rcases hx with hx | ⟨ht, hx⟩
    · exact .inr (by rw [g.sc]; exact hx)
    · exact .inl (g.fn ht x)
/-- name = [..], the model's own statement -/
theorem ss_setLc {i : Nat} {y : Str} {py : Pos} {elt tg iter : Expr} {ifs : List Expr} {scope : Scope} {own : List (Str × Nat)} {pos spos : Pos} {gi : GI} {gt : GTg} {gf : GB} {ge : G} {ixs : List Nat} (hN : blkC S.N S.sc scope own = true) (si : SI T k S tg iter gi)
    (st : SG T k (S.blk scope) tg ixs gt) (sf : SIf T k (S.blk scope) ifs gf) (se : SE T k (S.blk scope) elt ge) (hix : ∀ i ∈ ixs, i ∈ own.map (·.2)) (hs : ∀ env x, foldedSetIterable iter env x = pure x)
    (hi : S.N[i]? = some y) (hyl : S.sc.names.lookup y = some .local) (hsw : ∀ env, env.scope = S.sc → swapsWith (.ListComp elt [⟨tg, iter, ifs, 0⟩] scope pos) (some (.Name y py)) spos.line env = pure true) :
    SS T k S (.Assign [.Name y py] (.ListComp elt [⟨tg, iter, ifs, 0⟩] scope pos) spos) (gsAsg (gAlloc (gLc gi (own.map (·.2)) gt gf ge)) (gtName i)) := by
  intro X g ρ h fl ρ' h' eq μ σ H D ve r q
  obtain ⟨d, h2, e1, eq⟩ := R.bind_ok eq
  cases eq
  obtain ⟨ds, h3, e2, e1⟩ := R.bind_ok e1
  cases e1
  obtain ⟨wi, g', tt, te, pi, pg, pt, pe, z⟩ := (sl_lc (pos := pos) hN si st sf se hix hs).2 X g ρ h ds h3 e2 μ σ H ve r (fun v H' => D.nx (σ.set i (some v)) H') fun v H' q' => by
    obtain ⟨μ', st', vr⟩ := PoL.num q'
    exact q μ' _ H' st' ((ve.mono st' r).set vr i)
  exact AtS.of (ps_setLc (i := i) g.calm g.nd (by rw [g.N]; exact hi) (by rw [g.sc]; exact hyl) (hsw _ g.sc) pi (by rw [g.N, g.sc]; exact blkOk_by hN) pg pt pe (hs _)) z
/-! ### for -/
def forLoop (it : IterD) (gt : GTg) (gb : GS) : Nat → Nat → Env → AH → R (Fl × Env)
  | 0, _, ρ, h => if IterD.fin h it then .ok (.nx, ρ) h else .bad
  | n + 1, i, ρ, h => match IterD.get i h it with
    | none => .bad
    | some d => (gt d ρ h).bind fun ρ1 h1 => (gb ρ1 h1).bind fun p h2 => match p with
      | (.nx, ρ2) => forLoop it gt gb n (i + 1) ρ2 h2
      | (.ct, ρ2) => forLoop it gt gb n (i + 1) ρ2 h2
      | (.bk, ρ2) => .ok (.nx, ρ2) h2
      | (.rt d, ρ2) => .ok (.rt d, ρ2) h2
def gsFor (gi : GI) (gt : GTg) (gb : GS) : GS := fun ρ h => (gi ρ h).bind fun it h1 => forLoop it gt gb it.len 0 ρ h1
theorem Good.own {X : Cx} (g : Good T k S X) : PassesOwn (model X.prog X.w) X.A X.env X.xe := by
  rw [g.xe]; exact PassesOwn.never
theorem ss_for {tg iter : Expr} {body : List Stmt} {pos : Pos} {gi : GI} {gt : GTg} {gb : GS} {ixs : List Nat} (si : SI T k S tg iter gi) (st : SG T k S tg ixs gt) (sb : SSs T k S body gb) (hs : ∀ env x, foldedSetIterable iter env x = pure x) :
    SS T k S (.For tg iter body [] pos) (gsFor gi gt gb) := by
  intro X g ρ h fl ρ' h' e μ σ H D ve r q
  obtain ⟨it, h1, e1, e⟩ := R.bind_ok e
  refine AtS.of (ps_for g.own g.calm AtI.pi AtG.pg AtSs.pss (hs _)) ?_
  intro pins s I
  refine wpAny_mono (si X g ρ h it h1 e1 μ σ H ve r pins s I) (fun v s1 hv => wpAny_mono hv (fun itv s2 ⟨it', fp, tn, J, H1, ei, I2, Tn, st2, f2, μ1, s1', wk⟩ => ⟨it', fp, tn, J, H1, ei, I2, Tn, st2, f2, ?_⟩) fun _ _ z => z) fun _ _ z => z
  refine ⟨fun i m σ2 H2 => m = it.len - i ∧ i ≤ it.len ∧ ∃ μ2 h2 ρ2, Stp T.wd μ1 H1 μ2 H2 h2 ∧ VE T.wd μ2 H2 ρ2 σ2 ∧ forLoop it gt gb (it.len - i) i ρ2 h2 = .ok (fl, ρ') h',
    ⟨it.len, rfl, Nat.zero_le _, μ1, h1, ρ, Stp.refl s1'.rel, ve.mono s1' r, e⟩, ?_⟩
  rintro i m σ2 H2 ⟨rfl, hi, μ2, h2, ρ2, st2', ve2, el⟩
  by_cases hlt : i < it.len
  · refine .inr ?_
    have e3 : it.len - i = (it.len - (i + 1)) + 1 := by omega
    rw [e3] at el
    unfold forLoop at el
    split at el
    · cases el
    · rename_i d ed
      obtain ⟨ρ3, h3, eg, el⟩ := R.bind_ok el
      obtain ⟨⟨f4, ρ4⟩, h4, eb, el⟩ := R.bind_ok el
      refine ⟨wk.goes i μ2 H2 h2 d hlt st2' ed, fun σ' H' => ∃ μ2 h2 ρ2, Stp T.wd μ1 H1 μ2 H' h2 ∧ VE T.wd μ2 H' ρ2 σ' ∧ forLoop it gt gb (it.len - (i + 1)) (i + 1) ρ2 h2 = .ok (fl, ρ') h',
        fun σ' H' z => ⟨it.len - (i + 1), by omega, rfl, hlt, z⟩, fun x H3 y => ?_⟩
      obtain ⟨sy, qx⟩ := wk.yields i μ2 H2 h2 d x H3 hlt st2' ed y
      refine (st X g d ρ2 h2 ρ3 h3 eg μ2 σ2 H3 x (ve2.mono sy st2'.rel) sy.rel qx).mono fun σ4 H4 ⟨⟨μ4, s4, ve4⟩, _⟩ => ?_
      have sAll := (st2'.trans sy).trans s4
      refine sb X g ρ3 h3 f4 ρ4 h4 eb μ4 σ4 H4 _ ve4 s4.rel ?_
      cases f4 with
      | nx => exact fun μ5 σ5 H5 s5 ve5 => ⟨μ5, h4, ρ4, sAll.trans s5, ve5, el⟩
      | ct => exact fun μ5 σ5 H5 s5 ve5 => ⟨μ5, h4, ρ4, sAll.trans s5, ve5, el⟩
      | bk =>
        cases el
        exact fun μ5 σ5 H5 s5 ve5 => q μ5 σ5 H5 ((s1'.trans sAll).trans s5) ve5
      | rt d =>
        cases el
        exact fun μ5 v H5 s5 v5 => q μ5 v H5 ((s1'.trans sAll).trans s5) v5
  · have hi' : i = it.len := by omega
    subst hi'
    refine .inl ?_
    rw [Nat.sub_self] at el
    unfold forLoop at el
    split at el
    · rename_i hf
      cases el
      exact ⟨wk.stops μ2 H2 h' st2' hf, q μ2 σ2 H2 (s1'.trans st2') ve2⟩
    · cases el
/-! ### while -/
def whLoop (gt : GB) (gb : GS) : Nat → Env → AH → R (Fl × Env)
  | 0, _, _ => .bad
  | n + 1, ρ, h => (gt ρ h).bind fun b h1 => if b then ((gb ρ h1).bind fun p h2 => match p with
      | (.nx, ρ2) => whLoop gt gb n ρ2 h2
      | (.ct, ρ2) => whLoop gt gb n ρ2 h2
      | (.bk, ρ2) => .ok (.nx, ρ2) h2
      | (.rt d, ρ2) => .ok (.rt d, ρ2) h2) else .ok (.nx, ρ) h1
theorem ss_while {n : Nat} {t : Expr} {body : List Stmt} {pos : Pos} {gt : GB} {gb : GS} (st : STt T k S t gt) (sb : SSs T k S body gb) : SS T k S (.While t body [] pos) (whLoop gt gb n) := by
  intro X g ρ h fl ρ' h' e μ σ H D ve r q
  refine AtS.of (ps_while g.own AtT.pt AtSs.pss) ?_
  refine ⟨fun m σ2 H2 => ∃ μ2 h2 ρ2, Stp T.wd μ H μ2 H2 h2 ∧ VE T.wd μ2 H2 ρ2 σ2 ∧ whLoop gt gb m ρ2 h2 = .ok (fl, ρ') h', ⟨n, μ, h, ρ, Stp.refl r, ve, e⟩, ?_⟩
  rintro m σ2 H2 ⟨μ2, h2, ρ2, s2, ve2, el⟩
  cases m with
  | zero => cases el
  | succ m =>
    unfold whLoop at el
    obtain ⟨b, h3, eb, el⟩ := R.bind_ok el
    refine (st X g ρ2 h2 b h3 eb μ2 σ2 H2 ve2 s2.rel).mono fun c H3 ⟨ec, μ3, s3⟩ => ?_
    subst ec
    cases c with
    | false =>
      cases el
      exact q μ3 σ2 H3 (s2.trans s3) (ve2.mono s3 s2.rel)
    | true =>
      simp only [if_true] at el ⊢
      obtain ⟨⟨f4, ρ4⟩, h4, eb, el⟩ := R.bind_ok el
      refine ⟨fun σ' H' => ∃ μ2 h2 ρ2, Stp T.wd μ H μ2 H' h2 ∧ VE T.wd μ2 H' ρ2 σ' ∧ whLoop gt gb m ρ2 h2 = .ok (fl, ρ') h', fun σ' H' z => ⟨m, Nat.lt_succ_self m, z⟩, ?_⟩
      have sAll := s2.trans s3
      refine sb X g ρ2 h3 f4 ρ4 h4 eb μ3 σ2 H3 _ (ve2.mono s3 s2.rel) s3.rel ?_
      cases f4 with
      | nx => exact fun μ5 σ5 H5 s5 ve5 => ⟨μ5, h4, ρ4, sAll.trans s5, ve5, el⟩
      | ct => exact fun μ5 σ5 H5 s5 ve5 => ⟨μ5, h4, ρ4, sAll.trans s5, ve5, el⟩
      | bk =>
        cases el
        exact fun μ5 σ5 H5 s5 ve5 => q μ5 σ5 H5 (sAll.trans s5) ve5
      | rt d =>
        cases el
        exact fun μ5 v H5 s5 v5 => q μ5 v H5 (sAll.trans s5) v5
/-! ### a, b = x, y: the pair itself is not kept -/
def gsPar (i j : Nat) (ga : GA) : GS := fun ρ h => (ga ρ h).bind fun ds h1 => match ds with | [x, y] => .ok (.nx, (ρ.set i (some x)).set j (some y)) h1 | _ => .bad
theorem ss_par {i j : Nat} {x y : Str} {a b : Expr} {ga : GA} {px py pt pos : Pos} {kt k2 : Nat} {pt2 : Pos} (sa : SA T k S [a, b] ga) (hi : S.N[i]? = some x) (hj : S.N[j]? = some y) (hij : i ≠ j) (hx : S.sc.names.lookup x = some .local) (hy : S.sc.names.lookup y = some .local)
    (hw : ∀ env, env.scope = S.sc → swappedStores [.Tuple [.Name x px, .Name y py] kt pt] (.Tuple [a, b] k2 pt2) env = pure (some [x, y])) : SS T k S (.Assign [.Tuple [.Name x px, .Name y py] kt pt] (.Tuple [a, b] k2 pt2) pos) (gsPar i j ga) := by
  intro X g ρ h fl ρ' h' e μ σ H D ve r q
  obtain ⟨ds, h1, e1, e⟩ := R.bind_ok e
  split at e
  · rename_i dx dy
    cases e
    refine AtS.of (ps_par (i := i) (j := j) g.calm g.nd (by rw [g.N]; exact hi) (by rw [g.N]; exact hj) hij (by rw [g.sc]; exact hx) (by rw [g.sc]; exact hy) AtA.pa (hw _ g.sc) (by rfl)) ((sa X g ρ h _ _ e1 μ σ H ve r).mono fun vs H1 ⟨μ1, s1, q1⟩ => ?_)
    obtain ⟨v, u, rfl, q2, q3⟩ := vrs2 q1
    exact ⟨v, u, rfl, q μ1 _ H1 s1 (((ve.mono s1 r).set q2 i).set q3 j)⟩
  · cases e
/-! ### a def by its body -/
def runBody (N : List Str) (n : Nat) (gb : GS) : GF := fun ds h => if ds.length = n then (gb (ds.map some ++ List.replicate (N.length - n) none) h).bind fun p h1 => match p with
  | (.rt d, _) => .ok d h1
  | (.nx, _) => .ok .non h1
  | _ => .bad else .bad
theorem fn_cm {x qual : Str} {params : Arguments} {body : List Stmt} {scope : Scope} {f : Addr} {fd : FuncData} {ps : List Str} {k : Nat} {gb : GS} (F : FunD T.K x qual params body scope [] [] f fd) (Sc : FnScope S.N ps scope) (hs : S.sc = scope) (hk : GOk T k) (sb : SSs T k S body gb) :
    FnG T.toG0 (k + 1) f fd ps (runBody S.N ps.length gb) := by
  obtain ⟨oc, od, dV, kV, doc, pm, an, cdv, ct, osl, efd, lk, hcd, _, _⟩ := F.ex
  subst efd
  refine ⟨fun ds h d h' e => ?_, fun A outer s H args us vs Q hr hgd e0 hb rv hsp => ?_⟩
  · unfold runBody at e
    split at e
    · assumption
    · cases e
  have hlv : vs.length = ps.length := hsp.1
  have KX : T.K.In s.heap := e0.mod.kin.keeps fun b o z => (e0.bs b o z).1
  have hnl : s.heap.NoLimit := e0.mod.nolimit.keeps fun b o z => (e0.bs b o z).1
  refine codeAny_call_function hr.depth (KX _ _ lk) rfl Sc.co Sc.gen rfl (PySem.W.codeRec_of KX hcd) (hb _ _ _ _ ?_)
  refine wpAny_newFunctionEnv_cells Sc.kind (fun z hz => ?_) fun env he s1 x1 => ?_
  · obtain ⟨n, v⟩ := z
    rcases Sc.par n (List.of_mem_zip hz).1 with q | q
    · exact .inl q
    · exact .inr ⟨q, PySem.W.cellsFrom_some _ _ _ (.inl q)⟩
  subst he
  refine ⟨hnl.keeps x1.toInCall.keep, codeAny_func ?_⟩
  -- the body, from the slots of its parameters
  have I0 : Inv (cxOf CX0 T.P T.W T.K T.mg T.base S.N qual scope f cdv A outer s H E0) [] (L2.start S.N vs) H s1 := inv_start Sc hr.hd e0 hlv rv x1
  have gd : Good T k S (cxOf CX0 T.P T.W T.K T.mg T.base S.N qual scope f cdv A outer s H E0).nox :=
    ⟨rfl, rfl, rfl, rfl, rfl, rfl, hs.symm, rfl, Sc.nd, hr.deeper _, hgd, rfl, fun _ _ => rfl, by rw [hs]; exact Sc.kind, hk⟩
  have leave : ∀ {σ' : L2.St} {H' : Hp} {v : V} {u : Value} {s' : Shared}, Inv (cxOf CX0 T.P T.W T.K T.mg T.base S.N qual scope f cdv A outer s H E0) [] σ' H' s' → RelV v u → Q v H' → CE outer T.P T.W H s Q u s' :=
    fun J rv' q => ⟨_, _, J.os, J.bare, J.base, J.hok, rv', q⟩
  suffices hbody : wpAny (model T.P T.W) (A.deeper (envOfC qual scope s.heap.objs.size f cdv)) (execs body (envOfC qual scope s.heap.objs.size f cdv))
      (SP (cxOf CX0 T.P T.W T.K T.mg T.base S.N qual scope f cdv A outer s H E0) [] { nx := fun _ H' => Q .non H', rt := Q }) (fun _ _ => False) s1 by
    refine wpAny_mono hbody (fun fl s' hs' => ?_) fun e s' z => z.elim
    cases fl with
    | ret u =>
      obtain ⟨v, σ', H', J, rv', q⟩ := hs'
      exact leave J rv' q
    | next =>
      obtain ⟨σ', H', J, q⟩ := hs'
      exact leave (v := V.non) (u := Value.none) J rfl q
    | brk => exact hs'.elim fun _ z => z.elim fun _ z => z.2.elim
    | cont => exact hs'.elim fun _ z => z.elim fun _ z => z.2.elim
  suffices hq : AtSs (cxOf CX0 T.P T.W T.K T.mg T.base S.N qual scope f cdv A outer s H E0).nox body { nx := fun _ H' => Q .non H', rt := Q } (L2.start S.N vs) H by
    exact wpAny_mono (hq [] s1 (I0.wish _)) (fun _ _ z => z.unwish) fun _ _ z => z
  obtain ⟨hl, ds, h, d, h', μ, e, q1, r, fin⟩ := hsp
  unfold runBody at e
  split at e
  · rename_i hd
    obtain ⟨⟨fl, ρ'⟩, h1, e1, e⟩ := R.bind_ok e
    have hle : ps.length ≤ S.N.length := by have := congrArg List.length Sc.pre; rw [List.length_take] at this; omega
    have ve : VE T.wd μ H (ds.map some ++ List.replicate (S.N.length - ps.length) none) (L2.start S.N vs) := by
      unfold L2.start
      refine ⟨by simp [q1.length, hl, hd], fun i d' e' => ?_⟩
      by_cases hi : i < ds.length
      · rw [List.getElem?_append_left (by simpa using hi), List.getElem?_map] at e'
        have e2 : ds[i]? = some d' := by
          cases q : ds[i]? with
          | none => rw [q] at e'; cases e'
          | some z => rw [q] at e'; exact Option.some.inj e'
        obtain ⟨v, e3, q3⟩ := q1.get e2
        exact ⟨v, by rw [List.getElem?_append_left (by rw [List.length_map, q1.length]; exact hi), List.getElem?_map, e3]; rfl, q3⟩
      · rw [List.getElem?_append_right (by simpa using hi), List.getElem?_replicate] at e'
        split at e' <;> cases e'
    refine sb _ gd _ h fl ρ' h1 e1 μ _ H _ ve r ?_
    cases fl with
    | nx => cases e; exact fun μ' σ' H' s' _ => fin _ H' μ' s' rfl
    | rt d => cases e; exact fun μ' v H' s' q => fin v H' μ' s' q
    | bk => cases e
    | ct => cases e
  · cases e
end
end CM

/-! CM, part j: the interpreter: from the text of a def to what it does; sound. -/
namespace CM
open PySem L2 PySem.Spec PyProof.Rows
/-! ### shapes of the text -/
def isStar : Expr → Bool | .Starred .. => true | _ => false
def isComp : Expr → Bool | .ListComp .. => true | .SetComp .. => true | .DictComp .. => true | _ => false
def isSlice : Expr → Bool | .Slice .. => true | _ => false
def isSet : Expr → Bool | .Set .. => true | _ => false
def isSuper : Expr → Bool | .Call (.Name _ _) [] [] _ => true | _ => false
def isBoolish : Expr → Bool | .UnaryOp .Not _ _ => true | .BoolOp .. => true | .IfExp .. => true | .Compare .. => true | _ => false
def isTupE : Expr → Bool | .Tuple .. => true | .List .. => true | _ => false
def plain (es : List Expr) : Bool := es.all fun e => !isStar e
theorem starEach_plain {e : Expr} (h : isStar e = false) (es : List Expr) (env : PySem.Env) : starEach (e :: es) env = (false, eval e env) :: starEach es env := by
  cases e <;> first | rfl | cases h
theorem plain_cons {e : Expr} {es : List Expr} (h : plain (e :: es) = true) : isStar e = false ∧ plain es = true := by
  simpa [plain] using h
theorem backTo_plain (pos : Pos) (env : PySem.Env) : ∀ {es : List Expr}, plain es = true → (backTo pos (starEach es env)).any (·.1) = false
  | [], _ => rfl
  | e :: es, h => by
    obtain ⟨h1, h2⟩ := plain_cons h
    have ih := backTo_plain pos env h2
    rw [starEach_plain h1]
    show (false || (backTo pos (starEach es env)).any (·.1)) = false
    rw [ih]; rfl
theorem backTo_all (pos : Pos) (env : PySem.Env) {es : List Expr} (h : plain es = true) : (backTo pos (starEach es env)).all (fun x => !x.1) = true := by
  have q := backTo_plain pos env h
  rw [List.all_eq_not_any_not]
  simpa using q
theorem few_plain {pos : Pos} {es : List Expr} (h : plain es = true) (hl : es.length < 30) (env : PySem.Env) : ((backTo pos (starEach es env)).all (fun x => !x.1) && (backToKw pos (keywordEach [] env)).all (fun x => x.1.isSome)
      && decide (es.length + ([] : List Keyword).length + (if ([] : List Keyword).isEmpty then 0 else 1) < 30)) = true := by
  rw [backTo_all pos env h]
  show (true && true && decide (es.length + 0 + 0 < 30)) = true
  simpa using hl
theorem base_plain {o : Expr} (h : isSuper o = false) (name : Str) (env : PySem.Env) : attributeBase o name env (eval o env) = eval o env := by
  unfold attributeBase
  split
  · cases h
  · rfl
theorem swap_none {e : Expr} (h : isComp e = false) (t : Option Expr) (l : Nat) (env : PySem.Env) : swapsWith e t l env = pure false := by
  cases e <;> first | rfl | cases h
theorem swap_sole {e : Expr} (h : isComp e = false) (tg : Expr) (l : Nat) (env : PySem.Env) : swapsWithSole [tg] e l env = pure false := swap_none h _ _ _
theorem swap_notName {e tg : Expr} (h : (match tg with | .Name .. => false | _ => true) = true) (l : Nat) (env : PySem.Env) : swapsWithSole [tg] e l env = pure false := by
  show swapsWith e (some tg) l env = _
  cases tg <;> first | (cases h; done) | (cases e <;> rfl)
theorem stores_none {tg e : Expr} (h : isTupE tg = false ∨ (match e with | .Tuple .. => false | _ => true) = true) (env : PySem.Env) : swappedStores [tg] e env = pure none := by
  rcases h with h | h
  · cases tg <;> first | (cases h; done) | (cases e <;> rfl)
  · cases e <;> first | (cases h; done) | (cases tg <;> rfl)
theorem fold_plain {e : Expr} (h : isSet e = false) (env : PySem.Env) (x : Value) : foldedSetIterable e env x = pure x := by
  cases e <;> first | rfl | cases h
theorem true_plain {e : Expr} (h : isBoolish e = false) (env : PySem.Env) (whole : Sem Value) : isTrue e env whole = (do let v ← whole; standAt e.pos; holding [v] (truthy v)) := by
  cases e <;> first | rfl | (cases h; done) | skip
  rename_i op a b
  cases op <;> first | rfl | cases h
theorem sub_plain {b : Expr} (h : isSlice b = false) (o i : Value) : subscripted b false o i = operate [o, i] (getItem o i) := by
  cases b <;> first | rfl | cases h
theorem mark_plain {op : CmpOp} {b : Expr} (h : isSet b = false) : behindInMarks op b = false := by
  cases b <;> first | rfl | cases h
theorem asg_plain {e : Expr} (h : isStar e = false) (es : List Expr) (env : PySem.Env) : assignEach (e :: es) env = (false, assign e env) :: assignEach es env := by
  cases e <;> first | rfl | cases h
theorem asg_len (env : PySem.Env) : ∀ {es : List Expr}, plain es = true → (assignEach es env).length = es.length
  | [], _ => rfl
  | e :: es, h => by
    obtain ⟨h1, h2⟩ := plain_cons h
    rw [asg_plain h1, List.length_cons, List.length_cons, asg_len env h2]
theorem asg_find (env : PySem.Env) : ∀ {es : List Expr}, plain es = true → (assignEach es env).findIdx? (·.1) = none
  | [], _ => rfl
  | e :: es, h => by
    obtain ⟨h1, h2⟩ := plain_cons h
    rw [asg_plain h1, List.findIdx?_cons]
    simp [asg_find env h2]
theorem asg_sub {o i : Expr} {pos : Pos} (h : isSlice i = false) (env : PySem.Env) (v : Value) : assign (.Subscript o i pos) env v = (do
      let ov ← holding [v] (eval o env)
      let iv ← holding [v, ov] (eval i env)
      standAt pos
      holding [v, ov, iv] (setItem ov iv v)
      release [v, ov, iv] []) := by
  cases i <;> first | rfl | cases h

/-! ### tables -/
def ixOf : List Str → Str → Option Nat
  | [], _ => none
  | y :: ys, x => if y = x then some 0 else (ixOf ys x).map (· + 1)
theorem ixOf_get : ∀ {N : List Str} {x : Str} {i : Nat}, ixOf N x = some i → N[i]? = some x
  | y :: ys, x, i, h => by
    unfold ixOf at h
    split at h
    · rename_i e
      cases h; subst e; rfl
    · obtain ⟨j, e1, e2⟩ := Option.map_eq_some_iff.mp h
      subst e2
      simpa using ixOf_get e1
def opTab : Operator → Option (D → D → AH → R D)
  | .Add => some dAdd | .Sub => some dSub | .Mult => some dMul | .FloorDiv => some dDiv | .Mod => some dMod | .Pow => some dPow | _ => none
theorem opTab_ok {T : GT} {k : Nat} {S : SC} {op : Operator} {f : D → D → AH → R D} (h : opTab op = some f) : OpS T k S (binaryOp op) f := by
  cases op <;> first | (cases h; done) | (cases h; first | exact add_ok | exact sub_ok | exact mul_ok | exact div_ok | exact mod_ok | exact pow_ok)
def cmpTab : CmpOp → D → D → AH → R D
  | .Eq => dEq | .NotEq => dNe | .Lt => dLt | .LtE => dLe | .Gt => dGt | .GtE => dGe | .Is => dIsN | .IsNot => dIsNotN | .In => dIn | .NotIn => dNotIn
theorem cmpTab_ok {T : GT} {k : Nat} {S : SC} (op : CmpOp) : OpS T k S (compareOp op) (cmpTab op) := by
  cases op <;> first | exact eq_ok | exact ne_ok | exact lt_ok | exact le_ok | exact gt_ok | exact ge_ok | exact isN_ok | exact isNotN_ok | exact in_ok | exact notIn_ok
/-- built-ins: is it a class, its id, what it does -/
def bTab (x : Str) : Option (Bool × String × GF) :=
  if x = "len" then some (false, "len", bLen) else if x = "max" then some (false, "max", bMax) else if x = "min" then some (false, "min", bMin) else if x = "repr" then some (false, "repr", bRepr) else
  if x = "str" then some (true, "str", bStr) else if x = "tuple" then some (true, "tuple", bTuple) else if x = "list" then some (true, "list", bList) else none
def lTab (x : Str) : Option (Bool × String × (List D → Option D)) :=
  if x = "all" then some (false, "all", lAll) else if x = "any" then some (false, "any", lAny) else if x = "sum" then some (false, "sum", lSum) else if x = "len" then some (false, "len", lLen) else
  if x = "tuple" then some (true, "tuple", lTup) else none
def bVal (ty : Bool) (id : String) : Value := if ty then .type id else .builtin id
theorem bTab_ok {x : Str} {ty : Bool} {id : String} {f : GF} (h : bTab x = some (ty, id, f)) : bootBuiltins x = some (bVal ty id) ∧ x ≠ "__name__" ∧ (x == ("__debug__" : Str)) = false ∧ ∀ T k S, CallS T k S (bVal ty id) f := by
  unfold bTab at h
  split at h; · (cases h; subst_vars; exact ⟨by decide +kernel, by decide, by decide, fun T k S => bLen_ok⟩)
  split at h; · (cases h; subst_vars; exact ⟨by decide +kernel, by decide, by decide, fun T k S => bMax_ok⟩)
  split at h; · (cases h; subst_vars; exact ⟨by decide +kernel, by decide, by decide, fun T k S => bMin_ok⟩)
  split at h; · (cases h; subst_vars; exact ⟨by decide +kernel, by decide, by decide, fun T k S => bRepr_ok⟩)
  split at h; · (cases h; subst_vars; exact ⟨by decide +kernel, by decide, by decide, fun T k S => bStr_ok⟩)
  split at h; · (cases h; subst_vars; exact ⟨by decide +kernel, by decide, by decide, fun T k S => bTuple_ok⟩)
  split at h; · (cases h; subst_vars; exact ⟨by decide +kernel, by decide, by decide, fun T k S => bList_ok⟩)
  cases h
theorem lTab_ok {x : Str} {ty : Bool} {id : String} {f : List D → Option D} (h : lTab x = some (ty, id, f)) : bootBuiltins x = some (bVal ty id) ∧ x ≠ "__name__" ∧ (x == ("__debug__" : Str)) = false ∧ ∀ T k S, CallLS T k S (bVal ty id) f := by
  unfold lTab at h
  split at h; · (cases h; subst_vars; exact ⟨by decide +kernel, by decide, by decide, fun T k S => lAll_ok⟩)
  split at h; · (cases h; subst_vars; exact ⟨by decide +kernel, by decide, by decide, fun T k S => lAny_ok⟩)
  split at h; · (cases h; subst_vars; exact ⟨by decide +kernel, by decide, by decide, fun T k S => lSum_ok⟩)
  split at h; · (cases h; subst_vars; exact ⟨by decide +kernel, by decide, by decide, fun T k S => lLen_ok⟩)
  split at h; · (cases h; subst_vars; exact ⟨by decide +kernel, by decide, by decide, fun T k S => lTup_ok⟩)
  cases h
def tTab (x : Str) : Option String := if x = "int" then some "int" else if x = "bool" then some "bool" else if x = "str" then some "str" else if x = "tuple" then some "tuple" else if x = "list" then some "list" else none
theorem tTab_ok {x : Str} {t : String} (h : tTab x = some t) : bootBuiltins x = some (.type t) ∧ x ≠ "__name__" ∧ (x == ("__debug__" : Str)) = false := by
  unfold tTab at h
  split at h; · (cases h; subst_vars; exact ⟨by decide +kernel, by decide, by decide⟩)
  split at h; · (cases h; subst_vars; exact ⟨by decide +kernel, by decide, by decide⟩)
  split at h; · (cases h; subst_vars; exact ⟨by decide +kernel, by decide, by decide⟩)
  split at h; · (cases h; subst_vars; exact ⟨by decide +kernel, by decide, by decide⟩)
  split at h; · (cases h; subst_vars; exact ⟨by decide +kernel, by decide, by decide⟩)
  cases h
/-- methods of built-in types -/
def mTab (m : Str) : Option (String × String × (D → GF)) :=
  if m = "append" then some ("list", "list.append", mAppend) else if m = "extend" then some ("list", "list.extend", mExtend) else
  if m = "join" then some ("str", "str.join", mJoin) else if m = "index" then some ("str", "str.index", mIndex) else if m = "split" then some ("str", "str.split", mSplit) else none
theorem mTab_ok {m : Str} {Tn id : String} {f : D → GF} (h : mTab m = some (Tn, id, f)) : PlainAttrs Tn ∧ Slot Tn m id ∧ typeOf (.builtin id) = pure (.type "method_descriptor") ∧ ∀ T k S, MethS T k S id f := by
  unfold mTab at h
  split at h; · (cases h; subst_vars; exact ⟨PySem.F.plainAttrs_list, PySem.F.slot_list_append, PySem.F.type_list_append, fun T k S => mAppend_ok⟩)
  split at h; · (cases h; subst_vars; exact ⟨PySem.F.plainAttrs_list, PySem.F.slot_list_extend, PySem.F.type_list_extend, fun T k S => mExtend_ok⟩)
  split at h; · (cases h; subst_vars; exact ⟨PySem.F.plainAttrs_str, PySem.F.slot_str_join, PySem.F.type_str_join, fun T k S => mJoin_ok⟩)
  split at h; · (cases h; subst_vars; exact ⟨PySem.F.plainAttrs_str, PySem.F.slot_str_index, PySem.F.type_str_index, fun T k S => mIndex_ok⟩)
  split at h; · (cases h; subst_vars; exact ⟨PySem.F.plainAttrs_str, PySem.F.slot_str_split, PySem.F.type_str_split, fun T k S => mSplit_ok⟩)
  cases h

/-! ### the interpreter -/
def gBad : G := fun _ _ => .bad
def gaBad : GA := fun _ _ => .bad
def gbBad : GB := fun _ _ => .bad
def giBad : GI := fun _ _ => .bad
def gtBad : GTg := fun _ _ _ => .bad
/-- a call of a def of the module -/
def gFn (F : Str → Option GF) (x : Str) (ga : GA) : G := match F x with | some f => gCall f ga | none => gBad
def argsOf (f : Expr → G) : List Expr → GA
  | [] => gaNil
  | .Starred e _ :: es => gaStar (f e) (argsOf f es)
  | e :: es => gaCons (f e) (argsOf f es)
def boolOf (op : BoolOp) (f : Expr → G) : List Expr → G
  | [] => gBad
  | [a] => f a
  | a :: b :: es => match op with | .And => gAndV (f a) (boolOf op f (b :: es)) | .Or => gOrV (f a) (boolOf op f (b :: es))
def testOf (op : BoolOp) (f : Expr → GB) : List Expr → GB
  | [] => gbBad
  | [a] => f a
  | a :: b :: es => match op with | .And => gAndB (f a) (testOf op f (b :: es)) | .Or => gOrB (f a) (testOf op f (b :: es))
def isL : Expr → Bool | .List .. => true | .ListComp .. => true | _ => false
def ownOf (N : List Str) (scope : Scope) : List (Str × Nat) := scope.names.filterMap fun p => if p.2 = .local ∨ p.2 = .cell then (ixOf N p.1).map fun i => (p.1, i) else none
def nmOk (S : SC) (x : Str) : Bool := match S.sc.names.lookup x with | some .local => true | some .cell => S.top | _ => false
def glbl (S : SC) (x : Str) : Bool := decide (S.sc.names.lookup x = some .globalImplicit)
def tgsOf (f : Expr → List Nat × GTg) : List Expr → List Nat × GTgs
  | [] => ([], gtsNil)
  | e :: es => if isStar e then ([], fun _ _ _ => .bad) else ((f e).1 ++ (tgsOf f es).1, gtsCons (f e).2 (tgsOf f es).2)
section
variable (T : EvT)
mutual
def evE : Nat → SC → Expr → G
  | 0, _, _ => gBad
  | n + 1, S, e => match e with
    | .Name x _ => if x == ("__debug__" : Str) || x == ("__classdict__" : Str) then gBad else (match S.sc.names.lookup x with
      | some .globalImplicit => (match T.con x with | some d => gCon d | none => gBad)
      | some .globalExplicit => gBad
      | some _ => (match ixOf S.N x with | some i => gVar i | none => gBad)
      | none => gBad)
    | .Constant (.int i) _ _ => gCon (.int i)
    | .Constant (.bool i) _ _ => gCon (.bl i)
    | .Constant (.str i) _ _ => gCon (.str i)
    | .Constant .none _ _ => gCon .non
    | .BinOp a op b _ => (match opTab op with | some f => gBin f (evE n S a) (evE n S b) | none => gBad)
    | .UnaryOp .Not a _ => gNotV (evE n S a)
    | .UnaryOp .USub a _ => gNeg (evE n S a)
    | .BoolOp op es _ => boolOf op (evE n S) es
    | .IfExp t a b _ => gIfE (evT n S t) (evE n S a) (evE n S b)
    | .Compare a [op] [b] _ => if isSet b then gBad else gBin (cmpTab op) (evE n S a) (evE n S b)
    | .Tuple es _ _ => gTup (argsOf (evE n S) es)
    | .List es pos => gAlloc (evL n S (.List es pos))
    | .ListComp elt gs scope pos => gAlloc (evL n S (.ListComp elt gs scope pos))
    | .Subscript a (.Slice lo hi none _) _ => gSl (evE n S a) (evO n S lo) (evO n S hi)
    | .Subscript a b _ => if isSlice b then gBad else gBin dIx (evE n S a) (evE n S b)
    | .Call (.Name x _) args [] _ => if !(glbl S x) || x == ("__debug__" : Str) || !(plain args) then gBad else if T.nb x then (match args with
        | [] => gBad
        | [a] => (match isL a, lTab x with
          | true, some (_, _, f) => gCallL f (evL n S a)
          | _, _ => (match bTab x with | some (_, _, f) => gCall f (argsOf (evE n S) [a]) | none => gBad))
        | a :: b :: rest => (match decide (x = "isinstance"), b, rest with
          | true, .Name y _, [] => (match tTab y with | some t => if glbl S y && T.nb y then gIsi t (evE n S a) else gBad | none => gBad)
          | _, _, _ => (match bTab x with | some (_, _, f) => gCall f (argsOf (evE n S) (a :: b :: rest)) | none => gBad)))
      else gFn T.fn x (argsOf (evE n S) args)
    | .Call (.Attribute o m apos) args [] pos => if isSuper o || !(plain args) || !(apos.endLine == pos.line) || !(decide (args.length < 30)) then gBad else (match args with
      | [] => gBad
      | [a] => (match isL a, decide (m = "join") with
        | true, true => gMethL "str" lJoin (evE n S o) (evL n S a)
        | _, _ => (match mTab m with | some (Tn, _, f) => gMeth Tn f (evE n S o) (argsOf (evE n S) [a]) | none => gBad))
      | [a, b] => if m = "get" then gGet (evE n S o) (evE n S a) (evE n S b) else gBad
      | _ => gBad)
    | _ => gBad
def evO : Nat → SC → Option Expr → GO
  | 0, _, _ => fun _ _ => .bad
  | n + 1, S, e => match e with | none => goNone | some e => goSome (evE n S e)
/-- a list that is made -/
def evL : Nat → SC → Expr → GA
  | 0, _, _ => gaBad
  | n + 1, S, e => match e with
    | .List es _ => gLst (argsOf (evE n S) es)
    | .ListComp elt [⟨tg, iter, ifs, 0⟩] scope _ => if isSet iter || !(blkC S.N S.sc scope (ownOf S.N scope)) || !((evG n (S.blk scope) tg).1.all fun i => ((ownOf S.N scope).map (·.2)).contains i) then gaBad else
        gLc (evI n S tg iter) ((ownOf S.N scope).map (·.2)) (evG n (S.blk scope) tg).2 (match ifs with | [] => gYes | [c] => evT n (S.blk scope) c | _ => gbBad) (evE n (S.blk scope) elt)
    | _ => gaBad
def evT : Nat → SC → Expr → GB
  | 0, _, _ => gbBad
  | n + 1, S, e => match e with
    | .BoolOp op es _ => testOf op (evT n S) es
    | .UnaryOp .Not a _ => gNotB (evT n S a)
    | .Compare a [op] [b] _ => if isSet b then gbBad else gTrue (gBin (cmpTab op) (evE n S a) (evE n S b))
    | e => if isBoolish e then gbBad else gTrue (evE n S e)
def evI : Nat → SC → Expr → Expr → GI
  | 0, _, _, _ => giBad
  | n + 1, S, tg, iter => match isL iter with
    | true => giL (evL n S iter)
    | false => match iter with
      | .Call (.Name x p) args kw pos => if x = "zip" then (match tg, args, kw with
          | .Tuple .., [a, b], [] => if T.nb "zip" && glbl S "zip" && plain [a, b] then giZip (argsOf (evE n S) [a, b]) else giBad
          | _, _, _ => giBad)
        else if x = "range" then (match args, kw with
          | [a], [] => if T.nb "range" && glbl S "range" && plain [a] then giRange (argsOf (evE n S) [a]) else giBad
          | _, _ => giBad)
        else giVal (evE n S (.Call (.Name x p) args kw pos))
      | e => giVal (evE n S e)
def evG : Nat → SC → Expr → List Nat × GTg
  | 0, _, _ => ([], gtBad)
  | n + 1, S, tg => match tg with
    | .Name x _ => if nmOk S x then (match ixOf S.N x with | some i => ([i], gtName i) | none => ([], gtBad)) else ([], gtBad)
    | .Tuple es _ _ => if plain es then ((tgsOf (evG n S) es).1, gtTup es.length (tgsOf (evG n S) es).2) else ([], gtBad)
    | .Subscript o i _ => if isSlice i then ([], gtBad) else ([], gtSub (evE n S o) (evE n S i))
    | _ => ([], gtBad)
end
/-- a, b = x, y with plain names -/
def parOf (S : SC) (ts vs : List Expr) : Option (Nat × Nat) := match ts, vs with
  | [.Name x px, .Name y py], [a, b] =>
    if S.sc.names.lookup x = some .local ∧ S.sc.names.lookup y = some .local ∧ x ≠ y ∧ (py.line == px.line) = true ∧ plain [a, b] = true ∧ (([a, b] : List Expr).all (foldedForSure 8)) = false ∧ (([a, b] : List Expr).all (constantsAlone 8)) = false then
      (match ixOf S.N x, ixOf S.N y with | some i, some j => if i ≠ j then some (i, j) else none | _, _ => none) else none
  | _, _ => none
mutual
def evS : Nat → SC → Stmt → GS
  | 0, _, _ => gsBad
  | n + 1, S, st => match st with
    | .Pass _ => gsNil
    | .Break _ => gsBrk
    | .Continue _ => gsCt
    | .Return none _ => gsRetN
    | .Return (some e) _ => gsRet (evE T n S e)
    | .Expr e _ => if isComp e then gsBad else gsExpr (evE T n S e)
    | .If t a b _ => gsIf (evT T n S t) (evSs n S a) (evSs n S b)
    | .For tg iter body [] _ => if isSet iter then gsBad else gsFor (evI T n S tg iter) (evG T n S tg).2 (evSs n S body)
    | .While t body [] _ => whLoop (evT T n S t) (evSs n S body) 100000
    | .Assign [tg] e spos => match tg with
      | .Name x px => (match nmOk S x, ixOf S.N x with
        | true, some i => (match e with
          | .ListComp elt gs scope pos => if px.line == pos.line then gsAsg (evE T n S (.ListComp elt gs scope pos)) (gtName i) else gsBad
          | e => if isComp e then gsBad else gsAsg (evE T n S e) (gtName i))
        | _, _ => gsBad)
      | .Tuple ts k pt => (match e with
        | .Tuple vs _ _ => (match parOf S ts vs with | some (i, j) => gsPar i j (argsOf (evE T n S) vs) | none => gsBad)
        | e => if isComp e then gsBad else gsAsg (evE T n S e) (evG T n S (.Tuple ts k pt)).2)
      | tg => if isStar tg || isTupE tg then gsBad else gsAsg (evE T n S e) (evG T n S tg).2
    | _ => gsBad
def evSs : Nat → SC → List Stmt → GS
  | 0, _, _ => gsBad
  | n + 1, S, sts => match sts with
    | [] => gsNil
    | st :: rest => gsSeq (evS n S st) (evSs n S rest)
end
end
end CM

/-! CM, part k: the interpreter is sound. -/
namespace CM
open PySem L2 PySem.Spec PyProof.Rows
section
variable {T : GT} {k : Nat} {S : SC}
theorem se_bad {e : Expr} : SE T k S e gBad := fun X g ρ h d h' e => nomatch e
theorem so_bad {e : Option Expr} : SO T k S e fun _ _ => .bad := fun X g ρ h d h' e => nomatch e
theorem sl_bad {e : Expr} : SL T k S e gaBad := fun X g ρ h d h' e => nomatch e
theorem stt_bad {e : Expr} : STt T k S e gbBad := fun X g ρ h d h' e => nomatch e
theorem stw_bad {e : Expr} : STw T k S e gbBad := fun X g ρ h d h' e => nomatch e
theorem si_bad {tg e : Expr} : SI T k S tg e giBad := fun X g ρ h d h' e => nomatch e
theorem sg_bad {e : Expr} {ixs : List Nat} : SG T k S e ixs gtBad := fun X g d ρ h ρ' h' e => nomatch e
theorem args_ok {f : Expr → G} (hf : ∀ e, SE T k S e (f e)) : ∀ es : List Expr, SA T k S es (argsOf f es)
  | [] => sa_nil
  | e :: es => by
    have ih := args_ok hf es
    cases e with
    | Starred e p => exact sa_star (hf e) ih
    | _ => exact sa_cons (hf _) ih (fun env => rfl)
theorem bool_ok {op : BoolOp} {pos : Pos} {f : Expr → G} (hf : ∀ e, SE T k S e (f e)) : ∀ es : List Expr, SE T k S (.BoolOp op es pos) (boolOf op f es)
  | [] => se_bad
  | [a] => se_one (hf a)
  | a :: b :: es => by
    have ih := bool_ok (op := op) (pos := pos) hf (b :: es)
    cases op with
    | And => exact se_and (hf a) ih
    | Or => exact se_or (hf a) ih
theorem test_ok {op : BoolOp} {pos : Pos} {f : Expr → GB} (hf : ∀ e, STt T k S e (f e)) : ∀ es : List Expr, STw T k S (.BoolOp op es pos) (testOf op f es)
  | [] => stw_bad
  | [a] => by
    cases op with
    | And => exact stw_and1 (hf a)
    | Or => exact stw_or1 (hf a)
  | a :: b :: es => by
    have ih := test_ok (op := op) (pos := pos) hf (b :: es)
    cases op with
    | And => exact stw_and (hf a) ih
    | Or => exact stw_or (hf a) ih
theorem tgs_ok {f : Expr → List Nat × GTg} (hf : ∀ e, SG T k S e (f e).1 (f e).2) : ∀ es : List Expr, SGs T k S es (tgsOf f es).1 (tgsOf f es).2
  | [] => sgs_nil
  | e :: es => by
    have ih := tgs_ok hf es
    unfold tgsOf
    split
    · exact fun X g ds ρ h ρ' h' e => nomatch e
    · rename_i hs
      exact sgs_cons (hf e) ih (fun env => by rw [asg_plain (by simpa using hs)]; rfl)
theorem own_ix {N : List Str} {scope : Scope} : ∀ p ∈ ownOf N scope, N[p.2]? = some p.1 := fun p hp => by
  unfold ownOf at hp
  obtain ⟨q, _, e⟩ := List.mem_filterMap.mp hp
  split at e
  · obtain ⟨i, e1, e2⟩ := Option.map_eq_some_iff.mp e
    subst e2
    exact ixOf_get e1
  · cases e
theorem glbl_ok {x : Str} (h : glbl S x = true) : S.sc.names.lookup x = some .globalImplicit := by simpa [glbl] using h
theorem nm_ok {x : Str} (h : nmOk S x = true) : S.sc.names.lookup x = some .local ∨ (S.top = true ∧ S.sc.names.lookup x = some .cell) := by
  unfold nmOk at h
  split at h
  · exact .inl (by assumption)
  · exact .inr ⟨h, by assumption⟩
  · cases h
theorem bcall_ok {x : Str} {ty : Bool} {id : String} {f : GF} {e : Expr} {es : List Expr} {p pos : Pos} {ga : GA} (h : bTab x = some (ty, id, f)) (hnb : T.nb x = true) (hg : glbl S x = true) (hp : plain (e :: es) = true) (sa : SA T k S (e :: es) ga) : SE T k S (.Call (.Name x p) (e :: es) [] pos) (gCall f ga) := by
  obtain ⟨h1, h2, h3, h4⟩ := bTab_ok h
  obtain ⟨p1, p2⟩ := plain_cons hp
  cases ty with
  | true => exact se_callTy (h4 T k S) hnb (glbl_ok hg) h1 sa h2 h3 (fun env => starEach_plain p1 es env) fun env => backTo_plain _ env p2
  | false => exact se_callB (h4 T k S) hnb (glbl_ok hg) h1 sa h2 h3 (fun env => starEach_plain p1 es env) fun env => backTo_plain _ env p2
theorem lcall_ok {x : Str} {ty : Bool} {id : String} {f : List D → Option D} {e : Expr} {p pos : Pos} {ga : GA} (h : lTab x = some (ty, id, f)) (hnb : T.nb x = true) (hg : glbl S x = true) (hp : isStar e = false) (sa : SL T k S e ga) : SE T k S (.Call (.Name x p) [e] [] pos) (gCallL f ga) := by
  obtain ⟨h1, h2, h3, h4⟩ := lTab_ok h
  cases ty with
  | true => exact se_callTyL (h4 T k S) hnb (glbl_ok hg) h1 sa h2 h3 fun env => starEach_plain hp [] env
  | false => exact se_callBL (h4 T k S) hnb (glbl_ok hg) h1 sa h2 h3 fun env => starEach_plain hp [] env

structure Snd (T : GT) (k n : Nat) : Prop where
  E : ∀ S e, SE T k S e (evE T.v n S e)
  O : ∀ S e, SO T k S e (evO T.v n S e)
  L : ∀ S e, SL T k S e (evL T.v n S e)
  B : ∀ S e, STt T k S e (evT T.v n S e)
  I : ∀ S tg e, SI T k S tg e (evI T.v n S tg e)
  G : ∀ S tg, SG T k S tg (evG T.v n S tg).1 (evG T.v n S tg).2
theorem snd_E {n : Nat} (ih : Snd T k n) (S : SC) (e : Expr) : SE T k S e (evE T.v (n + 1) S e) := by
  unfold evE
  split
  · -- a name
    rename_i x pos
    split
    · exact se_bad
    · rename_i hx
      simp only [Bool.or_eq_true, not_or, Bool.not_eq_true] at hx
      split
      · split
        · exact se_glob (by assumption) (by assumption) hx.1
        · exact se_bad
      · exact se_bad
      · rename_i kk hk1 hk2 hk3
        split
        · rename_i i hi
          refine se_var (ixOf_get hi) ?_ hx.1 hx.2
          cases kk with
          | «local» => exact .inl hk3
          | cell => exact .inr (.inl hk3)
          | free => exact .inr (.inr hk3)
          | globalExplicit => exact absurd rfl hk2
          | globalImplicit => exact absurd rfl hk1
        · exact se_bad
      · exact se_bad
  · exact se_int
  · exact se_bl
  · exact se_str
  · exact se_non
  · split
    · exact se_bin (opTab_ok (by assumption)) (ih.E _ _) (ih.E _ _)
    · exact se_bad
  · exact se_not (ih.E _ _)
  · exact se_neg (ih.E _ _)
  · exact bool_ok (ih.E S) _
  · exact se_ifE (ih.B _ _) (ih.E _ _) (ih.E _ _)
  · split
    · exact se_bad
    · rename_i hs
      exact se_cmp (cmpTab_ok _) (mark_plain (by simpa using hs)) (ih.E _ _) (ih.E _ _)
  · exact se_tup (args_ok (ih.E S) _)
  · exact se_alloc (ih.L _ _)
  · exact se_alloc (ih.L _ _)
  · exact se_slice (ih.E _ _) (ih.O _ _) (ih.O _ _)
  · split
    · exact se_bad
    · rename_i hs
      exact se_ix (sub_plain (by simpa using hs)) (ih.E _ _) (ih.E _ _)
  · -- a call of a name
    rename_i x p args pos
    split
    · exact se_bad
    · rename_i hx
      simp only [Bool.or_eq_true, not_or, Bool.not_eq_true', Bool.not_eq_true, Bool.not_eq_false] at hx
      obtain ⟨⟨hg, hd⟩, hp⟩ := hx
      split
      · rename_i hnb
        · split
          · exact se_bad
          · rename_i a
            split
            · rename_i hl ht
              exact lcall_ok ht hnb hg (plain_cons hp).1 (ih.L _ _)
            · split
              · exact bcall_ok (by assumption) hnb hg hp (args_ok (ih.E S) _)
              · exact se_bad
          · rename_i a b rest
            split
            · rename_i y p2 _
              have hi : x = "isinstance" := of_decide_eq_true (by assumption)
              subst hi
              split
              · rename_i t ht
                split
                · rename_i hy
                  simp only [Bool.and_eq_true] at hy
                  obtain ⟨t1, t2, t3⟩ := tTab_ok ht
                  exact se_isi (ih.E _ _) hnb (glbl_ok hg) hy.2 (glbl_ok hy.1) t1 t2 t3 fun env e2 => starEach_plain (plain_cons hp).1 _ env
                · exact se_bad
              · exact se_bad
            · split
              · exact bcall_ok (by assumption) hnb hg hp (args_ok (ih.E S) _)
              · exact se_bad
      · unfold gFn
        split
        · rename_i f hf
          cases args with
          | nil => exact se_call0 hf (glbl_ok hg) hd
          | cons a rest =>
            obtain ⟨p1, p2⟩ := plain_cons hp
            exact se_call hf (glbl_ok hg) (args_ok (ih.E S) _) hd (fun env => starEach_plain p1 rest env) fun env => backTo_plain _ env p2
        · exact se_bad
  · -- a method of a built-in type
    rename_i o m apos args pos
    split
    · exact se_bad
    · rename_i hx
      simp only [Bool.or_eq_true, not_or, Bool.not_eq_true', Bool.not_eq_true, Bool.not_eq_false, decide_eq_true_eq, decide_eq_false_iff_not, Nat.not_lt] at hx
      obtain ⟨⟨⟨hs, hp⟩, hl⟩, hn⟩ := hx
      split
      · exact se_bad
      · rename_i a
        obtain ⟨p1, p2⟩ := plain_cons hp
        split
        · rename_i hL hm
          have hm : m = "join" := by simpa using hm
          subst hm
          exact se_methL PySem.F.plainAttrs_str PySem.F.slot_str_join PySem.F.type_str_join lJoin_ok (ih.E _ _) (ih.L _ _) (base_plain hs _) (few_plain hp (by simpa using hn)) hl fun env => starEach_plain p1 [] env
        · split
          · rename_i ht
            obtain ⟨t1, t2, t3, t4⟩ := mTab_ok ht
            exact se_meth t1 t2 t3 (t4 T k S) (ih.E _ _) (args_ok (ih.E S) _) (base_plain hs _) (few_plain hp (by simpa using hn)) hl (fun env => starEach_plain p1 [] env) fun env => backTo_plain _ env p2
          · exact se_bad
      · rename_i a b
        split
        · rename_i hm
          subst hm
          obtain ⟨p1, p2⟩ := plain_cons hp
          obtain ⟨p3, p4⟩ := plain_cons p2
          exact se_get (ih.E _ _) (ih.E _ _) (ih.E _ _) (base_plain hs _) (few_plain hp (by simpa using hn)) hl fun env => by rw [starEach_plain p1, starEach_plain p3]; rfl
        · exact se_bad
      · exact se_bad
  · exact se_bad
theorem snd_L {n : Nat} (ih : Snd T k n) (S : SC) (e : Expr) : SL T k S e (evL T.v (n + 1) S e) := by
  unfold evL
  split
  · exact sl_lst (args_ok (ih.E S) _)
  · rename_i elt tg iter ifs scope pos
    split
    · exact sl_bad
    · rename_i hx
      simp only [Bool.or_eq_true, not_or, Bool.not_eq_true', Bool.not_eq_true, Bool.not_eq_false, List.all_eq_true, List.contains_iff_mem] at hx
      obtain ⟨⟨h1, h2⟩, h3⟩ := hx
      refine (sl_lc (ixs := (evG T.v n (S.blk scope) tg).1) h2 (ih.I _ _ _) (ih.G _ _) ?_ (ih.E _ _) h3 (fold_plain h1)).1
      split
      · exact sif_nil
      · exact sif_one (ih.B _ _)
      · exact fun X g ρ h b h' e => nomatch e
  · exact sl_bad
theorem snd_T {n : Nat} (ih : Snd T k n) (S : SC) (e : Expr) : STt T k S e (evT T.v (n + 1) S e) := by
  unfold evT
  split
  · exact stt_of_w (test_ok (ih.B S) _)
  · exact stt_not (ih.B _ _)
  · split
    · exact stt_bad
    · rename_i hs
      exact stt_cmp (cmpTab_ok _) (mark_plain (by simpa using hs)) (ih.E _ _) (ih.E _ _)
  · split
    · exact stt_bad
    · rename_i hs
      exact stt_val (true_plain (by simpa using hs)) (ih.E _ _)
theorem snd_I {n : Nat} (ih : Snd T k n) (S : SC) (tg e : Expr) : SI T k S tg e (evI T.v (n + 1) S tg e) := by
  unfold evI
  split
  · exact si_L (ih.L _ _)
  · split
    · rename_i x p args kw pos
      split
      · rename_i hx
        subst hx
        split
        · rename_i a b
          split
          · rename_i hc
            simp only [Bool.and_eq_true] at hc
            obtain ⟨⟨h1, h2⟩, h3⟩ := hc
            obtain ⟨p1, p2⟩ := plain_cons h3
            exact si_zip (args_ok (ih.E S) _) h1 (glbl_ok h2) (fun env => starEach_plain p1 _ env) fun env => backTo_plain _ env p2
          · exact si_bad
        · exact si_bad
      · split
        · rename_i hx
          subst hx
          split
          · split
            · rename_i hc
              simp only [Bool.and_eq_true] at hc
              obtain ⟨⟨h1, h2⟩, h3⟩ := hc
              exact si_range1 (args_ok (ih.E S) _) h1 (glbl_ok h2) fun env => starEach_plain (plain_cons h3).1 [] env
            · exact si_bad
          · exact si_bad
        · exact si_val (ih.E _ _)
    · exact si_val (ih.E _ _)
theorem snd_G {n : Nat} (ih : Snd T k n) (S : SC) (tg : Expr) : SG T k S tg (evG T.v (n + 1) S tg).1 (evG T.v (n + 1) S tg).2 := by
  unfold evG
  split
  · split
    · rename_i hn
      split
      · exact sg_name (ixOf_get (by assumption)) (nm_ok hn)
      · exact sg_bad
    · exact sg_bad
  · split
    · rename_i hp
      exact sg_tup (tgs_ok (ih.G S) _) (fun env => asg_len env hp) fun env => asg_find env hp
    · exact sg_bad
  · split
    · exact sg_bad
    · rename_i hs
      exact sg_sub (ih.E _ _) (ih.E _ _) (asg_sub (by simpa using hs))
  · exact sg_bad
theorem snd_O {n : Nat} (ih : Snd T k n) (S : SC) (e : Option Expr) : SO T k S e (evO T.v (n + 1) S e) := by
  unfold evO
  split
  · exact so_none
  · exact so_some (ih.E _ _)
theorem snd_all : ∀ n, Snd T k n
  | 0 => ⟨fun S e => by unfold evE; exact se_bad, fun S e => by unfold evO; exact so_bad, fun S e => by unfold evL; exact sl_bad, fun S e => by unfold evT; exact stt_bad, fun S tg e => by unfold evI; exact si_bad, fun S tg => by unfold evG; exact sg_bad⟩
  | n + 1 => have ih := snd_all n; ⟨snd_E ih, snd_O ih, snd_L ih, snd_T ih, snd_I ih, snd_G ih⟩

/-! ### statements -/
theorem par_ok {ts vs : List Expr} {i j : Nat} (h : parOf S ts vs = some (i, j)) : ∃ x y px py a b, ts = [.Name x px, .Name y py] ∧ vs = [a, b] ∧ S.N[i]? = some x ∧ S.N[j]? = some y ∧ i ≠ j ∧ S.sc.names.lookup x = some .local ∧ S.sc.names.lookup y = some .local ∧
    (S.sc.kind = .function → ∀ env kt pt k2 pt2, env.scope = S.sc → swappedStores [.Tuple [.Name x px, .Name y py] kt pt] (.Tuple [a, b] k2 pt2) env = pure (some [x, y])) := by
  unfold parOf at h
  split at h
  · rename_i x px y py a b
    split at h
    · rename_i hc
      obtain ⟨h1, h2, h3, h4, h5, h6, h7⟩ := hc
      split at h
      · rename_i i' j' e1 e2
        split at h
        · rename_i hij
          cases h
          refine ⟨x, y, px, py, a, b, rfl, rfl, ixOf_get e1, ixOf_get e2, hij, h1, h2, fun hk env kt pt k2 pt2 he => ?_⟩
          have k1 : env.kindOf x = some .local := by show env.scope.names.lookup x = _; rw [he]; exact h1
          have k2' : env.kindOf y = some .local := by show env.scope.names.lookup y = _; rw [he]; exact h2
          have hb : env.blockKind = .function := by unfold PySem.Env.blockKind; rw [he, hk]; rfl
          have hst : ([a, b].any fun | .Starred .. => true | _ => false) = false := by
            have q : plain [a, b] = true := h5
            simp only [plain, List.all_cons, List.all_nil, Bool.and_true, Bool.and_eq_true, Bool.not_eq_true'] at q
            simp only [List.any_cons, List.any_nil, Bool.or_false, Bool.or_eq_false_iff]
            refine ⟨?_, ?_⟩
            · cases a <;> first | rfl | cases q.1
            · cases b <;> first | rfl | cases q.2
          unfold swappedStores
          simp only [hb, hst, k1, k2', h4, h6, h7, Expr.pos, List.length_cons, List.length_nil, List.head?_cons, List.filterMap_cons, List.filterMap_nil, Option.map_some, Option.getD_some]
          have hd : ([x, y] : List Str).eraseDups = [x, y] := by
            have hyx : (y == x) = false := by simpa using Ne.symm h3
            simp [List.eraseDups_cons, hyx]
          simp [hd]
          intro hz
          have h1 : plain [a, b] = true := h5
          simp only [plain, List.all_cons, List.all_nil, Bool.and_true, Bool.and_eq_true, Bool.not_eq_true'] at h1
          rcases hz with hz | hz
          · cases a <;> first | (cases hz; done) | cases h1.1
          · cases b <;> first | (cases hz; done) | cases h1.2
        · cases h
      · cases h
    · cases h
  · cases h
end
theorem ss_setL {T : GT} {k n : Nat} {S : SC} (ih : Snd T k (n + 1)) (ih2 : Snd T k n) {x : Str} {px pos spos : Pos} {elt : Expr} {gs : List Comprehension} {scope : Scope} {i : Nat} (hx : nmOk S x = true) (hi : ixOf S.N x = some i) (hl : (px.line == pos.line) = true) :
    SS T k S (.Assign [.Name x px] (.ListComp elt gs scope pos) spos) (gsAsg (gAlloc (evL T.v (n + 1) S (.ListComp elt gs scope pos))) (gtName i)) := by
  -- which of the two statements the model takes
  cases hloc : decide (S.sc.names.lookup x = some .local) && !(scope.names.any fun (n, k) => n == x && (k == .local || k == .cell)) with
  | false =>
    intro X g
    refine ss_set (se_alloc (ih.L _ _)) (ixOf_get hi) (nm_ok hx) (fun env he => ?_) X g
    have hb : env.blockKind = .function := by unfold PySem.Env.blockKind; rw [he, g.kind]; rfl
    have hk : env.kindOf x = S.sc.names.lookup x := by show env.scope.names.lookup x = _; rw [he]
    show (pure (env.blockKind == .function && env.kindOf x == some .local && px.line == pos.line && !(scope.names.any fun (n, k) => n == x && (k == .local || k == .cell))) : Sem Bool) = _
    rw [hb, hk, hl]
    congr 1
    simp only [Bool.and_eq_false_iff, decide_eq_false_iff_not] at hloc
    rcases hloc with q | q
    · have : (S.sc.names.lookup x == some .local) = false := by simpa using q
      rw [this]; rfl
    · rw [q]; simp
  | true =>
    simp only [Bool.and_eq_true, decide_eq_true_eq, Bool.not_eq_true'] at hloc
    have ge := ih.L S (.ListComp elt gs scope pos)
    unfold evL at ge ⊢
    split at ge
    · rename_i he; cases he
    · rename_i elt' tg iter ifs scope' pos' he
      cases he
      split
      · intro X g ρ h fl ρ' h' e
        cases e
      · rename_i hc
        simp only [Bool.or_eq_true, not_or, Bool.not_eq_true', Bool.not_eq_true, Bool.not_eq_false, List.all_eq_true, List.contains_iff_mem] at hc
        obtain ⟨⟨h1, h2⟩, h3⟩ := hc
        intro X g
        refine ss_setLc (ixs := (evG T.v n (S.blk scope) tg).1) h2 (ih2.I _ _ _) (ih2.G _ _) ?_ (ih2.E _ _) h3 (fold_plain h1) (ixOf_get hi) hloc.1 (fun env he => ?_) X g
        · split
          · exact sif_nil
          · exact sif_one (ih2.B _ _)
          · exact fun X g ρ h b h' e => nomatch e
        · exact sw_true (by rw [he]; exact g.kind) (by rw [he]; exact hloc.1) hl hloc.2
    · intro X g ρ h fl ρ' h' e
      cases e
structure SndS (T : GT) (k n : Nat) : Prop where
  S : ∀ S st, SS T k S st (evS T.v n S st)
  Ss : ∀ S st, SSs T k S st (evSs T.v n S st)
theorem snd_S {T : GT} {k n : Nat} (ih : SndS T k n) (S : SC) (st : Stmt) : SS T k S st (evS T.v (n + 1) S st) := by
  have a := snd_all (T := T) (k := k) n
  unfold evS
  split
  · exact ss_pass
  · exact ss_break
  · exact ss_continue
  · exact ss_retN
  · exact ss_ret (a.E _ _)
  · split
    · exact ss_bad
    · rename_i hs
      exact ss_expr (a.E _ _) (swap_none (by simpa using hs) _ _)
  · exact ss_if (a.B _ _) (ih.Ss _ _) (ih.Ss _ _)
  · split
    · exact ss_bad
    · rename_i hs
      exact ss_for (a.I _ _ _) (a.G _ _) (ih.Ss _ _) (fold_plain (by simpa using hs))
  · exact ss_while (a.B _ _) (ih.Ss _ _)
  · split
    · rename_i x px
      split
      · rename_i i hn hi
        split
        · split
          · rename_i hl
            cases n with
            | zero => unfold evE; intro X g ρ h fl ρ' h' e; cases e
            | succ n =>
              cases n with
              | zero => unfold evE evL; intro X g ρ h fl ρ' h' e; cases e
              | succ n =>
                rw [evE]
                exact ss_setL (snd_all (n + 1)) (snd_all n) hn hi hl
          · exact ss_bad
        · split
          · exact ss_bad
          · rename_i hs
            exact ss_set (a.E _ _) (ixOf_get hi) (nm_ok hn) fun env _ => swap_none (by simpa using hs) _ _ env
      · exact ss_bad
    · split
      · split
        · rename_i i j hp
          obtain ⟨x, y, px, py, a', b', rfl, rfl, e1, e2, e3, e4, e5, e6⟩ := par_ok hp
          intro X g
          exact ss_par (args_ok (a.E S) _) e1 e2 e3 e4 e5 (fun env he => e6 g.kind env _ _ _ _ he) X g
        · exact ss_bad
      · split
        · exact ss_bad
        · rename_i hne hs
          refine ss_asg (a.E _ _) (a.G _ _) (swap_sole (by simpa using hs) _ _) (fun env _ => stores_none (.inr ?_) env) fun env => rfl
          split
          · exact (hne _ _ _ rfl).elim
          · rfl
    · split
      · exact ss_bad
      · rename_i hn1 hn2 hs
        simp only [Bool.or_eq_true, not_or, Bool.not_eq_true] at hs
        refine ss_asg (a.E _ _) (a.G _ _) (swap_notName ?_ _) (fun env _ => stores_none (.inl hs.2) env) fun env => by rw [asg_plain hs.1]; rfl
        split
        · exact absurd rfl (hn1 _ _)
        · rfl
  · exact ss_bad
theorem snd_Ss {T : GT} {k n : Nat} (ih : SndS T k n) (S : SC) (st : List Stmt) : SSs T k S st (evSs T.v (n + 1) S st) := by
  unfold evSs
  split
  · exact sss_nil
  · exact sss_cons (ih.S _ _) (ih.Ss _ _)
theorem sndS_all {T : GT} {k : Nat} : ∀ n, SndS T k n
  | 0 => ⟨fun S st => by unfold evS; exact ss_bad, fun S st => by unfold evSs; exact fun X g ρ h fl ρ' h' e => nomatch e⟩
  | n + 1 => have ih := sndS_all n; ⟨snd_S ih, snd_Ss ih⟩
end CM

/-! CM, part p: a program's defs by a table; the law's end; the constants. -/
namespace CM
open PySem L2 PySem.Spec PyProof.Rows
/-! ### the table of defs -/
structure Row where
  name : Str
  ps : List Str
  N : List Str
  st : Stmt
def Row.S (r : Row) : SC := ⟨r.N, defScope r.st, true⟩
abbrev FUEL : Nat := 400
def lookRow (rows : List Row) (x : Str) : Option Row := rows.find? fun r => decide (r.name = x)
/-- what a def does, calls nested c deep -/
def callAt (con : Str → Option D) (nb : Str → Bool) (rows : List Row) : Nat → Str → Option GF
  | 0, _ => none
  | c + 1, x => match lookRow rows x with
    | some r => some (runBody r.N r.ps.length (evSs ⟨con, nb, callAt con nb rows c, fun _ _ => none⟩ FUEL r.S (defBody r.st)))
    | none => none
structure RowOk (T : G0) (r : Row) : Prop where
  ex : ∃ f fd, FunD T.K r.name r.name (defArgs r.st) (defBody r.st) (defScope r.st) [] [] f fd ∧ T.mg r.name = some (.ref f) ∧ Binds T.K fd r.ps []
  sc : FnScope r.N r.ps (defScope r.st)
structure G0Ok (T : G0) (rows : List Row) : Prop where
  con : ∀ x d, T.con x = some d → ∃ u v, T.mg x = some u ∧ RelV v u ∧ ∀ μ H h, Rel T.wd μ H h → VR T.wd μ H d v
  nb : ∀ x, T.nb x = true → T.mg x = none
  rows : ∀ r ∈ rows, RowOk T r
theorem gok_all {T : G0} {rows : List Row} (ok : G0Ok T rows) : ∀ c, GOk ⟨T, callAt T.con T.nb rows c, fun _ _ => none⟩ c
  | 0 => ⟨ok.con, fun x g e => (nomatch (show (none : Option GF) = some g from e)), fun c m g e => (nomatch (show (none : Option GF) = some g from e)), ok.nb⟩
  | c + 1 => by
    have ih := gok_all ok c
    refine ⟨ok.con, fun x g e => ?_, fun c m g e => (nomatch (show (none : Option GF) = some g from e)), ok.nb⟩
    have e1 : callAt T.con T.nb rows (c + 1) x = some g := e
    unfold callAt at e1
    split at e1
    · rename_i r hr
      cases e1
      have hm : r ∈ rows := List.mem_of_find?_eq_some hr
      have hx : r.name = x := by simpa using List.find?_some hr
      obtain ⟨⟨f, fd, F, hmg, hb⟩, sc⟩ := ok.rows r hm
      exact ⟨f, fd, r.ps, fn_cm (T := ⟨T, callAt T.con T.nb rows c, fun _ _ => none⟩) (S := r.S) F sc rfl ih ((sndS_all FUEL).Ss _ _), by rw [← hx]; exact hmg, F.kp, hb⟩
    · cases e1

/-! ### the law's end -/
theorem law_cm {T0 : Heap → G0} {P : Program} {w : World} {K : PySem.W.Frag} {mg mb : Str → Option Value} {k : Nat} {fa a : Addr} {fd : FuncData} {x : Str} {g : GF} {s₁ : Shared} {vs : List Value} {ns : List Int}
    (KX : K.In s₁.heap) (hns : s₁.heap.Ns mainGlobals mg) (hb : s₁.heap.Ns builtinsNs mb) (hbb : ∀ x : Str, x ≠ "__name__" → mb x = bootBuiltins x) (hlim : s₁.heap.NoLimit) (hg : s₁.gens = #[])
    (ha : s₁.heap.get? a = some { cls := .type "list", data := .seq vs.toArray }) (hi : IntsAre vs ns) (hl : ns.length ≤ sizeLine) (hr : Room k callerA)
    (hT : ∀ b, (T0 b).P = P ∧ (T0 b).W = w ∧ (T0 b).K = K ∧ (T0 b).mg = mg ∧ (T0 b).base = b)
    (F : ∀ base : Heap, K.In base → base.Ns mainGlobals mg → FnG (T0 base) k fa fd [x] g) (hbind : ∀ (s : Shared) (u : Value), BindsTo s fd ⟨[u], []⟩ [(x, u)])
    (hq : ∃ h', g [.fl (ns.map D.int)] [] = .ok (.bl true) h') :
    codeAny (model P w) callerA (.call (.ref fa) ⟨[.ref a], []⟩) (fun r s' => r = .ok (.ret (.bool true)) ∧ OldK s₁.heap s'.heap ∧ s'.os = s₁.os ∧ AllBare s'.gens) s₁ := by
  have rv := vals_ints hi
  -- at an abstract heap that knows the script alone
  have main : ∀ H : Hp, (∀ b, H b = none ∨ (b = a ∧ ∃ o xs, H b = some (.frz o (.lst xs)))) → FxL K H a (ns.map V.int) → HOk P w H s₁.heap → (H a ≠ none → K.lookup a = none) →
      codeAny (model P w) callerA (.call (.ref fa) ⟨[.ref a], []⟩) (fun r s' => r = .ok (.ret (.bool true)) ∧ OldK s₁.heap s'.heap ∧ s'.os = s₁.os ∧ AllBare s'.gens) s₁ := by
    intro H hO hS hok hK
    have hA : ∀ b, H b ≠ none → b = a := fun b hn => by
      rcases hO b with z | ⟨z, _⟩
      · exact absurd z hn
      · exact z
    have stays : ∀ {b : Addr} {o : Obj}, s₁.heap.get? b = some o → (H b ≠ none → False) → (hidT s₁.heap H).get? b = some o := fun {b o} e n => by
      cases q : H b with
      | none => exact hidT_get e q
      | some u => exact (n (by rw [q]; simp)).elim
    have nsD : ∀ {b : Addr} {m : Str → Option Value}, s₁.heap.Ns b m → (hidT s₁.heap H).Ns b m := fun {b m} ⟨o, es, ep, e, d, q⟩ => ⟨o, es, ep, stays e (fun hn => by
      have z := hA b hn
      subst z
      rw [ha] at e
      cases e
      cases d), d, q⟩
    have kin : K.In (hidT s₁.heap H) := fun b o e => stays (KX b o e) fun hn => by
      have z := hA b hn
      subst z
      rw [hK hn] at e
      cases e
    have md : Mod K mg (hidT s₁.heap H) := ⟨kin, nsD hns, ⟨mb, nsD hb, hbb⟩, hlim.elim fun mc z => ⟨mc, nsD z.1, z.2⟩⟩
    obtain ⟨t1, t2, t3, t4, t5⟩ := hT (hidT s₁.heap H)
    have FF := F _ kin (nsD hns)
    have e0 : Env0 (T0 (hidT s₁.heap H)).P (T0 (hidT s₁.heap H)).W (T0 (hidT s₁.heap H)).K (T0 (hidT s₁.heap H)).mg (T0 (hidT s₁.heap H)).base callerA [] s₁ H := by
      rw [t1, t2, t3, t4, t5]
      exact ⟨rfl, md, fun b o e => of_hidT e, Nat.le_of_eq (hidT_size _ _), trivial, fun b z => (nomatch z), hok, .of_eq hg⟩
    obtain ⟨h', eg⟩ := hq
    have intsV : ∀ l : List Int, VRs (T0 (hidT s₁.heap H)).wd [] H (l.map D.int) (l.map V.int) := fun l => by
      induction l with
      | nil => exact VRs.nil
      | cons i l ih => exact VRs.cons rfl ih
    have sp : spOf (T0 (hidT s₁.heap H)).wd 1 g [.ref a] H (fun v _ => v = .bl true) E0 :=
      ⟨rfl, [.fl (ns.map D.int)], [], .bl true, h', [], eg, VRs.cons ⟨a, _, rfl, by show FxL (T0 _).K H a _; rw [t3]; exact hS, intsV ns⟩ VRs.nil, ⟨rfl, List.nodup_nil, fun n o e => by simp at e⟩, fun v H' μ' _ q => q⟩
    have z := FF.run callerA [] s₁ H ⟨[.ref a], []⟩ [.ref a] [.ref a] _ hr rfl e0 (hbind s₁ (.ref a)) (.cons rfl .nil) sp
    rw [t1, t2] at z
    refine codeAny_mono z fun r s' q => ?_
    cases r with
    | error e => exact q.elim
    | ok fl =>
      cases fl with
      | next => exact q.elim
      | brk => exact q.elim
      | cont => exact q.elim
      | ret u =>
        obtain ⟨v, H', os, bare, un, hok', ru, ev⟩ := q
        subst ev
        have eu : u = Value.bool true := ru
        subst eu
        refine ⟨rfl, OldK.of_keep fun b o e => ?_, os, bare⟩
        rcases hO b with y | ⟨_, ob, xs, y⟩
        · exact un.keep b o e y (fun z => (nomatch z)) (fun z => (nomatch z))
        · obtain ⟨e1, _⟩ := hok b _ y
          obtain ⟨e2, _⟩ := hok' b _ (un.frzs b ob _ y)
          exact e2.trans (e1.symm.trans e)
  have len := hi.length
  cases hk : K.lookup a with
  | some o =>
    have e := KX a o hk
    rw [ha] at e
    cases e
    exact main (fun _ => none) (fun _ => .inl rfl) (.inr ⟨_, vs.toArray, _, hk, rfl, rfl, rfl, by simpa [len] using hl, by simpa using rv⟩) (fun b u z => by cases z) fun z => absurd rfl z
  | none =>
    refine main (fun b => if b = a then some (.frz { cls := .type "list", data := .seq vs.toArray } (.lst (ns.map V.int))) else none) (fun b => ?_) (.inl ⟨_, if_pos rfl⟩) (fun b u z => ?_) fun _ => hk
    · by_cases hb : b = a
      · exact .inr ⟨hb, _, _, if_pos hb⟩
      · exact .inl (if_neg hb)
    · by_cases hb : b = a
      · subst hb
        have z' := (if_pos rfl).symm.trans z
        cases z'
        exact ⟨ha, by rw [List.length_map]; exact hl, vs, _, rv, ha⟩
      · have z' := (if_neg hb).symm.trans z
        cases z'
theorem walk_cm {l : PySem.W.OpenLaw} {n k : Nat} {q : Program} {loose : List Str} {XP : (Str → Option Value) → Heap → Prop} {YP : World → Heap → Prop} {d : DefRec} {x : Str}
    (hn : l.most = some n) (hn2 : n ≤ sizeLine) (hdf : d.params.defaults = []) (hr : Room k callerA)
    (F : ∀ (w : World) (mg : Str → Option Value) (fa : Addr) (h : Heap), YP w h → h.Ns mainGlobals mg → mg d.name = some (.ref fa) →
      ∃ (K : PySem.W.Frag) (T0 : Heap → G0) (fd : FuncData) (g : GF), K.In h ∧ (∀ b, (T0 b).P = l.prog ∧ (T0 b).W = w ∧ (T0 b).K = K ∧ (T0 b).mg = mg ∧ (T0 b).base = b) ∧ (∀ (s : Shared) (u : Value), BindsTo s fd ⟨[u], []⟩ [(x, u)]) ∧
        (∀ base : Heap, K.In base → base.Ns mainGlobals mg → FnG (T0 base) k fa fd [x] g) ∧ ∀ ns : List Int, ns.length ≤ n → ∃ h', g [.fl (ns.map D.int)] [] = .ok (.bl true) h') :
    PySem.W.WalkO q loose XP YP l.row.toRowW d [] (fun f vs => PySem.call f vs) := by
  refine Att.attach_call hn hdf fun w s0 s1 mg mb fa o pm cd doc a vs ns Gr Y _ _ _ hmg hobj hints hlen hgen => ?_
  obtain ⟨K, T0, fd, g, KX, hT, hb, hF, hq⟩ := F w mg fa _ Y Gr.T.g hmg
  exact law_cm KX Gr.T.g Gr.T.b Gr.T.builtins Gr.T.nolimit hgen hobj hints (Nat.le_trans hlen hn2) hr hT hF hb (hq ns hlen)

/-! ### the constants, looked at -/
open He in
/-- a constant of the module as the written part has it -/
def conB1 (K : PySem.W.Frag) (x : Str) (d : D) : Bool := match d with
  | .tup ds => eqO (PySem.W.nsIn K mainGlobals x) (some (some (.ref (ga K x)))) && (match K.lookup (ga K x) with
    | some ⟨.type c, _, .seq its _, _⟩ => decide (c = "tuple") && (decide (its.size ≤ sizeLine) && (match ds.mapM flatD with | some vs => relAll vs its.toList | none => false))
    | _ => false)
  | .fd kvs => eqO (PySem.W.nsIn K mainGlobals x) (some (some (.ref (ga K x)))) && kvs.all fun p => (match flatD p.2, PySem.W.nsIn K (ga K x) p.1 with
    | some v, some (some u) => relB v u
    | _, _ => false)
  | d => (match flatD d, PySem.W.nsIn K mainGlobals x with
    | some v, some (some u) => relB v u
    | _, _ => false)
def consB (cons : List (Str × D)) (K : PySem.W.Frag) : Bool := cons.all fun p => conB1 K p.1 p.2
/-- the tables of the module: where, and the keys -/
def tabsOf (cons : List (Str × D)) : List He.Tab := cons.filterMap fun p => match p.2 with | .fd kvs => some (fun K => He.ga K p.1, kvs.map (·.1)) | _ => none
theorem flats_vr {w : Wd} {μ : List Addr} {H : Hp} : ∀ {ds : List D} {vs : List V}, ds.mapM flatD = some vs → VRs w μ H ds vs
  | [], vs, e => by
    simp at e
    subst e; exact VRs.nil
  | d :: ds, vs, e => by
    rw [List.mapM_cons] at e
    cases e1 : flatD d with
    | none => rw [e1] at e; cases e
    | some v =>
      rw [e1] at e
      cases e2 : ds.mapM flatD with
      | none => rw [e2] at e; cases e
      | some us =>
        rw [e2] at e
        cases e
        exact VRs.cons (flatD_v e1) (flats_vr e2)
theorem tab_absent {K : PySem.W.Frag} {a : Addr} {P : Params} {ks : List Str} (h : He.dicW K a = some (He.keysIn P ks)) {z : Str} (hz : z ∉ ks) : PySem.W.nsIn K a z = some none := by
  unfold He.dicW at h
  unfold PySem.W.nsIn
  split at h
  · rename_i c es n sl hl
    rw [hl]
    split at h
    · have e : es.toList.map He.keyOf = He.keysIn P ks := Option.some.inj h
      have key : ∀ (l : List DictEntry) (ks : List Str), l.map He.keyOf = He.keysIn P ks → z ∉ ks → l.find? (·.key.isStr z) = none ∧ l.any (·.refKey) = false := by
        intro l
        induction l with
        | nil => intro ks _ _; exact ⟨rfl, rfl⟩
        | cons d l ih =>
          intro ks e hz
          cases ks with
          | nil => cases e
          | cons y ks =>
            have e' : He.keyOf d :: l.map He.keyOf = some (y, PyData.keyHash P y) :: He.keysIn P ks := e
            injection e' with e1 e2
            obtain ⟨g1, g2⟩ := ih ks e2 fun hm => hz (List.mem_cons_of_mem _ hm)
            unfold He.keyOf at e1
            split at e1
            · rename_i x t hk
              have ex : x = y := (Prod.mk.inj (Option.some.inj e1)).1
              have hxz : ((Value.str x t).isStr z) = false := by
                have hne : ¬ x = z := fun q => hz (by rw [← q, ex]; exact List.mem_cons_self)
                first
                  | (simp [Value.isStr, hne]; done)
                  | (simp [Value.isStr, hne, Ne.symm hne]; done)
              refine ⟨?_, ?_⟩
              · rw [List.find?_cons]
                rw [hk]
                simp only [hxz]
                exact g1
              · rw [List.any_cons, g2]
                have : d.refKey = false := by unfold DictEntry.refKey; rw [hk]
                rw [this]; rfl
            · cases e1
      obtain ⟨g1, g2⟩ := key _ _ e hz
      simp only [g1, g2]
      rfl
    · cases h
  · cases h
end CM

/-! CM, part q: from the head's facts to the table's. -/
namespace CM
open PySem L2 PySem.Spec PyProof.Rows
def Row.D (r : Row) : He.DefD := ⟨(r.name, none), r.name, r.name, defArgs r.st, defBody r.st, defScope r.st, [], []⟩
structure RowS (r : Row) : Prop where
  sc : FnScope r.N r.ps (defScope r.st)
  bind : ∀ (kV doc pm : Value) (an : Option Addr) (cdv ct : Value) (us : List Value), us.length = r.ps.length → bindArgs (PySem.W.fnOf r.name r.name (defArgs r.st) (defBody r.st) (defScope r.st) .none kV doc pm an cdv ct) ⟨us, []⟩ = pure (r.ps.zip us)
abbrev faOf (rows : List Row) (nbs : List Str) : List He.Fa := rows.map (fun r => He.Fa.glo r.name) ++ nbs.map He.Fa.free
def T0of (P : Program) (w : World) (K : PySem.W.Frag) (mg : Str → Option Value) (cons : List (Str × D)) (nbs : List Str) (base : Heap) : G0 :=
  ⟨P, w, K, mg, base, fun _ => none, fun x => cons.lookup x, fun x => nbs.contains x⟩
theorem lookup_in {α : Type} {x : Str} {a : α} : ∀ {l : List (Str × α)}, l.lookup x = some a → (x, a) ∈ l := fun h => PySem.mem_of_lookup h
theorem map_eq_mem {α β : Type} {f g : α → β} : ∀ {l : List α}, l.map f = l.map g → ∀ t ∈ l, f t = g t
  | a :: l, e, t, ht => by
    simp only [List.map_cons, List.cons.injEq] at e
    rcases List.mem_cons.mp ht with rfl | ht
    · exact e.1
    · exact map_eq_mem e.2 t ht
theorem g0_of {P : Program} {w : World} {K : PySem.W.Frag} {h : Heap} {mg : Str → Option Value} {rows : List Row} {cons : List (Str × D)} {nbs : List Str} (rs : ∀ r ∈ rows, RowS r) (X : K.In h) (G : h.Ns mainGlobals mg)
    (c : He.SaysX (faOf rows nbs) (rows.map Row.D) (tabsOf cons) [] (consB cons) w h K) (base : Heap) : G0Ok (T0of P w K mg cons nbs base) rows := by
  have cd := c.t.d
  refine ⟨fun x d e => ?_, fun x e => ?_, fun r hr => ?_⟩
  · have hm : (x, d) ∈ cons := lookup_in e
    have hb : conB1 K x d = true := List.all_eq_true.mp c.more _ hm
    have flat : (match flatD d, PySem.W.nsIn K mainGlobals x with | some v, some (some u) => He.relB v u | _, _ => false) = true → ∃ u v, mg x = some u ∧ RelV v u ∧ ∀ μ H h, Rel (T0of P w K mg cons nbs base).wd μ H h → VR (T0of P w K mg cons nbs base).wd μ H d v := fun hb => by
      split at hb
      · rename_i v u e1 e2
        exact ⟨u, v, PySem.W.mg_of X G e2, He.relB_ok hb, fun μ H h _ => flatD_v e1⟩
      · cases hb
    cases d with
    | tup ds =>
      obtain ⟨b1, b2⟩ := He.ba hb
      have e1 := He.eqO_ok b1
      refine ⟨_, .ref (He.ga K x), PySem.W.mg_of X G e1, rfl, fun μ H h _ => ?_⟩
      split at b2
      · rename_i cc dd its n sl hl
        obtain ⟨b3, b4⟩ := He.ba b2
        obtain ⟨b5, b6⟩ := He.ba b4
        split at b6
        · rename_i vs ev
          exact ⟨He.ga K x, vs, rfl, .inr ⟨_, its, n, hl, congrArg Value.type (of_decide_eq_true b3), rfl, of_decide_eq_true b5, He.relAll_ok b6⟩, flats_vr ev⟩
        · cases b6
      · cases b2
    | fd kvs =>
      obtain ⟨b1, b2⟩ := He.ba hb
      have e1 := He.eqO_ok b1
      refine ⟨_, .ref (He.ga K x), PySem.W.mg_of X G e1, rfl, fun μ H h _ => ⟨He.ga K x, rfl, ?_, fun z => ?_⟩⟩
      all_goals
        have ht : ((fun K => He.ga K x), kvs.map (·.1)) ∈ tabsOf cons := List.mem_filterMap.mpr ⟨(x, .fd kvs), hm, rfl⟩
        have et : (tabsOf cons).map (fun t => He.dicW K (t.1 K)) = (tabsOf cons).map fun t => some (He.keysIn w.params t.2) := congrArg (fun z : He.AlT => z.2) c.t
        have ed : He.dicW K (He.ga K x) = some (He.keysIn w.params (kvs.map (·.1))) := map_eq_mem et _ ht
      · exact He.dicW_ok ed
      · cases hl : kvs.lookup z with
        | none =>
          refine tab_absent ed fun hz => ?_
          obtain ⟨p, hp, ep⟩ := List.mem_map.mp hz
          have := List.lookup_eq_none_iff.mp hl p hp
          simp [ep] at this
        | some d =>
          have hp := lookup_in hl
          have b3 := List.all_eq_true.mp b2 _ hp
          split at b3
          · rename_i v u f1 f2
            exact ⟨u, v, f2, He.relB_ok b3, f1⟩
          · cases b3
    | non => exact flat hb
    | bl b => exact flat hb
    | int b => exact flat hb
    | str b => exact flat hb
    | obj b => exact flat hb
    | fl b => exact flat hb
  · have hx : x ∈ nbs := by simpa using (show nbs.contains x = true from e)
    exact He.free_ok X G (cd.facts (f := .free x) (List.mem_append_right _ (List.mem_map.mpr ⟨x, hx, rfl⟩)))
  · obtain ⟨fd, F⟩ := cd.defs (d := r.D) (List.mem_map.mpr ⟨r, hr, rfl⟩)
    have gl := He.glo_ok X G (cd.facts (f := .glo r.name) (List.mem_append_left _ (List.mem_map.mpr ⟨r, hr, rfl⟩)))
    exact ⟨⟨_, fd, F, gl, FunD.bindsN F (rs r hr).bind⟩, (rs r hr).sc⟩
/-- the law's walk, from the head's facts and what the law gives -/
theorem law_walk {l : PySem.W.OpenLaw} {q : Program} {loose : List Str} {XP : (Str → Option Value) → Heap → Prop} {d : DefRec} {rows : List Row} {cons : List (Str × D)} {nbs : List Str} {k : Nat} {r : Row}
    (hn : l.most = some 63) (hdf : d.params.defaults = []) (hr : Room (k + 1) callerA) (rs : ∀ r ∈ rows, RowS r) (hd : d.name = r.name) (hp : r.ps = [r.ps.headD "x"]) (hm : lookRow rows r.name = some r)
    {g : GF} (eg : callAt (fun x => cons.lookup x) (fun x => nbs.contains x) rows (k + 1) r.name = some g) (hq : ∀ ns : List Int, ns.length ≤ 63 → ∃ h', g [.fl (ns.map D.int)] [] = .ok (.bl true) h') :
    PySem.W.WalkO q loose XP (fun w h => ∃ K : PySem.W.Frag, K.In h ∧ He.SaysX (faOf rows nbs) (rows.map Row.D) (tabsOf cons) [] (consB cons) w h K) l.row.toRowW d [] (fun f vs => PySem.call f vs) := by
  refine walk_cm (k := k + 1) (x := r.ps.headD "x") hn (by rw [sizeLine_eq]; decide) hdf hr fun w mg fa h Y G hmg => ?_
  obtain ⟨K, KX, c⟩ := Y
  have hin : r ∈ rows := List.mem_of_find?_eq_some hm
  have ok := fun base => g0_of (P := l.prog) rs KX G c base
  obtain ⟨⟨f2, fd2, F2, e2, hb2⟩, sc2⟩ := (ok h).rows r hin
  have efa2 : f2 = fa := by
    have z' : mg r.name = some (.ref f2) := e2
    rw [← hd, hmg] at z'
    exact (Value.ref.inj (Option.some.inj z')).symm
  subst efa2
  refine ⟨K, fun b => T0of l.prog w K mg cons nbs b, fd2, g, KX, fun b => ⟨rfl, rfl, rfl, rfl, rfl⟩, fun s u => ?_, fun base kb gb => ?_, fun ns hns => ?_⟩
  · have z := FunD.bindsA F2 (rs r hin).bind s [u] (by rw [hp]; rfl)
    rw [hp] at z
    exact z
  · unfold callAt at eg
    rw [hm] at eg
    have eb' := Option.some.inj eg
    subst eb'
    have := fn_cm (T := ⟨T0of l.prog w K mg cons nbs base, callAt (fun x => cons.lookup x) (fun x => nbs.contains x) rows k, fun _ _ => none⟩) (S := r.S) F2 sc2 rfl (gok_all (ok base) k) ((sndS_all FUEL).Ss _ _)
    rw [hp] at this ⊢
    exact this
  · exact hq ns hns
end CM

namespace Law
open PySem CM
/-! the table of the defs (printed by gen.py) -/
def top (i : Nat) : Stmt := PySem.Challenge.pw_eventsim_k78_models_written.main.body.getD i (.Pass ⟨0, 0, 0, 0⟩)
def r_is_between : Row := ⟨"is_between", ["thing", "low", "high"], ["thing", "low", "high"], top 21⟩
def r_is_tuple : Row := ⟨"is_tuple", ["thing", "low", "high"], ["thing", "low", "high"], top 22⟩
def r_is_pair : Row := ⟨"is_pair", ["thing"], ["thing"], top 23⟩
def r_is_resource : Row := ⟨"is_resource", ["thing"], ["thing"], top 24⟩
def r_is_store : Row := ⟨"is_store", ["thing"], ["thing", "item"], top 25⟩
def r_is_gate : Row := ⟨"is_gate", ["thing"], ["thing"], top 26⟩
def r_fits : Row := ⟨"fits", ["kind", "number", "counts"], ["kind", "number", "counts"], top 27⟩
def r_is_instruction : Row := ⟨"is_instruction", ["thing", "counts", "depth"], ["thing", "counts", "depth", "kinds", "kind", "number"], top 28⟩
def r_is_body : Row := ⟨"is_body", ["thing", "counts", "depth"], ["thing", "counts", "depth", "one"], top 29⟩
def r_is_forever : Row := ⟨"is_forever", ["thing", "counts"], ["thing", "counts"], top 30⟩
def r_is_script : Row := ⟨"is_script", ["thing", "counts"], ["thing", "counts", "one"], top 31⟩
def r_held_after : Row := ⟨"held_after", ["script", "resource", "many"], ["script", "resource", "many", "instruction"], top 32⟩
def r_time_of : Row := ⟨"time_of", ["script"], ["script", "total", "instruction"], top 33⟩
def r_is_sound : Row := ⟨"is_sound", ["script", "resources"], ["script", "resources", "resource", "one"], top 34⟩
def r_has_parts : Row := ⟨"has_parts", ["thing"], ["thing", "resources", "stores", "gates", "scripts", "one", "script", "part"], top 35⟩
def r_is_model : Row := ⟨"is_model", ["thing"], ["thing", "script"], top 36⟩
def r_need_model : Row := ⟨"need_model", ["thing"], ["thing"], top 37⟩
def r_joined : Row := ⟨"joined", ["parts"], ["parts", "part"], top 43⟩
def r_script_lines : Row := ⟨"script_lines", ["script"], ["script", "found", "instruction"], top 44⟩
def r_format_model : Row := ⟨"format_model", ["model"], ["model", "resources", "stores", "gates", "scripts", "lines", "script", "resource", "capacity", "items", "gate"], top 45⟩
def r_law_cell_at : Row := ⟨"_law_cell_at", ["_law_script_here", "_law_k"], ["_law_script_here", "_law_k"], top 47⟩
def r_law_pen : Row := ⟨"_law_pen", ["_law_cell"], ["_law_cell"], top 48⟩
def r_law_draw : Row := ⟨"_law_draw", ["_law_pen_here", "_law_many"], ["_law_pen_here", "_law_many", "_law_found", "_law_stirred"], top 49⟩
def r_law_pick : Row := ⟨"_law_pick", ["_law_pen_here", "_law_things"], ["_law_pen_here", "_law_things"], top 50⟩
def r_law_same : Row := ⟨"_law_same", ["_law_one", "_law_other"], ["_law_one", "_law_other"], top 51⟩
def r_law_chunk : Row := ⟨"_law_chunk", ["_law_pen_here", "_law_counts"], ["_law_pen_here", "_law_counts", "_law_resources", "_law_stores", "_law_gates", "_law_processes", "_law_way", "_law_r", "_law_s", "_law_one", "_law_other", "_law_ends"], top 52⟩
def r_law_body : Row := ⟨"_law_body", ["_law_pen_here", "_law_counts", "_law_many"], ["_law_pen_here", "_law_counts", "_law_many", "_law_found", "_law_lap", "_law_chunk_here"], top 53⟩
def r_law_script : Row := ⟨"_law_script", ["_law_pen_here", "_law_counts"], ["_law_pen_here", "_law_counts", "_law_found", "_law_way", "_law_body_here", "_law_inner"], top 54⟩
def r_law_has_rouse : Row := ⟨"_law_has_rouse", ["_law_script_here"], ["_law_script_here", "_law_instruction"], top 55⟩
def r_law_pass_time : Row := ⟨"_law_pass_time", ["_law_body_here", "_law_calm"], ["_law_body_here", "_law_calm", "_law_total", "_law_instruction"], top 56⟩
def r_law_cost : Row := ⟨"_law_cost", ["_law_script_here", "_law_calm"], ["_law_script_here", "_law_calm", "_law_total", "_law_instruction", "_law_many"], top 57⟩
def r_law_fitted : Row := ⟨"_law_fitted", ["_law_scripts", "_law_room"], ["_law_scripts", "_law_room", "_law_found", "_law_k", "_law_calm", "_law_one"], top 58⟩
def r_law_store : Row := ⟨"_law_store", ["_law_pen_here"], ["_law_pen_here", "_law_capacity", "_law_lap"], top 59⟩
def r_law_model : Row := ⟨"_law_model", ["_law_pen_here", "_law_most", "_law_room"], ["_law_pen_here", "_law_most", "_law_room", "_law_processes", "_law_kinds", "_law_resources", "_law_stores", "_law_gates", "_law_counts", "_law_scripts", "_law_lap"], top 60⟩
def r_law_lines : Row := ⟨"_law_lines", ["_law_script_here"], ["_law_script_here", "_law_found", "_law_instruction", "_law_part"], top 61⟩
def r_law_text : Row := ⟨"_law_text", ["_law_model_here"], ["_law_model_here", "_law_found", "_law_capacity", "_law_held", "_law_script_here", "_law_discipline", "_law_units", "_law_one", "_law_word"], top 62⟩
def r_law_wide : Row := ⟨"_law_wide", ["_law_pen_here", "_law_model_here"], ["_law_pen_here", "_law_model_here", "_law_body_here", "_law_inner", "_law_odd", "_law_outer", "_law_ends", "_law_scripts"], top 63⟩
def r_law : Row := ⟨"law", ["_law_script_here"], ["_law_script_here", "_law_k", "_law_pen_here", "_law_lap", "_law_model_here"], top 64⟩
def rows : List Row := [r_is_between, r_is_tuple, r_is_pair, r_is_resource, r_is_store, r_is_gate, r_fits, r_is_instruction, r_is_body, r_is_forever, r_is_script, r_held_after, r_time_of, r_is_sound, r_has_parts, r_is_model, r_need_model, r_joined, r_script_lines, r_format_model, r_law_cell_at, r_law_pen, r_law_draw, r_law_pick, r_law_same, r_law_chunk, r_law_body, r_law_script, r_law_has_rouse, r_law_pass_time, r_law_cost, r_law_fitted, r_law_store, r_law_model, r_law_lines, r_law_text, r_law_wide, r_law]
def cons : List (Str × D) := [("DISCIPLINES", .tup [.str "fifo", .str "rank", .str "preempt"]), ("WORDS", .tup [.str "open", .str "shut"]), ("MOST_RESOURCES", .int 4), ("MOST_STORES", .int 3), ("MOST_GATES", .int 3), ("MOST_SCRIPTS", .int 6), ("MOST_UNITS", .int 3), ("MOST_CAPACITY", .int 4), ("MOST_ITEM", .int 99), ("MOST_RANK", .int 9), ("MOST_MARK", .int 999), ("MOST_TIMES", .int 5), ("MOST_DEPTH", .int 3), ("NO_LIMIT", .non), ("NUMBERS", .fd [("wait", .str "d"), ("take", .str "rk"), ("give", .str "r"), ("put", .str "si"), ("get", .str "s"), ("pass", .str "g"), ("open", .str "g"), ("shut", .str "g"), ("rouse", .str "p"), ("mark", .str "n")]), ("REFERENCES", .str "rsgp"), ("BOUNDS", .fd [("d", .non), ("k", .int 9), ("i", .int 99), ("n", .int 999)]), ("SPACE", .str " "), ("LINE_FEED", .str "\n"), ("END", .str "end"), ("PROCESS", .str "process")]
def nbs : List Str := ["ValueError", "all", "any", "bool", "int", "isinstance", "len", "list", "max", "min", "range", "repr", "str", "sum", "tuple", "zip"]
abbrev conF : Str → Option D := fun x => cons.lookup x
abbrev nbF : Str → Bool := fun x => nbs.contains x
theorem s_is_between : RowS r_is_between := ⟨C8.fnScope_by (by decide +kernel), fun _ _ _ _ _ _ us hl => match us, hl with | [_, _, _], _ => rfl⟩
theorem s_is_tuple : RowS r_is_tuple := ⟨C8.fnScope_by (by decide +kernel), fun _ _ _ _ _ _ us hl => match us, hl with | [_, _, _], _ => rfl⟩
theorem s_is_pair : RowS r_is_pair := ⟨C8.fnScope_by (by decide +kernel), fun _ _ _ _ _ _ us hl => match us, hl with | [_], _ => rfl⟩
theorem s_is_resource : RowS r_is_resource := ⟨C8.fnScope_by (by decide +kernel), fun _ _ _ _ _ _ us hl => match us, hl with | [_], _ => rfl⟩
theorem s_is_store : RowS r_is_store := ⟨C8.fnScope_by (by decide +kernel), fun _ _ _ _ _ _ us hl => match us, hl with | [_], _ => rfl⟩
theorem s_is_gate : RowS r_is_gate := ⟨C8.fnScope_by (by decide +kernel), fun _ _ _ _ _ _ us hl => match us, hl with | [_], _ => rfl⟩
theorem s_fits : RowS r_fits := ⟨C8.fnScope_by (by decide +kernel), fun _ _ _ _ _ _ us hl => match us, hl with | [_, _, _], _ => rfl⟩
theorem s_is_instruction : RowS r_is_instruction := ⟨C8.fnScope_by (by decide +kernel), fun _ _ _ _ _ _ us hl => match us, hl with | [_, _, _], _ => rfl⟩
theorem s_is_body : RowS r_is_body := ⟨C8.fnScope_by (by decide +kernel), fun _ _ _ _ _ _ us hl => match us, hl with | [_, _, _], _ => rfl⟩
theorem s_is_forever : RowS r_is_forever := ⟨C8.fnScope_by (by decide +kernel), fun _ _ _ _ _ _ us hl => match us, hl with | [_, _], _ => rfl⟩
theorem s_is_script : RowS r_is_script := ⟨C8.fnScope_by (by decide +kernel), fun _ _ _ _ _ _ us hl => match us, hl with | [_, _], _ => rfl⟩
theorem s_held_after : RowS r_held_after := ⟨C8.fnScope_by (by decide +kernel), fun _ _ _ _ _ _ us hl => match us, hl with | [_, _, _], _ => rfl⟩
theorem s_time_of : RowS r_time_of := ⟨C8.fnScope_by (by decide +kernel), fun _ _ _ _ _ _ us hl => match us, hl with | [_], _ => rfl⟩
theorem s_is_sound : RowS r_is_sound := ⟨C8.fnScope_by (by decide +kernel), fun _ _ _ _ _ _ us hl => match us, hl with | [_, _], _ => rfl⟩
theorem s_has_parts : RowS r_has_parts := ⟨C8.fnScope_by (by decide +kernel), fun _ _ _ _ _ _ us hl => match us, hl with | [_], _ => rfl⟩
theorem s_is_model : RowS r_is_model := ⟨C8.fnScope_by (by decide +kernel), fun _ _ _ _ _ _ us hl => match us, hl with | [_], _ => rfl⟩
theorem s_need_model : RowS r_need_model := ⟨C8.fnScope_by (by decide +kernel), fun _ _ _ _ _ _ us hl => match us, hl with | [_], _ => rfl⟩
theorem s_joined : RowS r_joined := ⟨C8.fnScope_by (by decide +kernel), fun _ _ _ _ _ _ us hl => match us, hl with | [_], _ => rfl⟩
theorem s_script_lines : RowS r_script_lines := ⟨C8.fnScope_by (by decide +kernel), fun _ _ _ _ _ _ us hl => match us, hl with | [_], _ => rfl⟩
theorem s_format_model : RowS r_format_model := ⟨C8.fnScope_by (by decide +kernel), fun _ _ _ _ _ _ us hl => match us, hl with | [_], _ => rfl⟩
theorem s_law_cell_at : RowS r_law_cell_at := ⟨C8.fnScope_by (by decide +kernel), fun _ _ _ _ _ _ us hl => match us, hl with | [_, _], _ => rfl⟩
theorem s_law_pen : RowS r_law_pen := ⟨C8.fnScope_by (by decide +kernel), fun _ _ _ _ _ _ us hl => match us, hl with | [_], _ => rfl⟩
theorem s_law_draw : RowS r_law_draw := ⟨C8.fnScope_by (by decide +kernel), fun _ _ _ _ _ _ us hl => match us, hl with | [_, _], _ => rfl⟩
theorem s_law_pick : RowS r_law_pick := ⟨C8.fnScope_by (by decide +kernel), fun _ _ _ _ _ _ us hl => match us, hl with | [_, _], _ => rfl⟩
theorem s_law_same : RowS r_law_same := ⟨C8.fnScope_by (by decide +kernel), fun _ _ _ _ _ _ us hl => match us, hl with | [_, _], _ => rfl⟩
theorem s_law_chunk : RowS r_law_chunk := ⟨C8.fnScope_by (by decide +kernel), fun _ _ _ _ _ _ us hl => match us, hl with | [_, _], _ => rfl⟩
theorem s_law_body : RowS r_law_body := ⟨C8.fnScope_by (by decide +kernel), fun _ _ _ _ _ _ us hl => match us, hl with | [_, _, _], _ => rfl⟩
theorem s_law_script : RowS r_law_script := ⟨C8.fnScope_by (by decide +kernel), fun _ _ _ _ _ _ us hl => match us, hl with | [_, _], _ => rfl⟩
theorem s_law_has_rouse : RowS r_law_has_rouse := ⟨C8.fnScope_by (by decide +kernel), fun _ _ _ _ _ _ us hl => match us, hl with | [_], _ => rfl⟩
theorem s_law_pass_time : RowS r_law_pass_time := ⟨C8.fnScope_by (by decide +kernel), fun _ _ _ _ _ _ us hl => match us, hl with | [_, _], _ => rfl⟩
theorem s_law_cost : RowS r_law_cost := ⟨C8.fnScope_by (by decide +kernel), fun _ _ _ _ _ _ us hl => match us, hl with | [_, _], _ => rfl⟩
theorem s_law_fitted : RowS r_law_fitted := ⟨C8.fnScope_by (by decide +kernel), fun _ _ _ _ _ _ us hl => match us, hl with | [_, _], _ => rfl⟩
theorem s_law_store : RowS r_law_store := ⟨C8.fnScope_by (by decide +kernel), fun _ _ _ _ _ _ us hl => match us, hl with | [_], _ => rfl⟩
theorem s_law_model : RowS r_law_model := ⟨C8.fnScope_by (by decide +kernel), fun _ _ _ _ _ _ us hl => match us, hl with | [_, _, _], _ => rfl⟩
theorem s_law_lines : RowS r_law_lines := ⟨C8.fnScope_by (by decide +kernel), fun _ _ _ _ _ _ us hl => match us, hl with | [_], _ => rfl⟩
theorem s_law_text : RowS r_law_text := ⟨C8.fnScope_by (by decide +kernel), fun _ _ _ _ _ _ us hl => match us, hl with | [_], _ => rfl⟩
theorem s_law_wide : RowS r_law_wide := ⟨C8.fnScope_by (by decide +kernel), fun _ _ _ _ _ _ us hl => match us, hl with | [_, _], _ => rfl⟩
theorem s_law : RowS r_law := ⟨C8.fnScope_by (by decide +kernel), fun _ _ _ _ _ _ us hl => match us, hl with | [_], _ => rfl⟩
theorem rs : ∀ r ∈ rows, RowS r :=
  List.forall_mem_cons.mpr ⟨s_is_between, List.forall_mem_cons.mpr ⟨s_is_tuple, List.forall_mem_cons.mpr ⟨s_is_pair, List.forall_mem_cons.mpr ⟨s_is_resource, List.forall_mem_cons.mpr ⟨s_is_store, List.forall_mem_cons.mpr ⟨s_is_gate, List.forall_mem_cons.mpr ⟨s_fits, List.forall_mem_cons.mpr ⟨s_is_instruction, List.forall_mem_cons.mpr ⟨s_is_body, List.forall_mem_cons.mpr ⟨s_is_forever, List.forall_mem_cons.mpr ⟨s_is_script, List.forall_mem_cons.mpr ⟨s_held_after, List.forall_mem_cons.mpr ⟨s_time_of, List.forall_mem_cons.mpr ⟨s_is_sound, List.forall_mem_cons.mpr ⟨s_has_parts, List.forall_mem_cons.mpr ⟨s_is_model, List.forall_mem_cons.mpr ⟨s_need_model, List.forall_mem_cons.mpr ⟨s_joined, List.forall_mem_cons.mpr ⟨s_script_lines, List.forall_mem_cons.mpr ⟨s_format_model, List.forall_mem_cons.mpr ⟨s_law_cell_at, List.forall_mem_cons.mpr ⟨s_law_pen, List.forall_mem_cons.mpr ⟨s_law_draw, List.forall_mem_cons.mpr ⟨s_law_pick, List.forall_mem_cons.mpr ⟨s_law_same, List.forall_mem_cons.mpr ⟨s_law_chunk, List.forall_mem_cons.mpr ⟨s_law_body, List.forall_mem_cons.mpr ⟨s_law_script, List.forall_mem_cons.mpr ⟨s_law_has_rouse, List.forall_mem_cons.mpr ⟨s_law_pass_time, List.forall_mem_cons.mpr ⟨s_law_cost, List.forall_mem_cons.mpr ⟨s_law_fitted, List.forall_mem_cons.mpr ⟨s_law_store, List.forall_mem_cons.mpr ⟨s_law_model, List.forall_mem_cons.mpr ⟨s_law_lines, List.forall_mem_cons.mpr ⟨s_law_text, List.forall_mem_cons.mpr ⟨s_law_wide, List.forall_mem_cons.mpr ⟨s_law, (fun _ h => nomatch h)⟩⟩⟩⟩⟩⟩⟩⟩⟩⟩⟩⟩⟩⟩⟩⟩⟩⟩⟩⟩⟩⟩⟩⟩⟩⟩⟩⟩⟩⟩⟩⟩⟩⟩⟩⟩⟩⟩
def loose0 : List Str := ["EventsimError", "ModelError", "DISCIPLINES", "WORDS", "MOST_RESOURCES", "MOST_STORES", "MOST_GATES", "MOST_SCRIPTS", "MOST_UNITS", "MOST_CAPACITY", "MOST_ITEM", "MOST_RANK", "MOST_MARK", "MOST_TIMES", "MOST_DEPTH", "NO_LIMIT", "NUMBERS", "REFERENCES", "BOUNDS", "is_between", "is_tuple", "is_pair", "is_resource", "is_store", "is_gate", "fits", "is_instruction", "is_body", "is_forever", "is_script"]
def loose1 : List Str := ["held_after", "time_of", "is_sound", "has_parts", "is_model", "need_model", "SPACE", "LINE_FEED", "END", "PROCESS", "joined", "script_lines", "format_model", "_law_cell_at", "_law_pen", "_law_draw", "_law_pick", "_law_same", "_law_chunk", "_law_body", "_law_script", "_law_has_rouse", "_law_pass_time", "_law_cost", "_law_fitted", "_law_store", "_law_model", "_law_lines", "_law_text", "_law_wide"]
abbrev looseAll : List Str := loose0 ++ loose1
abbrev lawAt : Nat := 64
end Law

namespace Law
open PySem PySem.Spec PyProof.Rows L2 CM
abbrev RR : PySem.W.OpenRow := PySem.W.OpenLaw.row PySem.Challenge.rw_eventsim_k78_models_written
abbrev fnD : List He.DefD := rows.map Row.D
abbrev hk : PySem.W.Hook := He.hookX 4 (faOf rows nbs) fnD (tabsOf cons) [] (consB cons)
def ob (s : PySem.W.SharedT) : He.AlX := He.obsX 4 (faOf rows nbs) fnD (tabsOf cons) [] (consB cons) (HandSHeadRun.getT s)
theorem ob_eq (s : PySem.W.SharedT) : ob s = hk.obs s.abs := He.obsX_eq (HandSHeadRun.getT_eq s)
theorem run (w : World) : HandSHeadRun.RunEq RR (PySem.W.view RR.prog [lawAt]) hk ob 4000 looseAll w := PySem.W.byRow2 "special-get-raises" (P := fun w => HandSHeadRun.RunEq RR (PySem.W.view RR.prog [lawAt]) hk ob 4000 looseAll w) (fun w os => by kernel_rfl) (fun w os => by kernel_rfl) w
end Law

/-! CM, part w: reckoning with what the interpreter gives. -/
namespace CM
open PySem L2
def W {α : Type} (x : R α) (Q : α → AH → Prop) : Prop := match x with | .ok a h => Q a h | .bad => False
theorem W_ok {α : Type} {a : α} {h : AH} {Q : α → AH → Prop} : W (.ok a h) Q = Q a h := rfl
theorem W_bad {α : Type} {Q : α → AH → Prop} : W (.bad : R α) Q = False := rfl
theorem W_bind {α β : Type} {x : R α} {f : α → AH → R β} {Q : β → AH → Prop} : W (x.bind f) Q = W x fun a h => W (f a h) Q := by cases x <;> rfl
theorem W_mono {α : Type} {x : R α} {Q Q' : α → AH → Prop} (h : W x Q) (q : ∀ a h, Q a h → Q' a h) : W x Q' := by
  cases x with
  | ok a h' => exact q _ _ h
  | bad => exact h
theorem W_of {α : Type} {x : R α} {a : α} {h : AH} {Q : α → AH → Prop} (e : x = .ok a h) (q : Q a h) : W x Q := by rw [e]; exact q
theorem W_eq {α : Type} {x : R α} {a : α} {h : AH} (q : W x fun b h' => b = a ∧ h' = h) : x = .ok a h := by
  cases x with
  | ok b h' => obtain ⟨rfl, rfl⟩ := q; rfl
  | bad => exact q.elim
theorem W_ex {α : Type} {x : R α} {Q : α → AH → Prop} (q : W x Q) : ∃ a h, x = .ok a h ∧ Q a h := by
  cases x with
  | ok b h' => exact ⟨b, h', rfl, q⟩
  | bad => exact q.elim
theorem W_ite {α : Type} {c : Prop} [Decidable c] {x y : R α} {Q : α → AH → Prop} : W (if c then x else y) Q = if c then W x Q else W y Q := by split <;> rfl
theorem bind_ok {α β : Type} {a : α} {h : AH} {f : α → AH → R β} : (R.ok a h).bind f = f a h := rfl
theorem bind_bad {α β : Type} {f : α → AH → R β} : (R.bad : R α).bind f = .bad := rfl
/-- a call, by its name -/
def callOf (F : Str → Option GF) (x : Str) (ds : List D) (h : AH) : R D := match F x with | some g => g ds h | none => .bad
theorem gFn_eq {F : Str → Option GF} {x : Str} {ga : GA} {ρ : Env} {h : AH} : gFn F x ga ρ h = (ga ρ h).bind fun ds h1 => callOf F x ds h1 := by
  unfold gFn callOf gCall
  cases F x with
  | some g => rfl
  | none => cases ga ρ h <;> rfl
theorem callOf_some {F : Str → Option GF} {x : Str} {g : GF} (e : F x = some g) (ds : List D) (h : AH) : callOf F x ds h = g ds h := by unfold callOf; rw [e]
theorem opt_some {α : Type} {a : α} {h : AH} : R.opt (some a) h = .ok a h := rfl
/-! ### loops -/
theorem W_for {it : IterD} {gt : GTg} {gb : GS} {Q : Fl × Env → AH → Prop} (Iv : Nat → Env → AH → Prop)
    (hs : ∀ j ρ h, j < it.len → Iv j ρ h → ∃ d, IterD.get j h it = some d ∧ W (gt d ρ h) fun ρ1 h1 => W (gb ρ1 h1) fun p h2 => match p with
      | (.nx, ρ2) => Iv (j + 1) ρ2 h2 | (.ct, ρ2) => Iv (j + 1) ρ2 h2 | (.bk, ρ2) => Q (.nx, ρ2) h2 | (.rt d, ρ2) => Q (.rt d, ρ2) h2)
    (hd : ∀ ρ h, Iv it.len ρ h → IterD.fin h it = true ∧ Q (.nx, ρ) h) : ∀ n i ρ h, n + i = it.len → Iv i ρ h → W (forLoop it gt gb n i ρ h) Q
  | 0, i, ρ, h, e, v => by
    have e' : i = it.len := by omega
    subst e'
    obtain ⟨h1, h2⟩ := hd ρ h v
    unfold forLoop
    rw [if_pos h1]
    exact h2
  | n + 1, i, ρ, h, e, v => by
    obtain ⟨d, e1, w1⟩ := hs i ρ h (by omega) v
    unfold forLoop
    rw [e1]
    simp only [W_bind]
    refine W_mono w1 fun ρ1 h1 w2 => W_mono w2 fun p h2 w3 => ?_
    obtain ⟨f, ρ2⟩ := p
    cases f with
    | nx => exact W_for Iv hs hd n (i + 1) ρ2 h2 (by omega) w3
    | ct => exact W_for Iv hs hd n (i + 1) ρ2 h2 (by omega) w3
    | bk => exact w3
    | rt d => exact w3
theorem W_lc {it : IterD} {gt : GTg} {gf : GB} {ge : G} {ρ : Env} {Q : List D → AH → Prop} (Iv : Nat → List D → AH → Prop)
    (hs : ∀ j acc h, j < it.len → Iv j acc h → ∃ d, IterD.get j h it = some d ∧ W (gt d ρ h) fun ρ1 h1 => W (gf ρ1 h1) fun b h2 => if b then W (ge ρ1 h2) fun y h3 => acc.length ≤ LIM ∧ Iv (j + 1) (acc ++ [y]) h3 else Iv (j + 1) acc h2)
    (hd : ∀ acc h, Iv it.len acc h → IterD.fin h it = true ∧ Q acc h) : ∀ n i acc h, n + i = it.len → Iv i acc h → W (lcLoop it gt gf ge ρ n i acc h) Q
  | 0, i, acc, h, e, v => by
    have e' : i = it.len := by omega
    subst e'
    obtain ⟨h1, h2⟩ := hd acc h v
    unfold lcLoop
    rw [if_pos h1]
    exact h2
  | n + 1, i, acc, h, e, v => by
    obtain ⟨d, e1, w1⟩ := hs i acc h (by omega) v
    unfold lcLoop
    rw [e1]
    simp only [W_bind]
    refine W_mono w1 fun ρ1 h1 w2 => W_mono w2 fun b h2 w3 => ?_
    cases b with
    | true =>
      simp only [if_true, W_bind] at w3 ⊢
      refine W_mono w3 fun y h3 w4 => ?_
      rw [if_pos w4.1]
      exact W_lc Iv hs hd n (i + 1) _ h3 (by omega) w4.2
    | false => exact W_lc Iv hs hd n (i + 1) _ h2 (by omega) w3
/-- a comprehension over given values, one value an item, the heap as it was -/
theorem lc_vals {ds : List D} {gt : GTg} {ge : G} {ρ : Env} {h : AH} (f : D → D) (hl : ds.length ≤ LIM) (hs : ∀ d ∈ ds, W (gt d ρ h) fun ρ1 h1 => h1 = h ∧ ge ρ1 h = .ok (f d) h) :
    lcLoop (.vals ds) gt gYes ge ρ (IterD.vals ds).len 0 [] h = .ok (ds.map f) h := by
  refine W_eq (W_lc (fun j acc h' => acc = (ds.take j).map f ∧ h' = h) (fun j acc h' hj v => ?_) (fun acc h' v => ?_) _ _ _ _ rfl ⟨by simp, rfl⟩)
  · obtain ⟨rfl, rfl⟩ := v
    have hj' : j < ds.length := hj
    refine ⟨ds[j], by simp [IterD.get, hj'], W_mono (hs ds[j] (List.getElem_mem hj')) fun ρ1 h1 q => ?_⟩
    obtain ⟨rfl, q⟩ := q
    simp only [gYes, W_ok, if_true, q]
    refine ⟨by simp; omega, ?_, trivial⟩
    rw [List.take_add_one, List.getElem?_eq_getElem hj', List.map_append]; rfl
  · obtain ⟨rfl, rfl⟩ := v
    refine ⟨rfl, ?_, rfl⟩
    have : (IterD.vals ds).len = ds.length := rfl
    rw [this, List.take_length]
end CM

/-! CM, part v: step by step evaluation of printed bodies. -/
namespace CM
open PySem L2
variable {α β γ : Type}
def kc (f : α → AH → R β) (g : β → AH → R γ) : α → AH → R γ := fun a h => (f a h).bind g
@[simp] theorem kc_ap {f : α → AH → R β} {g : β → AH → R γ} {a : α} {h : AH} : kc f g a h = (f a h).bind g := (rfl)
@[simp] theorem bind_bind {x : R α} {f : α → AH → R β} {g : β → AH → R γ} : (x.bind f).bind g = x.bind (kc f g) := by cases x <;> rfl
@[simp] theorem bind_ok1 {a : α} {h : AH} {f : α → AH → R β} : (R.ok a h).bind f = f a h := (rfl)
@[simp] theorem bind_bad1 {f : α → AH → R β} : (R.bad : R α).bind f = .bad := (rfl)
@[simp] theorem W_ok1 {a : α} {h : AH} {Q : α → AH → Prop} : W (.ok a h) Q = Q a h := (rfl)
@[simp] theorem W_bad1 {Q : α → AH → Prop} : W (.bad : R α) Q = False := (rfl)
theorem W_call {x : R α} {f : α → AH → R β} {P : α → AH → Prop} {Q : β → AH → Prop} (s : W x P) (q : ∀ a h, P a h → W (f a h) Q) : W (x.bind f) Q := by
  rw [W_bind]; exact W_mono s q
@[simp] theorem opt_some1 {a : α} {h : AH} : R.opt (some a) h = .ok a h := (rfl)
/-! the leaves -/
def varK : Option (Option D) → AH → R D
  | some (some d), h => .ok d h
  | _, _ => .bad
@[simp] theorem varK_ok {d : D} {h : AH} : varK (some (some d)) h = .ok d h := (rfl)
variable {ρ : Env} {h : AH}
@[simp] theorem ev_var {i : Nat} : gVar i ρ h = varK ρ[i]? h := by
  unfold gVar varK
  split <;> simp_all
@[simp] theorem ev_con {d : D} : gCon d ρ h = .ok d h := (rfl)
def binK (f : D → D → AH → R D) (b : G) (ρ : Env) : D → AH → R D := fun x h1 => (b ρ h1).bind (f x)
@[simp] theorem binK_ap {f : D → D → AH → R D} {b : G} {x : D} : binK f b ρ x h = (b ρ h).bind (f x) := (rfl)
@[simp] theorem ev_bin {f : D → D → AH → R D} {a b : G} : gBin f a b ρ h = (a ρ h).bind (binK f b ρ) := (rfl)
def truK : D → AH → R Bool := fun d h => match d with | .bl b => .ok b h | _ => .bad
@[simp] theorem truK_ap {b : Bool} : truK (.bl b) h = .ok b h := (rfl)
@[simp] theorem ev_true {g : G} : gTrue g ρ h = (g ρ h).bind truK := (rfl)
def notK : Bool → AH → R Bool := fun b h => .ok (!b) h
@[simp] theorem notK_ap {b : Bool} : notK b h = .ok (!b) h := (rfl)
@[simp] theorem ev_notB {a : GB} : gNotB a ρ h = (a ρ h).bind notK := (rfl)
def andK (b : GB) (ρ : Env) : Bool → AH → R Bool := fun c h => if c then b ρ h else .ok false h
@[simp] theorem andK_t {b : GB} : andK b ρ true h = b ρ h := (rfl)
@[simp] theorem andK_f {b : GB} : andK b ρ false h = .ok false h := (rfl)
@[simp] theorem ev_andB {a b : GB} : gAndB a b ρ h = (a ρ h).bind (andK b ρ) := (rfl)
def orK (b : GB) (ρ : Env) : Bool → AH → R Bool := fun c h => if c then .ok true h else b ρ h
@[simp] theorem orK_f {b : GB} : orK b ρ false h = b ρ h := (rfl)
@[simp] theorem orK_t {b : GB} : orK b ρ true h = .ok true h := (rfl)
@[simp] theorem ev_orB {a b : GB} : gOrB a b ρ h = (a ρ h).bind (orK b ρ) := (rfl)
def notVK : D → AH → R D := fun d h => match d with | .bl b => .ok (.bl (!b)) h | _ => .bad
@[simp] theorem notVK_ap {b : Bool} : notVK (.bl b) h = .ok (.bl (!b)) h := (rfl)
@[simp] theorem ev_notV {a : G} : gNotV a ρ h = (a ρ h).bind notVK := (rfl)
def andVK (b : G) (ρ : Env) : D → AH → R D := fun d h => match d with | .bl c => (if c then b ρ h else .ok (.bl false) h) | _ => .bad
@[simp] theorem andVK_t {b : G} : andVK b ρ (.bl true) h = b ρ h := (rfl)
@[simp] theorem andVK_f {b : G} : andVK b ρ (.bl false) h = .ok (.bl false) h := (rfl)
@[simp] theorem ev_andV {a b : G} : gAndV a b ρ h = (a ρ h).bind (andVK b ρ) := (rfl)
def orVK (b : G) (ρ : Env) : D → AH → R D := fun d h => match d with | .bl c => (if c then .ok (.bl true) h else b ρ h) | _ => .bad
@[simp] theorem orVK_t {b : G} : orVK b ρ (.bl true) h = .ok (.bl true) h := (rfl)
@[simp] theorem orVK_f {b : G} : orVK b ρ (.bl false) h = b ρ h := (rfl)
@[simp] theorem ev_orV {a b : G} : gOrV a b ρ h = (a ρ h).bind (orVK b ρ) := (rfl)
def ifEK (a b : G) (ρ : Env) : Bool → AH → R D := fun c h => if c then a ρ h else b ρ h
@[simp] theorem ifEK_t {a b : G} : ifEK a b ρ true h = a ρ h := (rfl)
@[simp] theorem ifEK_f {a b : G} : ifEK a b ρ false h = b ρ h := (rfl)
@[simp] theorem ev_ifE {t : GB} {a b : G} : gIfE t a b ρ h = (t ρ h).bind (ifEK a b ρ) := (rfl)
def negK : D → AH → R D := fun d h => match d with | .int i => .ok (.int (-i)) h | _ => .bad
@[simp] theorem negK_ap {i : Int} : negK (.int i) h = .ok (.int (-i)) h := (rfl)
@[simp] theorem ev_neg {a : G} : gNeg a ρ h = (a ρ h).bind negK := (rfl)
/-! rows of arguments -/
@[simp] theorem ev_aNil : gaNil ρ h = .ok [] h := (rfl)
def conK2 (d : D) : List D → AH → R (List D) := fun ds h => .ok (d :: ds) h
@[simp] theorem conK2_ap {d : D} {ds : List D} : conK2 d ds h = .ok (d :: ds) h := (rfl)
def conK (ga : GA) (ρ : Env) : D → AH → R (List D) := fun d h => (ga ρ h).bind (conK2 d)
@[simp] theorem conK_ap {ga : GA} {d : D} : conK ga ρ d h = (ga ρ h).bind (conK2 d) := (rfl)
@[simp] theorem ev_aCons {g : G} {ga : GA} : gaCons g ga ρ h = (g ρ h).bind (conK ga ρ) := (rfl)
def staK2 (es : List D) : List D → AH → R (List D) := fun ds h => .ok (es ++ ds) h
@[simp] theorem staK2_ap {es ds : List D} : staK2 es ds h = .ok (es ++ ds) h := (rfl)
def staK (ga : GA) (ρ : Env) : D → AH → R (List D) := fun d h => match seqOf h d with | some es => (ga ρ h).bind (staK2 es) | none => .bad
@[simp] theorem staK_tup {ga : GA} {es : List D} : staK ga ρ (.tup es) h = (ga ρ h).bind (staK2 es) := (rfl)
theorem staK_obj {ga : GA} {es : List D} {n : Nat} (e : h[n]? = some (.lst es)) : staK ga ρ (.obj n) h = (ga ρ h).bind (staK2 es) := by simp only [staK, seqOf, e]
@[simp] theorem ev_aStar {g : G} {ga : GA} : gaStar g ga ρ h = (g ρ h).bind (staK ga ρ) := (rfl)
def alcK : List D → AH → R D := fun ds h => .ok (.obj h.length) (h ++ [.lst ds])
@[simp] theorem alcK_ap {ds : List D} : alcK ds h = .ok (.obj h.length) (h ++ [.lst ds]) := (rfl)
@[simp] theorem ev_alloc {ga : GA} : gAlloc ga ρ h = (ga ρ h).bind alcK := (rfl)
def tupK : List D → AH → R D := fun ds h => if ds.length ≤ LIM then .ok (.tup ds) h else .bad
theorem tupK_ap {ds : List D} (e : ds.length ≤ LIM) : tupK ds h = .ok (.tup ds) h := if_pos e
@[simp] theorem ev_tup {ga : GA} : gTup ga ρ h = (ga ρ h).bind tupK := (rfl)
def lstK : List D → AH → R (List D) := fun ds h => if ds.length ≤ LIM then .ok ds h else .bad
theorem lstK_ap {ds : List D} (e : ds.length ≤ LIM) : lstK ds h = .ok ds h := if_pos e
@[simp] theorem ev_lst {ga : GA} : gLst ga ρ h = (ga ρ h).bind lstK := (rfl)
@[simp] theorem lstK_0 : lstK [] h = .ok [] h := (rfl)
@[simp] theorem lstK_1 {a : D} : lstK [a] h = .ok [a] h := (rfl)
@[simp] theorem lstK_2 {a b : D} : lstK [a, b] h = .ok [a, b] h := (rfl)
@[simp] theorem lstK_3 {a b c : D} : lstK [a, b, c] h = .ok [a, b, c] h := (rfl)
@[simp] theorem lstK_4 {a b c d : D} : lstK [a, b, c, d] h = .ok [a, b, c, d] h := (rfl)
@[simp] theorem lstK_5 {a b c d e : D} : lstK [a, b, c, d, e] h = .ok [a, b, c, d, e] h := (rfl)
@[simp] theorem lstK_6 {a b c d e f : D} : lstK [a, b, c, d, e, f] h = .ok [a, b, c, d, e, f] h := (rfl)
@[simp] theorem tupK_0 : tupK [] h = .ok (.tup []) h := (rfl)
@[simp] theorem tupK_1 {a : D} : tupK [a] h = .ok (.tup [a]) h := (rfl)
@[simp] theorem tupK_2 {a b : D} : tupK [a, b] h = .ok (.tup [a, b]) h := (rfl)
@[simp] theorem tupK_3 {a b c : D} : tupK [a, b, c] h = .ok (.tup [a, b, c]) h := (rfl)
@[simp] theorem tupK_4 {a b c d : D} : tupK [a, b, c, d] h = .ok (.tup [a, b, c, d]) h := (rfl)
@[simp] theorem tupK_5 {a b c d e : D} : tupK [a, b, c, d, e] h = .ok (.tup [a, b, c, d, e]) h := (rfl)
@[simp] theorem tupK_6 {a b c d e f : D} : tupK [a, b, c, d, e, f] h = .ok (.tup [a, b, c, d, e, f]) h := (rfl)
@[simp] theorem ev_call {f : GF} {ga : GA} : gCall f ga ρ h = (ga ρ h).bind f := (rfl)
@[simp] theorem ev_fn {F : Str → Option GF} {x : Str} {ga : GA} : gFn F x ga ρ h = (ga ρ h).bind (callOf F x) := gFn_eq
theorem atI_k {α : Type} {xs : List α} {j : Nat} {x : α} (e : xs[j]? = some x) : atI xs (j : Int) = some x := by
  have hj : j < xs.length := by
    rcases Nat.lt_or_ge j xs.length with z | z
    · exact z
    · rw [List.getElem?_eq_none z] at e; cases e
  unfold atI ixN
  rw [if_pos (by omega), if_pos (by omega)]
  simpa using e
@[simp] theorem atI_0 {α : Type} {x : α} {xs : List α} : atI (x :: xs) 0 = some x := atI_k (j := 0) rfl
@[simp] theorem atI_1 {α : Type} {x y : α} {xs : List α} : atI (x :: y :: xs) 1 = some y := atI_k (j := 1) rfl
@[simp] theorem atI_2 {α : Type} {x y z : α} {xs : List α} : atI (x :: y :: z :: xs) 2 = some z := atI_k (j := 2) rfl
@[simp] theorem atI_3 {α : Type} {x y z u : α} {xs : List α} : atI (x :: y :: z :: u :: xs) 3 = some u := atI_k (j := 3) rfl
@[simp] theorem atI_4 {α : Type} {x y z u v : α} {xs : List α} : atI (x :: y :: z :: u :: v :: xs) 4 = some v := atI_k (j := 4) rfl
theorem atI_last {α : Type} {x : α} {xs : List α} : atI (xs ++ [x]) (-1) = some x := by
  unfold atI ixN
  rw [if_neg (by omega), if_pos (by simp; omega)]
  simp
  rw [show (-1 + ((xs.length : Int) + 1)).toNat = xs.length by omega]
  simp
@[simp] theorem atI_l1 {α : Type} {x : α} : atI [x] (-1) = some x := (rfl)
@[simp] theorem atI_l2 {α : Type} {x y : α} : atI [x, y] (-1) = some y := (rfl)
@[simp] theorem atI_l3 {α : Type} {x y z : α} : atI [x, y, z] (-1) = some z := (rfl)
@[simp] theorem ofS_eq {a b : String} : (Str.ofString a = Str.ofString b) = (a = b) := by
  refine propext ⟨fun e => ?_, fun e => by rw [e]⟩
  rw [Str.ofString_eq_toList, Str.ofString_eq_toList] at e
  injection e with e
  have e2 : a.toList.map Char.toNat = b.toList.map Char.toNat := by simpa using e
  have e3 : a.toList = b.toList := (List.map_inj_right (fun x y q => Char.toNat_inj.mp q)).mp e2
  exact String.toList_inj.mp e3
@[simp] theorem ofS_beq {a b : String} : (Str.ofString a == Str.ofString b) = decide (a = b) := by
  rw [Bool.eq_iff_iff, beq_iff_eq, decide_eq_true_iff, ofS_eq]
def lK (f : List D → Option D) : List D → AH → R D := fun ds h => R.opt (f ds) h
@[simp] theorem lK_ap {f : List D → Option D} {ds : List D} : lK f ds h = R.opt (f ds) h := (rfl)
@[simp] theorem ev_callL {f : List D → Option D} {ga : GA} : gCallL f ga ρ h = (ga ρ h).bind (lK f) := (rfl)
def isiK (t : String) : D → AH → R D := fun d h => match (tyD h d).bind fun s => kitB s t with | some b => .ok (.bl b) h | none => .bad
@[simp] theorem ev_isi {t : String} {g : G} : gIsi t g ρ h = (g ρ h).bind (isiK t) := (rfl)
@[simp] theorem isi_int_int {i : Int} : isiK "int" (.int i) h = .ok (.bl true) h := (rfl)
@[simp] theorem isi_int_bool {i : Int} : isiK "bool" (.int i) h = .ok (.bl false) h := by
  show (match kitB "int" "bool" with | some b => R.ok (D.bl b) h | none => .bad) = _
  rw [show kitB "int" "bool" = some false by kernel_rfl]
@[simp] theorem isi_str_str {i : Str} : isiK "str" (.str i) h = .ok (.bl true) h := (rfl)
@[simp] theorem isi_tup_tup {i : List D} : isiK "tuple" (.tup i) h = .ok (.bl true) h := (rfl)
def metK2 (f : D → GF) (x : D) : List D → AH → R D := f x
@[simp] theorem metK2_ap {f : D → GF} {x : D} {ds : List D} : metK2 f x ds h = f x ds h := (rfl)
def metK (Tn : String) (f : D → GF) (ga : GA) (ρ : Env) : D → AH → R D := fun x h => if rcv Tn h x then (ga ρ h).bind (metK2 f x) else .bad
@[simp] theorem metK_str {f : D → GF} {ga : GA} {z : Str} : metK "str" f ga ρ (.str z) h = (ga ρ h).bind (metK2 f (.str z)) := (rfl)
theorem metK_lst {f : D → GF} {ga : GA} {n : Nat} {xs : List D} (e : h[n]? = some (.lst xs)) : metK "list" f ga ρ (.obj n) h = (ga ρ h).bind (metK2 f (.obj n)) := by
  unfold metK rcv
  simp [e]
@[simp] theorem ev_meth {Tn : String} {f : D → GF} {go : G} {ga : GA} : gMeth Tn f go ga ρ h = (go ρ h).bind (metK Tn f ga ρ) := (rfl)
def mlK2 (f : D → List D → Option D) (x : D) : List D → AH → R D := fun ds h => R.opt (f x ds) h
@[simp] theorem mlK2_ap {f : D → List D → Option D} {x : D} {ds : List D} : mlK2 f x ds h = R.opt (f x ds) h := (rfl)
def mlK (Tn : String) (f : D → List D → Option D) (ga : GA) (ρ : Env) : D → AH → R D := fun x h => if rcv Tn h x then (ga ρ h).bind (mlK2 f x) else .bad
@[simp] theorem mlK_str {f : D → List D → Option D} {ga : GA} {z : Str} : mlK "str" f ga ρ (.str z) h = (ga ρ h).bind (mlK2 f (.str z)) := (rfl)
@[simp] theorem ev_methL {Tn : String} {f : D → List D → Option D} {go : G} {ga : GA} : gMethL Tn f go ga ρ h = (go ρ h).bind (mlK Tn f ga ρ) := (rfl)
def getK3 (kvs : List (Str × D)) (z : Str) : D → AH → R D := fun x h => .ok ((kvs.lookup z).getD x) h
@[simp] theorem getK3_ap {kvs : List (Str × D)} {z : Str} {x : D} : getK3 kvs z x h = .ok ((kvs.lookup z).getD x) h := (rfl)
def getK2 (gx : G) (kvs : List (Str × D)) (ρ : Env) : D → AH → R D := fun i h => match i with | .str z => (gx ρ h).bind (getK3 kvs z) | _ => .bad
@[simp] theorem getK2_ap {gx : G} {kvs : List (Str × D)} {z : Str} : getK2 gx kvs ρ (.str z) h = (gx ρ h).bind (getK3 kvs z) := (rfl)
def getK (gi gx : G) (ρ : Env) : D → AH → R D := fun d h => match d with | .fd kvs => (gi ρ h).bind (getK2 gx kvs ρ) | _ => .bad
@[simp] theorem getK_ap {gi gx : G} {kvs : List (Str × D)} : getK gi gx ρ (.fd kvs) h = (gi ρ h).bind (getK2 gx kvs ρ) := (rfl)
@[simp] theorem ev_get {go gi gx : G} : gGet go gi gx ρ h = (go ρ h).bind (getK gi gx ρ) := by
  unfold gGet
  cases go ρ h with
  | bad => rfl
  | ok d h1 =>
    cases d <;> rfl
/-! slices -/
@[simp] theorem ev_oNone : goNone ρ h = .ok none h := (rfl)
def osK : D → AH → R (Option Int) := fun d h => match d with | .int i => .ok (some i) h | _ => .bad
@[simp] theorem osK_ap {i : Int} : osK (.int i) h = .ok (some i) h := (rfl)
@[simp] theorem ev_oSome {g : G} : goSome g ρ h = (g ρ h).bind osK := (rfl)
def slK2 (x : D) (lo : Option Int) : Option Int → AH → R D := fun hi h => slD h x lo hi
@[simp] theorem slK2_ap {x : D} {lo hi : Option Int} : slK2 x lo hi h = slD h x lo hi := (rfl)
def slK1 (gh : GO) (ρ : Env) (x : D) : Option Int → AH → R D := fun lo h => (gh ρ h).bind (slK2 x lo)
@[simp] theorem slK1_ap {gh : GO} {x : D} {lo : Option Int} : slK1 gh ρ x lo h = (gh ρ h).bind (slK2 x lo) := (rfl)
def slK (gl gh : GO) (ρ : Env) : D → AH → R D := fun x h => (gl ρ h).bind (slK1 gh ρ x)
@[simp] theorem slK_ap {gl gh : GO} {x : D} : slK gl gh ρ x h = (gl ρ h).bind (slK1 gh ρ x) := (rfl)
@[simp] theorem ev_sl {g : G} {gl gh : GO} : gSl g gl gh ρ h = (g ρ h).bind (slK gl gh ρ) := (rfl)
/-! statements -/
@[simp] theorem ev_sNil : gsNil ρ h = .ok (.nx, ρ) h := (rfl)
def seqK (b : GS) : Fl × Env → AH → R (Fl × Env) := fun p h => match p with | (.nx, ρ1) => b ρ1 h | q => .ok q h
@[simp] theorem seqK_nx {b : GS} : seqK b (.nx, ρ) h = b ρ h := (rfl)
@[simp] theorem seqK_rt {b : GS} {d : D} : seqK b (.rt d, ρ) h = .ok (.rt d, ρ) h := (rfl)
@[simp] theorem ev_seq {a b : GS} : gsSeq a b ρ h = (a ρ h).bind (seqK b) := (rfl)
def ifK (a b : GS) (ρ : Env) : Bool → AH → R (Fl × Env) := fun c h => if c then a ρ h else b ρ h
@[simp] theorem ifK_t {a b : GS} : ifK a b ρ true h = a ρ h := (rfl)
@[simp] theorem ifK_f {a b : GS} : ifK a b ρ false h = b ρ h := (rfl)
@[simp] theorem ev_if {t : GB} {a b : GS} : gsIf t a b ρ h = (t ρ h).bind (ifK a b ρ) := (rfl)
def retK (ρ : Env) : D → AH → R (Fl × Env) := fun d h => .ok (.rt d, ρ) h
@[simp] theorem retK_ap {d : D} : retK ρ d h = .ok (.rt d, ρ) h := (rfl)
@[simp] theorem ev_ret {g : G} : gsRet g ρ h = (g ρ h).bind (retK ρ) := (rfl)
def exprK (ρ : Env) : D → AH → R (Fl × Env) := fun d h => .ok (.nx, ρ) h
@[simp] theorem exprK_ap {d : D} : exprK ρ d h = .ok (.nx, ρ) h := (rfl)
@[simp] theorem ev_expr {g : G} : gsExpr g ρ h = (g ρ h).bind (exprK ρ) := (rfl)
def nxK : Env → AH → R (Fl × Env) := fun ρ h => .ok (.nx, ρ) h
@[simp] theorem nxK_ap : nxK ρ h = .ok (.nx, ρ) h := (rfl)
def asgK (gt : GTg) (ρ : Env) : D → AH → R (Fl × Env) := fun d h => (gt d ρ h).bind nxK
@[simp] theorem asgK_ap {gt : GTg} {d : D} : asgK gt ρ d h = (gt d ρ h).bind nxK := (rfl)
@[simp] theorem ev_asg {g : G} {gt : GTg} : gsAsg g gt ρ h = (g ρ h).bind (asgK gt ρ) := (rfl)
@[simp] theorem ev_tName {i : Nat} {d : D} : gtName i d ρ h = .ok (ρ.set i (some d)) h := (rfl)
@[simp] theorem ev_tsNil : gtsNil [] ρ h = .ok ρ h := (rfl)
def tsK (u : GTgs) (ds : List D) : Env → AH → R Env := fun ρ h => u ds ρ h
@[simp] theorem tsK_ap {u : GTgs} {ds : List D} : tsK u ds ρ h = u ds ρ h := (rfl)
@[simp] theorem ev_tsCons {t : GTg} {u : GTgs} {d : D} {ds : List D} : gtsCons t u (d :: ds) ρ h = (t d ρ h).bind (tsK u ds) := (rfl)
theorem ev_tTup {n : Nat} {u : GTgs} {ds : List D} (e : ds.length = n) : gtTup n u (.tup ds) ρ h = u ds ρ h := if_pos e
@[simp] theorem ev_tTup2 {u : GTgs} {a b : D} : gtTup 2 u (.tup [a, b]) ρ h = u [a, b] ρ h := (rfl)
@[simp] theorem ev_tTup4 {u : GTgs} {a b c d : D} : gtTup 4 u (.tup [a, b, c, d]) ρ h = u [a, b, c, d] ρ h := (rfl)
def parK (i j : Nat) (ρ : Env) : List D → AH → R (Fl × Env) := fun ds h1 => match ds with | [x, y] => .ok (.nx, (ρ.set i (some x)).set j (some y)) h1 | _ => .bad
@[simp] theorem parK_ap {i j : Nat} {x y : D} : parK i j ρ [x, y] h = .ok (.nx, (ρ.set i (some x)).set j (some y)) h := (rfl)
@[simp] theorem ev_par {i j : Nat} {ga : GA} : gsPar i j ga ρ h = (ga ρ h).bind (parK i j ρ) := (rfl)
def subK2 (d o : D) (ρ : Env) : D → AH → R Env := fun i h2 => match o, i with
  | .obj n, .int j => (match h2[n]? with | some (.lst xs) => (match ixN xs.length j with | some m => .ok ρ (h2.set n (.lst (xs.set m d))) | none => .bad) | _ => .bad)
  | _, _ => .bad
def subK1 (gi : G) (d : D) (ρ : Env) : D → AH → R Env := fun o h => (gi ρ h).bind (subK2 d o ρ)
@[simp] theorem subK1_ap {gi : G} {d o : D} : subK1 gi d ρ o h = (gi ρ h).bind (subK2 d o ρ) := (rfl)
theorem subK2_ap {d : D} {n : Nat} {j : Int} {xs : List D} {m : Nat} (e : h[n]? = some (.lst xs)) (e2 : ixN xs.length j = some m) : subK2 d (.obj n) ρ (.int j) h = .ok ρ (h.set n (.lst (xs.set m d))) := by
  simp only [subK2, e, e2]
@[simp] theorem ev_tSub {go gi : G} {d : D} : gtSub go gi d ρ h = (go ρ h).bind (subK1 gi d ρ) := (rfl)
def endK : Fl × Env → AH → R D := fun p h1 => match p with | (.rt d, _) => .ok d h1 | (.nx, _) => .ok .non h1 | _ => .bad
@[simp] theorem endK_rt {d : D} : endK (.rt d, ρ) h = .ok d h := (rfl)
@[simp] theorem endK_nx : endK (.nx, ρ) h = .ok .non h := (rfl)
theorem ev_body {N : List Str} {n : Nat} {gb : GS} {ds : List D} (e : ds.length = n) : runBody N n gb ds h = (gb (ds.map some ++ List.replicate (N.length - n) none) h).bind endK := by
  unfold runBody
  rw [if_pos e]
  rfl
@[simp] theorem ev_body1 {N : List Str} {gb : GS} {a : D} : runBody N 1 gb [a] h = (gb (some a :: List.replicate (N.length - 1) none) h).bind endK := ev_body rfl
@[simp] theorem ev_body2 {N : List Str} {gb : GS} {a b : D} : runBody N 2 gb [a, b] h = (gb (some a :: some b :: List.replicate (N.length - 2) none) h).bind endK := ev_body rfl
@[simp] theorem ev_body3 {N : List Str} {gb : GS} {a b c : D} : runBody N 3 gb [a, b, c] h = (gb (some a :: some b :: some c :: List.replicate (N.length - 3) none) h).bind endK := ev_body rfl
@[simp] theorem ev_body4 {N : List Str} {gb : GS} {a b c d : D} : runBody N 4 gb [a, b, c, d] h = (gb (some a :: some b :: some c :: some d :: List.replicate (N.length - 4) none) h).bind endK := ev_body rfl
/-! loops -/
def ivK : D → AH → R IterD := fun d h => R.opt (iterOf h d) h
@[simp] theorem ivK_tup {ds : List D} : ivK (.tup ds) h = .ok (.vals ds) h := (rfl)
theorem ivK_obj {n : Nat} {ds : List D} (e : h[n]? = some (.lst ds)) : ivK (.obj n) h = .ok (.live n ds.length) h := by simp only [ivK, iterOf, e, opt_some1]
@[simp] theorem ev_iVal {g : G} : giVal g ρ h = (g ρ h).bind ivK := (rfl)
def irK : List D → AH → R IterD := fun ds h1 => match ds with
  | [.int j] => if j < 2 ^ 62 ∧ -(2 ^ 62) ≤ j then .ok (.vals ((List.range j.toNat).map fun i => D.int (i : Nat))) h1 else .bad
  | _ => .bad
theorem irK_ap {j : Int} (h1 : -(2 ^ 62) ≤ j) (h2 : j < 2 ^ 62) : irK [.int j] h = .ok (.vals ((List.range j.toNat).map fun i => D.int (i : Nat))) h := if_pos ⟨h2, h1⟩
@[simp] theorem ev_iRange {ga : GA} : giRange ga ρ h = (ga ρ h).bind irK := (rfl)
def izK : List D → AH → R IterD := fun ds h1 => match ds with
  | [x, y] => (match iterOf h1 x, iterOf h1 y with | some a, some b => .ok (.zip a b) h1 | _, _ => .bad)
  | _ => .bad
@[simp] theorem ev_iZip {ga : GA} : giZip ga ρ h = (ga ρ h).bind izK := (rfl)
def forK (gt : GTg) (gb : GS) (ρ : Env) : IterD → AH → R (Fl × Env) := fun it h => forLoop it gt gb it.len 0 ρ h
theorem forK_ap {gt : GTg} {gb : GS} {it : IterD} : forK gt gb ρ it h = forLoop it gt gb it.len 0 ρ h := (rfl)
@[simp] theorem ev_for {gi : GI} {gt : GTg} {gb : GS} : gsFor gi gt gb ρ h = (gi ρ h).bind (forK gt gb ρ) := (rfl)
def lcK (gt : GTg) (gf : GB) (ge : G) (ρ : Env) : IterD → AH → R (List D) := fun it h => lcLoop it gt gf ge ρ it.len 0 [] h
theorem lcK_ap {gt : GTg} {gf : GB} {ge : G} {it : IterD} : lcK gt gf ge ρ it h = lcLoop it gt gf ge ρ it.len 0 [] h := (rfl)
@[simp] theorem ev_lc {gi : GI} {vs : List Nat} {gt : GTg} {gf : GB} {ge : G} : gLc gi vs gt gf ge ρ h = (gi ρ h).bind (lcK gt gf ge (wipeE ρ vs)) := (rfl)
@[simp] theorem wipeE_1 {i : Nat} : wipeE ρ [i] = ρ.set i none := (rfl)
@[simp] theorem wipeE_2 {i j : Nat} : wipeE ρ [i, j] = (ρ.set j none).set i none := (rfl)
@[simp] theorem ev_yes : gYes ρ h = .ok true h := (rfl)
/-! operations -/
@[simp] theorem op_le {i j : Int} : dLe (.int i) (.int j) h = .ok (.bl (decide (i ≤ j))) h := (rfl)
@[simp] theorem op_lt1 {i j : Int} : dLt (.int i) (.int j) h = .ok (.bl (decide (i < j))) h := (rfl)
@[simp] theorem op_ge1 {i j : Int} : dGe (.int i) (.int j) h = .ok (.bl (decide (j ≤ i))) h := (rfl)
@[simp] theorem op_gt1 {i j : Int} : dGt (.int i) (.int j) h = .ok (.bl (decide (j < i))) h := (rfl)
@[simp] theorem op_add1 {i j : Int} : dAdd (.int i) (.int j) h = .ok (.int (i + j)) h := (rfl)
@[simp] theorem op_sub1 {i j : Int} : dSub (.int i) (.int j) h = .ok (.int (i - j)) h := (rfl)
theorem op_mul1 {i j : Int} (e : smallI i = true) : dMul (.int i) (.int j) h = .ok (.int (i * j)) h := by
  show (if (smallI i || smallI j) = true then R.ok (D.int (i * j)) h else .bad) = _
  rw [if_pos (by rw [e]; rfl)]
theorem op_mul2 {i j : Int} (e : smallI j = true) : dMul (.int i) (.int j) h = .ok (.int (i * j)) h := by
  show (if (smallI i || smallI j) = true then R.ok (D.int (i * j)) h else .bad) = _
  rw [if_pos (by rw [e, Bool.or_true])]
theorem op_div1 {i j : Int} (h1 : 0 < j) (h2 : j < 2 ^ 64) : dDiv (.int i) (.int j) h = .ok (.int (i / j)) h := by
  show (if decide (0 < j ∧ j < 2 ^ 64) = true then R.ok (D.int (i / j)) h else .bad) = _
  rw [if_pos (decide_eq_true ⟨h1, h2⟩)]
theorem op_mod1 {i j : Int} (h1 : 0 < j) : dMod (.int i) (.int j) h = .ok (.int (i % j)) h := by
  show (if decide (0 < j) = true then R.ok (D.int (i % j)) h else .bad) = _
  rw [if_pos (decide_eq_true h1)]
@[simp] theorem op_eq_s {a b : Str} : dEq (.str a) (.str b) h = .ok (.bl (decide (a = b))) h := (rfl)
@[simp] theorem op_eq_i {a b : Int} : dEq (.int a) (.int b) h = .ok (.bl (decide (a = b))) h := (rfl)
@[simp] theorem op_ne_i {a b : Int} : dNe (.int a) (.int b) h = .ok (.bl (!decide (a = b))) h := (rfl)
@[simp] theorem op_ne_non {b : Int} : dNe .non (.int b) h = .ok (.bl true) h := (rfl)
@[simp] theorem op_isN_i {a : Int} : dIsN (.int a) .non h = .ok (.bl false) h := (rfl)
@[simp] theorem op_isN_n : dIsN .non .non h = .ok (.bl true) h := (rfl)
@[simp] theorem op_isN_s {a : Str} : dIsN (.str a) .non h = .ok (.bl false) h := (rfl)
@[simp] theorem op_isN_t {a : List D} : dIsN (.tup a) .non h = .ok (.bl false) h := (rfl)
@[simp] theorem op_ix_tup {ds : List D} {i : Int} : dIx (.tup ds) (.int i) h = R.opt (atI ds i) h := (rfl)
theorem op_ix_obj {n : Nat} {ds : List D} {i : Int} (e : h[n]? = some (.lst ds)) : dIx (.obj n) (.int i) h = R.opt (atI ds i) h := by
  show R.opt (match seqOf h (.obj n) with | some ds => atI ds i | none => none) h = _
  simp only [seqOf, e]
@[simp] theorem op_ix_fl {ds : List D} {i : Int} : dIx (.fl ds) (.int i) h = R.opt (atI ds i) h := (rfl)
@[simp] theorem op_ix_fd {kvs : List (Str × D)} {z : Str} : dIx (.fd kvs) (.str z) h = R.opt (kvs.lookup z) h := (rfl)
@[simp] theorem op_len_tup {ds : List D} : bLen [.tup ds] h = .ok (.int ds.length) h := (rfl)
@[simp] theorem op_len_fl {ds : List D} : bLen [.fl ds] h = .ok (.int ds.length) h := (rfl)
theorem op_len_str {z : Str} (e : z.length ≤ LIM) : bLen [.str z] h = .ok (.int z.length) h := if_pos e
theorem op_len_obj {n : Nat} {ds : List D} (e : h[n]? = some (.lst ds)) : bLen [.obj n] h = .ok (.int ds.length) h := by
  show (match seqOf h (.obj n) with | some es => R.ok (D.int es.length) h | none => .bad) = _
  simp only [seqOf, e]
@[simp] theorem op_max {i j : Int} : bMax [.int i, .int j] h = .ok (.int (if j > i then j else i)) h := (rfl)
@[simp] theorem op_min {i j : Int} : bMin [.int i, .int j] h = .ok (.int (if j < i then j else i)) h := (rfl)
@[simp] theorem op_str_s {z : Str} : bStr [.str z] h = .ok (.str z) h := (rfl)
theorem op_str_i {i : Int} (e : i.natAbs < 2 ^ 1000) : bStr [.int i] h = .ok (.str (toString i)) h := if_pos e
@[simp] theorem op_tuple_t {ds : List D} : bTuple [.tup ds] h = .ok (.tup ds) h := (rfl)
theorem op_tuple_o {n : Nat} {ds : List D} (e : h[n]? = some (.lst ds)) : bTuple [.obj n] h = .ok (.tup ds) h := by
  show (match seqOf h (.obj n) with | some es => R.ok (D.tup es) h | none => .bad) = _
  simp only [seqOf, e]
theorem op_list_o {n : Nat} {ds : List D} (e : h[n]? = some (.lst ds)) : bList [.obj n] h = .ok (.obj h.length) (h ++ [.lst ds]) := by
  show (match seqOf h (.obj n) with | some es => R.ok (D.obj h.length) (h ++ [DO.lst es]) | none => .bad) = _
  simp only [seqOf, e]
theorem op_add_t {a b : List D} (e : a.length + b.length ≤ LIM) : dAdd (.tup a) (.tup b) h = .ok (.tup (a ++ b)) h := if_pos e
theorem op_add_s {a b : Str} (e : a.length + b.length ≤ LIM) : dAdd (.str a) (.str b) h = .ok (.str (a ++ b)) h := if_pos e
theorem op_add_o {n m : Nat} {a b : List D} (e1 : h[n]? = some (.lst a)) (e2 : h[m]? = some (.lst b)) (e : a.length + b.length ≤ LIM) : dAdd (.obj n) (.obj m) h = .ok (.obj h.length) (h ++ [.lst (a ++ b)]) := by
  simp only [dAdd, e1, e2, if_pos e]
theorem op_append {n : Nat} {xs : List D} {d : D} (e : h[n]? = some (.lst xs)) (l : xs.length ≤ LIM) : mAppend (.obj n) [d] h = .ok .non (h.set n (.lst (xs ++ [d]))) := by
  simp only [mAppend, e, if_pos l]
theorem op_extend {n m : Nat} {xs ys : List D} (e : h[n]? = some (.lst xs)) (e2 : h[m]? = some (.lst ys)) (l : xs.length + ys.length ≤ LIM) : mExtend (.obj n) [.obj m] h = .ok .non (h.set n (.lst (xs ++ ys))) := by
  simp only [mExtend, e, e2, if_pos l]
theorem op_in_tup {x : D} {ds : List D} (e : flat0 x = true) : dIn x (.tup ds) h = match inSeq x ds with | some b => .ok (.bl b) h | none => .bad := by
  unfold dIn inD
  simp only [seqOf, e, if_true]
  all_goals rfl
@[simp] theorem op_in_tup_s {z : Str} {ds : List D} : dIn (.str z) (.tup ds) h = match inSeq (.str z) ds with | some b => .ok (.bl b) h | none => .bad := op_in_tup rfl
@[simp] theorem inSeq_nil {x : D} : inSeq x [] = some false := (rfl)
@[simp] theorem inSeq_s {z y : Str} {ds : List D} : inSeq (.str z) (.str y :: ds) = (inSeq (.str z) ds).map fun c => decide (y = z) || c := (rfl)
@[simp] theorem op_in_fd {z : Str} {kvs : List (Str × D)} : dIn (.str z) (.fd kvs) h = .ok (.bl (kvs.lookup z).isSome) h := (rfl)
@[simp] theorem sl_tup {ds : List D} {lo hi : Option Int} : slD h (.tup ds) lo hi = .ok (.tup (cutD ds lo hi)) h := (rfl)
theorem sl_obj {n : Nat} {ds : List D} {lo hi : Option Int} (e : h[n]? = some (.lst ds)) : slD h (.obj n) lo hi = .ok (.obj h.length) (h ++ [.lst (cutD ds lo hi)]) := by
  simp only [slD, e]
theorem cut_init {ds : List D} {d : D} : cutD (ds ++ [d]) none (some (-1)) = ds := by
  have e : (-1 + ((ds.length : Int) + 1)).toNat = ds.length := by omega
  simp [cutD, HT.sIx, e]
theorem cut_last {ds : List D} {d : D} : cutD (ds ++ [d]) (some (-1)) none = [d] := by
  have e : (-1 + ((ds.length : Int) + 1)).toNat = ds.length := by omega
  simp [cutD, HT.sIx, e]
theorem cut_tail {ds : List D} {d : D} : cutD (d :: ds) (some 1) none = ds := by
  simp [cutD, HT.sIx]
/-! ### loops over given values -/
def LQ (I : Env → AH → Prop) (Q : Fl × Env → AH → Prop) : Fl × Env → AH → Prop := fun p h => match p with
  | (.nx, ρ) => I ρ h | (.ct, ρ) => I ρ h | (.bk, ρ) => Q (.nx, ρ) h | (.rt d, ρ) => Q (.rt d, ρ) h
@[simp] theorem LQ_nx {I : Env → AH → Prop} {Q : Fl × Env → AH → Prop} : LQ I Q (.nx, ρ) h = I ρ h := (rfl)
@[simp] theorem LQ_rt {I : Env → AH → Prop} {Q : Fl × Env → AH → Prop} {d : D} : LQ I Q (.rt d, ρ) h = Q (.rt d, ρ) h := (rfl)
/-- for x in a tuple of values that come from xs -/
theorem W_forV {τ : Type} {xs : List τ} {f : τ → D} {gt : GTg} {gb : GS} {Q : Fl × Env → AH → Prop} (Iv : List τ → Env → AH → Prop)
    (h0 : Iv [] ρ h)
    (hs : ∀ pre x post ρ h, xs = pre ++ x :: post → Iv pre ρ h → W (gt (f x) ρ h) fun ρ1 h1 => W (gb ρ1 h1) (LQ (Iv (pre ++ [x])) Q))
    (hd : ∀ ρ h, Iv xs ρ h → Q (.nx, ρ) h) : W (forK gt gb ρ (.vals (xs.map f)) h) Q := by
  refine W_for (fun j ρ h => Iv (xs.take j) ρ h) (fun j ρ h hj v => ?_) (fun ρ h v => ⟨rfl, hd ρ h ?_⟩) _ _ _ _ rfl (by simpa using h0)
  · have hj' : j < xs.length := by simpa [IterD.len] using hj
    refine ⟨f xs[j], by simp [IterD.get, hj'], W_mono (hs (xs.take j) xs[j] (xs.drop (j + 1)) ρ h (by simp) v) fun ρ1 h1 q => W_mono q fun p h2 q => ?_⟩
    rw [List.take_add_one, List.getElem?_eq_getElem hj']
    obtain ⟨fl, ρ2⟩ := p
    cases fl <;> exact q
  · have e : (IterD.vals (xs.map f)).len = xs.length := by simp [IterD.len]
    rw [e, List.take_length] at v
    exact v
/-- a comprehension over values that come from xs -/
theorem W_lcV {τ : Type} {xs : List τ} {f : τ → D} {gt : GTg} {gf : GB} {ge : G} {Q : List D → AH → Prop} (Iv : List τ → List D → AH → Prop) (hl : xs.length ≤ LIM)
    (h0 : Iv [] [] h)
    (hs : ∀ pre x post acc h, xs = pre ++ x :: post → acc.length ≤ pre.length → Iv pre acc h → W (gt (f x) ρ h) fun ρ1 h1 => W (gf ρ1 h1) fun b h2 => if b then W (ge ρ1 h2) fun y h3 => Iv (pre ++ [x]) (acc ++ [y]) h3 else Iv (pre ++ [x]) acc h2)
    (hd : ∀ acc h, Iv xs acc h → Q acc h) : W (lcK gt gf ge ρ (.vals (xs.map f)) h) Q := by
  refine W_lc (fun j acc h => acc.length ≤ j ∧ Iv (xs.take j) acc h) (fun j acc h hj v => ?_) (fun acc h v => ⟨rfl, hd acc h ?_⟩) _ _ _ _ rfl ⟨Nat.le_refl _, by simpa using h0⟩
  · have hj' : j < xs.length := by simpa [IterD.len] using hj
    refine ⟨f xs[j], by simp [IterD.get, hj'], W_mono (hs (xs.take j) xs[j] (xs.drop (j + 1)) acc h (by simp) (by simp; omega) v.2) fun ρ1 h1 q => W_mono q fun b h2 q => ?_⟩
    rw [List.take_add_one, List.getElem?_eq_getElem hj']
    cases b with
    | true =>
      simp only [if_true] at q ⊢
      exact W_mono q fun y h3 q => ⟨by omega, by simp; omega, q⟩
    | false => exact ⟨by omega, q⟩
  · have e : (IterD.vals (xs.map f)).len = xs.length := by simp [IterD.len]
    rw [e, List.take_length] at v
    exact v.2
theorem lcK_vals {ds : List D} {gt : GTg} {ge : G} (f : D → D) (hl : ds.length ≤ LIM) (hs : ∀ d ∈ ds, W (gt d ρ h) fun ρ1 h1 => h1 = h ∧ ge ρ1 h = .ok (f d) h) :
    lcK gt gYes ge ρ (.vals ds) h = .ok (ds.map f) h := lc_vals f hl hs
theorem boolsOf_map {τ : Type} {f : τ → Bool} : ∀ {xs : List τ}, boolsOf (xs.map fun x => D.bl (f x)) = some (xs.map f)
  | [] => rfl
  | x :: xs => by simp [boolsOf, boolsOf_map (xs := xs)]
theorem strsOf_map {τ : Type} {f : τ → Str} : ∀ {xs : List τ}, strsOf (xs.map fun x => D.str (f x)) = some (xs.map f)
  | [] => rfl
  | x :: xs => by simp [strsOf, strsOf_map (xs := xs)]
theorem intsOf_map {τ : Type} {f : τ → Int} : ∀ {xs : List τ}, intsOf (xs.map fun x => D.int (f x)) = some (xs.map f)
  | [] => rfl
  | x :: xs => by simp [intsOf, intsOf_map (xs := xs)]
/-- all([...]) over a tuple where each is right -/
theorem lc_all {τ : Type} {xs : List τ} {f : τ → D} {gt : GTg} {ge : G} (hl : xs.length ≤ LIM) (hs : ∀ x ∈ xs, W (gt (f x) ρ h) fun ρ1 h1 => h1 = h ∧ ge ρ1 h = .ok (.bl true) h) :
    lcK gt gYes ge ρ (.vals (xs.map f)) h = .ok (xs.map fun _ => D.bl true) h := by
  rw [lcK_vals (fun _ => .bl true) (by simpa using hl) (fun d hd => by
    obtain ⟨x, hx, rfl⟩ := List.mem_map.mp hd
    exact hs x hx)]
  simp
@[simp] theorem lAll_true {τ : Type} {xs : List τ} : lAll (xs.map fun _ => D.bl true) = some (.bl true) := by
  unfold lAll
  rw [boolsOf_map (f := fun _ => true)]
  simp
theorem lcK_z1 {gt : GTg} {ge : G} {a c : D} : lcK gt gYes ge ρ (.zip (.vals [a]) (.vals [c])) h = (gt (.tup [a, c]) ρ h).bind fun ρ1 h1 => (ge ρ1 h1).bind fun y h2 => .ok [y] h2 := by
  simp [lcK, lcLoop, IterD.len, IterD.get, IterD.fin]
theorem lcK_z2 {gt : GTg} {ge : G} {a b c d : D} : lcK gt gYes ge ρ (.zip (.vals [a, b]) (.vals [c, d])) h = (gt (.tup [a, c]) ρ h).bind fun ρ1 h1 => (ge ρ1 h1).bind fun y h2 => (gt (.tup [b, d]) ρ h2).bind fun ρ1 h1 => (ge ρ1 h1).bind fun z h2 => .ok [y, z] h2 := by
  simp [lcK, lcLoop, IterD.len, IterD.get, IterD.fin, show 1 ≤ LIM by decide]
end CM

namespace Law
open PySem PySem.Calls CM
/-! what the defs do (printed by sh.py) -/
abbrev VV (F : Str → Option GF) : EvT := ⟨conF, nbF, F, fun _ _ => none⟩
@[irreducible] def C (k : Nat) : Str → Option GF := callAt conF nbF rows k
def sh_is_between (F : Str → Option GF) : GS := (gsSeq (gsIf (gOrB (gNotB (gTrue (gIsi "int" (gVar 0)))) (gTrue (gIsi "bool" (gVar 0)))) (gsSeq (gsRet (gCon (.bl false))) gsNil) gsNil) (gsSeq (gsRet (gAndV (gBin dLe (gVar 1) (gVar 0)) (gOrV (gBin dIsN (gVar 2) (gCon .non)) (gBin dLe (gVar 0) (gVar 2))))) gsNil))
theorem q_is_between (F : Str → Option GF) : evSs (VV F) FUEL r_is_between.S (L2.defBody r_is_between.st) = sh_is_between F := by kernel_rfl
theorem c_is_between (k : Nat) : callAt conF nbF rows (k + 1) "is_between" = some (runBody ["thing", "low", "high"] 3 (sh_is_between (callAt conF nbF rows k))) := by
  rw [← q_is_between]; rfl
theorem o_is_between (k : Nat) (ds : List D) (h : AH) : callOf (C (k + 1)) "is_between" ds h = runBody ["thing", "low", "high"] 3 (sh_is_between (C k)) ds h := by
  delta C; exact callOf_some (c_is_between k) ds h
def sh_is_tuple (F : Str → Option GF) : GS := (gsSeq (gsRet (gAndV (gIsi "tuple" (gVar 0)) (gAndV (gBin dLe (gVar 1) (gCall bLen (gaCons (gVar 0) gaNil))) (gOrV (gBin dIsN (gVar 2) (gCon .non)) (gBin dLe (gCall bLen (gaCons (gVar 0) gaNil)) (gVar 2)))))) gsNil)
theorem q_is_tuple (F : Str → Option GF) : evSs (VV F) FUEL r_is_tuple.S (L2.defBody r_is_tuple.st) = sh_is_tuple F := by kernel_rfl
theorem c_is_tuple (k : Nat) : callAt conF nbF rows (k + 1) "is_tuple" = some (runBody ["thing", "low", "high"] 3 (sh_is_tuple (callAt conF nbF rows k))) := by
  rw [← q_is_tuple]; rfl
theorem o_is_tuple (k : Nat) (ds : List D) (h : AH) : callOf (C (k + 1)) "is_tuple" ds h = runBody ["thing", "low", "high"] 3 (sh_is_tuple (C k)) ds h := by
  delta C; exact callOf_some (c_is_tuple k) ds h
def sh_is_pair (F : Str → Option GF) : GS := (gsSeq (gsRet (gFn F "is_tuple" (gaCons (gVar 0) (gaCons (gCon (.int 2)) (gaCons (gCon (.int 2)) gaNil))))) gsNil)
theorem q_is_pair (F : Str → Option GF) : evSs (VV F) FUEL r_is_pair.S (L2.defBody r_is_pair.st) = sh_is_pair F := by kernel_rfl
theorem c_is_pair (k : Nat) : callAt conF nbF rows (k + 1) "is_pair" = some (runBody ["thing"] 1 (sh_is_pair (callAt conF nbF rows k))) := by
  rw [← q_is_pair]; rfl
theorem o_is_pair (k : Nat) (ds : List D) (h : AH) : callOf (C (k + 1)) "is_pair" ds h = runBody ["thing"] 1 (sh_is_pair (C k)) ds h := by
  delta C; exact callOf_some (c_is_pair k) ds h
def sh_is_resource (F : Str → Option GF) : GS := (gsSeq (gsIf (gOrB (gNotB (gTrue (gFn F "is_pair" (gaCons (gVar 0) gaNil)))) (gNotB (gTrue (gIsi "str" (gBin dIx (gVar 0) (gCon (.int 0))))))) (gsSeq (gsRet (gCon (.bl false))) gsNil) gsNil) (gsSeq (gsRet (gAndV (gBin dIn (gBin dIx (gVar 0) (gCon (.int 0))) (gCon (.tup [(.str "fifo"), (.str "rank"), (.str "preempt")]))) (gFn F "is_between" (gaCons (gBin dIx (gVar 0) (gCon (.int 1))) (gaCons (gCon (.int 1)) (gaCons (gCon (.int 3)) gaNil)))))) gsNil))
theorem q_is_resource (F : Str → Option GF) : evSs (VV F) FUEL r_is_resource.S (L2.defBody r_is_resource.st) = sh_is_resource F := by kernel_rfl
theorem c_is_resource (k : Nat) : callAt conF nbF rows (k + 1) "is_resource" = some (runBody ["thing"] 1 (sh_is_resource (callAt conF nbF rows k))) := by
  rw [← q_is_resource]; rfl
theorem o_is_resource (k : Nat) (ds : List D) (h : AH) : callOf (C (k + 1)) "is_resource" ds h = runBody ["thing"] 1 (sh_is_resource (C k)) ds h := by
  delta C; exact callOf_some (c_is_resource k) ds h
def sh_is_store_e1 (F : Str → Option GF) : G := (gFn F "is_between" (gaCons (gVar 1) (gaCons (gCon (.int 0)) (gaCons (gCon (.int 99)) gaNil))))
def sh_is_store (F : Str → Option GF) : GS := (gsSeq (gsIf (gOrB (gNotB (gTrue (gFn F "is_pair" (gaCons (gVar 0) gaNil)))) (gOrB (gNotB (gTrue (gFn F "is_between" (gaCons (gBin dIx (gVar 0) (gCon (.int 0))) (gaCons (gCon (.int 1)) (gaCons (gCon (.int 4)) gaNil)))))) (gNotB (gTrue (gFn F "is_tuple" (gaCons (gBin dIx (gVar 0) (gCon (.int 1))) (gaCons (gCon (.int 0)) (gaCons (gBin dIx (gVar 0) (gCon (.int 0))) gaNil)))))))) (gsSeq (gsRet (gCon (.bl false))) gsNil) gsNil) (gsSeq (gsRet (gCallL lAll (gLc (giVal (gBin dIx (gVar 0) (gCon (.int 1)))) [1] (gtName 1) gYes (sh_is_store_e1 F)))) gsNil))
theorem q_is_store (F : Str → Option GF) : evSs (VV F) FUEL r_is_store.S (L2.defBody r_is_store.st) = sh_is_store F := by kernel_rfl
theorem c_is_store (k : Nat) : callAt conF nbF rows (k + 1) "is_store" = some (runBody ["thing", "item"] 1 (sh_is_store (callAt conF nbF rows k))) := by
  rw [← q_is_store]; rfl
theorem o_is_store (k : Nat) (ds : List D) (h : AH) : callOf (C (k + 1)) "is_store" ds h = runBody ["thing", "item"] 1 (sh_is_store (C k)) ds h := by
  delta C; exact callOf_some (c_is_store k) ds h
def sh_is_gate (F : Str → Option GF) : GS := (gsSeq (gsRet (gAndV (gIsi "str" (gVar 0)) (gBin dIn (gVar 0) (gCon (.tup [(.str "open"), (.str "shut")]))))) gsNil)
theorem q_is_gate (F : Str → Option GF) : evSs (VV F) FUEL r_is_gate.S (L2.defBody r_is_gate.st) = sh_is_gate F := by kernel_rfl
theorem c_is_gate (k : Nat) : callAt conF nbF rows (k + 1) "is_gate" = some (runBody ["thing"] 1 (sh_is_gate (callAt conF nbF rows k))) := by
  rw [← q_is_gate]; rfl
theorem o_is_gate (k : Nat) (ds : List D) (h : AH) : callOf (C (k + 1)) "is_gate" ds h = runBody ["thing"] 1 (sh_is_gate (C k)) ds h := by
  delta C; exact callOf_some (c_is_gate k) ds h
def sh_fits (F : Str → Option GF) : GS := (gsSeq (gsIf (gTrue (gBin dIn (gVar 0) (gCon (.str "rsgp")))) (gsSeq (gsRet (gFn F "is_between" (gaCons (gVar 1) (gaCons (gCon (.int 0)) (gaCons (gBin dSub (gBin dIx (gVar 2) (gMeth "str" mIndex (gCon (.str "rsgp")) (gaCons (gVar 0) gaNil))) (gCon (.int 1))) gaNil))))) gsNil) gsNil) (gsSeq (gsRet (gFn F "is_between" (gaCons (gVar 1) (gaCons (gCon (.int 0)) (gaCons (gBin dIx (gCon (.fd [("d", .non), ("k", (.int 9)), ("i", (.int 99)), ("n", (.int 999))])) (gVar 0)) gaNil))))) gsNil))
theorem q_fits (F : Str → Option GF) : evSs (VV F) FUEL r_fits.S (L2.defBody r_fits.st) = sh_fits F := by kernel_rfl
theorem c_fits (k : Nat) : callAt conF nbF rows (k + 1) "fits" = some (runBody ["kind", "number", "counts"] 3 (sh_fits (callAt conF nbF rows k))) := by
  rw [← q_fits]; rfl
theorem o_fits (k : Nat) (ds : List D) (h : AH) : callOf (C (k + 1)) "fits" ds h = runBody ["kind", "number", "counts"] 3 (sh_fits (C k)) ds h := by
  delta C; exact callOf_some (c_fits k) ds h
def sh_is_instruction_e1 (F : Str → Option GF) : G := (gFn F "fits" (gaCons (gVar 4) (gaCons (gVar 5) (gaCons (gVar 1) gaNil))))
def sh_is_instruction (F : Str → Option GF) : GS := (gsSeq (gsIf (gOrB (gNotB (gTrue (gFn F "is_tuple" (gaCons (gVar 0) (gaCons (gCon (.int 1)) (gaCons (gCon .non) gaNil)))))) (gNotB (gTrue (gIsi "str" (gBin dIx (gVar 0) (gCon (.int 0))))))) (gsSeq (gsRet (gCon (.bl false))) gsNil) gsNil) (gsSeq (gsIf (gTrue (gBin dEq (gBin dIx (gVar 0) (gCon (.int 0))) (gCon (.str "repeat")))) (gsSeq (gsRet (gAndV (gBin dEq (gCall bLen (gaCons (gVar 0) gaNil)) (gCon (.int 3))) (gAndV (gFn F "is_between" (gaCons (gBin dIx (gVar 0) (gCon (.int 1))) (gaCons (gCon (.int 0)) (gaCons (gCon (.int 5)) gaNil)))) (gFn F "is_body" (gaCons (gBin dIx (gVar 0) (gCon (.int 2))) (gaCons (gVar 1) (gaCons (gVar 2) gaNil))))))) gsNil) gsNil) (gsSeq (gsAsg (gGet (gCon (.fd [("wait", (.str "d")), ("take", (.str "rk")), ("give", (.str "r")), ("put", (.str "si")), ("get", (.str "s")), ("pass", (.str "g")), ("open", (.str "g")), ("shut", (.str "g")), ("rouse", (.str "p")), ("mark", (.str "n"))])) (gBin dIx (gVar 0) (gCon (.int 0))) (gCon .non)) (gtName 3)) (gsSeq (gsIf (gOrB (gTrue (gBin dIsN (gVar 3) (gCon .non))) (gTrue (gBin dNe (gCall bLen (gaCons (gVar 0) gaNil)) (gBin dAdd (gCall bLen (gaCons (gVar 3) gaNil)) (gCon (.int 1)))))) (gsSeq (gsRet (gCon (.bl false))) gsNil) gsNil) (gsSeq (gsRet (gCallL lAll (gLc (giZip (gaCons (gVar 3) (gaCons (gSl (gVar 0) (goSome (gCon (.int 1))) goNone) gaNil))) [4, 5] (gtTup 2 (gtsCons (gtName 4) (gtsCons (gtName 5) gtsNil))) gYes (sh_is_instruction_e1 F)))) gsNil)))))
theorem q_is_instruction (F : Str → Option GF) : evSs (VV F) FUEL r_is_instruction.S (L2.defBody r_is_instruction.st) = sh_is_instruction F := by kernel_rfl
theorem c_is_instruction (k : Nat) : callAt conF nbF rows (k + 1) "is_instruction" = some (runBody ["thing", "counts", "depth", "kinds", "kind", "number"] 3 (sh_is_instruction (callAt conF nbF rows k))) := by
  rw [← q_is_instruction]; rfl
theorem o_is_instruction (k : Nat) (ds : List D) (h : AH) : callOf (C (k + 1)) "is_instruction" ds h = runBody ["thing", "counts", "depth", "kinds", "kind", "number"] 3 (sh_is_instruction (C k)) ds h := by
  delta C; exact callOf_some (c_is_instruction k) ds h
def sh_is_body_e1 (F : Str → Option GF) : G := (gFn F "is_instruction" (gaCons (gVar 3) (gaCons (gVar 1) (gaCons (gBin dSub (gVar 2) (gCon (.int 1))) gaNil))))
def sh_is_body (F : Str → Option GF) : GS := (gsSeq (gsIf (gOrB (gTrue (gBin dEq (gVar 2) (gCon (.int 0)))) (gNotB (gTrue (gFn F "is_tuple" (gaCons (gVar 0) (gaCons (gCon (.int 1)) (gaCons (gCon .non) gaNil))))))) (gsSeq (gsRet (gCon (.bl false))) gsNil) gsNil) (gsSeq (gsRet (gCallL lAll (gLc (giVal (gVar 0)) [3] (gtName 3) gYes (sh_is_body_e1 F)))) gsNil))
theorem q_is_body (F : Str → Option GF) : evSs (VV F) FUEL r_is_body.S (L2.defBody r_is_body.st) = sh_is_body F := by kernel_rfl
theorem c_is_body (k : Nat) : callAt conF nbF rows (k + 1) "is_body" = some (runBody ["thing", "counts", "depth", "one"] 3 (sh_is_body (callAt conF nbF rows k))) := by
  rw [← q_is_body]; rfl
theorem o_is_body (k : Nat) (ds : List D) (h : AH) : callOf (C (k + 1)) "is_body" ds h = runBody ["thing", "counts", "depth", "one"] 3 (sh_is_body (C k)) ds h := by
  delta C; exact callOf_some (c_is_body k) ds h
def sh_is_forever (F : Str → Option GF) : GS := (gsSeq (gsIf (gOrB (gNotB (gTrue (gFn F "is_pair" (gaCons (gVar 0) gaNil)))) (gNotB (gTrue (gIsi "str" (gBin dIx (gVar 0) (gCon (.int 0))))))) (gsSeq (gsRet (gCon (.bl false))) gsNil) gsNil) (gsSeq (gsRet (gAndV (gBin dEq (gBin dIx (gVar 0) (gCon (.int 0))) (gCon (.str "forever"))) (gFn F "is_body" (gaCons (gBin dIx (gVar 0) (gCon (.int 1))) (gaCons (gVar 1) (gaCons (gCon (.int 3)) gaNil)))))) gsNil))
theorem q_is_forever (F : Str → Option GF) : evSs (VV F) FUEL r_is_forever.S (L2.defBody r_is_forever.st) = sh_is_forever F := by kernel_rfl
theorem c_is_forever (k : Nat) : callAt conF nbF rows (k + 1) "is_forever" = some (runBody ["thing", "counts"] 2 (sh_is_forever (callAt conF nbF rows k))) := by
  rw [← q_is_forever]; rfl
theorem o_is_forever (k : Nat) (ds : List D) (h : AH) : callOf (C (k + 1)) "is_forever" ds h = runBody ["thing", "counts"] 2 (sh_is_forever (C k)) ds h := by
  delta C; exact callOf_some (c_is_forever k) ds h
def sh_is_script_e1 (F : Str → Option GF) : G := (gOrV (gFn F "is_instruction" (gaCons (gVar 2) (gaCons (gVar 1) (gaCons (gCon (.int 3)) gaNil)))) (gFn F "is_forever" (gaCons (gVar 2) (gaCons (gVar 1) gaNil))))
def sh_is_script_e2 (F : Str → Option GF) : G := (gFn F "is_instruction" (gaCons (gVar 2) (gaCons (gVar 1) (gaCons (gCon (.int 3)) gaNil))))
def sh_is_script (F : Str → Option GF) : GS := (gsSeq (gsIf (gNotB (gTrue (gIsi "tuple" (gVar 0)))) (gsSeq (gsRet (gCon (.bl false))) gsNil) gsNil) (gsSeq (gsIf (gNotB (gTrue (gCallL lAll (gLc (giVal (gSl (gVar 0) goNone (goSome (gNeg (gCon (.int 1)))))) [2] (gtName 2) gYes (sh_is_script_e2 F))))) (gsSeq (gsRet (gCon (.bl false))) gsNil) gsNil) (gsSeq (gsRet (gCallL lAll (gLc (giVal (gSl (gVar 0) (goSome (gNeg (gCon (.int 1)))) goNone)) [2] (gtName 2) gYes (sh_is_script_e1 F)))) gsNil)))
theorem q_is_script (F : Str → Option GF) : evSs (VV F) FUEL r_is_script.S (L2.defBody r_is_script.st) = sh_is_script F := by kernel_rfl
theorem c_is_script (k : Nat) : callAt conF nbF rows (k + 1) "is_script" = some (runBody ["thing", "counts", "one"] 2 (sh_is_script (callAt conF nbF rows k))) := by
  rw [← q_is_script]; rfl
theorem o_is_script (k : Nat) (ds : List D) (h : AH) : callOf (C (k + 1)) "is_script" ds h = runBody ["thing", "counts", "one"] 2 (sh_is_script (C k)) ds h := by
  delta C; exact callOf_some (c_is_script k) ds h
def sh_held_after_b1 (F : Str → Option GF) : GS := (gsSeq (gsIf (gAndB (gTrue (gBin dEq (gBin dIx (gVar 3) (gCon (.int 0))) (gCon (.str "take")))) (gTrue (gBin dEq (gBin dIx (gVar 3) (gCon (.int 1))) (gVar 1)))) (gsSeq (gsAsg (gBin dAdd (gVar 2) (gCon (.int 1))) (gtName 2)) gsNil) (gsSeq (gsIf (gAndB (gTrue (gBin dEq (gBin dIx (gVar 3) (gCon (.int 0))) (gCon (.str "give")))) (gTrue (gBin dEq (gBin dIx (gVar 3) (gCon (.int 1))) (gVar 1)))) (gsSeq (gsAsg (gBin dSub (gVar 2) (gCon (.int 1))) (gtName 2)) gsNil) (gsSeq (gsIf (gAndB (gTrue (gBin dEq (gBin dIx (gVar 3) (gCon (.int 0))) (gCon (.str "repeat")))) (gTrue (gBin dNe (gFn F "held_after" (gaCons (gBin dIx (gVar 3) (gCon (.int 2))) (gaCons (gVar 1) (gaCons (gVar 2) gaNil)))) (gVar 2)))) (gsSeq (gsRet (gCon .non)) gsNil) (gsSeq (gsIf (gAndB (gTrue (gBin dEq (gBin dIx (gVar 3) (gCon (.int 0))) (gCon (.str "forever")))) (gOrB (gTrue (gBin dNe (gVar 2) (gCon (.int 0)))) (gTrue (gBin dNe (gFn F "held_after" (gaCons (gBin dIx (gVar 3) (gCon (.int 1))) (gaCons (gVar 1) (gaCons (gCon (.int 0)) gaNil)))) (gCon (.int 0)))))) (gsSeq (gsRet (gCon .non)) gsNil) gsNil) gsNil)) gsNil)) gsNil)) (gsSeq (gsIf (gTrue (gBin dLt (gVar 2) (gCon (.int 0)))) (gsSeq (gsRet (gCon .non)) gsNil) gsNil) gsNil))
def sh_held_after (F : Str → Option GF) : GS := (gsSeq (gsFor (giVal (gVar 0)) (gtName 3) (sh_held_after_b1 F)) (gsSeq (gsRet (gVar 2)) gsNil))
theorem q_held_after (F : Str → Option GF) : evSs (VV F) FUEL r_held_after.S (L2.defBody r_held_after.st) = sh_held_after F := by kernel_rfl
theorem c_held_after (k : Nat) : callAt conF nbF rows (k + 1) "held_after" = some (runBody ["script", "resource", "many", "instruction"] 3 (sh_held_after (callAt conF nbF rows k))) := by
  rw [← q_held_after]; rfl
theorem o_held_after (k : Nat) (ds : List D) (h : AH) : callOf (C (k + 1)) "held_after" ds h = runBody ["script", "resource", "many", "instruction"] 3 (sh_held_after (C k)) ds h := by
  delta C; exact callOf_some (c_held_after k) ds h
def sh_time_of_b1 (F : Str → Option GF) : GS := (gsSeq (gsIf (gTrue (gBin dEq (gBin dIx (gVar 2) (gCon (.int 0))) (gCon (.str "wait")))) (gsSeq (gsAsg (gBin dAdd (gVar 1) (gBin dIx (gVar 2) (gCon (.int 1)))) (gtName 1)) gsNil) (gsSeq (gsIf (gTrue (gBin dEq (gBin dIx (gVar 2) (gCon (.int 0))) (gCon (.str "repeat")))) (gsSeq (gsAsg (gBin dAdd (gVar 1) (gBin dMul (gBin dIx (gVar 2) (gCon (.int 1))) (gFn F "time_of" (gaCons (gBin dIx (gVar 2) (gCon (.int 2))) gaNil)))) (gtName 1)) gsNil) gsNil) gsNil)) gsNil)
def sh_time_of (F : Str → Option GF) : GS := (gsSeq (gsAsg (gCon (.int 0)) (gtName 1)) (gsSeq (gsFor (giVal (gVar 0)) (gtName 2) (sh_time_of_b1 F)) (gsSeq (gsRet (gVar 1)) gsNil)))
theorem q_time_of (F : Str → Option GF) : evSs (VV F) FUEL r_time_of.S (L2.defBody r_time_of.st) = sh_time_of F := by kernel_rfl
theorem c_time_of (k : Nat) : callAt conF nbF rows (k + 1) "time_of" = some (runBody ["script", "total", "instruction"] 1 (sh_time_of (callAt conF nbF rows k))) := by
  rw [← q_time_of]; rfl
theorem o_time_of (k : Nat) (ds : List D) (h : AH) : callOf (C (k + 1)) "time_of" ds h = runBody ["script", "total", "instruction"] 1 (sh_time_of (C k)) ds h := by
  delta C; exact callOf_some (c_time_of k) ds h
def sh_is_sound_e1 (F : Str → Option GF) : G := (gBin dGt (gFn F "time_of" (gaCons (gBin dIx (gVar 3) (gCon (.int 1))) gaNil)) (gCon (.int 0)))
def sh_is_sound_e2 (F : Str → Option GF) : G := (gBin dEq (gFn F "held_after" (gaCons (gVar 0) (gaCons (gVar 2) (gaCons (gCon (.int 0)) gaNil)))) (gCon (.int 0)))
def sh_is_sound (F : Str → Option GF) : GS := (gsSeq (gsIf (gNotB (gTrue (gCallL lAll (gLc (giRange (gaCons (gVar 1) gaNil)) [2] (gtName 2) gYes (sh_is_sound_e2 F))))) (gsSeq (gsRet (gCon (.bl false))) gsNil) gsNil) (gsSeq (gsRet (gCallL lAll (gLc (giVal (gVar 0)) [3] (gtName 3) (gTrue (gBin dEq (gBin dIx (gVar 3) (gCon (.int 0))) (gCon (.str "forever")))) (sh_is_sound_e1 F)))) gsNil))
theorem q_is_sound (F : Str → Option GF) : evSs (VV F) FUEL r_is_sound.S (L2.defBody r_is_sound.st) = sh_is_sound F := by kernel_rfl
theorem c_is_sound (k : Nat) : callAt conF nbF rows (k + 1) "is_sound" = some (runBody ["script", "resources", "resource", "one"] 2 (sh_is_sound (callAt conF nbF rows k))) := by
  rw [← q_is_sound]; rfl
theorem o_is_sound (k : Nat) (ds : List D) (h : AH) : callOf (C (k + 1)) "is_sound" ds h = runBody ["script", "resources", "resource", "one"] 2 (sh_is_sound (C k)) ds h := by
  delta C; exact callOf_some (c_is_sound k) ds h
def sh_has_parts_e1 (F : Str → Option GF) : G := (gCall bLen (gaCons (gVar 7) gaNil))
def sh_has_parts_e2 (F : Str → Option GF) : G := (gFn F "is_script" (gaCons (gVar 6) (gaCons (gAlloc (gLc (giVal (gVar 0)) [7] (gtName 7) gYes (sh_has_parts_e1 F))) gaNil)))
def sh_has_parts_e3 (F : Str → Option GF) : G := (gFn F "is_gate" (gaCons (gVar 5) gaNil))
def sh_has_parts_e4 (F : Str → Option GF) : G := (gFn F "is_store" (gaCons (gVar 5) gaNil))
def sh_has_parts_e5 (F : Str → Option GF) : G := (gFn F "is_resource" (gaCons (gVar 5) gaNil))
def sh_has_parts (F : Str → Option GF) : GS := (gsSeq (gsIf (gNotB (gTrue (gFn F "is_tuple" (gaCons (gVar 0) (gaCons (gCon (.int 4)) (gaCons (gCon (.int 4)) gaNil)))))) (gsSeq (gsRet (gCon (.bl false))) gsNil) gsNil) (gsSeq (gsAsg (gVar 0) (gtTup 4 (gtsCons (gtName 1) (gtsCons (gtName 2) (gtsCons (gtName 3) (gtsCons (gtName 4) gtsNil)))))) (gsSeq (gsIf (gOrB (gNotB (gTrue (gFn F "is_tuple" (gaCons (gVar 1) (gaCons (gCon (.int 0)) (gaCons (gCon (.int 4)) gaNil)))))) (gNotB (gTrue (gCallL lAll (gLc (giVal (gVar 1)) [5] (gtName 5) gYes (sh_has_parts_e5 F)))))) (gsSeq (gsRet (gCon (.bl false))) gsNil) gsNil) (gsSeq (gsIf (gOrB (gNotB (gTrue (gFn F "is_tuple" (gaCons (gVar 2) (gaCons (gCon (.int 0)) (gaCons (gCon (.int 3)) gaNil)))))) (gNotB (gTrue (gCallL lAll (gLc (giVal (gVar 2)) [5] (gtName 5) gYes (sh_has_parts_e4 F)))))) (gsSeq (gsRet (gCon (.bl false))) gsNil) gsNil) (gsSeq (gsIf (gOrB (gNotB (gTrue (gFn F "is_tuple" (gaCons (gVar 3) (gaCons (gCon (.int 0)) (gaCons (gCon (.int 3)) gaNil)))))) (gNotB (gTrue (gCallL lAll (gLc (giVal (gVar 3)) [5] (gtName 5) gYes (sh_has_parts_e3 F)))))) (gsSeq (gsRet (gCon (.bl false))) gsNil) gsNil) (gsSeq (gsIf (gNotB (gTrue (gFn F "is_tuple" (gaCons (gVar 4) (gaCons (gCon (.int 1)) (gaCons (gCon (.int 6)) gaNil)))))) (gsSeq (gsRet (gCon (.bl false))) gsNil) gsNil) (gsSeq (gsRet (gCallL lAll (gLc (giVal (gVar 4)) [6] (gtName 6) gYes (sh_has_parts_e2 F)))) gsNil)))))))
theorem q_has_parts (F : Str → Option GF) : evSs (VV F) FUEL r_has_parts.S (L2.defBody r_has_parts.st) = sh_has_parts F := by kernel_rfl
theorem c_has_parts (k : Nat) : callAt conF nbF rows (k + 1) "has_parts" = some (runBody ["thing", "resources", "stores", "gates", "scripts", "one", "script", "part"] 1 (sh_has_parts (callAt conF nbF rows k))) := by
  rw [← q_has_parts]; rfl
theorem o_has_parts (k : Nat) (ds : List D) (h : AH) : callOf (C (k + 1)) "has_parts" ds h = runBody ["thing", "resources", "stores", "gates", "scripts", "one", "script", "part"] 1 (sh_has_parts (C k)) ds h := by
  delta C; exact callOf_some (c_has_parts k) ds h
def sh_is_model_e1 (F : Str → Option GF) : G := (gFn F "is_sound" (gaCons (gVar 1) (gaCons (gCall bLen (gaCons (gBin dIx (gVar 0) (gCon (.int 0))) gaNil)) gaNil)))
def sh_is_model (F : Str → Option GF) : GS := (gsSeq (gsRet (gAndV (gFn F "has_parts" (gaCons (gVar 0) gaNil)) (gCallL lAll (gLc (giVal (gBin dIx (gVar 0) (gCon (.int 3)))) [1] (gtName 1) gYes (sh_is_model_e1 F))))) gsNil)
theorem q_is_model (F : Str → Option GF) : evSs (VV F) FUEL r_is_model.S (L2.defBody r_is_model.st) = sh_is_model F := by kernel_rfl
theorem c_is_model (k : Nat) : callAt conF nbF rows (k + 1) "is_model" = some (runBody ["thing", "script"] 1 (sh_is_model (callAt conF nbF rows k))) := by
  rw [← q_is_model]; rfl
theorem o_is_model (k : Nat) (ds : List D) (h : AH) : callOf (C (k + 1)) "is_model" ds h = runBody ["thing", "script"] 1 (sh_is_model (C k)) ds h := by
  delta C; exact callOf_some (c_is_model k) ds h
def sh_need_model (F : Str → Option GF) : GS := (gsSeq (gsIf (gNotB (gTrue (gFn F "is_model" (gaCons (gVar 0) gaNil)))) (gsSeq gsBad gsNil) gsNil) gsNil)
theorem q_need_model (F : Str → Option GF) : evSs (VV F) FUEL r_need_model.S (L2.defBody r_need_model.st) = sh_need_model F := by kernel_rfl
theorem c_need_model (k : Nat) : callAt conF nbF rows (k + 1) "need_model" = some (runBody ["thing"] 1 (sh_need_model (callAt conF nbF rows k))) := by
  rw [← q_need_model]; rfl
theorem o_need_model (k : Nat) (ds : List D) (h : AH) : callOf (C (k + 1)) "need_model" ds h = runBody ["thing"] 1 (sh_need_model (C k)) ds h := by
  delta C; exact callOf_some (c_need_model k) ds h
def sh_joined_e1 (F : Str → Option GF) : G := (gCall bStr (gaCons (gVar 1) gaNil))
def sh_joined (F : Str → Option GF) : GS := (gsSeq (gsRet (gMethL "str" lJoin (gCon (.str " ")) (gLc (giVal (gVar 0)) [1] (gtName 1) gYes (sh_joined_e1 F)))) gsNil)
theorem q_joined (F : Str → Option GF) : evSs (VV F) FUEL r_joined.S (L2.defBody r_joined.st) = sh_joined F := by kernel_rfl
theorem c_joined (k : Nat) : callAt conF nbF rows (k + 1) "joined" = some (runBody ["parts", "part"] 1 (sh_joined (callAt conF nbF rows k))) := by
  rw [← q_joined]; rfl
theorem o_joined (k : Nat) (ds : List D) (h : AH) : callOf (C (k + 1)) "joined" ds h = runBody ["parts", "part"] 1 (sh_joined (C k)) ds h := by
  delta C; exact callOf_some (c_joined k) ds h
def sh_script_lines_b1 (F : Str → Option GF) : GS := (gsSeq (gsIf (gTrue (gBin dIn (gBin dIx (gVar 2) (gCon (.int 0))) (gCon (.fd [("wait", (.str "d")), ("take", (.str "rk")), ("give", (.str "r")), ("put", (.str "si")), ("get", (.str "s")), ("pass", (.str "g")), ("open", (.str "g")), ("shut", (.str "g")), ("rouse", (.str "p")), ("mark", (.str "n"))])))) (gsSeq (gsExpr (gMeth "list" mAppend (gVar 1) (gaCons (gFn F "joined" (gaCons (gVar 2) gaNil)) gaNil))) gsNil) (gsSeq (gsExpr (gMeth "list" mExtend (gVar 1) (gaCons (gAlloc (gLst (gaCons (gFn F "joined" (gaCons (gSl (gVar 2) goNone (goSome (gNeg (gCon (.int 1))))) gaNil)) (gaStar (gFn F "script_lines" (gaCons (gBin dIx (gVar 2) (gNeg (gCon (.int 1)))) gaNil)) (gaCons (gCon (.str "end")) gaNil))))) gaNil))) gsNil)) gsNil)
def sh_script_lines (F : Str → Option GF) : GS := (gsSeq (gsAsg (gAlloc (gLst gaNil)) (gtName 1)) (gsSeq (gsFor (giVal (gVar 0)) (gtName 2) (sh_script_lines_b1 F)) (gsSeq (gsRet (gVar 1)) gsNil)))
theorem q_script_lines (F : Str → Option GF) : evSs (VV F) FUEL r_script_lines.S (L2.defBody r_script_lines.st) = sh_script_lines F := by kernel_rfl
theorem c_script_lines (k : Nat) : callAt conF nbF rows (k + 1) "script_lines" = some (runBody ["script", "found", "instruction"] 1 (sh_script_lines (callAt conF nbF rows k))) := by
  rw [← q_script_lines]; rfl
theorem o_script_lines (k : Nat) (ds : List D) (h : AH) : callOf (C (k + 1)) "script_lines" ds h = runBody ["script", "found", "instruction"] 1 (sh_script_lines (C k)) ds h := by
  delta C; exact callOf_some (c_script_lines k) ds h
def sh_format_model_b1 (F : Str → Option GF) : GS := (gsSeq (gsExpr (gMeth "list" mExtend (gVar 5) (gaCons (gAlloc (gLst (gaCons (gCon (.str "process")) (gaStar (gFn F "script_lines" (gaCons (gVar 6) gaNil)) gaNil)))) gaNil))) gsNil)
def sh_format_model_e2 (F : Str → Option GF) : G := (gFn F "joined" (gaCons (gTup (gaCons (gCon (.str "gate")) (gaCons (gVar 10) gaNil))) gaNil))
def sh_format_model_e3 (F : Str → Option GF) : G := (gFn F "joined" (gaCons (gTup (gaCons (gCon (.str "store")) (gaCons (gVar 8) (gaStar (gVar 9) gaNil)))) gaNil))
def sh_format_model_e4 (F : Str → Option GF) : G := (gFn F "joined" (gaCons (gTup (gaCons (gCon (.str "resource")) (gaStar (gVar 7) gaNil))) gaNil))
def sh_format_model (F : Str → Option GF) : GS := (gsSeq (gsExpr (gFn F "need_model" (gaCons (gVar 0) gaNil))) (gsSeq (gsAsg (gVar 0) (gtTup 4 (gtsCons (gtName 1) (gtsCons (gtName 2) (gtsCons (gtName 3) (gtsCons (gtName 4) gtsNil)))))) (gsSeq (gsAsg (gAlloc (gLc (giVal (gVar 1)) [7] (gtName 7) gYes (sh_format_model_e4 F))) (gtName 5)) (gsSeq (gsExpr (gMeth "list" mExtend (gVar 5) (gaCons (gAlloc (gLc (giVal (gVar 2)) [8, 9] (gtTup 2 (gtsCons (gtName 8) (gtsCons (gtName 9) gtsNil))) gYes (sh_format_model_e3 F))) gaNil))) (gsSeq (gsExpr (gMeth "list" mExtend (gVar 5) (gaCons (gAlloc (gLc (giVal (gVar 3)) [10] (gtName 10) gYes (sh_format_model_e2 F))) gaNil))) (gsSeq (gsFor (giVal (gVar 4)) (gtName 6) (sh_format_model_b1 F)) (gsSeq (gsRet (gMeth "str" mJoin (gCon (.str "\n")) (gaCons (gVar 5) gaNil))) gsNil)))))))
theorem q_format_model (F : Str → Option GF) : evSs (VV F) FUEL r_format_model.S (L2.defBody r_format_model.st) = sh_format_model F := by kernel_rfl
theorem c_format_model (k : Nat) : callAt conF nbF rows (k + 1) "format_model" = some (runBody ["model", "resources", "stores", "gates", "scripts", "lines", "script", "resource", "capacity", "items", "gate"] 1 (sh_format_model (callAt conF nbF rows k))) := by
  rw [← q_format_model]; rfl
theorem o_format_model (k : Nat) (ds : List D) (h : AH) : callOf (C (k + 1)) "format_model" ds h = runBody ["model", "resources", "stores", "gates", "scripts", "lines", "script", "resource", "capacity", "items", "gate"] 1 (sh_format_model (C k)) ds h := by
  delta C; exact callOf_some (c_format_model k) ds h
def sh_law_cell_at (F : Str → Option GF) : GS := (gsSeq (gsIf (gTrue (gBin dLt (gVar 1) (gCall bLen (gaCons (gVar 0) gaNil)))) (gsSeq (gsRet (gBin dIx (gVar 0) (gVar 1))) gsNil) gsNil) (gsSeq (gsRet (gCon (.int 0))) gsNil))
theorem q_law_cell_at (F : Str → Option GF) : evSs (VV F) FUEL r_law_cell_at.S (L2.defBody r_law_cell_at.st) = sh_law_cell_at F := by kernel_rfl
theorem c_law_cell_at (k : Nat) : callAt conF nbF rows (k + 1) "_law_cell_at" = some (runBody ["_law_script_here", "_law_k"] 2 (sh_law_cell_at (callAt conF nbF rows k))) := by
  rw [← q_law_cell_at]; rfl
theorem o_law_cell_at (k : Nat) (ds : List D) (h : AH) : callOf (C (k + 1)) "_law_cell_at" ds h = runBody ["_law_script_here", "_law_k"] 2 (sh_law_cell_at (C k)) ds h := by
  delta C; exact callOf_some (c_law_cell_at k) ds h
def sh_law_pen (F : Str → Option GF) : GS := (gsSeq (gsRet (gAlloc (gLst (gaCons (gCall bMax (gaCons (gCon (.int 0)) (gaCons (gBin dSub (gVar 0) (gBin dPow (gCon (.int 10)) (gCon (.int 18)))) gaNil))) (gaCons (gBin dAdd (gBin dMod (gVar 0) (gCon (.int 2147483629))) (gCon (.int 1))) (gaCons (gCon (.int 0)) gaNil)))))) gsNil)
theorem q_law_pen (F : Str → Option GF) : evSs (VV F) FUEL r_law_pen.S (L2.defBody r_law_pen.st) = sh_law_pen F := by kernel_rfl
theorem c_law_pen (k : Nat) : callAt conF nbF rows (k + 1) "_law_pen" = some (runBody ["_law_cell"] 1 (sh_law_pen (callAt conF nbF rows k))) := by
  rw [← q_law_pen]; rfl
theorem o_law_pen (k : Nat) (ds : List D) (h : AH) : callOf (C (k + 1)) "_law_pen" ds h = runBody ["_law_cell"] 1 (sh_law_pen (C k)) ds h := by
  delta C; exact callOf_some (c_law_pen k) ds h
def sh_law_draw (F : Str → Option GF) : GS := (gsSeq (gsIf (gTrue (gBin dGt (gBin dIx (gVar 0) (gCon (.int 0))) (gCon (.int 0)))) (gsSeq (gsAsg (gBin dMod (gBin dIx (gVar 0) (gCon (.int 0))) (gVar 1)) (gtName 2)) (gsSeq (gsAsg (gBin dDiv (gBin dIx (gVar 0) (gCon (.int 0))) (gVar 1)) (gtSub (gVar 0) (gCon (.int 0)))) (gsSeq (gsRet (gVar 2)) gsNil))) gsNil) (gsSeq (gsAsg (gBin dAdd (gBin dIx (gVar 0) (gCon (.int 2))) (gCon (.int 1))) (gtSub (gVar 0) (gCon (.int 2)))) (gsSeq (gsAsg (gBin dMod (gBin dAdd (gBin dAdd (gBin dMul (gBin dIx (gVar 0) (gCon (.int 1))) (gCon (.int 48271))) (gBin dMul (gCon (.int 1013)) (gBin dIx (gVar 0) (gCon (.int 2))))) (gCon (.int 11))) (gCon (.int 2147483647))) (gtSub (gVar 0) (gCon (.int 1)))) (gsSeq (gsAsg (gBin dMod (gBin dAdd (gBin dAdd (gBin dMul (gBin dIx (gVar 0) (gCon (.int 1))) (gBin dIx (gVar 0) (gCon (.int 1)))) (gBin dMul (gCon (.int 40692)) (gBin dIx (gVar 0) (gCon (.int 1))))) (gCon (.int 7))) (gCon (.int 2147483629))) (gtName 3)) (gsSeq (gsRet (gBin dMod (gBin dDiv (gBin dMod (gBin dMul (gVar 3) (gCon (.int 69621))) (gCon (.int 2147483647))) (gCon (.int 16))) (gVar 1))) gsNil)))))
theorem q_law_draw (F : Str → Option GF) : evSs (VV F) FUEL r_law_draw.S (L2.defBody r_law_draw.st) = sh_law_draw F := by kernel_rfl
theorem c_law_draw (k : Nat) : callAt conF nbF rows (k + 1) "_law_draw" = some (runBody ["_law_pen_here", "_law_many", "_law_found", "_law_stirred"] 2 (sh_law_draw (callAt conF nbF rows k))) := by
  rw [← q_law_draw]; rfl
theorem o_law_draw (k : Nat) (ds : List D) (h : AH) : callOf (C (k + 1)) "_law_draw" ds h = runBody ["_law_pen_here", "_law_many", "_law_found", "_law_stirred"] 2 (sh_law_draw (C k)) ds h := by
  delta C; exact callOf_some (c_law_draw k) ds h
def sh_law_pick (F : Str → Option GF) : GS := (gsSeq (gsRet (gBin dIx (gVar 1) (gFn F "_law_draw" (gaCons (gVar 0) (gaCons (gCall bLen (gaCons (gVar 1) gaNil)) gaNil))))) gsNil)
theorem q_law_pick (F : Str → Option GF) : evSs (VV F) FUEL r_law_pick.S (L2.defBody r_law_pick.st) = sh_law_pick F := by kernel_rfl
theorem c_law_pick (k : Nat) : callAt conF nbF rows (k + 1) "_law_pick" = some (runBody ["_law_pen_here", "_law_things"] 2 (sh_law_pick (callAt conF nbF rows k))) := by
  rw [← q_law_pick]; rfl
theorem o_law_pick (k : Nat) (ds : List D) (h : AH) : callOf (C (k + 1)) "_law_pick" ds h = runBody ["_law_pen_here", "_law_things"] 2 (sh_law_pick (C k)) ds h := by
  delta C; exact callOf_some (c_law_pick k) ds h
def sh_law_same (F : Str → Option GF) : GS := (gsSeq (gsRet (gAndV (gBin dEq (gVar 0) (gVar 1)) (gBin dEq (gCall bRepr (gaCons (gVar 0) gaNil)) (gCall bRepr (gaCons (gVar 1) gaNil))))) gsNil)
theorem q_law_same (F : Str → Option GF) : evSs (VV F) FUEL r_law_same.S (L2.defBody r_law_same.st) = sh_law_same F := by kernel_rfl
theorem c_law_same (k : Nat) : callAt conF nbF rows (k + 1) "_law_same" = some (runBody ["_law_one", "_law_other"] 2 (sh_law_same (callAt conF nbF rows k))) := by
  rw [← q_law_same]; rfl
theorem o_law_same (k : Nat) (ds : List D) (h : AH) : callOf (C (k + 1)) "_law_same" ds h = runBody ["_law_one", "_law_other"] 2 (sh_law_same (C k)) ds h := by
  delta C; exact callOf_some (c_law_same k) ds h
def sh_law_chunk (F : Str → Option GF) : GS := (gsSeq (gsAsg (gVar 1) (gtTup 4 (gtsCons (gtName 2) (gtsCons (gtName 3) (gtsCons (gtName 4) (gtsCons (gtName 5) gtsNil)))))) (gsSeq (gsAsg (gFn F "_law_draw" (gaCons (gVar 0) (gaCons (gCon (.int 9)) gaNil))) (gtName 6)) (gsSeq (gsIf (gAndB (gTrue (gBin dLt (gVar 6) (gCon (.int 3)))) (gTrue (gBin dGt (gVar 2) (gCon (.int 0))))) (gsSeq (gsAsg (gFn F "_law_draw" (gaCons (gVar 0) (gaCons (gVar 2) gaNil))) (gtName 7)) (gsSeq (gsRet (gTup (gaCons (gTup (gaCons (gCon (.str "take")) (gaCons (gVar 7) (gaCons (gFn F "_law_draw" (gaCons (gVar 0) (gaCons (gCon (.int 10)) gaNil))) gaNil)))) (gaCons (gTup (gaCons (gCon (.str "wait")) (gaCons (gFn F "_law_draw" (gaCons (gVar 0) (gaCons (gCon (.int 7)) gaNil))) gaNil))) (gaCons (gTup (gaCons (gCon (.str "give")) (gaCons (gVar 7) gaNil))) gaNil))))) gsNil)) gsNil) (gsSeq (gsIf (gAndB (gTrue (gBin dEq (gVar 6) (gCon (.int 3)))) (gTrue (gBin dGt (gVar 3) (gCon (.int 0))))) (gsSeq (gsAsg (gFn F "_law_draw" (gaCons (gVar 0) (gaCons (gVar 3) gaNil))) (gtName 8)) (gsSeq (gsRet (gTup (gaCons (gFn F "_law_pick" (gaCons (gVar 0) (gaCons (gAlloc (gLst (gaCons (gTup (gaCons (gCon (.str "put")) (gaCons (gVar 8) (gaCons (gFn F "_law_draw" (gaCons (gVar 0) (gaCons (gCon (.int 100)) gaNil))) gaNil)))) (gaCons (gTup (gaCons (gCon (.str "get")) (gaCons (gVar 8) gaNil))) gaNil)))) gaNil))) gaNil))) gsNil)) gsNil) (gsSeq (gsIf (gAndB (gTrue (gBin dEq (gVar 6) (gCon (.int 4)))) (gTrue (gBin dGt (gVar 4) (gCon (.int 0))))) (gsSeq (gsRet (gTup (gaCons (gTup (gaCons (gFn F "_law_pick" (gaCons (gVar 0) (gaCons (gAlloc (gLst (gaCons (gCon (.str "pass")) (gaCons (gCon (.str "open")) (gaCons (gCon (.str "shut")) gaNil))))) gaNil))) (gaCons (gFn F "_law_draw" (gaCons (gVar 0) (gaCons (gVar 4) gaNil))) gaNil))) gaNil))) gsNil) gsNil) (gsSeq (gsIf (gTrue (gBin dEq (gVar 6) (gCon (.int 5)))) (gsSeq (gsRet (gTup (gaCons (gTup (gaCons (gCon (.str "rouse")) (gaCons (gFn F "_law_draw" (gaCons (gVar 0) (gaCons (gVar 5) gaNil))) gaNil))) gaNil))) gsNil) gsNil) (gsSeq (gsIf (gTrue (gBin dEq (gVar 6) (gCon (.int 6)))) (gsSeq (gsRet (gTup (gaCons (gTup (gaCons (gCon (.str "mark")) (gaCons (gFn F "_law_draw" (gaCons (gVar 0) (gaCons (gCon (.int 1000)) gaNil))) gaNil))) gaNil))) gsNil) gsNil) (gsSeq (gsIf (gAndB (gTrue (gBin dEq (gVar 6) (gCon (.int 7)))) (gTrue (gBin dGt (gVar 2) (gCon (.int 1))))) (gsSeq (gsPar 9 10 (gaCons (gFn F "_law_draw" (gaCons (gVar 0) (gaCons (gVar 2) gaNil))) (gaCons (gFn F "_law_draw" (gaCons (gVar 0) (gaCons (gVar 2) gaNil))) gaNil))) (gsSeq (gsAsg (gTup (gaCons (gTup (gaCons (gCon (.str "wait")) (gaCons (gFn F "_law_draw" (gaCons (gVar 0) (gaCons (gCon (.int 4)) gaNil))) gaNil))) (gaCons (gTup (gaCons (gCon (.str "give")) (gaCons (gVar 9) gaNil))) (gaCons (gTup (gaCons (gCon (.str "give")) (gaCons (gVar 10) gaNil))) gaNil)))) (gtName 11)) (gsSeq (gsRet (gBin dAdd (gTup (gaCons (gTup (gaCons (gCon (.str "take")) (gaCons (gVar 9) (gaCons (gFn F "_law_draw" (gaCons (gVar 0) (gaCons (gCon (.int 10)) gaNil))) gaNil)))) (gaCons (gTup (gaCons (gCon (.str "take")) (gaCons (gVar 10) (gaCons (gFn F "_law_draw" (gaCons (gVar 0) (gaCons (gCon (.int 10)) gaNil))) gaNil)))) gaNil))) (gVar 11))) gsNil))) gsNil) (gsSeq (gsRet (gTup (gaCons (gTup (gaCons (gCon (.str "wait")) (gaCons (gFn F "_law_draw" (gaCons (gVar 0) (gaCons (gCon (.int 7)) gaNil))) gaNil))) gaNil))) gsNil)))))))))
theorem q_law_chunk (F : Str → Option GF) : evSs (VV F) FUEL r_law_chunk.S (L2.defBody r_law_chunk.st) = sh_law_chunk F := by kernel_rfl
theorem c_law_chunk (k : Nat) : callAt conF nbF rows (k + 1) "_law_chunk" = some (runBody ["_law_pen_here", "_law_counts", "_law_resources", "_law_stores", "_law_gates", "_law_processes", "_law_way", "_law_r", "_law_s", "_law_one", "_law_other", "_law_ends"] 2 (sh_law_chunk (callAt conF nbF rows k))) := by
  rw [← q_law_chunk]; rfl
theorem o_law_chunk (k : Nat) (ds : List D) (h : AH) : callOf (C (k + 1)) "_law_chunk" ds h = runBody ["_law_pen_here", "_law_counts", "_law_resources", "_law_stores", "_law_gates", "_law_processes", "_law_way", "_law_r", "_law_s", "_law_one", "_law_other", "_law_ends"] 2 (sh_law_chunk (C k)) ds h := by
  delta C; exact callOf_some (c_law_chunk k) ds h
def sh_law_body_b1 (F : Str → Option GF) : GS := (gsSeq (gsAsg (gFn F "_law_chunk" (gaCons (gVar 0) (gaCons (gVar 1) gaNil))) (gtName 5)) (gsSeq (gsIf (gTrue (gBin dLe (gBin dAdd (gCall bLen (gaCons (gVar 3) gaNil)) (gCall bLen (gaCons (gVar 5) gaNil))) (gCon (.int 8)))) (gsSeq (gsAsg (gBin dAdd (gVar 3) (gVar 5)) (gtName 3)) gsNil) gsNil) gsNil))
def sh_law_body (F : Str → Option GF) : GS := (gsSeq (gsAsg (gTup gaNil) (gtName 3)) (gsSeq (gsFor (giRange (gaCons (gVar 2) gaNil)) (gtName 4) (sh_law_body_b1 F)) (gsSeq (gsRet (gVar 3)) gsNil)))
theorem q_law_body (F : Str → Option GF) : evSs (VV F) FUEL r_law_body.S (L2.defBody r_law_body.st) = sh_law_body F := by kernel_rfl
theorem c_law_body (k : Nat) : callAt conF nbF rows (k + 1) "_law_body" = some (runBody ["_law_pen_here", "_law_counts", "_law_many", "_law_found", "_law_lap", "_law_chunk_here"] 3 (sh_law_body (callAt conF nbF rows k))) := by
  rw [← q_law_body]; rfl
theorem o_law_body (k : Nat) (ds : List D) (h : AH) : callOf (C (k + 1)) "_law_body" ds h = runBody ["_law_pen_here", "_law_counts", "_law_many", "_law_found", "_law_lap", "_law_chunk_here"] 3 (sh_law_body (C k)) ds h := by
  delta C; exact callOf_some (c_law_body k) ds h
def sh_law_script (F : Str → Option GF) : GS := (gsSeq (gsAsg (gFn F "_law_body" (gaCons (gVar 0) (gaCons (gVar 1) (gaCons (gFn F "_law_draw" (gaCons (gVar 0) (gaCons (gCon (.int 4)) gaNil))) gaNil)))) (gtName 2)) (gsSeq (gsAsg (gFn F "_law_draw" (gaCons (gVar 0) (gaCons (gCon (.int 5)) gaNil))) (gtName 3)) (gsSeq (gsIf (gTrue (gBin dEq (gVar 3) (gCon (.int 1)))) (gsSeq (gsAsg (gBin dAdd (gFn F "_law_body" (gaCons (gVar 0) (gaCons (gVar 1) (gaCons (gBin dAdd (gCon (.int 1)) (gFn F "_law_draw" (gaCons (gVar 0) (gaCons (gCon (.int 2)) gaNil)))) gaNil)))) (gTup (gaCons (gTup (gaCons (gCon (.str "wait")) (gaCons (gFn F "_law_draw" (gaCons (gVar 0) (gaCons (gCon (.int 3)) gaNil))) gaNil))) gaNil))) (gtName 4)) (gsSeq (gsAsg (gBin dAdd (gVar 2) (gTup (gaCons (gTup (gaCons (gCon (.str "repeat")) (gaCons (gFn F "_law_draw" (gaCons (gVar 0) (gaCons (gCon (.int 6)) gaNil))) (gaCons (gVar 4) gaNil)))) gaNil))) (gtName 2)) gsNil)) gsNil) (gsSeq (gsIf (gTrue (gBin dEq (gVar 3) (gCon (.int 2)))) (gsSeq (gsAsg (gTup (gaCons (gTup (gaCons (gCon (.str "mark")) (gaCons (gFn F "_law_draw" (gaCons (gVar 0) (gaCons (gCon (.int 9)) gaNil))) gaNil))) (gaCons (gTup (gaCons (gCon (.str "wait")) (gaCons (gFn F "_law_draw" (gaCons (gVar 0) (gaCons (gCon (.int 3)) gaNil))) gaNil))) gaNil))) (gtName 4)) (gsSeq (gsAsg (gTup (gaCons (gCon (.str "repeat")) (gaCons (gFn F "_law_draw" (gaCons (gVar 0) (gaCons (gCon (.int 4)) gaNil))) (gaCons (gVar 4) gaNil)))) (gtName 5)) (gsSeq (gsAsg (gBin dAdd (gFn F "_law_body" (gaCons (gVar 0) (gaCons (gVar 1) (gaCons (gCon (.int 1)) gaNil)))) (gTup (gaCons (gVar 5) gaNil))) (gtName 4)) (gsSeq (gsAsg (gBin dAdd (gVar 2) (gTup (gaCons (gTup (gaCons (gCon (.str "repeat")) (gaCons (gFn F "_law_draw" (gaCons (gVar 0) (gaCons (gCon (.int 4)) gaNil))) (gaCons (gVar 4) gaNil)))) gaNil))) (gtName 2)) gsNil)))) gsNil) (gsSeq (gsIf (gTrue (gBin dGt (gVar 3) (gCon (.int 2)))) (gsSeq (gsAsg (gFn F "_law_body" (gaCons (gVar 0) (gaCons (gVar 1) (gaCons (gBin dAdd (gCon (.int 1)) (gFn F "_law_draw" (gaCons (gVar 0) (gaCons (gCon (.int 2)) gaNil)))) gaNil)))) (gtName 4)) (gsSeq (gsAsg (gBin dAdd (gVar 2) (gTup (gaCons (gTup (gaCons (gCon (.str "forever")) (gaCons (gBin dAdd (gVar 4) (gTup (gaCons (gTup (gaCons (gCon (.str "wait")) (gaCons (gFn F "_law_pick" (gaCons (gVar 0) (gaCons (gAlloc (gLst (gaCons (gCon (.int 2)) (gaCons (gCon (.int 3)) (gaCons (gCon (.int 4)) (gaCons (gCon (.int 6)) (gaCons (gCon (.int 8)) (gaCons (gCon (.int 12)) gaNil)))))))) gaNil))) gaNil))) gaNil))) gaNil))) gaNil))) (gtName 2)) gsNil)) gsNil) (gsSeq (gsRet (gVar 2)) gsNil))))))
theorem q_law_script (F : Str → Option GF) : evSs (VV F) FUEL r_law_script.S (L2.defBody r_law_script.st) = sh_law_script F := by kernel_rfl
theorem c_law_script (k : Nat) : callAt conF nbF rows (k + 1) "_law_script" = some (runBody ["_law_pen_here", "_law_counts", "_law_found", "_law_way", "_law_body_here", "_law_inner"] 2 (sh_law_script (callAt conF nbF rows k))) := by
  rw [← q_law_script]; rfl
theorem o_law_script (k : Nat) (ds : List D) (h : AH) : callOf (C (k + 1)) "_law_script" ds h = runBody ["_law_pen_here", "_law_counts", "_law_found", "_law_way", "_law_body_here", "_law_inner"] 2 (sh_law_script (C k)) ds h := by
  delta C; exact callOf_some (c_law_script k) ds h
def sh_law_has_rouse_b1 (F : Str → Option GF) : GS := (gsSeq (gsIf (gTrue (gBin dEq (gBin dIx (gVar 1) (gCon (.int 0))) (gCon (.str "rouse")))) (gsSeq (gsRet (gCon (.bl true))) gsNil) gsNil) (gsSeq (gsIf (gAndB (gTrue (gBin dIn (gBin dIx (gVar 1) (gCon (.int 0))) (gTup (gaCons (gCon (.str "repeat")) (gaCons (gCon (.str "forever")) gaNil))))) (gTrue (gFn F "_law_has_rouse" (gaCons (gBin dIx (gVar 1) (gNeg (gCon (.int 1)))) gaNil)))) (gsSeq (gsRet (gCon (.bl true))) gsNil) gsNil) gsNil))
def sh_law_has_rouse (F : Str → Option GF) : GS := (gsSeq (gsFor (giVal (gVar 0)) (gtName 1) (sh_law_has_rouse_b1 F)) (gsSeq (gsRet (gCon (.bl false))) gsNil))
theorem q_law_has_rouse (F : Str → Option GF) : evSs (VV F) FUEL r_law_has_rouse.S (L2.defBody r_law_has_rouse.st) = sh_law_has_rouse F := by kernel_rfl
theorem c_law_has_rouse (k : Nat) : callAt conF nbF rows (k + 1) "_law_has_rouse" = some (runBody ["_law_script_here", "_law_instruction"] 1 (sh_law_has_rouse (callAt conF nbF rows k))) := by
  rw [← q_law_has_rouse]; rfl
theorem o_law_has_rouse (k : Nat) (ds : List D) (h : AH) : callOf (C (k + 1)) "_law_has_rouse" ds h = runBody ["_law_script_here", "_law_instruction"] 1 (sh_law_has_rouse (C k)) ds h := by
  delta C; exact callOf_some (c_law_has_rouse k) ds h
def sh_law_pass_time_b1 (F : Str → Option GF) : GS := (gsSeq (gsIf (gTrue (gBin dEq (gBin dIx (gVar 3) (gCon (.int 0))) (gCon (.str "wait")))) (gsSeq (gsAsg (gBin dAdd (gVar 2) (gIfE (gTrue (gVar 1)) (gBin dIx (gVar 3) (gCon (.int 1))) (gCall bMin (gaCons (gBin dIx (gVar 3) (gCon (.int 1))) (gaCons (gCon (.int 1)) gaNil))))) (gtName 2)) gsNil) gsNil) (gsSeq (gsIf (gTrue (gBin dEq (gBin dIx (gVar 3) (gCon (.int 0))) (gCon (.str "repeat")))) (gsSeq (gsAsg (gBin dAdd (gVar 2) (gBin dMul (gBin dIx (gVar 3) (gCon (.int 1))) (gFn F "_law_pass_time" (gaCons (gBin dIx (gVar 3) (gCon (.int 2))) (gaCons (gVar 1) gaNil))))) (gtName 2)) gsNil) gsNil) gsNil))
def sh_law_pass_time (F : Str → Option GF) : GS := (gsSeq (gsAsg (gCon (.int 0)) (gtName 2)) (gsSeq (gsFor (giVal (gVar 0)) (gtName 3) (sh_law_pass_time_b1 F)) (gsSeq (gsRet (gVar 2)) gsNil)))
theorem q_law_pass_time (F : Str → Option GF) : evSs (VV F) FUEL r_law_pass_time.S (L2.defBody r_law_pass_time.st) = sh_law_pass_time F := by kernel_rfl
theorem c_law_pass_time (k : Nat) : callAt conF nbF rows (k + 1) "_law_pass_time" = some (runBody ["_law_body_here", "_law_calm", "_law_total", "_law_instruction"] 2 (sh_law_pass_time (callAt conF nbF rows k))) := by
  rw [← q_law_pass_time]; rfl
theorem o_law_pass_time (k : Nat) (ds : List D) (h : AH) : callOf (C (k + 1)) "_law_pass_time" ds h = runBody ["_law_body_here", "_law_calm", "_law_total", "_law_instruction"] 2 (sh_law_pass_time (C k)) ds h := by
  delta C; exact callOf_some (c_law_pass_time k) ds h
def sh_law_cost_b1 (F : Str → Option GF) : GS := (gsSeq (gsIf (gTrue (gBin dEq (gBin dIx (gVar 3) (gCon (.int 0))) (gCon (.str "repeat")))) (gsSeq (gsAsg (gBin dAdd (gVar 2) (gBin dMul (gBin dIx (gVar 3) (gCon (.int 1))) (gFn F "_law_cost" (gaCons (gBin dIx (gVar 3) (gCon (.int 2))) (gaCons (gVar 1) gaNil))))) (gtName 2)) gsNil) (gsSeq (gsIf (gTrue (gBin dEq (gBin dIx (gVar 3) (gCon (.int 0))) (gCon (.str "forever")))) (gsSeq (gsAsg (gBin dAdd (gCon (.int 1)) (gBin dDiv (gCon (.int 200)) (gCall bMax (gaCons (gCon (.int 1)) (gaCons (gFn F "_law_pass_time" (gaCons (gBin dIx (gVar 3) (gCon (.int 1))) (gaCons (gVar 1) gaNil))) gaNil))))) (gtName 4)) (gsSeq (gsAsg (gBin dAdd (gVar 2) (gBin dMul (gVar 4) (gFn F "_law_cost" (gaCons (gBin dIx (gVar 3) (gCon (.int 1))) (gaCons (gVar 1) gaNil))))) (gtName 2)) gsNil)) (gsSeq (gsIf (gTrue (gBin dIn (gBin dIx (gVar 3) (gCon (.int 0))) (gTup (gaCons (gCon (.str "wait")) (gaCons (gCon (.str "put")) (gaCons (gCon (.str "get")) (gaCons (gCon (.str "pass")) gaNil))))))) (gsSeq (gsAsg (gBin dAdd (gVar 2) (gCon (.int 2))) (gtName 2)) gsNil) (gsSeq (gsAsg (gBin dAdd (gVar 2) (gIfE (gTrue (gBin dEq (gBin dIx (gVar 3) (gCon (.int 0))) (gCon (.str "take")))) (gCon (.int 4)) (gCon (.int 1)))) (gtName 2)) gsNil)) gsNil)) gsNil)) gsNil)
def sh_law_cost (F : Str → Option GF) : GS := (gsSeq (gsAsg (gCon (.int 1)) (gtName 2)) (gsSeq (gsFor (giVal (gVar 0)) (gtName 3) (sh_law_cost_b1 F)) (gsSeq (gsRet (gVar 2)) gsNil)))
theorem q_law_cost (F : Str → Option GF) : evSs (VV F) FUEL r_law_cost.S (L2.defBody r_law_cost.st) = sh_law_cost F := by kernel_rfl
theorem c_law_cost (k : Nat) : callAt conF nbF rows (k + 1) "_law_cost" = some (runBody ["_law_script_here", "_law_calm", "_law_total", "_law_instruction", "_law_many"] 2 (sh_law_cost (callAt conF nbF rows k))) := by
  rw [← q_law_cost]; rfl
theorem o_law_cost (k : Nat) (ds : List D) (h : AH) : callOf (C (k + 1)) "_law_cost" ds h = runBody ["_law_script_here", "_law_calm", "_law_total", "_law_instruction", "_law_many"] 2 (sh_law_cost (C k)) ds h := by
  delta C; exact callOf_some (c_law_cost k) ds h
def sh_law_fitted_b1 (F : Str → Option GF) : GS := (gsSeq (gsAsg (gTup gaNil) (gtSub (gVar 2) (gVar 3))) (gsSeq (gsAsg (gBin dSub (gVar 3) (gCon (.int 1))) (gtName 3)) gsNil))
def sh_law_fitted_e2 (F : Str → Option GF) : G := (gFn F "_law_cost" (gaCons (gVar 5) (gaCons (gVar 4) gaNil)))
def sh_law_fitted_t3 (F : Str → Option GF) : GB := (gAndB (gTrue (gBin dGe (gVar 3) (gCon (.int 0)))) (gTrue (gBin dGt (gCallL lSum (gLc (giVal (gVar 2)) [5] (gtName 5) gYes (sh_law_fitted_e2 F))) (gVar 1))))
def sh_law_fitted_e4 (F : Str → Option GF) : G := (gFn F "_law_has_rouse" (gaCons (gVar 5) gaNil))
def sh_law_fitted (F : Str → Option GF) : GS := (gsSeq (gsPar 2 3 (gaCons (gCall bList (gaCons (gVar 0) gaNil)) (gaCons (gBin dSub (gCall bLen (gaCons (gVar 0) gaNil)) (gCon (.int 1))) gaNil))) (gsSeq (gsAsg (gNotV (gCallL lAny (gLc (giVal (gVar 2)) [5] (gtName 5) gYes (sh_law_fitted_e4 F)))) (gtName 4)) (gsSeq (whLoop (sh_law_fitted_t3 F) (sh_law_fitted_b1 F) 100000) (gsSeq (gsRet (gCall bTuple (gaCons (gVar 2) gaNil))) gsNil))))
theorem q_law_fitted (F : Str → Option GF) : evSs (VV F) FUEL r_law_fitted.S (L2.defBody r_law_fitted.st) = sh_law_fitted F := by kernel_rfl
theorem c_law_fitted (k : Nat) : callAt conF nbF rows (k + 1) "_law_fitted" = some (runBody ["_law_scripts", "_law_room", "_law_found", "_law_k", "_law_calm", "_law_one"] 2 (sh_law_fitted (callAt conF nbF rows k))) := by
  rw [← q_law_fitted]; rfl
theorem o_law_fitted (k : Nat) (ds : List D) (h : AH) : callOf (C (k + 1)) "_law_fitted" ds h = runBody ["_law_scripts", "_law_room", "_law_found", "_law_k", "_law_calm", "_law_one"] 2 (sh_law_fitted (C k)) ds h := by
  delta C; exact callOf_some (c_law_fitted k) ds h
def sh_law_store_e1 (F : Str → Option GF) : G := (gFn F "_law_draw" (gaCons (gVar 0) (gaCons (gCon (.int 100)) gaNil)))
def sh_law_store (F : Str → Option GF) : GS := (gsSeq (gsAsg (gBin dAdd (gCon (.int 1)) (gFn F "_law_draw" (gaCons (gVar 0) (gaCons (gCon (.int 4)) gaNil)))) (gtName 1)) (gsSeq (gsRet (gTup (gaCons (gVar 1) (gaCons (gCallL lTup (gLc (giRange (gaCons (gFn F "_law_draw" (gaCons (gVar 0) (gaCons (gBin dAdd (gVar 1) (gCon (.int 1))) gaNil))) gaNil)) [2] (gtName 2) gYes (sh_law_store_e1 F))) gaNil)))) gsNil))
theorem q_law_store (F : Str → Option GF) : evSs (VV F) FUEL r_law_store.S (L2.defBody r_law_store.st) = sh_law_store F := by kernel_rfl
theorem c_law_store (k : Nat) : callAt conF nbF rows (k + 1) "_law_store" = some (runBody ["_law_pen_here", "_law_capacity", "_law_lap"] 1 (sh_law_store (callAt conF nbF rows k))) := by
  rw [← q_law_store]; rfl
theorem o_law_store (k : Nat) (ds : List D) (h : AH) : callOf (C (k + 1)) "_law_store" ds h = runBody ["_law_pen_here", "_law_capacity", "_law_lap"] 1 (sh_law_store (C k)) ds h := by
  delta C; exact callOf_some (c_law_store k) ds h
def sh_law_model_e1 (F : Str → Option GF) : G := (gFn F "_law_script" (gaCons (gVar 0) (gaCons (gVar 8) gaNil)))
def sh_law_model_e2 (F : Str → Option GF) : G := (gFn F "_law_pick" (gaCons (gVar 0) (gaCons (gAlloc (gLst (gaCons (gCon (.str "open")) (gaCons (gCon (.str "shut")) gaNil)))) gaNil)))
def sh_law_model_e3 (F : Str → Option GF) : G := (gFn F "_law_store" (gaCons (gVar 0) gaNil))
def sh_law_model_e4 (F : Str → Option GF) : G := (gTup (gaCons (gFn F "_law_pick" (gaCons (gVar 0) (gaCons (gVar 4) gaNil))) (gaCons (gBin dAdd (gCon (.int 1)) (gFn F "_law_draw" (gaCons (gVar 0) (gaCons (gCon (.int 3)) gaNil)))) gaNil)))
def sh_law_model (F : Str → Option GF) : GS := (gsSeq (gsAsg (gBin dAdd (gCon (.int 1)) (gFn F "_law_draw" (gaCons (gVar 0) (gaCons (gVar 1) gaNil)))) (gtName 3)) (gsSeq (gsAsg (gAlloc (gLst (gaCons (gCon (.str "fifo")) (gaCons (gCon (.str "rank")) (gaCons (gCon (.str "preempt")) gaNil))))) (gtName 4)) (gsSeq (gsAsg (gAlloc (gLc (giRange (gaCons (gFn F "_law_draw" (gaCons (gVar 0) (gaCons (gCon (.int 5)) gaNil))) gaNil)) [10] (gtName 10) gYes (sh_law_model_e4 F))) (gtName 5)) (gsSeq (gsAsg (gAlloc (gLc (giRange (gaCons (gFn F "_law_draw" (gaCons (gVar 0) (gaCons (gCon (.int 4)) gaNil))) gaNil)) [10] (gtName 10) gYes (sh_law_model_e3 F))) (gtName 6)) (gsSeq (gsAsg (gAlloc (gLc (giRange (gaCons (gFn F "_law_draw" (gaCons (gVar 0) (gaCons (gCon (.int 4)) gaNil))) gaNil)) [10] (gtName 10) gYes (sh_law_model_e2 F))) (gtName 7)) (gsSeq (gsAsg (gTup (gaCons (gCall bLen (gaCons (gVar 5) gaNil)) (gaCons (gCall bLen (gaCons (gVar 6) gaNil)) (gaCons (gCall bLen (gaCons (gVar 7) gaNil)) (gaCons (gVar 3) gaNil))))) (gtName 8)) (gsSeq (gsAsg (gFn F "_law_fitted" (gaCons (gAlloc (gLc (giRange (gaCons (gVar 3) gaNil)) [10] (gtName 10) gYes (sh_law_model_e1 F))) (gaCons (gVar 2) gaNil))) (gtName 9)) (gsSeq (gsRet (gTup (gaCons (gCall bTuple (gaCons (gVar 5) gaNil)) (gaCons (gCall bTuple (gaCons (gVar 6) gaNil)) (gaCons (gCall bTuple (gaCons (gVar 7) gaNil)) (gaCons (gVar 9) gaNil)))))) gsNil))))))))
theorem q_law_model (F : Str → Option GF) : evSs (VV F) FUEL r_law_model.S (L2.defBody r_law_model.st) = sh_law_model F := by kernel_rfl
theorem c_law_model (k : Nat) : callAt conF nbF rows (k + 1) "_law_model" = some (runBody ["_law_pen_here", "_law_most", "_law_room", "_law_processes", "_law_kinds", "_law_resources", "_law_stores", "_law_gates", "_law_counts", "_law_scripts", "_law_lap"] 3 (sh_law_model (callAt conF nbF rows k))) := by
  rw [← q_law_model]; rfl
theorem o_law_model (k : Nat) (ds : List D) (h : AH) : callOf (C (k + 1)) "_law_model" ds h = runBody ["_law_pen_here", "_law_most", "_law_room", "_law_processes", "_law_kinds", "_law_resources", "_law_stores", "_law_gates", "_law_counts", "_law_scripts", "_law_lap"] 3 (sh_law_model (C k)) ds h := by
  delta C; exact callOf_some (c_law_model k) ds h
def sh_law_lines_e1 (F : Str → Option GF) : G := (gCall bStr (gaCons (gVar 3) gaNil))
def sh_law_lines_e2 (F : Str → Option GF) : G := (gCall bStr (gaCons (gVar 3) gaNil))
def sh_law_lines_b3 (F : Str → Option GF) : GS := (gsSeq (gsIf (gTrue (gBin dIn (gBin dIx (gVar 2) (gCon (.int 0))) (gTup (gaCons (gCon (.str "repeat")) (gaCons (gCon (.str "forever")) gaNil))))) (gsSeq (gsExpr (gMeth "list" mAppend (gVar 1) (gaCons (gMethL "str" lJoin (gCon (.str " ")) (gLc (giVal (gSl (gVar 2) goNone (goSome (gNeg (gCon (.int 1)))))) [3] (gtName 3) gYes (sh_law_lines_e1 F))) gaNil))) (gsSeq (gsAsg (gBin dAdd (gBin dAdd (gVar 1) (gFn F "_law_lines" (gaCons (gBin dIx (gVar 2) (gNeg (gCon (.int 1)))) gaNil))) (gAlloc (gLst (gaCons (gCon (.str "end")) gaNil)))) (gtName 1)) gsNil)) (gsSeq (gsExpr (gMeth "list" mAppend (gVar 1) (gaCons (gMethL "str" lJoin (gCon (.str " ")) (gLc (giVal (gVar 2)) [3] (gtName 3) gYes (sh_law_lines_e2 F))) gaNil))) gsNil)) gsNil)
def sh_law_lines (F : Str → Option GF) : GS := (gsSeq (gsAsg (gAlloc (gLst gaNil)) (gtName 1)) (gsSeq (gsFor (giVal (gVar 0)) (gtName 2) (sh_law_lines_b3 F)) (gsSeq (gsRet (gVar 1)) gsNil)))
theorem q_law_lines (F : Str → Option GF) : evSs (VV F) FUEL r_law_lines.S (L2.defBody r_law_lines.st) = sh_law_lines F := by kernel_rfl
theorem c_law_lines (k : Nat) : callAt conF nbF rows (k + 1) "_law_lines" = some (runBody ["_law_script_here", "_law_found", "_law_instruction", "_law_part"] 1 (sh_law_lines (callAt conF nbF rows k))) := by
  rw [← q_law_lines]; rfl
theorem o_law_lines (k : Nat) (ds : List D) (h : AH) : callOf (C (k + 1)) "_law_lines" ds h = runBody ["_law_script_here", "_law_found", "_law_instruction", "_law_part"] 1 (sh_law_lines (C k)) ds h := by
  delta C; exact callOf_some (c_law_lines k) ds h
def sh_law_text_b1 (F : Str → Option GF) : GS := (gsSeq (gsAsg (gBin dAdd (gBin dAdd (gVar 1) (gAlloc (gLst (gaCons (gCon (.str "process")) gaNil)))) (gFn F "_law_lines" (gaCons (gVar 4) gaNil))) (gtName 1)) gsNil)
def sh_law_text_e2 (F : Str → Option GF) : G := (gBin dAdd (gCon (.str "gate ")) (gVar 8))
def sh_law_text_e3 (F : Str → Option GF) : G := (gCall bStr (gaCons (gVar 7) gaNil))
def sh_law_text_b4 (F : Str → Option GF) : GS := (gsSeq (gsExpr (gMeth "list" mAppend (gVar 1) (gaCons (gMeth "str" mJoin (gCon (.str " ")) (gaCons (gBin dAdd (gAlloc (gLst (gaCons (gCon (.str "store")) gaNil))) (gAlloc (gLc (giVal (gBin dAdd (gTup (gaCons (gVar 2) gaNil)) (gVar 3))) [7] (gtName 7) gYes (sh_law_text_e3 F)))) gaNil)) gaNil))) gsNil)
def sh_law_text_e5 (F : Str → Option GF) : G := (gBin dAdd (gBin dAdd (gBin dAdd (gCon (.str "resource ")) (gVar 5)) (gCon (.str " "))) (gCall bStr (gaCons (gVar 6) gaNil)))
def sh_law_text (F : Str → Option GF) : GS := (gsSeq (gsAsg (gAlloc (gLc (giVal (gBin dIx (gVar 0) (gCon (.int 0)))) [5, 6] (gtTup 2 (gtsCons (gtName 5) (gtsCons (gtName 6) gtsNil))) gYes (sh_law_text_e5 F))) (gtName 1)) (gsSeq (gsFor (giVal (gBin dIx (gVar 0) (gCon (.int 1)))) (gtTup 2 (gtsCons (gtName 2) (gtsCons (gtName 3) gtsNil))) (sh_law_text_b4 F)) (gsSeq (gsAsg (gBin dAdd (gVar 1) (gAlloc (gLc (giVal (gBin dIx (gVar 0) (gCon (.int 2)))) [8] (gtName 8) gYes (sh_law_text_e2 F)))) (gtName 1)) (gsSeq (gsFor (giVal (gBin dIx (gVar 0) (gCon (.int 3)))) (gtName 4) (sh_law_text_b1 F)) (gsSeq (gsRet (gVar 1)) gsNil)))))
theorem q_law_text (F : Str → Option GF) : evSs (VV F) FUEL r_law_text.S (L2.defBody r_law_text.st) = sh_law_text F := by kernel_rfl
theorem c_law_text (k : Nat) : callAt conF nbF rows (k + 1) "_law_text" = some (runBody ["_law_model_here", "_law_found", "_law_capacity", "_law_held", "_law_script_here", "_law_discipline", "_law_units", "_law_one", "_law_word"] 1 (sh_law_text (callAt conF nbF rows k))) := by
  rw [← q_law_text]; rfl
theorem o_law_text (k : Nat) (ds : List D) (h : AH) : callOf (C (k + 1)) "_law_text" ds h = runBody ["_law_model_here", "_law_found", "_law_capacity", "_law_held", "_law_script_here", "_law_discipline", "_law_units", "_law_one", "_law_word"] 1 (sh_law_text (C k)) ds h := by
  delta C; exact callOf_some (c_law_text k) ds h
def sh_law_wide (F : Str → Option GF) : GS := (gsSeq (gsIf (gTrue (gBin dEq (gFn F "_law_draw" (gaCons (gVar 0) (gaCons (gCon (.int 2)) gaNil))) (gCon (.int 0)))) (gsSeq (gsRet (gVar 1)) gsNil) gsNil) (gsSeq (gsAsg (gTup (gaCons (gTup (gaCons (gCon (.str "wait")) (gaCons (gFn F "_law_draw" (gaCons (gVar 0) (gaCons (gCon (.int 101)) gaNil))) gaNil))) (gaCons (gTup (gaCons (gCon (.str "mark")) (gaCons (gFn F "_law_draw" (gaCons (gVar 0) (gaCons (gCon (.int 1000)) gaNil))) gaNil))) gaNil))) (gtName 2)) (gsSeq (gsAsg (gTup (gaCons (gCon (.str "repeat")) (gaCons (gFn F "_law_draw" (gaCons (gVar 0) (gaCons (gCon (.int 6)) gaNil))) (gaCons (gVar 2) gaNil)))) (gtName 3)) (gsSeq (gsAsg (gFn F "_law_pick" (gaCons (gVar 0) (gaCons (gAlloc (gLst (gaCons (gCon (.int 0)) (gaCons (gCon (.int 9)) (gaCons (gCon (.int 10)) (gaCons (gCon (.int 99)) (gaCons (gCon (.int 100)) (gaCons (gCon (.int 999)) gaNil)))))))) gaNil))) (gtName 4)) (gsSeq (gsAsg (gTup (gaCons (gCon (.str "repeat")) (gaCons (gFn F "_law_draw" (gaCons (gVar 0) (gaCons (gCon (.int 6)) gaNil))) (gaCons (gTup (gaCons (gTup (gaCons (gCon (.str "mark")) (gaCons (gVar 4) gaNil))) (gaCons (gVar 3) (gaCons (gTup (gaCons (gCon (.str "wait")) (gaCons (gCon (.int 0)) gaNil))) gaNil)))) gaNil)))) (gtName 5)) (gsSeq (gsAsg (gTup (gaCons (gTup (gaCons (gCon (.str "repeat")) (gaCons (gFn F "_law_draw" (gaCons (gVar 0) (gaCons (gCon (.int 6)) gaNil))) (gaCons (gTup (gaCons (gVar 5) (gaCons (gVar 3) gaNil))) gaNil)))) (gaCons (gTup (gaCons (gCon (.str "rouse")) (gaCons (gCon (.int 0)) gaNil))) gaNil))) (gtName 6)) (gsSeq (gsAsg (gAlloc (gLst (gaCons (gVar 6) (gaCons (gTup (gaCons (gTup (gaCons (gCon (.str "forever")) (gaCons (gTup (gaCons (gVar 5) (gaCons (gTup (gaCons (gCon (.str "wait")) (gaCons (gCon (.int 100)) gaNil))) gaNil))) gaNil))) gaNil)) (gaCons (gTup gaNil) gaNil))))) (gtName 7)) (gsSeq (gsRet (gTup (gaCons (gBin dIx (gVar 1) (gCon (.int 0))) (gaCons (gBin dIx (gVar 1) (gCon (.int 1))) (gaCons (gBin dIx (gVar 1) (gCon (.int 2))) (gaCons (gSl (gBin dAdd (gBin dIx (gVar 1) (gCon (.int 3))) (gCall bTuple (gaCons (gSl (gVar 7) (goSome (gFn F "_law_draw" (gaCons (gVar 0) (gaCons (gCon (.int 3)) gaNil)))) goNone) gaNil))) goNone (goSome (gCon (.int 6)))) gaNil)))))) gsNil))))))))
theorem q_law_wide (F : Str → Option GF) : evSs (VV F) FUEL r_law_wide.S (L2.defBody r_law_wide.st) = sh_law_wide F := by kernel_rfl
theorem c_law_wide (k : Nat) : callAt conF nbF rows (k + 1) "_law_wide" = some (runBody ["_law_pen_here", "_law_model_here", "_law_body_here", "_law_inner", "_law_odd", "_law_outer", "_law_ends", "_law_scripts"] 2 (sh_law_wide (callAt conF nbF rows k))) := by
  rw [← q_law_wide]; rfl
theorem o_law_wide (k : Nat) (ds : List D) (h : AH) : callOf (C (k + 1)) "_law_wide" ds h = runBody ["_law_pen_here", "_law_model_here", "_law_body_here", "_law_inner", "_law_odd", "_law_outer", "_law_ends", "_law_scripts"] 2 (sh_law_wide (C k)) ds h := by
  delta C; exact callOf_some (c_law_wide k) ds h
def sh_law_b1 (F : Str → Option GF) : GS := (gsSeq (gsAsg (gFn F "_law_wide" (gaCons (gVar 2) (gaCons (gFn F "_law_model" (gaCons (gVar 2) (gaCons (gCon (.int 4)) (gaCons (gCon (.int 500)) gaNil)))) gaNil))) (gtName 4)) (gsSeq (gsIf (gNotB (gTrue (gFn F "_law_same" (gaCons (gFn F "format_model" (gaCons (gVar 4) gaNil)) (gaCons (gMeth "str" mJoin (gCon (.str "\n")) (gaCons (gFn F "_law_text" (gaCons (gVar 4) gaNil)) gaNil)) gaNil))))) (gsSeq (gsRet (gCon (.bl false))) gsNil) gsNil) gsNil))
def sh_law_b2 (F : Str → Option GF) : GS := (gsSeq (gsAsg (gFn F "_law_pen" (gaCons (gFn F "_law_cell_at" (gaCons (gVar 0) (gaCons (gVar 1) gaNil))) gaNil)) (gtName 2)) (gsSeq (gsFor (giRange (gaCons (gCon (.int 2)) gaNil)) (gtName 3) (sh_law_b1 F)) gsNil))
def sh_law (F : Str → Option GF) : GS := (gsSeq (gsFor (giRange (gaCons (gCall bMax (gaCons (gCon (.int 1)) (gaCons (gCall bMin (gaCons (gCall bLen (gaCons (gVar 0) gaNil)) (gaCons (gCon (.int 4)) gaNil))) gaNil))) gaNil)) (gtName 1) (sh_law_b2 F)) (gsSeq (gsRet (gCon (.bl true))) gsNil))
theorem q_law (F : Str → Option GF) : evSs (VV F) FUEL r_law.S (L2.defBody r_law.st) = sh_law F := by kernel_rfl
theorem c_law (k : Nat) : callAt conF nbF rows (k + 1) "law" = some (runBody ["_law_script_here", "_law_k", "_law_pen_here", "_law_lap", "_law_model_here"] 1 (sh_law (callAt conF nbF rows k))) := by
  rw [← q_law]; rfl
theorem o_law (k : Nat) (ds : List D) (h : AH) : callOf (C (k + 1)) "law" ds h = runBody ["_law_script_here", "_law_k", "_law_pen_here", "_law_lap", "_law_model_here"] 1 (sh_law (C k)) ds h := by
  delta C; exact callOf_some (c_law k) ds h
end Law

namespace Law
open PySem CM
variable (k : Nat) (h : AH)
theorem f_between (i lo hi : Int) : callOf (C (k + 1)) "is_between" [.int i, .int lo, .int hi] h = .ok (.bl (decide (lo ≤ i ∧ i ≤ hi))) h := by
  rw [o_is_between]
  by_cases h1 : lo ≤ i <;> simp [sh_is_between, h1]
theorem f_between_n (i lo : Int) : callOf (C (k + 1)) "is_between" [.int i, .int lo, .non] h = .ok (.bl (decide (lo ≤ i))) h := by
  rw [o_is_between]
  by_cases h1 : lo ≤ i <;> simp [sh_is_between, h1]
theorem f_tuple (ds : List D) (lo hi : Int) : callOf (C (k + 1)) "is_tuple" [.tup ds, .int lo, .int hi] h = .ok (.bl (decide (lo ≤ ds.length ∧ (ds.length : Int) ≤ hi))) h := by
  rw [o_is_tuple]
  by_cases h1 : lo ≤ ds.length <;> simp [sh_is_tuple, h1]
theorem f_tuple_n (ds : List D) (lo : Int) : callOf (C (k + 1)) "is_tuple" [.tup ds, .int lo, .non] h = .ok (.bl (decide (lo ≤ ds.length))) h := by
  rw [o_is_tuple]
  by_cases h1 : lo ≤ ds.length <;> simp [sh_is_tuple, h1]
theorem f_pair (ds : List D) : callOf (C (k + 2)) "is_pair" [.tup ds] h = .ok (.bl (decide (ds.length = 2))) h := by
  rw [o_is_pair]
  have e : decide ((2 : Int) ≤ ds.length ∧ (ds.length : Int) ≤ 2) = decide (ds.length = 2) := by rw [decide_eq_decide]; omega
  simp only [sh_is_pair, f_tuple, e, ev_body1, ev_seq, ev_ret, ev_fn, ev_aCons, ev_aNil, ev_var, ev_con, bind_ok1, conK_ap, conK2_ap, List.getElem?_cons_zero, varK_ok, retK_ap, seqK_rt, endK_rt, bind_bind, kc_ap]
theorem f_resource (w : Str) (u : Int) (hw : w = "fifo" ∨ w = "rank" ∨ w = "preempt") (h1 : 1 ≤ u) (h2 : u ≤ 3) : callOf (C (k + 3)) "is_resource" [.tup [.str w, .int u]] h = .ok (.bl true) h := by
  rw [o_is_resource]
  rcases hw with rfl | rfl | rfl <;> simp [sh_is_resource, f_pair, f_between, h1, h2]
theorem f_gate (w : Str) (hw : w = "open" ∨ w = "shut") : callOf (C (k + 1)) "is_gate" [.str w] h = .ok (.bl true) h := by
  rw [o_is_gate]
  rcases hw with rfl | rfl <;> simp [sh_is_gate]
theorem f_store (c : Int) (xs : List Int) (h1 : 1 ≤ c) (h2 : c ≤ 4) (hl : (xs.length : Int) ≤ c) (hx : ∀ x ∈ xs, 0 ≤ x ∧ x ≤ 99) : callOf (C (k + 3)) "is_store" [.tup [.int c, .tup (xs.map D.int)]] h = .ok (.bl true) h := by
  rw [o_is_store]
  have hz : (0 : Int) ≤ xs.length := by omega
  simp [sh_is_store, f_pair, f_between, f_tuple, h1, h2, hl, sh_is_store_e1]
  rw [lc_all (xs := xs)]
  · simp
  · show xs.length ≤ 1000000; omega
  · intro x hx'
    simp [f_between, hx x hx']
/-! the scripts, as data of their own -/
inductive I where
  | at (w : Str) (ns : List Int) | rep (n : Int) (b : List I) | fev (b : List I)
mutual
def I.toD : I → D
  | .at w ns => .tup (.str w :: ns.map D.int)
  | .rep n b => .tup [.str "repeat", .int n, .tup (toDs b)]
  | .fev b => .tup [.str "forever", .tup (toDs b)]
def toDs : List I → List D
  | [] => []
  | i :: s => i.toD :: toDs s
end
theorem toDs_map : ∀ s : List I, toDs s = s.map I.toD
  | [] => rfl
  | i :: s => by rw [toDs, toDs_map s]; rfl
structure Ct where
  r : Nat
  s : Nat
  g : Nat
  p : Nat
def Ct.ds (c : Ct) : List D := [.int c.r, .int c.s, .int c.g, .int c.p]
/-- an atom that the model allows -/
inductive AOk (c : Ct) : Str → List Int → Prop where
  | wait {d : Int} : 0 ≤ d → d ≤ 999 → AOk c "wait" [d]
  | take {r q : Int} : 0 ≤ r → r < c.r → 0 ≤ q → q ≤ 9 → AOk c "take" [r, q]
  | give {r : Int} : 0 ≤ r → r < c.r → AOk c "give" [r]
  | put {r q : Int} : 0 ≤ r → r < c.s → 0 ≤ q → q ≤ 99 → AOk c "put" [r, q]
  | get {r : Int} : 0 ≤ r → r < c.s → AOk c "get" [r]
  | pass {r : Int} : 0 ≤ r → r < c.g → AOk c "pass" [r]
  | opn {r : Int} : 0 ≤ r → r < c.g → AOk c "open" [r]
  | shut {r : Int} : 0 ≤ r → r < c.g → AOk c "shut" [r]
  | rouse {r : Int} : 0 ≤ r → r < c.p → AOk c "rouse" [r]
  | mark {r : Int} : 0 ≤ r → r ≤ 999 → AOk c "mark" [r]
theorem k_r : dIn (.str "r") (.str "rsgp") h = .ok (.bl true) h := by kernel_rfl
theorem k_s : dIn (.str "s") (.str "rsgp") h = .ok (.bl true) h := by kernel_rfl
theorem k_g : dIn (.str "g") (.str "rsgp") h = .ok (.bl true) h := by kernel_rfl
theorem k_p : dIn (.str "p") (.str "rsgp") h = .ok (.bl true) h := by kernel_rfl
theorem k_d : dIn (.str "d") (.str "rsgp") h = .ok (.bl false) h := by kernel_rfl
theorem k_k : dIn (.str "k") (.str "rsgp") h = .ok (.bl false) h := by kernel_rfl
theorem k_i : dIn (.str "i") (.str "rsgp") h = .ok (.bl false) h := by kernel_rfl
theorem k_n : dIn (.str "n") (.str "rsgp") h = .ok (.bl false) h := by kernel_rfl
theorem x_r : mIndex (.str "rsgp") [.str "r"] h = .ok (.int 0) h := by kernel_rfl
theorem x_s : mIndex (.str "rsgp") [.str "s"] h = .ok (.int 1) h := by kernel_rfl
theorem x_g : mIndex (.str "rsgp") [.str "g"] h = .ok (.int 2) h := by kernel_rfl
theorem x_p : mIndex (.str "rsgp") [.str "p"] h = .ok (.int 3) h := by kernel_rfl
variable {h} {c : Ct} {cn : Nat} {x : Int}
theorem fit_r (hc : h[cn]? = some (.lst c.ds)) (h1 : 0 ≤ x) (h2 : x < c.r) : callOf (C (k + 2)) "fits" [.str "r", .int x, .obj cn] h = .ok (.bl true) h := by
  rw [o_fits]
  have h3 : x ≤ c.r - 1 := by omega
  simp [sh_fits, k_r, x_r, op_ix_obj hc, Ct.ds, f_between, h1, h3]
theorem fit_s (hc : h[cn]? = some (.lst c.ds)) (h1 : 0 ≤ x) (h2 : x < c.s) : callOf (C (k + 2)) "fits" [.str "s", .int x, .obj cn] h = .ok (.bl true) h := by
  rw [o_fits]
  have h3 : x ≤ c.s - 1 := by omega
  simp [sh_fits, k_s, x_s, op_ix_obj hc, Ct.ds, f_between, h1, h3]
theorem fit_g (hc : h[cn]? = some (.lst c.ds)) (h1 : 0 ≤ x) (h2 : x < c.g) : callOf (C (k + 2)) "fits" [.str "g", .int x, .obj cn] h = .ok (.bl true) h := by
  rw [o_fits]
  have h3 : x ≤ c.g - 1 := by omega
  simp [sh_fits, k_g, x_g, op_ix_obj hc, Ct.ds, f_between, h1, h3]
theorem fit_p (hc : h[cn]? = some (.lst c.ds)) (h1 : 0 ≤ x) (h2 : x < c.p) : callOf (C (k + 2)) "fits" [.str "p", .int x, .obj cn] h = .ok (.bl true) h := by
  rw [o_fits]
  have h3 : x ≤ c.p - 1 := by omega
  simp [sh_fits, k_p, x_p, op_ix_obj hc, Ct.ds, f_between, h1, h3]
theorem fit_d (h1 : 0 ≤ x) : callOf (C (k + 2)) "fits" [.str "d", .int x, .obj cn] h = .ok (.bl true) h := by
  rw [o_fits]
  simp [sh_fits, k_d, f_between_n, h1]
theorem fit_k (h1 : 0 ≤ x) (h2 : x ≤ 9) : callOf (C (k + 2)) "fits" [.str "k", .int x, .obj cn] h = .ok (.bl true) h := by
  rw [o_fits]
  simp [sh_fits, k_k, f_between, h1, h2, List.lookup]
theorem fit_i (h1 : 0 ≤ x) (h2 : x ≤ 99) : callOf (C (k + 2)) "fits" [.str "i", .int x, .obj cn] h = .ok (.bl true) h := by
  rw [o_fits]
  simp [sh_fits, k_i, f_between, h1, h2, List.lookup]
theorem fit_n (h1 : 0 ≤ x) (h2 : x ≤ 999) : callOf (C (k + 2)) "fits" [.str "n", .int x, .obj cn] h = .ok (.bl true) h := by
  rw [o_fits]
  simp [sh_fits, k_n, f_between, h1, h2, List.lookup]
end Law

namespace Law
open PySem CM
def IOk (c : Ct) : Nat → I → Prop
  | _, .at w ns => AOk c w ns
  | 0, .rep _ _ => False
  | d + 1, .rep n b => 0 ≤ n ∧ n ≤ 5 ∧ b ≠ [] ∧ b.length ≤ 100 ∧ ∀ i ∈ b, IOk c d i
  | _, .fev _ => False
theorem z_d {ds : List D} {h : AH} : izK [.str "d", .tup ds] h = .ok (.zip (.vals [.str "d"]) (.vals ds)) h := by kernel_rfl
theorem z_rk {ds : List D} {h : AH} : izK [.str "rk", .tup ds] h = .ok (.zip (.vals [.str "r", .str "k"]) (.vals ds)) h := by kernel_rfl
theorem z_r {ds : List D} {h : AH} : izK [.str "r", .tup ds] h = .ok (.zip (.vals [.str "r"]) (.vals ds)) h := by kernel_rfl
theorem z_si {ds : List D} {h : AH} : izK [.str "si", .tup ds] h = .ok (.zip (.vals [.str "s", .str "i"]) (.vals ds)) h := by kernel_rfl
theorem z_s {ds : List D} {h : AH} : izK [.str "s", .tup ds] h = .ok (.zip (.vals [.str "s"]) (.vals ds)) h := by kernel_rfl
theorem z_g {ds : List D} {h : AH} : izK [.str "g", .tup ds] h = .ok (.zip (.vals [.str "g"]) (.vals ds)) h := by kernel_rfl
theorem z_p {ds : List D} {h : AH} : izK [.str "p", .tup ds] h = .ok (.zip (.vals [.str "p"]) (.vals ds)) h := by kernel_rfl
theorem z_n {ds : List D} {h : AH} : izK [.str "n", .tup ds] h = .ok (.zip (.vals [.str "n"]) (.vals ds)) h := by kernel_rfl
theorem l_d {h : AH} : bLen [.str "d"] h = .ok (.int 1) h := by kernel_rfl
theorem l_rk {h : AH} : bLen [.str "rk"] h = .ok (.int 2) h := by kernel_rfl
theorem l_r {h : AH} : bLen [.str "r"] h = .ok (.int 1) h := by kernel_rfl
theorem l_si {h : AH} : bLen [.str "si"] h = .ok (.int 2) h := by kernel_rfl
theorem l_s {h : AH} : bLen [.str "s"] h = .ok (.int 1) h := by kernel_rfl
theorem l_g {h : AH} : bLen [.str "g"] h = .ok (.int 1) h := by kernel_rfl
theorem l_p {h : AH} : bLen [.str "p"] h = .ok (.int 1) h := by kernel_rfl
theorem l_n {h : AH} : bLen [.str "n"] h = .ok (.int 1) h := by kernel_rfl
variable {h : AH} {c : Ct} {cn : Nat}
theorem f_atom (k : Nat) (hc : h[cn]? = some (.lst c.ds)) {w : Str} {ns : List Int} (ok : AOk c w ns) (dp : Int) : callOf (C (k + 3)) "is_instruction" [.tup (.str w :: ns.map D.int), .obj cn, .int dp] h = .ok (.bl true) h := by
  rw [o_is_instruction]
  cases ok with
  | wait h1 h2 => simp [sh_is_instruction, sh_is_instruction_e1, f_tuple_n, List.lookup, l_d, z_d, cut_tail, lcK_z1, fit_d, h1, lAll, boolsOf]
  | take h1 h2 h3 h4 => simp [sh_is_instruction, sh_is_instruction_e1, f_tuple_n, List.lookup, l_rk, z_rk, cut_tail, lcK_z2, fit_r k hc h1 h2, fit_k k h3 h4, lAll, boolsOf]
  | give h1 h2 => simp [sh_is_instruction, sh_is_instruction_e1, f_tuple_n, List.lookup, l_r, z_r, cut_tail, lcK_z1, fit_r k hc h1 h2, lAll, boolsOf]
  | put h1 h2 h3 h4 => simp [sh_is_instruction, sh_is_instruction_e1, f_tuple_n, List.lookup, l_si, z_si, cut_tail, lcK_z2, fit_s k hc h1 h2, fit_i k h3 h4, lAll, boolsOf]
  | get h1 h2 => simp [sh_is_instruction, sh_is_instruction_e1, f_tuple_n, List.lookup, l_s, z_s, cut_tail, lcK_z1, fit_s k hc h1 h2, lAll, boolsOf]
  | pass h1 h2 => simp [sh_is_instruction, sh_is_instruction_e1, f_tuple_n, List.lookup, l_g, z_g, cut_tail, lcK_z1, fit_g k hc h1 h2, lAll, boolsOf]
  | opn h1 h2 => simp [sh_is_instruction, sh_is_instruction_e1, f_tuple_n, List.lookup, l_g, z_g, cut_tail, lcK_z1, fit_g k hc h1 h2, lAll, boolsOf]
  | shut h1 h2 => simp [sh_is_instruction, sh_is_instruction_e1, f_tuple_n, List.lookup, l_g, z_g, cut_tail, lcK_z1, fit_g k hc h1 h2, lAll, boolsOf]
  | rouse h1 h2 => simp [sh_is_instruction, sh_is_instruction_e1, f_tuple_n, List.lookup, l_p, z_p, cut_tail, lcK_z1, fit_p k hc h1 h2, lAll, boolsOf]
  | mark h1 h2 => simp [sh_is_instruction, sh_is_instruction_e1, f_tuple_n, List.lookup, l_n, z_n, cut_tail, lcK_z1, fit_n k h1 h2, lAll, boolsOf]
theorem lim100 {n : Nat} (e : n ≤ 100) : n ≤ LIM := Nat.le_trans e (by decide)
theorem f_body' (k : Nat) (d : Nat) {b : List I} (hb : b ≠ []) (hl : b.length ≤ 100) (hi : ∀ i ∈ b, callOf (C (k + 1)) "is_instruction" [i.toD, .obj cn, .int d] h = .ok (.bl true) h) :
    callOf (C (k + 2)) "is_body" [.tup (toDs b), .obj cn, .int (d + 1)] h = .ok (.bl true) h := by
  rw [o_is_body, toDs_map]
  have h0 : ¬ ((d : Int) + 1 = 0) := by omega
  have h1 : (1 : Int) ≤ b.length := by have := List.length_pos_iff.mpr hb; omega
  simp [sh_is_body, sh_is_body_e1, f_tuple_n, h0, h1]
  rw [lc_all (xs := b) (lim100 hl)]
  · simp
  · intro x hx
    simp [hi x hx]
theorem f_instr (hc : h[cn]? = some (.lst c.ds)) : ∀ (d : Nat) (i : I), IOk c d i → ∀ k, callOf (C (k + 2 * d + 3)) "is_instruction" [i.toD, .obj cn, .int d] h = .ok (.bl true) h
  | d, .at w ns, ok, k => f_atom (k + 2 * d) hc (by cases d <;> exact ok) d
  | 0, .rep _ _, ok, _ => ok.elim
  | 0, .fev _, ok, _ => ok.elim
  | _ + 1, .fev _, ok, _ => ok.elim
  | d + 1, .rep n b, ok, k => by
    obtain ⟨h1, h2, h3, h4, h5⟩ := ok
    have e := f_body' (k + 2 * d + 2) d h3 h4 fun i hi => f_instr hc d i (h5 i hi) k
    have hn : decide (0 ≤ n ∧ n ≤ 5) = true := decide_eq_true ⟨h1, h2⟩
    rw [show k + 2 * (d + 1) + 3 = (k + 2 * d + 2 + 2) + 1 by omega, o_is_instruction]
    simp [sh_is_instruction, I.toD, f_tuple_n, f_between, hn, e]
end Law

namespace Law
open PySem CM
variable {h : AH} {c : Ct} {cn : Nat}
theorem f_body (hc : h[cn]? = some (.lst c.ds)) (k : Nat) {d : Nat} {b : List I} (hb : b ≠ []) (hl : b.length ≤ 100) (hi : ∀ i ∈ b, IOk c d i) : callOf (C (k + 2 * d + 4)) "is_body" [.tup (toDs b), .obj cn, .int (d + 1)] h = .ok (.bl true) h :=
  f_body' (k + 2 * d + 2) d hb hl fun i m => f_instr hc d i (hi i m) k
theorem f_forever (hc : h[cn]? = some (.lst c.ds)) (k : Nat) {b : List I} (hb : b ≠ []) (hl : b.length ≤ 100) (hi : ∀ i ∈ b, IOk c 2 i) : callOf (C (k + 9)) "is_forever" [(I.fev b).toD, .obj cn] h = .ok (.bl true) h := by
  have e := f_body hc k (d := 2) hb hl hi
  rw [show k + 2 * 2 + 4 = k + 8 from rfl, show (((2 : Nat) : Int) + 1) = 3 from rfl] at e
  rw [o_is_forever]
  simp [sh_is_forever, I.toD, f_pair, e]
theorem f_fev (k : Nat) {b : List I} (dp : Int) : callOf (C (k + 3)) "is_instruction" [(I.fev b).toD, .obj cn, .int dp] h = .ok (.bl false) h := by
  rw [o_is_instruction]
  simp [sh_is_instruction, I.toD, f_tuple_n, List.lookup]
def LastOk (c : Ct) (i : I) : Prop := IOk c 3 i ∨ ∃ b, i = .fev b ∧ b ≠ [] ∧ b.length ≤ 100 ∧ ∀ i ∈ b, IOk c 2 i
def SOk (c : Ct) (s : List I) : Prop := s = [] ∨ ∃ p l, s = p ++ [l] ∧ p.length ≤ 100 ∧ (∀ i ∈ p, IOk c 3 i) ∧ LastOk c l
theorem f_script (hc : h[cn]? = some (.lst c.ds)) (k : Nat) {s : List I} (ok : SOk c s) : callOf (C (k + 10)) "is_script" [.tup (toDs s), .obj cn] h = .ok (.bl true) h := by
  rw [o_is_script, toDs_map]
  rcases ok with rfl | ⟨p, l, rfl, hl, hp, ok⟩
  · simp [sh_is_script, cutD, lcK, lcLoop, IterD.len, IterD.fin, lAll, boolsOf]
  · simp [sh_is_script, cut_init, cut_last]
    rw [lc_all (xs := p) (lim100 hl)]
    · simp
      have e := lc_all (xs := [l]) (f := I.toD) (gt := gtName 2) (ge := sh_is_script_e1 (C (k + 9))) (ρ := [some (D.tup (List.map I.toD p ++ [l.toD])), some (.obj cn), none]) (h := h) (lim100 (by simp))
      simp at e
      simp only [cut_last]
      rw [e]
      · simp [lAll, boolsOf]
      · rcases ok with ok | ⟨b, rfl, h1, h2, h3⟩
        · have e2 := f_instr hc 3 l ok k
          rw [show k + 2 * 3 + 3 = k + 9 from rfl, show ((3 : Nat) : Int) = 3 from rfl] at e2
          simp [sh_is_script_e1, e2]
        · simp [sh_is_script_e1, f_fev, f_forever hc k h1 h2 h3]
    · intro x hx
      have e2 := f_instr hc 3 x (hp x hx) k
      rw [show k + 2 * 3 + 3 = k + 9 from rfl, show ((3 : Nat) : Int) = 3 from rfl] at e2
      simp [sh_is_script_e2, e2]
/-! any script of at most so many levels -/
def EOk (c : Ct) : Nat → I → Prop
  | _, .at w ns => AOk c w ns
  | 0, _ => False
  | d + 1, .rep n b => 0 ≤ n ∧ n ≤ 5 ∧ b.length ≤ 100 ∧ ∀ i ∈ b, EOk c d i
  | d + 1, .fev b => b.length ≤ 100 ∧ ∀ i ∈ b, EOk c d i
theorem IOk.e : ∀ {d : Nat} {i : I}, IOk c d i → EOk c d i
  | 0, .at w ns, ok => ok
  | _ + 1, .at w ns, ok => ok
  | 0, .rep _ _, ok => ok.elim
  | 0, .fev _, ok => ok.elim
  | _ + 1, .fev _, ok => ok.elim
  | d + 1, .rep n b, ⟨h1, h2, h3, h4, h5⟩ => ⟨h1, h2, h4, fun i hi => (h5 i hi).e⟩
theorem SOk.e {s : List I} (ok : SOk c s) : ∀ i ∈ s, EOk c 3 i := by
  rcases ok with rfl | ⟨p, l, rfl, hl, hp, ok⟩
  · intro i hi; cases hi
  · intro i hi
    rcases List.mem_append.mp hi with hi | hi
    · exact (hp i hi).e
    · cases List.mem_singleton.mp hi
      rcases ok with ok | ⟨b, rfl, h1, h2, h3⟩
      · exact ok.e
      · exact ⟨h2, fun i hi => (h3 i hi).e⟩
theorem EOk.at {d : Nat} {w : Str} {ns : List Int} (ok : EOk c d (.at w ns)) : AOk c w ns := by cases d <;> exact ok
/-! what is held -/
def heldI (r : Int) : Nat → I → Int → Option Int
  | _, .at w ns, m => if w = "take" ∧ ns[0]? = some r then some (m + 1) else if w = "give" ∧ ns[0]? = some r then (if m - 1 < 0 then none else some (m - 1)) else some m
  | 0, _, _ => none
  | d + 1, .rep _ b, m => if b.foldlM (fun m i => heldI r d i m) m = some m then some m else none
  | d + 1, .fev b, m => if m = 0 ∧ b.foldlM (fun m i => heldI r d i m) 0 = some 0 then some m else none
def heldL (r : Int) (d : Nat) (s : List I) (m : Int) : Option Int := s.foldlM (fun m i => heldI r d i m) m
theorem heldL_snoc {r : Int} {d : Nat} {p : List I} {x : I} {m : Int} : heldL r d (p ++ [x]) m = (heldL r d p m).bind fun q => heldI r d x q := by
  simp [heldL, List.foldlM_append]
theorem heldL_app {r : Int} {d : Nat} {p q : List I} {m : Int} : heldL r d (p ++ q) m = (heldL r d p m).bind fun m => heldL r d q m := by
  simp [heldL, List.foldlM_append]
end Law

namespace Law
open PySem CM
variable {h : AH} {c : Ct} {cn : Nat}
theorem heldI_nn {r : Int} : ∀ {d : Nat} {i : I} {m q : Int}, heldI r d i m = some q → 0 ≤ m → 0 ≤ q
  | d, .at w ns, m, q, e, hm => by
    have e : (if w = "take" ∧ ns[0]? = some r then some (m + 1) else if w = "give" ∧ ns[0]? = some r then (if m - 1 < 0 then none else some (m - 1)) else some m) = some q := by cases d <;> exact e
    split at e
    · cases e; omega
    · split at e
      · split at e
        · cases e
        · cases e; omega
      · cases e; omega
  | 0, .rep _ _, m, q, e, hm => by cases e
  | 0, .fev _, m, q, e, hm => by cases e
  | d + 1, .rep _ _, m, q, e, hm => by
    unfold heldI at e
    split at e
    · cases e; exact hm
    · cases e
  | d + 1, .fev _, m, q, e, hm => by
    unfold heldI at e
    split at e
    · cases e; exact hm
    · cases e
theorem heldI_at {r : Int} {d : Nat} {w : Str} {ns : List Int} {m : Int} : heldI r d (.at w ns) m = if w = "take" ∧ ns[0]? = some r then some (m + 1) else if w = "give" ∧ ns[0]? = some r then (if m - 1 < 0 then none else some (m - 1)) else some m := by cases d <;> rfl
/-- one turn -/
theorem f_held1 {r : Int} {d : Nat} {x : I} {q q' : Int} {k : Nat} {t z : Option D} (ok : EOk c d x) (hq : 0 ≤ q) (e : heldI r d x q = some q')
    (ih : ∀ (d' : Nat) (b : List I) (m m' : Int), d = d' + 1 → (∀ i ∈ b, EOk c d' i) → heldL r d' b m = some m' → 0 ≤ m → callOf (C (k + d)) "held_after" [.tup (toDs b), .int r, .int m] h = .ok (.int m') h) :
    sh_held_after_b1 (C (k + d)) [t, some (.int r), some (.int q), some x.toD] h = .ok (.nx, [t, some (.int r), some (.int q'), some x.toD]) h := by
  have hq' := heldI_nn e hq
  cases x with
  | «at» w ns =>
    rw [heldI_at] at e
    cases ok.at with
    | take h1 h2 h3 h4 =>
      rename_i r' p
      by_cases hr : r' = r
      · simp [hr] at e
        subst e
        have h5 : ¬ q + 1 < 0 := by omega
        simp [sh_held_after_b1, I.toD, hr, h5]
      · simp [hr] at e
        subst e
        have h5 : ¬ q < 0 := by omega
        simp [sh_held_after_b1, I.toD, hr, h5]
    | give h1 h2 =>
      rename_i r'
      by_cases hr : r' = r
      · simp [hr] at e
        obtain ⟨e1, e⟩ := e
        subst e
        have h5 : ¬ q - 1 < 0 := by omega
        simp [sh_held_after_b1, I.toD, hr, h5]
      · simp [hr] at e
        subst e
        have h5 : ¬ q < 0 := by omega
        simp [sh_held_after_b1, I.toD, hr, h5]
    | _ =>
      simp at e
      subst e
      have h5 : ¬ q < 0 := by omega
      simp [sh_held_after_b1, I.toD, h5]
  | rep n b =>
    cases d with
    | zero => exact ok.elim
    | succ d =>
      unfold heldI at e
      split at e
      · rename_i e2
        cases e
        have e3 := ih d b q q rfl ok.2.2.2 e2 hq
        have h5 : ¬ q < 0 := by omega
        simp [sh_held_after_b1, I.toD, h5, e3]
      · cases e
  | fev b =>
    cases d with
    | zero => exact ok.elim
    | succ d =>
      unfold heldI at e
      split at e
      · rename_i e2
        obtain ⟨e2, e4⟩ := e2
        cases e
        subst e2
        have e3 := ih d b 0 0 rfl ok.2 e4 hq
        simp [sh_held_after_b1, I.toD, e3]
      · cases e
theorem lim_e {s : List I} (hl : s.length ≤ 101) : s.length ≤ LIM := Nat.le_trans hl (by decide)
theorem f_held' {r : Int} (d : Nat) (s : List I) (m m' : Int) (ok : ∀ i ∈ s, EOk c d i) (e : heldL r d s m = some m') (hm : 0 ≤ m) (k : Nat)
    (ih : ∀ (d' : Nat) (b : List I) (m m' : Int), d = d' + 1 → (∀ i ∈ b, EOk c d' i) → heldL r d' b m = some m' → 0 ≤ m → callOf (C (k + d)) "held_after" [.tup (toDs b), .int r, .int m] h = .ok (.int m') h) :
    callOf (C (k + d + 1)) "held_after" [.tup (toDs s), .int r, .int m] h = .ok (.int m') h := by
  rw [o_held_after, toDs_map]
  refine W_eq ?_
  simp [sh_held_after]
  refine W_call (P := fun p h' => h' = h ∧ ∃ x, p = (.nx, [some (.tup (s.map I.toD)), some (.int r), some (.int m'), x])) (W_forV (fun pre ρ h' => h' = h ∧ ∃ q x, ρ = [some (.tup (s.map I.toD)), some (.int r), some (.int q), x] ∧ heldL r d pre m = some q ∧ 0 ≤ q) ⟨rfl, m, none, rfl, rfl, hm⟩ ?_ ?_) ?_
  · rintro pre x post ρ h' es ⟨rfl, q, z, rfl, e1, hq⟩
    have e2 : ∃ q', heldI r d x q = some q' := by
      rw [es, heldL_app, e1] at e
      simp only [Option.bind_some, heldL, List.foldlM_cons] at e
      cases e3 : heldI r d x q with
      | none => rw [e3] at e; cases e
      | some q' => exact ⟨q', rfl⟩
    obtain ⟨q', e2⟩ := e2
    have e4 := f_held1 (t := some (.tup (s.map I.toD))) (z := z) (ok x (by rw [es]; simp)) hq e2 ih
    simp [e4]
    refine ⟨?_, heldI_nn e2 hq⟩
    rw [heldL_snoc, e1]
    exact e2
  · rintro ρ h' ⟨rfl, q, x, rfl, e1, hq⟩
    rw [e] at e1
    cases e1
    exact ⟨rfl, x, rfl⟩
  · rintro p h' ⟨rfl, x, rfl⟩
    simp
theorem f_held {r : Int} : ∀ (d : Nat) (s : List I) (m m' : Int), (∀ i ∈ s, EOk c d i) → heldL r d s m = some m' → 0 ≤ m → ∀ k, callOf (C (k + d + 1)) "held_after" [.tup (toDs s), .int r, .int m] h = .ok (.int m') h := by
  intro d
  induction d with
  | zero =>
    intro s m m' ok e hm k
    exact f_held' 0 s m m' ok e hm k fun d' b m m' q => by omega
  | succ d ih =>
    intro s m m' ok e hm k
    exact f_held' (d + 1) s m m' ok e hm k fun d' b m m' q ok e hm => by
      cases Nat.succ.inj q
      exact ih b m m' ok e hm k
/-! the time that a body takes -/
def timeI : Nat → I → Int
  | _, .at w ns => if w = "wait" then ns.headD 0 else 0
  | 0, _ => 0
  | d + 1, .rep n b => n * (b.map (timeI d)).sum
  | _ + 1, .fev _ => 0
theorem timeI_at {d : Nat} {w : Str} {ns : List Int} : timeI d (.at w ns) = if w = "wait" then ns.headD 0 else 0 := by cases d <;> rfl
theorem small5 {n : Int} (h1 : 0 ≤ n) (h2 : n ≤ 1000) : smallI n = true := decide_eq_true ⟨by omega, by omega⟩
theorem f_time1 {d : Nat} {x : I} {q : Int} {k : Nat} {t z : Option D} (ok : EOk c d x)
    (ih : ∀ (d' : Nat) (b : List I), d = d' + 1 → (∀ i ∈ b, EOk c d' i) → callOf (C (k + d)) "time_of" [.tup (toDs b)] h = .ok (.int (b.map (timeI d')).sum) h) :
    sh_time_of_b1 (C (k + d)) [t, some (.int q), some x.toD] h = .ok (.nx, [t, some (.int (q + timeI d x)), some x.toD]) h := by
  cases x with
  | «at» w ns =>
    rw [timeI_at]
    cases ok.at <;> simp [sh_time_of_b1, I.toD]
  | rep n b =>
    cases d with
    | zero => exact ok.elim
    | succ d =>
      have e3 := ih d b rfl ok.2.2.2
      simp [sh_time_of_b1, I.toD, e3, op_mul1 (small5 ok.1 (by have := ok.2.1; omega)), timeI]
  | fev b =>
    cases d with
    | zero => exact ok.elim
    | succ d => simp [sh_time_of_b1, I.toD, timeI]
theorem f_time' (d : Nat) (s : List I) (ok : ∀ i ∈ s, EOk c d i) (k : Nat)
    (ih : ∀ (d' : Nat) (b : List I), d = d' + 1 → (∀ i ∈ b, EOk c d' i) → callOf (C (k + d)) "time_of" [.tup (toDs b)] h = .ok (.int (b.map (timeI d')).sum) h) :
    callOf (C (k + d + 1)) "time_of" [.tup (toDs s)] h = .ok (.int (s.map (timeI d)).sum) h := by
  rw [o_time_of, toDs_map]
  refine W_eq ?_
  simp [sh_time_of]
  refine W_call (P := fun p h' => h' = h ∧ ∃ x, p = (.nx, [some (.tup (s.map I.toD)), some (.int (s.map (timeI d)).sum), x])) (W_forV (fun pre ρ h' => h' = h ∧ ∃ x, ρ = [some (.tup (s.map I.toD)), some (.int (pre.map (timeI d)).sum), x]) ⟨rfl, none, rfl⟩ ?_ ?_) ?_
  · rintro pre x post ρ h' es ⟨rfl, z, rfl⟩
    have e4 := f_time1 (q := (pre.map (timeI d)).sum) (t := some (.tup (s.map I.toD))) (z := z) (ok x (by rw [es]; simp)) ih
    simp [e4]
  · rintro ρ h' ⟨rfl, x, rfl⟩
    exact ⟨rfl, x, rfl⟩
  · rintro p h' ⟨rfl, x, rfl⟩
    simp
theorem f_time : ∀ (d : Nat) (s : List I), (∀ i ∈ s, EOk c d i) → ∀ k, callOf (C (k + d + 1)) "time_of" [.tup (toDs s)] h = .ok (.int (s.map (timeI d)).sum) h := by
  intro d
  induction d with
  | zero =>
    intro s ok k
    exact f_time' 0 s ok k fun d' b q => by omega
  | succ d ih =>
    intro s ok k
    exact f_time' (d + 1) s ok k fun d' b q ok => by
      cases Nat.succ.inj q
      exact ih b ok k
/-! a script that gives back what it takes -/
def Sound (c : Ct) (s : List I) : Prop := (∀ r : Int, 0 ≤ r → r < c.r → heldL r 3 s 0 = some 0) ∧ ∀ b, I.fev b ∈ s → 0 < (b.map (timeI 2)).sum
theorem lAll_rep : ∀ n, lAll (List.replicate n (D.bl true)) = some (.bl true) := fun n => by
  have e := lAll_true (xs := List.range n)
  rw [show (List.range n).map (fun _ => D.bl true) = List.replicate n (D.bl true) by simp [List.map_const']] at e
  exact e
theorem ir4 {n : Nat} (hn : n ≤ 1000) {h : AH} : irK [.int n] h = .ok (.vals ((List.range n).map fun i => D.int (i : Nat))) h := by
  have := irK_ap (h := h) (j := n) (by have : (0:Int) ≤ n := by omega
                                       exact Int.le_trans (by decide) this) (Int.lt_of_le_of_lt (show (n : Int) ≤ 1000 by omega) (by decide))
  rw [this]
  rfl
end Law

namespace Law
open PySem CM
variable {h : AH} {c : Ct} {cn : Nat}
theorem f_sound {s : List I} {res : Nat} (hl : s.length ≤ 101) (ok : ∀ i ∈ s, EOk c 3 i) (hs : Sound c s) (hr : res ≤ c.r) (hr2 : res ≤ 4) (k : Nat) : callOf (C (k + 5)) "is_sound" [.tup (toDs s), .int res] h = .ok (.bl true) h := by
  rw [o_is_sound, toDs_map]
  have ek : k + 3 + 1 = k + 4 := rfl
  have e1 : ∀ z : Int, irK [.int z] h = .ok (.vals ((List.range res).map fun i => D.int (i : Nat))) h → runBody ["script", "resources", "resource", "one"] 2 (sh_is_sound (C (k + 4))) [.tup (s.map I.toD), .int z] h = .ok (.bl true) h := by
    intro z ez
    simp [sh_is_sound, ez]
    rw [lc_all (xs := List.range res) (lim100 (by simp; omega))]
    · simp
      refine W_eq ?_
      refine W_call (P := fun acc h' => h' = h ∧ ∃ n, acc = List.replicate n (D.bl true)) (W_lcV (fun pre acc h' => h' = h ∧ ∃ n, acc = List.replicate n (D.bl true)) (lim_e hl) ⟨rfl, 0, rfl⟩ ?_ fun _ _ q => q) ?_
      · rintro pre x post acc h' es hz ⟨rfl, n, rfl⟩
        have okx := ok x (by rw [es]; simp)
        cases x with
        | «at» w ns => cases okx.at <;> simp [I.toD]
        | rep m b => simp [I.toD]
        | fev b =>
          have e := f_time (h := h') 2 b okx.2 (k + 1)
          rw [show k + 1 + 2 + 1 = k + 4 from rfl] at e
          have e2 := hs.2 b (by rw [es]; simp)
          simp [I.toD, sh_is_sound_e1, e, e2]
          exact ⟨n + 1, by rw [List.replicate_succ']⟩
      · rintro acc h' ⟨rfl, n, rfl⟩
        simp [lAll_rep]
    · intro x hx
      have e := f_held (h := h) (r := x) 3 s 0 0 ok (hs.1 x (by omega) (by have := List.mem_range.mp hx; omega)) (by omega) k
      rw [toDs_map, ek] at e
      simp [sh_is_sound_e2, e]
  exact e1 _ (ir4 (by omega))
end Law

namespace Law
open PySem CM
variable {h : AH} {c : Ct} {cn : Nat}
structure M where
  res : List (Str × Int)
  sto : List (Int × List Int)
  gat : List Str
  scr : List (List I)
def resD (x : Str × Int) : D := .tup [.str x.1, .int x.2]
def stoD (x : Int × List Int) : D := .tup [.int x.1, .tup (x.2.map D.int)]
def scrD (s : List I) : D := .tup (toDs s)
def M.toD (m : M) : D := .tup [.tup (m.res.map resD), .tup (m.sto.map stoD), .tup (m.gat.map D.str), .tup (m.scr.map scrD)]
def M.ct (m : M) : Ct := ⟨m.res.length, m.sto.length, m.gat.length, m.scr.length⟩
structure MOk (m : M) : Prop where
  rl : m.res.length ≤ 4
  ro : ∀ x ∈ m.res, (x.1 = "fifo" ∨ x.1 = "rank" ∨ x.1 = "preempt") ∧ 1 ≤ x.2 ∧ x.2 ≤ 3
  sl : m.sto.length ≤ 3
  so : ∀ x ∈ m.sto, 1 ≤ x.1 ∧ x.1 ≤ 4 ∧ (x.2.length : Int) ≤ x.1 ∧ ∀ y ∈ x.2, 0 ≤ y ∧ y ≤ 99
  gl : m.gat.length ≤ 3
  go : ∀ x ∈ m.gat, x = "open" ∨ x = "shut"
  pl : 1 ≤ m.scr.length
  pm : m.scr.length ≤ 6
  po : ∀ s ∈ m.scr, SOk m.ct s ∧ Sound m.ct s ∧ s.length ≤ 101
/-- only new objects -/
def Pre (h h' : AH) : Prop := ∃ t, h' = h ++ t
theorem Pre.refl (h : AH) : Pre h h := ⟨[], by simp⟩
theorem Pre.trans {a b c : AH} (p : Pre a b) (q : Pre b c) : Pre a c := by
  obtain ⟨t, rfl⟩ := p
  obtain ⟨u, rfl⟩ := q
  exact ⟨t ++ u, by simp⟩
theorem Pre.new {h : AH} {o : DO} : Pre h (h ++ [o]) := ⟨[o], rfl⟩
def lenD : D → D | .tup ds => .int ds.length | _ => .non
theorem f_has (m : M) (ok : MOk m) (k : Nat) : W (callOf (C (k + 11)) "has_parts" [m.toD] h) fun d h' => d = .bl true ∧ Pre h h' := by
  rw [o_has_parts]
  have h1 : (m.res.length : Int) ≤ 4 := by have := ok.rl; omega
  have h2 : (m.sto.length : Int) ≤ 3 := by have := ok.sl; omega
  have h3 : (m.gat.length : Int) ≤ 3 := by have := ok.gl; omega
  have h4 : (m.scr.length : Int) ≤ 6 := by have := ok.pm; omega
  have h5 : (1 : Int) ≤ m.scr.length := by have := ok.pl; omega
  have z1 : (0 : Int) ≤ m.res.length := by omega
  have z2 : (0 : Int) ≤ m.sto.length := by omega
  have z3 : (0 : Int) ≤ m.gat.length := by omega
  simp [sh_has_parts, M.toD, f_tuple, h1, h2, h3, h4, h5]
  rw [lc_all (xs := m.res) (f := resD) (lim100 (by omega))]
  · simp [f_tuple, h1, h2, h3, h4, h5]
    rw [lc_all (xs := m.sto) (f := stoD) (lim100 (by omega))]
    · simp [f_tuple, h1, h2, h3, h4, h5]
      rw [lc_all (xs := m.gat) (f := D.str) (lim100 (by omega))]
      · simp [f_tuple, h1, h2, h3, h4, h5]
        refine W_call (P := fun acc h' => Pre h h' ∧ ∃ n, acc = List.replicate n (D.bl true)) (W_lcV (xs := m.scr) (f := scrD) (fun pre acc h' => Pre h h' ∧ ∃ n, acc = List.replicate n (D.bl true)) (lim100 (by omega)) ⟨Pre.refl h, 0, rfl⟩ ?_ fun _ _ q => q) ?_
        · rintro pre x post acc h' es hz ⟨ph, n, rfl⟩
          simp [sh_has_parts_e2]
          rw [lcK_vals lenD (lim100 (by simp))]
          · have e2 := f_script (h := h' ++ [.lst m.ct.ds]) (c := m.ct) (cn := h'.length) (by simp) k (ok.po x (by rw [es]; simp)).1
            simp [lenD, scrD]
            simp only [Ct.ds, M.ct] at e2
            rw [e2]
            simp
            exact ⟨ph.trans .new, n + 1, by rw [List.replicate_succ']⟩
          · intro d hd
            simp at hd
            rcases hd with rfl | rfl | rfl | rfl <;> simp [sh_has_parts_e1, lenD]
        · rintro acc h' ⟨ph, n, rfl⟩
          simp [lAll_rep, ph]
      · intro x hx
        simp [sh_has_parts_e3, f_gate _ _ x (ok.go x hx)]
    · intro x hx
      obtain ⟨a1, a2, a3, a4⟩ := ok.so x hx
      have e := f_store (k + 7) h x.1 x.2 a1 a2 a3 a4
      rw [show k + 7 + 3 = k + 10 from rfl] at e
      simp [sh_has_parts_e4, stoD, e]
  · intro x hx
    obtain ⟨a1, a2, a3⟩ := ok.ro x hx
    have e := f_resource (k + 7) h x.1 x.2 a1 a2 a3
    rw [show k + 7 + 3 = k + 10 from rfl] at e
    simp [sh_has_parts_e5, resD, e]
end Law
namespace Law
open PySem CM
variable {h : AH}
theorem f_model (m : M) (ok : MOk m) (k : Nat) : W (callOf (C (k + 12)) "is_model" [m.toD] h) fun d h' => d = .bl true ∧ Pre h h' := by
  rw [o_is_model]
  simp [sh_is_model]
  refine W_call (f_has m ok k) ?_
  rintro d h' ⟨rfl, ph⟩
  simp [M.toD]
  rw [lc_all (xs := m.scr) (f := scrD) (lim100 (by have := ok.pm; omega))]
  · simp [ph]
  · intro x hx
    obtain ⟨a1, a2, a3⟩ := ok.po x hx
    have e := f_sound (h := h') (c := m.ct) (res := m.res.length) a3 a1.e a2 (Nat.le_refl _) ok.rl (k + 6)
    rw [show k + 6 + 5 = k + 11 from rfl] at e
    simp [sh_is_model_e1, scrD, e]
theorem f_need (m : M) (ok : MOk m) (k : Nat) : W (callOf (C (k + 13)) "need_model" [m.toD] h) fun d h' => d = .non ∧ Pre h h' := by
  rw [o_need_model]
  simp [sh_need_model]
  refine W_call (f_model m ok k) ?_
  rintro d h' ⟨rfl, ph⟩
  simp [ph]
end Law

namespace Law
open PySem CM
variable {h : AH} {c : Ct} {cn : Nat}
theorem Pre.get {a b : AH} {n : Nat} {o : DO} (p : Pre a b) (e : a[n]? = some o) : b[n]? = some o := by
  obtain ⟨t, rfl⟩ := p
  rw [List.getElem?_append_left ((List.getElem?_eq_some_iff.mp e).1)]
  exact e
theorem Pre.set {a b : AH} {n : Nat} {o : DO} (p : Pre a b) (hn : a.length ≤ n) : Pre a (b.set n o) := by
  obtain ⟨t, rfl⟩ := p
  exact ⟨t.set (n - a.length) o, by rw [List.set_append, if_neg (by omega)]⟩
theorem Pre.len {a b : AH} (p : Pre a b) : a.length ≤ b.length := by
  obtain ⟨t, rfl⟩ := p
  simp
theorem set_get {a : AH} {n : Nat} {o o' : DO} (e : a[n]? = some o) : (a.set n o')[n]? = some o' := by
  rw [List.getElem?_set_self ((List.getElem?_eq_some_iff.mp e).1)]
/-! texts -/
def sI (i : Int) : Str := toString i
theorem op_strI {i : Int} (e : i.natAbs < 2 ^ 1000) : bStr [.int i] h = .ok (.str (sI i)) h := op_str_i e
def SB (x : Str) (B : Nat) : Prop := x.length ≤ B ∧ ∀ c ∈ x.cps.toList, c < 16 ^ 8
theorem SB.mono {x : Str} {A B : Nat} (s : SB x A) (l : A ≤ B) : SB x B := ⟨Nat.le_trans s.1 l, s.2⟩
theorem sI_fin : ∀ n : Fin 1001, (sI (n.val : Int)).length ≤ 4 ∧ (sI (n.val : Int)).cps.toList.all (fun c => decide (c < 16 ^ 8)) = true := by decide +kernel
theorem sI_sb {i : Int} (h1 : 0 ≤ i) (h2 : i ≤ 1000) : SB (sI i) 4 := by
  obtain ⟨n, rfl⟩ := Int.eq_ofNat_of_zero_le h1
  obtain ⟨a, b⟩ := sI_fin ⟨n, by omega⟩
  exact ⟨a, fun c hc => by simpa using List.all_eq_true.mp b c hc⟩
theorem app_len (a b : Str) : (a ++ b).length = a.length + b.length := by
  show (a.cps ++ b.cps).size = a.cps.size + b.cps.size
  simp
theorem app_cps (a b : Str) : (a ++ b).cps.toList = a.cps.toList ++ b.cps.toList := by
  show (a.cps ++ b.cps).toList = a.cps.toList ++ b.cps.toList
  simp
theorem app_assoc (a b c : Str) : a ++ b ++ c = a ++ (b ++ c) := by
  show Str.mk ((a.cps ++ b.cps) ++ c.cps) = Str.mk (a.cps ++ (b.cps ++ c.cps))
  rw [Array.append_assoc]
theorem SB.app {a b : Str} {A B : Nat} (p : SB a A) (q : SB b B) : SB (a ++ b) (A + B) := by
  refine ⟨by rw [app_len]; have := p.1; have := q.1; omega, fun c hc => ?_⟩
  rw [app_cps] at hc
  rcases List.mem_append.mp hc with z | z
  · exact p.2 c z
  · exact q.2 c z
theorem SB.empty : SB Str.empty 0 := ⟨by decide, fun c hc => by
  have : (Str.empty).cps.toList = [] := rfl
  rw [this] at hc
  cases hc⟩
theorem SB.join {a : Str} {A B : Nat} (p : SB a A) : ∀ {ys : List Str}, (∀ y ∈ ys, SB y B) → SB (Str.join a ys) (ys.length * (A + B))
  | [], _ => SB.empty.mono (by simp)
  | [x], q => (q x (by simp)).mono (by simp)
  | x :: y :: r, q => by
    have ih := SB.join p (ys := y :: r) fun z hz => q z (List.mem_cons_of_mem _ hz)
    have e : Str.join a (x :: y :: r) = x ++ a ++ Str.join a (y :: r) := rfl
    rw [e]
    refine (((q x (by simp)).app p).app ih).mono ?_
    simp only [List.length_cons]
    rw [Nat.add_mul (r.length + 1) 1]
    omega
theorem SB.tjoin {a : Str} {A B : Nat} (p : SB a A) {ys : List Str} (q : ∀ y ∈ ys, SB y B) : SB (Txt.join a ys) (ys.length * (A + B)) := by
  rw [show Txt.join a ys = Str.join a ys from StrLaws.glued_eq_join a ys]
  exact SB.join p q
theorem sb_lit {x : Str} {B : Nat} (e : (decide (x.length ≤ B) && x.cps.toList.all (fun c => decide (c < 16 ^ 8))) = true) : SB x B := by
  simp only [Bool.and_eq_true, decide_eq_true_eq] at e
  exact ⟨e.1, fun c hc => by simpa using List.all_eq_true.mp e.2 c hc⟩
theorem sb_sp : SB " " 1 := sb_lit (by decide +kernel)
theorem sb_lf : SB "\n" 1 := sb_lit (by decide +kernel)
/-! a joined row -/
def partS : D → Str
  | .str x => x
  | .int i => sI i
  | _ => ""
def PartOk (d : D) : Prop := (∃ x, d = .str x ∧ SB x 20) ∨ ∃ i, d = .int i ∧ 0 ≤ i ∧ i ≤ 1000
theorem PartOk.sb {d : D} (p : PartOk d) : SB (partS d) 20 := by
  rcases p with ⟨x, rfl, q⟩ | ⟨i, rfl, h1, h2⟩
  · exact q
  · exact (sI_sb h1 h2).mono (by decide)
theorem lt_pow {n : Nat} (e : n ≤ 1000) : n < 2 ^ 1000 := Nat.lt_of_le_of_lt e (by decide +kernel)
theorem PartOk.str {d : D} (p : PartOk d) : bStr [d] h = .ok (.str (partS d)) h := by
  rcases p with ⟨x, rfl, q⟩ | ⟨i, rfl, h1, h2⟩
  · rfl
  · exact op_str_i (lt_pow (by omega))
def rowS (ps : List D) : Str := Txt.join " " (ps.map partS)
theorem rowS_sb {ps : List D} (hp : ∀ p ∈ ps, PartOk p) (hl : ps.length ≤ 10) : SB (rowS ps) 210 := by
  refine (SB.tjoin sb_sp (B := 20) fun y hy => ?_).mono ?_
  · obtain ⟨d, hd, rfl⟩ := List.mem_map.mp hy
    exact (hp d hd).sb
  · simp; omega
theorem joinD_ok {a : Str} {ys : List Str} {A B : Nat} (p : SB a A) (q : ∀ y ∈ ys, SB y B) (hl : ys.length * (A + B) ≤ LIM) : joinD a (ys.map D.str) = some (.str (Txt.join a ys)) := by
  unfold joinD
  rw [strsOf_map (f := fun x => x), List.map_id']
  simp only
  rw [if_pos]
  have e1 := StrLaws.sumLen_le (B := B) ys fun y hy => (q y hy).1
  have e2 : ys.length * a.length ≤ ys.length * A := Nat.mul_le_mul_left _ p.1
  rw [Nat.mul_add] at hl
  omega
theorem row_join {ps : List D} (hp : ∀ p ∈ ps, PartOk p) (hl : ps.length ≤ 10) : joinD " " (ps.map fun d => D.str (partS d)) = some (.str (rowS ps)) := by
  have e := joinD_ok (ys := ps.map partS) sb_sp (B := 20) (fun y hy => by
    obtain ⟨d, hd, rfl⟩ := List.mem_map.mp hy
    exact (hp d hd).sb) (by simp; exact Nat.le_trans (Nat.mul_le_mul_right 21 hl) (by decide))
  rw [List.map_map] at e
  exact e
theorem lc_str {ps : List D} {gt : GTg} {ge : G} {ρ : CM.Env} (hp : ∀ p ∈ ps, PartOk p) (hl : ps.length ≤ 10) (hs : ∀ d, PartOk d → W (gt d ρ h) fun ρ1 h1 => h1 = h ∧ ge ρ1 h = bStr [d] h) :
    lcK gt gYes ge ρ (.vals ps) h = .ok (ps.map fun d => D.str (partS d)) h :=
  lcK_vals _ (lim100 (by omega)) fun d hd => W_mono (hs d (hp d hd)) fun ρ1 h1 q => ⟨q.1, by rw [q.2]; exact (hp d hd).str⟩
theorem f_joined {ps : List D} (hp : ∀ p ∈ ps, PartOk p) (hl : ps.length ≤ 10) (k : Nat) : callOf (C (k + 1)) "joined" [.tup ps] h = .ok (.str (rowS ps)) h := by
  rw [o_joined]
  simp [sh_joined]
  rw [lc_str hp hl]
  · simp [lJoin, row_join hp hl]
  · intro d hd
    simp [sh_joined_e1]
end Law

namespace Law
open PySem CM
variable {h : AH} {c : Ct} {cn : Nat}
theorem cut_3 {a b c : D} : cutD [a, b, c] none (some (-1)) = [a, b] := rfl
theorem cut_2 {a b : D} : cutD [a, b] none (some (-1)) = [a] := rfl
/-! the rows of a script -/
def linesI : Nat → I → List Str
  | _, .at w ns => [rowS (.str w :: ns.map D.int)]
  | 0, _ => []
  | d + 1, .rep n b => rowS [.str "repeat", .int n] :: ((b.map (linesI d)).flatten ++ [("end" : Str)])
  | d + 1, .fev b => rowS [.str "forever"] :: ((b.map (linesI d)).flatten ++ [("end" : Str)])
def linesL (d : Nat) (s : List I) : List Str := (s.map (linesI d)).flatten
theorem linesL_nil {d : Nat} : linesL d [] = [] := rfl
theorem linesL_snoc {d : Nat} {p : List I} {x : I} : linesL d (p ++ [x]) = linesL d p ++ linesI d x := by simp [linesL]
theorem linesL_app {d : Nat} {p q : List I} : linesL d (p ++ q) = linesL d p ++ linesL d q := by simp [linesL]
theorem linesI_at {d : Nat} {w : Str} {ns : List Int} : linesI d (.at w ns) = [rowS (.str w :: ns.map D.int)] := by cases d <;> rfl
theorem linesL_cons {d : Nat} {x : I} {p : List I} : linesL d (x :: p) = linesI d x ++ linesL d p := by simp [linesL]
theorem pint {i : Int} (h1 : 0 ≤ i) (h2 : i ≤ 1000) : PartOk (.int i) := .inr ⟨i, rfl, h1, h2⟩
theorem plit {x : Str} (e : (decide (x.length ≤ 20) && x.cps.toList.all (fun c => decide (c < 16 ^ 8))) = true) : PartOk (.str x) := .inl ⟨x, rfl, sb_lit e⟩
/-- numbers are small where the counts are -/
def CtOk (c : Ct) : Prop := c.r ≤ 100 ∧ c.s ≤ 100 ∧ c.g ≤ 100 ∧ c.p ≤ 100
theorem parts_at (cc : CtOk c) {w : Str} {ns : List Int} (ok : AOk c w ns) : (∀ p ∈ (D.str w :: ns.map D.int), PartOk p) ∧ (D.str w :: ns.map D.int).length ≤ 10 := by
  obtain ⟨c1, c2, c3, c4⟩ := cc
  cases ok <;> refine ⟨fun p hp => ?_, by simp⟩ <;> simp at hp <;> (try rcases hp with rfl | rfl | rfl) <;> (try rcases hp with rfl | rfl) <;> first | exact plit (by decide +kernel) | exact pint (by omega) (by omega)
theorem parts_rep {n : Int} (h1 : 0 ≤ n) (h2 : n ≤ 5) : ∀ p ∈ [D.str "repeat", D.int n], PartOk p := by
  intro p hp
  simp at hp
  rcases hp with rfl | rfl
  · exact plit (by decide +kernel)
  · exact pint h1 (by omega)
theorem parts_fev : ∀ p ∈ [D.str "forever"], PartOk p := by
  intro p hp
  simp at hp
  subst hp
  exact plit (by decide +kernel)
theorem linesI_sb (cc : CtOk c) : ∀ {d : Nat} {i : I}, EOk c d i → ∀ y ∈ linesI d i, SB y 210
  | d, .at w ns, ok, y, hy => by
    rw [linesI_at] at hy
    cases List.mem_singleton.mp hy
    exact rowS_sb (parts_at cc ok.at).1 (parts_at cc ok.at).2
  | 0, .rep _ _, ok, _, _ => ok.elim
  | 0, .fev _, ok, _, _ => ok.elim
  | d + 1, .rep n b, ok, y, hy => by
    rcases List.mem_cons.mp hy with rfl | hy
    · exact rowS_sb (parts_rep ok.1 ok.2.1) (by simp)
    · rcases List.mem_append.mp hy with hy | hy
      · obtain ⟨l, hl, hy⟩ := List.mem_flatten.mp hy
        obtain ⟨i, hi, rfl⟩ := List.mem_map.mp hl
        exact linesI_sb cc (ok.2.2.2 i hi) y hy
      · cases List.mem_singleton.mp hy
        exact sb_lit (by decide +kernel)
  | d + 1, .fev b, ok, y, hy => by
    rcases List.mem_cons.mp hy with rfl | hy
    · exact rowS_sb parts_fev (by simp)
    · rcases List.mem_append.mp hy with hy | hy
      · obtain ⟨l, hl, hy⟩ := List.mem_flatten.mp hy
        obtain ⟨i, hi, rfl⟩ := List.mem_map.mp hl
        exact linesI_sb cc (ok.2 i hi) y hy
      · cases List.mem_singleton.mp hy
        exact sb_lit (by decide +kernel)
/-- a row object that holds texts -/
def At (h : AH) (n : Nat) (ys : List Str) : Prop := h[n]? = some (.lst (ys.map D.str))
def New (h : AH) (ys : List Str) (d : D) (h' : AH) : Prop := ∃ n, d = .obj n ∧ At h' n ys ∧ h.length ≤ n ∧ Pre h h'
/-! one turn of script_lines -/
theorem f_sl1 (cc : CtOk c) {d : Nat} {x : I} {k : Nat} {t z : Option D} (ok : EOk c d x) {h0 h : AH} {n : Nat} {ys : List Str} (ph : Pre h0 h) (hn : h0.length ≤ n) (ha : At h n ys) (hl : ys.length + (linesI d x).length ≤ 2000)
    (ih : ∀ (d' : Nat) (b : List I), d = d' + 1 → (∀ i ∈ b, EOk c d' i) → (linesL d' b).length ≤ 2000 → ∀ h, W (callOf (C (k + d + 1)) "script_lines" [.tup (toDs b)] h) (New h (linesL d' b))) :
    W (sh_script_lines_b1 (C (k + d + 1)) [t, some (.obj n), some x.toD] h) fun p h' => p = (.nx, [t, some (.obj n), some x.toD]) ∧ Pre h0 h' ∧ At h' n (ys ++ linesI d x) := by
  have l1 : (ys.map D.str).length ≤ LIM := by rw [List.length_map]; exact Nat.le_trans (show ys.length ≤ 2000 by omega) (by decide)
  cases x with
  | «at» w ns =>
    have pp := parts_at cc ok.at
    have e := f_joined (h := h) pp.1 pp.2 (k + d)
    rw [linesI_at]
    have e2 : (List.lookup w [(("wait" : Str), D.str "d"), ("take", (.str "rk")), ("give", (.str "r")), ("put", (.str "si")), ("get", (.str "s")), ("pass", (.str "g")), ("open", (.str "g")), ("shut", (.str "g")), ("rouse", (.str "p")), ("mark", (.str "n"))]).isSome = true := by
      cases ok.at <;> simp [List.lookup]
    simp [sh_script_lines_b1, I.toD, e2, metK_lst ha, e, op_append ha l1]
    refine ⟨ph.set hn, ?_⟩
    have := set_get (o' := .lst (List.map D.str ys ++ [D.str (rowS (D.str w :: List.map D.int ns))])) ha
    simpa [At] using this
  | rep m b =>
    cases d with
    | zero => exact ok.elim
    | succ d =>
      have e := f_joined (h := h) (parts_rep ok.1 ok.2.1) (by simp) (k + d + 1)
      have el : linesI (d + 1) (.rep m b) = rowS [.str "repeat", .int m] :: (linesL d b ++ [("end" : Str)]) := rfl
      rw [el] at hl
      simp at hl
      rw [show k + (d + 1) + 1 = k + d + 1 + 1 from rfl] at ih ⊢
      simp [sh_script_lines_b1, I.toD, List.lookup, metK_lst ha, cut_3, cut_2, e]
      refine W_call (ih d b rfl ok.2.2.2 (by omega) h) ?_
      rintro r h1 ⟨q, rfl, hq, hqn, ph1⟩
      have l2 : ([D.str (rowS [D.str "repeat", D.int m])] ++ (List.map D.str (linesL d b) ++ [D.str "end"])).length ≤ LIM := by
        simp
        exact Nat.le_trans (show (linesL d b).length + 1 + 1 ≤ 2003 by omega) (by decide)
      have l3 : (ys.map D.str).length + ([D.str (rowS [D.str "repeat", D.int m])] ++ (List.map D.str (linesL d b) ++ [D.str "end"])).length ≤ LIM := by
        simp
        exact Nat.le_trans (show ys.length + ((linesL d b).length + 1 + 1) ≤ 2003 by omega) (by decide)
      simp at l2 l3
      have ha2 : (h1 ++ [DO.lst (D.str (rowS [D.str "repeat", D.int m]) :: (List.map D.str (linesL d b) ++ [D.str "end"]))])[n]? = some (.lst (ys.map D.str)) := (ph1.trans .new).get ha
      simp [staK_obj hq, lstK_ap, l2, op_extend ha2, l3]
      refine ⟨((ph.trans ph1).trans .new).set hn, ?_⟩
      have := set_get (o' := .lst (List.map D.str ys ++ D.str (rowS [D.str "repeat", D.int m]) :: (List.map D.str (linesL d b) ++ [D.str "end"]))) ha2
      simpa [At, el] using this
  | fev b =>
    cases d with
    | zero => exact ok.elim
    | succ d =>
      have e := f_joined (h := h) parts_fev (by simp) (k + d + 1)
      have el : linesI (d + 1) (.fev b) = rowS [.str "forever"] :: (linesL d b ++ [("end" : Str)]) := rfl
      rw [el] at hl
      simp at hl
      rw [show k + (d + 1) + 1 = k + d + 1 + 1 from rfl] at ih ⊢
      simp [sh_script_lines_b1, I.toD, List.lookup, metK_lst ha, cut_3, cut_2, e]
      refine W_call (ih d b rfl ok.2 (by omega) h) ?_
      rintro r h1 ⟨q, rfl, hq, hqn, ph1⟩
      have l2 : ([D.str (rowS [D.str "forever"])] ++ (List.map D.str (linesL d b) ++ [D.str "end"])).length ≤ LIM := by
        simp
        exact Nat.le_trans (show (linesL d b).length + 1 + 1 ≤ 2003 by omega) (by decide)
      have l3 : (ys.map D.str).length + ([D.str (rowS [D.str "forever"])] ++ (List.map D.str (linesL d b) ++ [D.str "end"])).length ≤ LIM := by
        simp
        exact Nat.le_trans (show ys.length + ((linesL d b).length + 1 + 1) ≤ 2003 by omega) (by decide)
      simp at l2 l3
      have ha2 : (h1 ++ [DO.lst (D.str (rowS [D.str "forever"]) :: (List.map D.str (linesL d b) ++ [D.str "end"]))])[n]? = some (.lst (ys.map D.str)) := (ph1.trans .new).get ha
      simp [staK_obj hq, lstK_ap, l2, op_extend ha2, l3]
      refine ⟨((ph.trans ph1).trans .new).set hn, ?_⟩
      have := set_get (o' := .lst (List.map D.str ys ++ D.str (rowS [D.str "forever"]) :: (List.map D.str (linesL d b) ++ [D.str "end"]))) ha2
      simpa [At, el] using this
end Law

namespace Law
open PySem CM
variable {h : AH} {c : Ct} {cn : Nat}
theorem f_slines' (cc : CtOk c) (d : Nat) (s : List I) (ok : ∀ i ∈ s, EOk c d i) (hl : (linesL d s).length ≤ 2000) (k : Nat) (h : AH)
    (ih : ∀ (d' : Nat) (b : List I), d = d' + 1 → (∀ i ∈ b, EOk c d' i) → (linesL d' b).length ≤ 2000 → ∀ h, W (callOf (C (k + d + 1)) "script_lines" [.tup (toDs b)] h) (New h (linesL d' b))) :
    W (callOf (C (k + d + 2)) "script_lines" [.tup (toDs s)] h) (New h (linesL d s)) := by
  rw [o_script_lines, toDs_map]
  simp [sh_script_lines]
  refine W_call (P := fun p h' => Pre h h' ∧ At h' h.length (linesL d s) ∧ ∃ x, p = (.nx, [some (.tup (s.map I.toD)), some (.obj h.length), x])) (W_forV (fun pre ρ h' => Pre h h' ∧ At h' h.length (linesL d pre) ∧ ∃ x, ρ = [some (.tup (s.map I.toD)), some (.obj h.length), x]) ⟨.new, by simp [At, linesL], none, rfl⟩ ?_ ?_) ?_
  · rintro pre x post ρ h' es ⟨ph, ha, z, rfl⟩
    have e4 := f_sl1 (t := some (.tup (s.map I.toD))) (z := z) (k := k) cc (ok x (by rw [es]; simp)) ph (Nat.le_refl _) ha (by
      rw [es, linesL_app, linesL_cons] at hl
      simp at hl
      omega) ih
    simp
    refine W_mono e4 ?_
    rintro p h2 ⟨rfl, p1, p2⟩
    simp
    exact ⟨p1, by rw [linesL_snoc]; exact p2⟩
  · rintro ρ h' ⟨p1, p2, x, rfl⟩
    exact ⟨p1, p2, x, rfl⟩
  · rintro p h' ⟨p1, p2, x, rfl⟩
    simp
    exact ⟨_, rfl, p2, Nat.le_refl _, p1⟩
theorem f_slines (cc : CtOk c) : ∀ (d : Nat) (s : List I), (∀ i ∈ s, EOk c d i) → (linesL d s).length ≤ 2000 → ∀ (k : Nat) (h : AH), W (callOf (C (k + d + 2)) "script_lines" [.tup (toDs s)] h) (New h (linesL d s)) := by
  intro d
  induction d with
  | zero =>
    intro s ok hl k h
    exact f_slines' cc 0 s ok hl k h fun d' b q => by omega
  | succ d ih =>
    intro s ok hl k h
    exact f_slines' cc (d + 1) s ok hl k h fun d' b q ok hl => by
      cases Nat.succ.inj q
      exact ih b ok hl k
theorem f_ll1 (cc : CtOk c) {d : Nat} {x : I} {k : Nat} {t z : Option D} (ok : EOk c d x) {h0 h : AH} {n : Nat} {ys : List Str} (ph : Pre h0 h) (hn : h0.length ≤ n) (ha : At h n ys) (hl : ys.length + (linesI d x).length ≤ 2000)
    (ih : ∀ (d' : Nat) (b : List I), d = d' + 1 → (∀ i ∈ b, EOk c d' i) → (linesL d' b).length ≤ 2000 → ∀ h, W (callOf (C (k + d)) "_law_lines" [.tup (toDs b)] h) (New h (linesL d' b))) :
    W (sh_law_lines_b3 (C (k + d)) [t, some (.obj n), some x.toD, z] h) fun p h' => Pre h0 h' ∧ ∃ n', p = (.nx, [t, some (.obj n'), some x.toD, z]) ∧ h0.length ≤ n' ∧ At h' n' (ys ++ linesI d x) := by
  have l1 : (ys.map D.str).length ≤ LIM := by rw [List.length_map]; exact Nat.le_trans (show ys.length ≤ 2000 by omega) (by decide)
  have key : ∀ (b : List I) (m : Nat) (hd : List D) (d' : Nat), (linesI d x) = rowS hd :: (linesL d' b ++ [("end" : Str)]) → W (callOf (C (k + d)) "_law_lines" [.tup (toDs b)] (h.set n (.lst (ys.map D.str ++ [.str (rowS hd)])))) (New (h.set n (.lst (ys.map D.str ++ [.str (rowS hd)]))) (linesL d' b)) →
      W ((callOf (C (k + d)) "_law_lines" [.tup (toDs b)] (h.set n (.lst (ys.map D.str ++ [.str (rowS hd)])))).bind (kc (kc (kc (kc (dAdd (.obj n)) (binK dAdd (gAlloc (gLst (gaCons (gCon (.str "end")) gaNil))) [t, some (.obj n), some x.toD, z])) (asgK (gtName 1) [t, some (.obj n), some x.toD, z])) (seqK gsNil)) (seqK gsNil))) fun p h' => Pre h0 h' ∧ ∃ n', p = (.nx, [t, some (.obj n'), some x.toD, z]) ∧ h0.length ≤ n' ∧ At h' n' (ys ++ linesI d x) := by
    intro b m hd d' el q
    refine W_call q ?_
    rintro r h1 ⟨u, rfl, hu, hun, ph1⟩
    rw [el] at hl
    simp at hl
    have ha1 : (h.set n (.lst (ys.map D.str ++ [.str (rowS hd)])))[n]? = some (.lst ((ys ++ [rowS hd]).map D.str)) := by
      rw [set_get ha]; simp
    have ha2 := ph1.get ha1
    have l2 : ((ys ++ [rowS hd]).map D.str).length + ((linesL d' b).map D.str).length ≤ LIM := by
      simp
      exact Nat.le_trans (show ys.length + 1 + (linesL d' b).length ≤ 2003 by omega) (by decide)
    have pt : Pre h0 h1 := (ph.set hn).trans ph1
    simp
    rw [op_add_o ha2 hu l2]
    simp
    rw [op_add_o (n := h1.length) (a := (ys ++ [rowS hd]).map D.str ++ (linesL d' b).map D.str) (b := [.str "end"]) (by simp) (by simp) (by
      simp
      exact Nat.le_trans (show ys.length + ((linesL d' b).length + 1) + 1 ≤ 2003 by omega) (by decide))]
    simp
    refine ⟨(pt.trans .new).trans (.trans .new .new) |> fun p => by simpa using p, by have := pt.len; omega, ?_⟩
    simp [At, el]
  cases x with
  | «at» w ns =>
    have pp := parts_at cc ok.at
    have e2 : ¬ w = "repeat" ∧ ¬ w = "forever" := by cases ok.at <;> simp
    rw [linesI_at]
    simp [sh_law_lines_b3, I.toD, metK_lst ha, e2.1, e2.2]
    have e2' : ¬ ("repeat" : Str) = w ∧ ¬ ("forever" : Str) = w := ⟨fun q => e2.1 q.symm, fun q => e2.2 q.symm⟩
    simp [e2'.1, e2'.2, metK_lst ha]
    rw [lc_str pp.1 pp.2]
    · have e := row_join pp.1 pp.2
      simp at e
      simp [lJoin, e, op_append ha l1]
      refine ⟨ph.set hn, hn, ?_⟩
      have := set_get (o' := .lst (List.map D.str ys ++ [D.str (rowS (D.str w :: List.map D.int ns))])) ha
      simpa [At] using this
    · intro d hd
      simp [sh_law_lines_e2]
  | rep m b =>
    cases d with
    | zero => exact ok.elim
    | succ d =>
      have el : linesI (d + 1) (.rep m b) = rowS [.str "repeat", .int m] :: (linesL d b ++ [("end" : Str)]) := rfl
      have hb : (linesL d b).length ≤ 2000 := by rw [el] at hl; simp at hl; omega
      have q := key b 0 _ d el (ih d b rfl ok.2.2.2 hb _)
      simp [sh_law_lines_b3, I.toD, metK_lst ha, cut_3, cut_2]
      rw [lc_str (parts_rep ok.1 ok.2.1) (by simp)]
      · have e := row_join (parts_rep ok.1 ok.2.1) (by simp)
        simp at e
        simp [lJoin, e, op_append ha l1]
        simpa [I.toD] using q
      · intro d hd
        simp [sh_law_lines_e1]
  | fev b =>
    cases d with
    | zero => exact ok.elim
    | succ d =>
      have el : linesI (d + 1) (.fev b) = rowS [.str "forever"] :: (linesL d b ++ [("end" : Str)]) := rfl
      have hb : (linesL d b).length ≤ 2000 := by rw [el] at hl; simp at hl; omega
      have q := key b 0 _ d el (ih d b rfl ok.2 hb _)
      simp [sh_law_lines_b3, I.toD, metK_lst ha, cut_3, cut_2]
      rw [lc_str parts_fev (by simp)]
      · have e := row_join parts_fev (by simp)
        simp at e
        simp [lJoin, e, op_append ha l1]
        simpa [I.toD] using q
      · intro d hd
        simp [sh_law_lines_e1]
theorem f_llines' (cc : CtOk c) (d : Nat) (s : List I) (ok : ∀ i ∈ s, EOk c d i) (hl : (linesL d s).length ≤ 2000) (k : Nat) (h : AH)
    (ih : ∀ (d' : Nat) (b : List I), d = d' + 1 → (∀ i ∈ b, EOk c d' i) → (linesL d' b).length ≤ 2000 → ∀ h, W (callOf (C (k + d)) "_law_lines" [.tup (toDs b)] h) (New h (linesL d' b))) :
    W (callOf (C (k + d + 1)) "_law_lines" [.tup (toDs s)] h) (New h (linesL d s)) := by
  rw [o_law_lines, toDs_map]
  simp [sh_law_lines]
  refine W_call (P := fun p h' => Pre h h' ∧ ∃ n x, p = (.nx, [some (.tup (s.map I.toD)), some (.obj n), x, none]) ∧ h.length ≤ n ∧ At h' n (linesL d s)) (W_forV (fun pre ρ h' => Pre h h' ∧ ∃ n x, ρ = [some (.tup (s.map I.toD)), some (.obj n), x, none] ∧ h.length ≤ n ∧ At h' n (linesL d pre)) ⟨.new, h.length, none, rfl, Nat.le_refl _, by simp [At, linesL]⟩ ?_ ?_) ?_
  · rintro pre x post ρ h' es ⟨ph, n, x', rfl, hn, ha⟩
    have e4 := f_ll1 (t := some (.tup (s.map I.toD))) (z := none) (k := k) cc (ok x (by rw [es]; simp)) ph hn ha (by
      rw [es, linesL_app, linesL_cons] at hl
      simp at hl
      omega) ih
    simp
    refine W_mono e4 ?_
    rintro p h2 ⟨p1, n', rfl, p2, p3⟩
    simp
    exact ⟨p1, p2, by rw [linesL_snoc]; exact p3⟩
  · rintro ρ h' ⟨p1, n, x, rfl, p2, p3⟩
    exact ⟨p1, n, x, rfl, p2, p3⟩
  · rintro p h' ⟨p1, n, x, rfl, p2, p3⟩
    simp
    exact ⟨n, rfl, p3, p2, p1⟩
theorem f_llines (cc : CtOk c) : ∀ (d : Nat) (s : List I), (∀ i ∈ s, EOk c d i) → (linesL d s).length ≤ 2000 → ∀ (k : Nat) (h : AH), W (callOf (C (k + d + 1)) "_law_lines" [.tup (toDs s)] h) (New h (linesL d s)) := by
  intro d
  induction d with
  | zero =>
    intro s ok hl k h
    exact f_llines' cc 0 s ok hl k h fun d' b q => by omega
  | succ d ih =>
    intro s ok hl k h
    exact f_llines' cc (d + 1) s ok hl k h fun d' b q ok hl => by
      cases Nat.succ.inj q
      exact ih b ok hl k
end Law

namespace Law
open PySem CM
variable {h : AH} {c : Ct} {cn : Nat}
theorem lc_map {τ : Type} {xs : List τ} {f : τ → D} {ys : List Str} {g : τ → Str} {gt : GTg} {ge : G} {ρ : CM.Env} (hy : ys = xs.map g) (hl : xs.length ≤ 100) (hs : ∀ x ∈ xs, W (gt (f x) ρ h) fun ρ1 h1 => h1 = h ∧ ge ρ1 h = .ok (.str (g x)) h) :
    lcK gt gYes ge ρ (.vals (xs.map f)) h = .ok (ys.map D.str) h := by
  subst hy
  refine W_eq (W_lcV (fun pre acc h' => acc = (pre.map g).map D.str ∧ h' = h) (lim100 hl) ⟨rfl, rfl⟩ ?_ fun _ _ q => q)
  rintro pre x post acc h' es hz ⟨rfl, rfl⟩
  refine W_mono (hs x (by rw [es]; simp)) ?_
  rintro ρ1 h1 ⟨rfl, e⟩
  simp [e]
/-- found.extend(a new list) -/
theorem ext_step {h0 : AH} {n : Nat} {xs ys : List Str} (ph : Pre h0 h) (hn : h0.length ≤ n) (ha : At h n xs) (hl : xs.length + ys.length ≤ 2000) :
    ∃ h', mExtend (.obj n) [.obj h.length] (h ++ [.lst (ys.map D.str)]) = .ok .non h' ∧ At h' n (xs ++ ys) ∧ Pre h0 h' := by
  have ha2 : (h ++ [DO.lst (ys.map D.str)])[n]? = some (.lst (xs.map D.str)) := (Pre.new).get ha
  refine ⟨_, op_extend (xs := xs.map D.str) (ys := ys.map D.str) ha2 (by simp) (by simp; exact Nat.le_trans hl (by decide)), ?_, (ph.trans .new).set hn⟩
  have := set_get (o' := .lst (xs.map D.str ++ ys.map D.str)) ha2
  simpa [At] using this
/-- found.append(a text) -/
theorem app_step {h0 : AH} {n : Nat} {xs : List Str} {y : Str} (ph : Pre h0 h) (hn : h0.length ≤ n) (ha : At h n xs) (hl : xs.length ≤ 2000) :
    ∃ h', mAppend (.obj n) [.str y] h = .ok .non h' ∧ At h' n (xs ++ [y]) ∧ Pre h0 h' := by
  refine ⟨_, op_append ha (by simp; exact Nat.le_trans hl (by decide)), ?_, ph.set hn⟩
  have := set_get (o' := .lst (xs.map D.str ++ [D.str y])) ha
  simpa [At] using this
/-- found + a list -/
theorem add_step {h0 : AH} {n m : Nat} {xs ys : List Str} (ph : Pre h0 h) (ha : At h n xs) (hb : At h m ys) (hl : xs.length + ys.length ≤ 2000) :
    ∃ h' n', dAdd (.obj n) (.obj m) h = .ok (.obj n') h' ∧ At h' n' (xs ++ ys) ∧ Pre h0 h' ∧ h0.length ≤ n' ∧ Pre h h' :=
  ⟨_, _, op_add_o ha hb (by simp; exact Nat.le_trans hl (by decide)), by simp [At], ph.trans .new, ph.len, .new⟩
def resS (x : Str × Int) : Str := rowS [.str "resource", .str x.1, .int x.2]
def stoS (x : Int × List Int) : Str := rowS (.str "store" :: .int x.1 :: x.2.map D.int)
def gatS (x : Str) : Str := rowS [.str "gate", .str x]
def scrS (s : List I) : List Str := ("process" : Str) :: linesL 3 s
def M.text (m : M) : List Str := m.res.map resS ++ m.sto.map stoS ++ m.gat.map gatS ++ (m.scr.map scrS).flatten
def ML (m : M) : Prop := ∀ s ∈ m.scr, (linesL 3 s).length ≤ 100
theorem MOk.cc {m : M} (ok : MOk m) : CtOk m.ct := ⟨Nat.le_trans ok.rl (by decide), Nat.le_trans ok.sl (by decide), Nat.le_trans ok.gl (by decide), Nat.le_trans ok.pm (by decide)⟩
theorem parts_res {m : M} (ok : MOk m) {x : Str × Int} (hx : x ∈ m.res) : ∀ p ∈ [D.str "resource", .str x.1, .int x.2], PartOk p := by
  obtain ⟨w, u⟩ := x
  obtain ⟨a1, a2, a3⟩ := ok.ro _ hx
  intro p hp
  simp at hp
  simp only at a1 a2 a3
  rcases hp with rfl | rfl | rfl
  · exact plit (by decide +kernel)
  · rcases a1 with rfl | rfl | rfl <;> exact plit (by decide +kernel)
  · exact pint (by omega) (by omega)
theorem parts_sto {m : M} (ok : MOk m) {x : Int × List Int} (hx : x ∈ m.sto) : (∀ p ∈ (D.str "store" :: .int x.1 :: x.2.map D.int), PartOk p) ∧ (D.str "store" :: .int x.1 :: x.2.map D.int).length ≤ 10 := by
  obtain ⟨w, u⟩ := x
  obtain ⟨a1, a2, a3, a4⟩ := ok.so _ hx
  simp only at a1 a2 a3 a4
  refine ⟨fun p hp => ?_, by simp; omega⟩
  simp at hp
  rcases hp with rfl | rfl | ⟨a, ha, rfl⟩
  · exact plit (by decide +kernel)
  · exact pint (by omega) (by omega)
  · have := a4 a ha
    exact pint (by omega) (by omega)
theorem parts_gat {m : M} (ok : MOk m) {x : Str} (hx : x ∈ m.gat) : ∀ p ∈ [D.str "gate", .str x], PartOk p := by
  intro p hp
  simp at hp
  rcases hp with rfl | rfl
  · exact plit (by decide +kernel)
  · rcases ok.go x hx with rfl | rfl <;> exact plit (by decide +kernel)
theorem flat_len : ∀ {l : List (List I)}, (∀ s ∈ l, (linesL 3 s).length ≤ 100) → ((l.map scrS).flatten).length ≤ 101 * l.length
  | [], _ => by simp
  | x :: l, q => by
    have e1 := flat_len (l := l) fun s hs => q s (List.mem_cons_of_mem _ hs)
    have e2 := q x (by simp)
    have e3 : (scrS x).length = (linesL 3 x).length + 1 := rfl
    rw [List.map_cons, List.flatten_cons, List.length_append, e3, List.length_cons]
    omega
theorem scr_len {m : M} (ml : ML m) {pre post : List (List I)} (e : m.scr = pre ++ post) : ((pre.map scrS).flatten).length ≤ 101 * pre.length := flat_len fun s hs => ml s (by rw [e]; exact List.mem_append_left _ hs)
theorem mJoin_o {a : Str} {n : Nat} {ds : List D} (e : h[n]? = some (.lst ds)) : mJoin (.str a) [.obj n] h = R.opt (joinD a ds) h := by
  show (match seqOf h (.obj n) with | some es => R.opt (joinD a es) h | none => .bad) = _
  simp only [seqOf, e]
theorem text_sb {m : M} (ok : MOk m) : ∀ y ∈ m.text, SB y 210 := by
  intro y hy
  simp only [M.text, List.mem_append, List.mem_map, List.mem_flatten] at hy
  rcases hy with ((⟨x, hx, rfl⟩ | ⟨x, hx, rfl⟩) | ⟨x, hx, rfl⟩) | ⟨l, ⟨s, hs, rfl⟩, hy⟩
  · exact rowS_sb (parts_res ok hx) (by simp)
  · exact rowS_sb (parts_sto ok hx).1 (parts_sto ok hx).2
  · exact rowS_sb (parts_gat ok hx) (by simp)
  · rcases List.mem_cons.mp hy with rfl | hy
    · exact sb_lit (by decide +kernel)
    · obtain ⟨l, hl, hy⟩ := List.mem_flatten.mp hy
      obtain ⟨i, hi, rfl⟩ := List.mem_map.mp hl
      exact linesI_sb ok.cc ((ok.po s hs).1.e i hi) y hy
theorem text_len {m : M} (ok : MOk m) (ml : ML m) : m.text.length ≤ 700 := by
  have e := scr_len ml (pre := m.scr) (post := []) (by simp)
  have := ok.rl; have := ok.sl; have := ok.gl; have := ok.pm
  simp only [M.text, List.length_append, List.length_map]
  omega
theorem text_join {m : M} (ok : MOk m) (ml : ML m) : joinD "\n" (m.text.map D.str) = some (.str (Txt.join "\n" m.text)) :=
  joinD_ok sb_lf (text_sb ok) (Nat.le_trans (Nat.mul_le_mul_right _ (text_len ok ml)) (by decide))
theorem f_format (m : M) (ok : MOk m) (ml : ML m) (k : Nat) : W (callOf (C (k + 14)) "format_model" [m.toD] h) fun d h' => d = .str (Txt.join "\n" m.text) ∧ Pre h h' := by
  rw [o_format_model]
  simp [sh_format_model]
  refine W_call (f_need m ok k) ?_
  rintro d h1 ⟨rfl, ph⟩
  have tl := text_len ok ml
  have tl2 := scr_len ml (pre := m.scr) (post := []) (by simp)
  have := ok.rl; have := ok.sl; have := ok.gl; have := ok.pm
  obtain ⟨ry, hry⟩ : ∃ ys, ys = m.res.map resS := ⟨_, rfl⟩
  obtain ⟨sy, hsy⟩ : ∃ ys, ys = m.sto.map stoS := ⟨_, rfl⟩
  obtain ⟨gy, hgy⟩ : ∃ ys, ys = m.gat.map gatS := ⟨_, rfl⟩
  have rl : ry.length ≤ 4 := by rw [hry]; simpa
  have sl : sy.length ≤ 3 := by rw [hsy]; simpa
  have gl : gy.length ≤ 3 := by rw [hgy]; simpa
  have tx : m.text = ry ++ sy ++ gy ++ (m.scr.map scrS).flatten := by rw [hry, hsy, hgy]; rfl
  simp [M.toD]
  rw [lc_map hry (by omega)]
  · simp
    obtain ⟨h2, e2, ha, p2⟩ : ∃ h2, h2 = h1 ++ [DO.lst (ry.map D.str)] ∧ At h2 h1.length ry ∧ Pre h1 h2 := ⟨_, rfl, by simp [At], .new⟩
    rw [← e2, metK_lst ha]
    simp
    rw [lc_map hsy (by omega)]
    · simp
      obtain ⟨h3, e3, ha3, p3⟩ := ext_step (ys := sy) p2 (Nat.le_refl _) ha (by omega)
      rw [e3]
      simp
      rw [metK_lst ha3]
      simp
      rw [lc_map hgy (by omega)]
      · simp
        obtain ⟨h4, e4, ha4, p4⟩ := ext_step (ys := gy) p3 (Nat.le_refl _) ha3 (by simp; omega)
        rw [e4]
        simp
        obtain ⟨A, hA⟩ : ∃ A : List (Option D), A = [some m.toD, some (D.tup (List.map resD m.res)), some (D.tup (List.map stoD m.sto)), some (D.tup (List.map D.str m.gat)), some (D.tup (List.map scrD m.scr)), some (.obj h1.length)] := ⟨_, rfl⟩
        refine W_call (P := fun p h' => Pre h1 h' ∧ At h' h1.length m.text ∧ ∃ ρ, p = (.nx, ρ) ∧ ρ[5]? = some (some (.obj h1.length))) (W_forV (fun pre ρ h' => Pre h1 h' ∧ At h' h1.length (ry ++ sy ++ gy ++ (pre.map scrS).flatten) ∧ ∃ x, ρ = A ++ [x, none, none, none, none]) ⟨p4, by simpa [At] using ha4, none, by simp [hA, M.toD]⟩ ?_ ?_) ?_
        · rintro pre x post ρ h' es ⟨ph', hb, z, rfl⟩
          subst hA
          have lx := ml x (by rw [es]; simp)
          have lp := scr_len ml es
          have lq : pre.length ≤ 5 := by
            have := ok.pm
            rw [es] at this
            simp at this
            omega
          simp [sh_format_model_b1]
          rw [metK_lst hb]
          simp
          have e := f_slines ok.cc 3 x ((ok.po x (by rw [es]; simp)).1.e) (by omega) (k + 8) h'
          rw [show k + 8 + 3 + 2 = k + 13 from rfl] at e
          simp only [scrD]
          refine W_call e ?_
          rintro r h5 ⟨q, rfl, hq, hqn, ph5⟩
          have hb5 : At h5 h1.length (ry ++ sy ++ gy ++ (pre.map scrS).flatten) := ph5.get hb
          obtain ⟨h6, e6, ha6, p6⟩ := ext_step (ys := scrS x) (ph'.trans ph5) (Nat.le_refl _) hb5 (by simp [scrS]; simp at lp; omega)
          have l7 : ([D.str "process"] ++ (linesL 3 x).map D.str).length ≤ LIM := by
            simp
            exact Nat.le_trans (show (linesL 3 x).length + 1 ≤ 101 by omega) (by decide)
          simp [scrS] at l7 e6
          simp [staK_obj hq, lstK_ap, l7]
          rw [e6]
          simp
          refine ⟨p6, ?_⟩
          simpa [At] using ha6
        · rintro ρ h' ⟨p1, p2, x, rfl⟩
          subst hA
          exact ⟨p1, by rw [tx]; exact p2, _, rfl, rfl⟩
        · rintro p h' ⟨p1, p2, ρ, rfl, e5⟩
          simp [e5]
          rw [mJoin_o p2, text_join ok ml]
          simp
          exact ph.trans p1
      · intro x hx
        have e := f_joined (h := h3) (parts_gat ok hx) (by simp) (k + 12)
        rw [show k + 12 + 1 = k + 13 from rfl] at e
        simp [sh_format_model_e2, e, gatS]
    · intro x hx
      have e := f_joined (h := h2) (parts_sto ok hx).1 (parts_sto ok hx).2 (k + 12)
      rw [show k + 12 + 1 = k + 13 from rfl] at e
      have l := (parts_sto ok hx).2
      have l2 : (D.str "store" :: D.int x.1 :: List.map D.int x.2).length ≤ LIM := Nat.le_trans l (by decide)
      simp at l2
      simp [stoD, sh_format_model_e3, e, stoS, tupK_ap, l2]
  · intro x hx
    have e := f_joined (h := h1) (parts_res ok hx) (by simp) (k + 12)
    rw [show k + 12 + 1 = k + 13 from rfl] at e
    simp [resD, sh_format_model_e4, e, resS]
end Law

namespace Law
open PySem CM
variable {h : AH} {c : Ct} {cn : Nat}
theorem row2 {a b : D} : rowS [a, b] = partS a ++ " " ++ partS b := by
  unfold rowS
  rw [show ∀ ys : List Str, Txt.join " " ys = Str.join " " ys from fun ys => StrLaws.glued_eq_join " " ys]
  rfl
theorem row3 {a b c : D} : rowS [a, b, c] = partS a ++ " " ++ (partS b ++ " " ++ partS c) := by
  unfold rowS
  rw [show ∀ ys : List Str, Txt.join " " ys = Str.join " " ys from fun ys => StrLaws.glued_eq_join " " ys]
  rfl
theorem lit_res : ("resource " : Str) = "resource" ++ (" " : Str) := by decide +kernel
theorem lit_gate : ("gate " : Str) = "gate" ++ (" " : Str) := by decide +kernel
theorem small_str {a b : Str} (e1 : a.length ≤ 400) (e2 : b.length ≤ 400) : a.length + b.length ≤ LIM := Nat.le_trans (show a.length + b.length ≤ 800 by omega) (by decide)
theorem f_text (m : M) (ok : MOk m) (ml : ML m) (k : Nat) : W (callOf (C (k + 6)) "_law_text" [m.toD] h) (New h m.text) := by
  rw [o_law_text]
  have tl := text_len ok ml
  have tl2 := scr_len ml (pre := m.scr) (post := []) (by simp)
  have := ok.rl; have := ok.sl; have := ok.gl; have := ok.pm
  obtain ⟨ry, hry⟩ : ∃ ys, ys = m.res.map resS := ⟨_, rfl⟩
  obtain ⟨sy, hsy⟩ : ∃ ys, ys = m.sto.map stoS := ⟨_, rfl⟩
  obtain ⟨gy, hgy⟩ : ∃ ys, ys = m.gat.map gatS := ⟨_, rfl⟩
  have rl : ry.length ≤ 4 := by rw [hry]; simpa
  have sl : sy.length ≤ 3 := by rw [hsy]; simpa
  have gl : gy.length ≤ 3 := by rw [hgy]; simpa
  have tx : m.text = ry ++ sy ++ gy ++ (m.scr.map scrS).flatten := by rw [hry, hsy, hgy]; rfl
  simp [sh_law_text, M.toD]
  obtain ⟨B, hB⟩ : ∃ B : Option D, B = some (D.tup [D.tup (List.map resD m.res), D.tup (List.map stoD m.sto), D.tup (List.map D.str m.gat), D.tup (List.map scrD m.scr)]) := ⟨_, rfl⟩
  rw [lc_map hry (by omega)]
  · simp
    obtain ⟨h2, e2, ha, p2⟩ : ∃ h2, h2 = h ++ [DO.lst (ry.map D.str)] ∧ At h2 h.length ry ∧ Pre h h2 := ⟨_, rfl, by simp [At], .new⟩
    rw [← e2, ← hB]
    refine W_call (P := fun p h' => Pre h h' ∧ At h' h.length (ry ++ sy) ∧ ∃ x y, p = (.nx, [B, some (.obj h.length), x, y, none, none, none, none, none])) (W_forV (fun pre ρ h' => Pre h h' ∧ At h' h.length (ry ++ pre.map stoS) ∧ ∃ x y, ρ = [B, some (.obj h.length), x, y, none, none, none, none, none]) ⟨p2, by simpa using ha, none, none, rfl⟩ ?_ ?_) ?_
    · rintro pre x post ρ h' es ⟨ph', hb, z, y, rfl⟩
      have hx : x ∈ m.sto := by rw [es]; simp
      have ps := parts_sto ok hx
      have hpre : pre.length ≤ 3 := by
        have := ok.sl
        rw [es] at this
        simp at this
        omega
      have l1 : [D.int x.1].length + (x.2.map D.int).length ≤ LIM := Nat.le_trans (show _ ≤ 10 by have := ps.2; simp at this ⊢; omega) (by decide)
      simp [stoD, sh_law_text_b4]
      rw [metK_lst hb]
      simp [op_add_t l1]
      have pi : ∀ p ∈ (D.int x.1 :: x.2.map D.int), PartOk p := fun p hp => ps.1 p (List.mem_cons_of_mem _ hp)
      have pl : (D.int x.1 :: x.2.map D.int).length ≤ 10 := by have := ps.2; simp at this ⊢; omega
      rw [lc_str pi pl]
      · simp
        have l2 : [D.str "store"].length + ((D.int x.1 :: x.2.map D.int).map fun d => D.str (partS d)).length ≤ LIM := Nat.le_trans (show _ ≤ 11 by have := ps.2; simp at this ⊢; omega) (by decide)
        rw [op_add_o (a := [D.str "store"]) (b := (D.int x.1 :: x.2.map D.int).map fun d => D.str (partS d)) (by simp) (by simp) l2]
        simp
        rw [mJoin_o (ds := (D.str "store" :: D.int x.1 :: x.2.map D.int).map fun d => D.str (partS d)) (by simp [partS]), row_join ps.1 ps.2]
        simp
        obtain ⟨h5, e5⟩ : ∃ h5, h5 = h' ++ [DO.lst [D.str "store"], DO.lst (D.str (partS (D.int x.1)) :: List.map (fun d => D.str (partS d)) (List.map D.int x.2)), DO.lst (D.str "store" :: D.str (partS (D.int x.1)) :: List.map (fun d => D.str (partS d)) (List.map D.int x.2))] := ⟨_, rfl⟩
        have p5 : Pre h' h5 := ⟨_, e5⟩
        simp at e5
        rw [← e5]
        obtain ⟨h6, e6, ha6, p6⟩ := app_step (y := stoS x) (ph'.trans p5) (Nat.le_refl _) (p5.get hb) (by simp; omega)
        simp only [stoS] at e6
        rw [e6]
        simp
        refine ⟨p6, ?_⟩
        simpa [At] using ha6
      · intro d hd
        simp [sh_law_text_e3]
    · rintro ρ h' ⟨p1, p2, x, y, rfl⟩
      exact ⟨p1, by rw [hsy]; exact p2, _, _, rfl⟩
    · rintro p h3 ⟨p3, ha3, x, y, rfl⟩
      simp [hB]
      rw [← hB, lc_map hgy (by omega)]
      · simp
        obtain ⟨h4, n4, e4, ha4, p4, hn4, _⟩ := add_step (h := h3 ++ [DO.lst (gy.map D.str)]) (ys := gy) (p3.trans .new) (Pre.new.get ha3) (m := h3.length) (by simp [At]) (by simp; omega)
        rw [e4]
        simp [hB]
        rw [← hB]
        refine W_call (P := fun p h' => Pre h h' ∧ ∃ n x y z, p = (.nx, [B, some (.obj n), x, y, z, none, none, none, none]) ∧ h.length ≤ n ∧ At h' n m.text) (W_forV (fun pre ρ h' => Pre h h' ∧ ∃ n x y z, ρ = [B, some (.obj n), x, y, z, none, none, none, none] ∧ h.length ≤ n ∧ At h' n (ry ++ sy ++ gy ++ (pre.map scrS).flatten)) ⟨p4, n4, _, _, _, rfl, hn4, by simpa [At] using ha4⟩ ?_ ?_) ?_
        · rintro pre x post ρ h' es ⟨ph', n, z, y, w, rfl, hn, hb⟩
          have lx := ml x (by rw [es]; simp)
          have lp := scr_len ml es
          have lq : pre.length ≤ 5 := by
            have := ok.pm
            rw [es] at this
            simp at this
            omega
          simp at lp
          simp [sh_law_text_b1]
          obtain ⟨h5, n5, e5, ha5, p5, hn5, q5⟩ := add_step (h := h' ++ [DO.lst ([("process" : Str)].map D.str)]) (ys := ["process"]) (ph'.trans .new) (Pre.new.get hb) (m := h'.length) (by simp [At]) (by simp; omega)
          simp at e5
          rw [e5]
          simp
          have e := f_llines ok.cc 3 x ((ok.po x (by rw [es]; simp)).1.e) (by omega) (k + 1) h5
          rw [show k + 1 + 3 + 1 = k + 5 from rfl] at e
          simp only [scrD]
          refine W_call e ?_
          rintro r h6 ⟨q, rfl, hq, hqn, ph6⟩
          obtain ⟨h7, n7, e7, ha7, p7, hn7, _⟩ := add_step (p5.trans ph6) (ph6.get ha5) hq (by simp; omega)
          simp only [kc_ap]
          rw [e7]
          simp
          refine ⟨p7, hn7, ?_⟩
          simpa [At, scrS] using ha7
        · rintro ρ h' ⟨p1, n, x, y, z, rfl, p2, p3⟩
          exact ⟨p1, n, x, y, z, rfl, p2, by rw [tx]; exact p3⟩
        · rintro p h' ⟨p1, n, x, y, z, rfl, p2, p3⟩
          simp
          exact ⟨n, rfl, p3, p2, p1⟩
      · intro x hx
        have sx : SB x 20 := by rcases ok.go x hx with rfl | rfl <;> exact sb_lit (by decide +kernel)
        have l := small_str (a := "gate ") (b := x) (by decide +kernel) (by have := sx.1; omega)
        simp [sh_law_text_e2, op_add_s l]
        rw [gatS, row2, lit_gate]
        rfl
  · intro x hx
    have sx : SB x.1 20 := by rcases (ok.ro x hx).1 with e | e | e <;> rw [e] <;> exact sb_lit (by decide +kernel)
    have l1 := small_str (a := "resource ") (b := x.1) (by decide +kernel) (by have := sx.1; omega)
    have z0 : (" " : Str).length = 1 := by decide +kernel
    have zr : ("resource " : Str).length = 9 := by decide +kernel
    have l2 := small_str (a := "resource " ++ x.1) (b := " ") (by rw [app_len, zr]; have := sx.1; omega) (by omega)
    have a3 := (ok.ro x hx).2
    have su := sI_sb (i := x.2) (by omega) (by omega)
    have l3 := small_str (a := "resource " ++ x.1 ++ " ") (b := sI x.2) (by rw [app_len, app_len, zr, z0]; have := sx.1; omega) (by have := su.1; omega)
    simp [resD, sh_law_text_e5, op_add_s l1, op_add_s l2, op_strI (i := x.2) (lt_pow (by omega)), op_add_s l3]
    rw [resS, row3, lit_res]
    simp only [partS, app_assoc]
end Law

namespace Law
open PySem CM
variable {h : AH} {c : Ct} {cn : Nat}
theorem f_same {x : Str} (sx : SB x 200000) (k : Nat) : callOf (C (k + 1)) "_law_same" [.str x, .str x] h = .ok (.bl true) h := by
  rw [o_law_same]
  have e : bRepr [.str x] h = .ok (.str (PyData.shown (.str x))) h := by
    have el : (PyData.shown (.str x)).length ≤ sizeLine := Nat.le_trans (StrLaws.reprText_len x sx.2) (Nat.le_trans (show 10 * x.length + 2 ≤ 2000002 by have := sx.1; omega) (by decide))
    show (if ((PyData.str x).showable && !(PyData.str x).hasDict && decide ((PyData.shown (.str x)).length ≤ sizeLine) && decide ((PyData.str x).depth ≤ 40)) = true then R.ok (D.str (PyData.shown (.str x))) h else .bad) = _
    rw [decide_eq_true el]
    rfl
  simp [sh_law_same, e]
/-! the pen -/
def PenAt (n : Nat) (h : AH) : Prop := ∃ a b c : Int, h[n]? = some (.lst [.int a, .int b, .int c])
structure Hx (n : Nat) (h h' : AH) : Prop where
  len : h.length ≤ h'.length
  pen : PenAt n h'
  keep : ∀ (i : Nat) (o : DO), i ≠ n → h[i]? = some o → h'[i]? = some o
theorem Hx.refl {n : Nat} (p : PenAt n h) : Hx n h h := ⟨Nat.le_refl _, p, fun _ _ _ e => e⟩
theorem Hx.trans {n : Nat} {a b c : AH} (p : Hx n a b) (q : Hx n b c) : Hx n a c := ⟨Nat.le_trans p.len q.len, q.pen, fun i o hi e => q.keep i o hi (p.keep i o hi e)⟩
theorem PenAt.lt {n : Nat} (p : PenAt n h) : n < h.length := by
  obtain ⟨a, b, c, e⟩ := p
  exact (List.getElem?_eq_some_iff.mp e).1
theorem Hx.pre {n : Nat} {a b : AH} (pa : PenAt n a) (p : Pre a b) : Hx n a b := by
  obtain ⟨x, y, z, e⟩ := pa
  exact ⟨p.len, ⟨x, y, z, p.get e⟩, fun i o _ e => p.get e⟩
theorem Hx.snoc {n : Nat} {a b : AH} {o : DO} (p : Hx n a b) : Hx n a (b ++ [o]) := p.trans (.pre p.pen .new)
theorem pen_set {n : Nat} {a b c : Int} (e : h[n]? = some (.lst [.int a, .int b, .int c])) {a' b' c' : Int} : ∃ h', h' = h.set n (.lst [.int a', .int b', .int c']) ∧ h'[n]? = some (.lst [.int a', .int b', .int c']) ∧ Hx n h h' := by
  refine ⟨_, rfl, set_get e, by simp, ⟨_, _, _, set_get e⟩, fun i o hi eo => ?_⟩
  rw [List.getElem?_set_ne (fun q => hi q.symm)]
  exact eo
theorem ix30 : L2.ixN 3 0 = some 0 := rfl
theorem ix31 : L2.ixN 3 1 = some 1 := rfl
theorem ix32 : L2.ixN 3 2 = some 2 := rfl
theorem f_draw {n : Nat} (p : PenAt n h) {many : Int} (h1 : 0 < many) (h2 : many ≤ 1000) (k : Nat) : W (callOf (C (k + 1)) "_law_draw" [.obj n, .int many] h) fun d h' => ∃ v : Int, d = .int v ∧ 0 ≤ v ∧ v < many ∧ Hx n h h' := by
  rw [o_law_draw]
  obtain ⟨a, b, c, e⟩ := p
  by_cases ha : 0 < a
  · obtain ⟨h', e1, e2, x1⟩ := pen_set e (a' := a / many) (b' := b) (c' := c)
    simp [sh_law_draw, op_ix_obj e, ha, op_mod1 h1, op_div1 h1 (show many < 2 ^ 64 by omega), subK2_ap (j := 0) e ix30]
    rw [← e1]
    exact ⟨Int.emod_nonneg _ (by omega), Int.emod_lt_of_pos _ h1, x1⟩
  · obtain ⟨h', e1, e2, x1⟩ := pen_set e (a' := a) (b' := b) (c' := c + 1)
    obtain ⟨h'', e3, e4, x2⟩ := pen_set e2 (a' := a) (b' := (b * 48271 + 1013 * (c + 1) + 11) % 2147483647) (c' := c + 1)
    obtain ⟨b', hb⟩ : ∃ b' : Int, b' = (b * 48271 + 1013 * (c + 1) + 11) % 2147483647 := ⟨_, rfl⟩
    have b0 : 0 ≤ b' := by omega
    have b1 : b' < 2147483647 := by omega
    have sb : smallI b' = true := decide_eq_true ⟨by omega, by omega⟩
    rw [← hb] at e3 e4
    simp [sh_law_draw, op_ix_obj e, ha, subK2_ap (j := 2) e ix32]
    rw [← e1]
    simp [op_ix_obj e2, op_mul2 (show smallI 48271 = true by decide), op_mul1 (show smallI 1013 = true by decide), op_mod1 (show (0 : Int) < 2147483647 by decide), subK2_ap (j := 1) e2 ix31]
    rw [← hb, ← e3]
    simp [op_ix_obj e4, op_mul1 sb, op_mul1 (show smallI 40692 = true by decide), op_mul2 (show smallI 69621 = true by decide), op_mod1 (show (0 : Int) < 2147483629 by decide), op_mod1 (show (0 : Int) < 2147483647 by decide), op_div1 (show (0 : Int) < 16 by decide) (show (16 : Int) < 2 ^ 64 by decide), op_mod1 h1]
    exact ⟨Int.emod_nonneg _ (by omega), Int.emod_lt_of_pos _ h1, x1.trans x2⟩
end Law

namespace Law
open PySem CM
variable {h : AH} {c : Ct} {cn : Nat}
theorem f_pick {n t : Nat} {ds : List D} (p : PenAt n h) (e : h[t]? = some (.lst ds)) (ht : t ≠ n) (h1 : 0 < ds.length) (h2 : ds.length ≤ 1000) (k : Nat) : W (callOf (C (k + 2)) "_law_pick" [.obj n, .obj t] h) fun d h' => d ∈ ds ∧ Hx n h h' := by
  rw [o_law_pick]
  simp [sh_law_pick, op_len_obj e]
  refine W_call (f_draw p (many := ds.length) (by omega) (by omega) k) ?_
  rintro d h' ⟨v, rfl, v0, v1, x⟩
  obtain ⟨j, rfl⟩ := Int.eq_ofNat_of_zero_le v0
  have hj : j < ds.length := by omega
  have e2 : L2.atI ds (j : Int) = some ds[j] := atI_k (by simp [hj])
  simp [op_ix_obj (x.keep t _ ht e), e2]
  exact x
/-! a piece that gives back what it takes -/
def Bal (d : Nat) (s : List I) : Prop := ∀ (r m : Int), 0 ≤ m → heldL r d s m = some m
theorem Bal.nil {d : Nat} : Bal d [] := fun _ _ _ => rfl
theorem Bal.app {d : Nat} {s t : List I} (p : Bal d s) (q : Bal d t) : Bal d (s ++ t) := fun r m hm => by
  rw [heldL_app, p r m hm]
  exact q r m hm
def AtomL (c : Ct) (s : List I) : Prop := ∀ i ∈ s, ∃ w ns, i = .at w ns ∧ AOk c w ns
structure Chunk (c : Ct) (s : List I) : Prop where
  ne : s ≠ []
  len : s.length ≤ 5
  at_ : AtomL c s
  bal : ∀ d, Bal d s
theorem bal1 {w : Str} {ns : List Int} (h1 : w ≠ "take") (h2 : w ≠ "give") (d : Nat) : Bal d [.at w ns] := fun r m hm => by
  simp [heldL, heldI_at, h1, h2]
theorem atom1 {w : Str} {ns : List Int} (ok : AOk c w ns) : AtomL c [.at w ns] := fun i hi => by
  cases List.mem_singleton.mp hi
  exact ⟨w, ns, rfl, ok⟩
theorem chunk1 {w : Str} {ns : List Int} (ok : AOk c w ns) (h1 : w ≠ "take") (h2 : w ≠ "give") : Chunk c [.at w ns] := ⟨by simp, by simp, atom1 ok, bal1 h1 h2⟩
theorem chunk3 {r q t : Int} (h1 : 0 ≤ r) (h2 : r < c.r) (h3 : 0 ≤ q) (h4 : q ≤ 9) (h5 : 0 ≤ t) (h6 : t ≤ 999) : Chunk c [.at "take" [r, q], .at "wait" [t], .at "give" [r]] := by
  refine ⟨by simp, by simp, fun i hi => ?_, fun d r' m hm => ?_⟩
  · simp at hi
    rcases hi with rfl | rfl | rfl
    · exact ⟨_, _, rfl, .take h1 h2 h3 h4⟩
    · exact ⟨_, _, rfl, .wait h5 h6⟩
    · exact ⟨_, _, rfl, .give h1 h2⟩
  · by_cases e : r = r'
    · simp [heldL, heldI_at, e]
      omega
    · simp [heldL, heldI_at, e]
theorem chunk5 {r q r2 q2 t : Int} (h1 : 0 ≤ r) (h2 : r < c.r) (h3 : 0 ≤ q) (h4 : q ≤ 9) (h1' : 0 ≤ r2) (h2' : r2 < c.r) (h3' : 0 ≤ q2) (h4' : q2 ≤ 9) (h5 : 0 ≤ t) (h6 : t ≤ 999) : Chunk c [.at "take" [r, q], .at "take" [r2, q2], .at "wait" [t], .at "give" [r], .at "give" [r2]] := by
  refine ⟨by simp, by simp, fun i hi => ?_, fun d r' m hm => ?_⟩
  · simp at hi
    rcases hi with rfl | rfl | rfl | rfl | rfl
    · exact ⟨_, _, rfl, .take h1 h2 h3 h4⟩
    · exact ⟨_, _, rfl, .take h1' h2' h3' h4'⟩
    · exact ⟨_, _, rfl, .wait h5 h6⟩
    · exact ⟨_, _, rfl, .give h1 h2⟩
    · exact ⟨_, _, rfl, .give h1' h2'⟩
  · by_cases e : r = r' <;> by_cases e2 : r2 = r'
    · have l1 : ¬ m + 1 < 0 := by omega
      have l2 : ¬ m < 0 := by omega
      simp [heldL, heldI_at, e, e2, l1, l2]
    · simp [heldL, heldI_at, e, e2]
      omega
    · simp [heldL, heldI_at, e, e2]
      omega
    · simp [heldL, heldI_at, e, e2]
def CPost (c : Ct) (n : Nat) (h : AH) (d : D) (h' : AH) : Prop := ∃ s, d = .tup (toDs s) ∧ Chunk c s ∧ Hx n h h'
structure CtG (c : Ct) : Prop where
  r : c.r ≤ 4
  s : c.s ≤ 3
  g : c.g ≤ 3
  p : c.p ≤ 4
  p1 : 1 ≤ c.p
theorem f_chunk (cg : CtG c) {n : Nat} (p : PenAt n h) (k : Nat) : W (callOf (C (k + 3)) "_law_chunk" [.obj n, .tup c.ds] h) (CPost c n h) := by
  obtain ⟨g1, g2, g3, g4, g5⟩ := cg
  rw [o_law_chunk]
  simp [sh_law_chunk, Ct.ds]
  refine W_call (f_draw p (by omega) (by omega) (k + 1)) ?_
  rintro d h1 ⟨v, rfl, v0, v1, x1⟩
  have tail : ∀ (ρ : CM.Env) (h1 : AH) , Hx n h h1 → ρ[0]? = some (some (.obj n)) → W ((callOf (C (k + 2)) "_law_draw" [.obj n, .int 7] h1).bind fun d h2 => .ok (D.tup [.tup [.str "wait", d]]) h2) (CPost c n h) := by
    intro ρ h1 x1 e
    refine W_call (f_draw x1.pen (by omega) (by omega) (k + 1)) ?_
    rintro d h2 ⟨t, rfl, t0, t1, x2⟩
    exact ⟨[.at "wait" [t]], rfl, chunk1 (.wait t0 (by omega)) (by simp) (by simp), x1.trans x2⟩
  by_cases a : v < 3
  · by_cases a2 : 0 < c.r
    · simp [a, a2]
      refine W_call (f_draw x1.pen (many := c.r) (by omega) (by omega) (k + 1)) ?_
      rintro d h2 ⟨r, rfl, r0, r1, x2⟩
      simp
      refine W_call (f_draw x2.pen (by omega) (by omega) (k + 1)) ?_
      rintro d h3 ⟨q, rfl, q0, q1, x3⟩
      simp
      refine W_call (f_draw x3.pen (by omega) (by omega) (k + 1)) ?_
      rintro d h4 ⟨t, rfl, t0, t1, x4⟩
      simp
      exact ⟨_, rfl, chunk3 r0 r1 q0 (by omega) t0 (by omega), ((x1.trans x2).trans x3).trans x4⟩
    · simp [a, a2, show ¬ v = 3 by omega, show ¬ v = 4 by omega, show ¬ v = 5 by omega, show ¬ v = 6 by omega, show ¬ v = 7 by omega]
      refine W_call (f_draw x1.pen (by omega) (by omega) (k + 1)) ?_
      rintro d h2 ⟨t, rfl, t0, t1, x2⟩
      simp
      exact ⟨[.at "wait" [t]], rfl, chunk1 (.wait t0 (by omega)) (by simp) (by simp), x1.trans x2⟩
  · have hv : v = 3 ∨ v = 4 ∨ v = 5 ∨ v = 6 ∨ v = 7 ∨ v = 8 := by omega
    rcases hv with rfl | rfl | rfl | rfl | rfl | rfl
    · by_cases a2 : 0 < c.s
      · simp [a2]
        refine W_call (f_draw x1.pen (many := c.s) (by omega) (by omega) (k + 1)) ?_
        rintro d h2 ⟨r, rfl, r0, r1, x2⟩
        simp
        refine W_call (f_draw x2.pen (by omega) (by omega) (k + 1)) ?_
        rintro d h3 ⟨q, rfl, q0, q1, x3⟩
        simp
        refine W_call (f_pick (n := n) (t := h3.length) (ds := [.tup [.str "put", .int r, .int q], .tup [.str "get", .int r]]) (x3.snoc.pen) (by simp) (by have := x3.pen.lt; omega) (by simp) (by simp) k) ?_
        rintro d h4 ⟨hd, x4⟩
        have x5 := ((x1.trans x2).trans x3.snoc).trans x4
        simp at hd ⊢
        rcases hd with rfl | rfl
        · exact ⟨[.at "put" [r, q]], rfl, chunk1 (.put r0 r1 q0 (by omega)) (by simp) (by simp), x5⟩
        · exact ⟨[.at "get" [r]], rfl, chunk1 (.get r0 r1) (by simp) (by simp), x5⟩
      · simp [a2]
        refine W_call (f_draw x1.pen (by omega) (by omega) (k + 1)) ?_
        rintro d h2 ⟨t, rfl, t0, t1, x2⟩
        simp
        exact ⟨[.at "wait" [t]], rfl, chunk1 (.wait t0 (by omega)) (by simp) (by simp), x1.trans x2⟩
    · by_cases a2 : 0 < c.g
      · simp [a2]
        refine W_call (f_pick (n := n) (t := h1.length) (ds := [.str "pass", .str "open", .str "shut"]) (x1.snoc.pen) (by simp) (by have := x1.pen.lt; omega) (by simp) (by simp) k) ?_
        rintro d h2 ⟨hd, x2⟩
        simp
        refine W_call (f_draw x2.pen (many := c.g) (by omega) (by omega) (k + 1)) ?_
        rintro d' h3 ⟨q, rfl, q0, q1, x3⟩
        have x5 := (x1.snoc.trans x2).trans x3
        simp at hd ⊢
        rcases hd with rfl | rfl | rfl
        · exact ⟨[.at "pass" [q]], rfl, chunk1 (.pass q0 q1) (by simp) (by simp), x5⟩
        · exact ⟨[.at "open" [q]], rfl, chunk1 (.opn q0 q1) (by simp) (by simp), x5⟩
        · exact ⟨[.at "shut" [q]], rfl, chunk1 (.shut q0 q1) (by simp) (by simp), x5⟩
      · simp [a2]
        refine W_call (f_draw x1.pen (by omega) (by omega) (k + 1)) ?_
        rintro d h2 ⟨t, rfl, t0, t1, x2⟩
        simp
        exact ⟨[.at "wait" [t]], rfl, chunk1 (.wait t0 (by omega)) (by simp) (by simp), x1.trans x2⟩
    · simp
      refine W_call (f_draw x1.pen (many := c.p) (by omega) (by omega) (k + 1)) ?_
      rintro d h2 ⟨t, rfl, t0, t1, x2⟩
      simp
      exact ⟨[.at "rouse" [t]], rfl, chunk1 (.rouse t0 t1) (by simp) (by simp), x1.trans x2⟩
    · simp
      refine W_call (f_draw x1.pen (by omega) (by omega) (k + 1)) ?_
      rintro d h2 ⟨t, rfl, t0, t1, x2⟩
      simp
      exact ⟨[.at "mark" [t]], rfl, chunk1 (.mark t0 (by omega)) (by simp) (by simp), x1.trans x2⟩
    · by_cases a2 : (1 : Int) < c.r
      · simp [a2]
        refine W_call (f_draw x1.pen (many := c.r) (by omega) (by omega) (k + 1)) ?_
        rintro d h2 ⟨r, rfl, r0, r1, x2⟩
        simp
        refine W_call (f_draw x2.pen (many := c.r) (by omega) (by omega) (k + 1)) ?_
        rintro d h3 ⟨r', rfl, r0', r1', x3⟩
        simp
        refine W_call (f_draw x3.pen (by omega) (by omega) (k + 1)) ?_
        rintro d h4 ⟨t, rfl, t0, t1, x4⟩
        simp
        refine W_call (f_draw x4.pen (by omega) (by omega) (k + 1)) ?_
        rintro d h5 ⟨q, rfl, q0, q1, x5⟩
        simp
        refine W_call (f_draw x5.pen (by omega) (by omega) (k + 1)) ?_
        rintro d h6 ⟨q', rfl, q0', q1', x6⟩
        have l : [D.tup [.str "take", .int r, .int q], .tup [.str "take", .int r', .int q']].length + [D.tup [.str "wait", .int t], .tup [.str "give", .int r], .tup [.str "give", .int r']].length ≤ LIM := Nat.le_trans (show _ ≤ 100 by simp) (by decide)
        simp [op_add_t l]
        exact ⟨_, rfl, chunk5 r0 r1 q0 (by omega) r0' r1' q0' (by omega) t0 (by omega), ((((x1.trans x2).trans x3).trans x4).trans x5).trans x6⟩
      · simp [a2]
        refine W_call (f_draw x1.pen (by omega) (by omega) (k + 1)) ?_
        rintro d h2 ⟨t, rfl, t0, t1, x2⟩
        simp
        exact ⟨[.at "wait" [t]], rfl, chunk1 (.wait t0 (by omega)) (by simp) (by simp), x1.trans x2⟩
    · simp
      refine W_call (f_draw x1.pen (by omega) (by omega) (k + 1)) ?_
      rintro d h2 ⟨t, rfl, t0, t1, x2⟩
      simp
      exact ⟨[.at "wait" [t]], rfl, chunk1 (.wait t0 (by omega)) (by simp) (by simp), x1.trans x2⟩
end Law

namespace Law
open PySem CM
variable {h : AH} {c : Ct} {cn : Nat}
theorem toDs_app (s t : List I) : toDs (s ++ t) = toDs s ++ toDs t := by rw [toDs_map, toDs_map, toDs_map, List.map_append]
theorem toDs_len (s : List I) : (toDs s).length = s.length := by rw [toDs_map, List.length_map]
theorem op_add_s2 {s t : List I} (l : s.length + t.length ≤ 200) : dAdd (.tup (toDs s)) (.tup (toDs t)) h = .ok (.tup (toDs (s ++ t))) h := by
  rw [op_add_t (by rw [toDs_len, toDs_len]; exact Nat.le_trans l (by decide)), toDs_app]
structure Bdy (c : Ct) (d : Nat) (s : List I) (n : Nat) : Prop where
  iok : ∀ i ∈ s, IOk c d i
  bal : Bal d s
  ln : (linesL d s).length ≤ n
  len : s.length ≤ n
theorem Bdy.mono {d : Nat} {s : List I} {n m : Nat} (b : Bdy c d s n) (l : n ≤ m) : Bdy c d s m := ⟨b.iok, b.bal, Nat.le_trans b.ln l, Nat.le_trans b.len l⟩
theorem Bdy.app {d : Nat} {s t : List I} {n m : Nat} (b : Bdy c d s n) (q : Bdy c d t m) : Bdy c d (s ++ t) (n + m) := by
  refine ⟨fun i hi => ?_, b.bal.app q.bal, ?_, ?_⟩
  · rcases List.mem_append.mp hi with z | z
    · exact b.iok i z
    · exact q.iok i z
  · rw [linesL_app, List.length_append]; exact Nat.add_le_add b.ln q.ln
  · rw [List.length_append]; exact Nat.add_le_add b.len q.len
theorem atoms_ln {d : Nat} : ∀ {s : List I}, AtomL c s → (linesL d s).length = s.length
  | [], _ => rfl
  | x :: s, q => by
    obtain ⟨w, ns, rfl, _⟩ := q x (by simp)
    rw [linesL_cons, List.length_append, linesI_at, atoms_ln (s := s) fun i hi => q i (List.mem_cons_of_mem _ hi)]
    simp
    omega
theorem Bdy.atoms {d : Nat} {s : List I} {n : Nat} (a : AtomL c s) (b : Bal d s) (l : s.length ≤ n) : Bdy c d s n := by
  refine ⟨fun i hi => ?_, b, by rw [atoms_ln a]; exact l, l⟩
  obtain ⟨w, ns, rfl, ok⟩ := a i hi
  cases d <;> exact ok
theorem Bdy.one {d : Nat} {w : Str} {ns : List Int} (ok : AOk c w ns) (h1 : w ≠ "take") (h2 : w ≠ "give") : Bdy c d [.at w ns] 1 := .atoms (atom1 ok) (bal1 h1 h2 d) (by simp)
theorem Bdy.nil {d : Nat} : Bdy c d [] 0 := ⟨by simp, .nil, by simp [linesL], by simp⟩
theorem Bdy.rep {d : Nat} {b : List I} {n : Nat} {m : Int} (q : Bdy c d b n) (hb : b ≠ []) (h1 : 0 ≤ m) (h2 : m ≤ 5) (hn : n ≤ 100) : Bdy c (d + 1) [.rep m b] (n + 2) := by
  refine ⟨fun i hi => ?_, fun r x hx => ?_, ?_, by simp⟩
  · cases List.mem_singleton.mp hi
    exact ⟨h1, h2, hb, Nat.le_trans q.len hn, q.iok⟩
  · have e := q.bal r x hx
    have e2 : heldI r (d + 1) (.rep m b) x = some x := by
      unfold heldI
      exact if_pos e
    simp [heldL, e2]
  · have e : linesL (d + 1) [.rep m b] = rowS [.str "repeat", .int m] :: (linesL d b ++ [("end" : Str)]) := by simp [linesL, linesI]
    rw [e]
    have := q.ln
    simp
    omega
/-- what a drawn script is -/
structure Scr (c : Ct) (s : List I) : Prop where
  ok : SOk c s
  snd : Sound c s
  len : s.length ≤ 101
  ln : (linesL 3 s).length ≤ 100
theorem Bdy.scr {s : List I} {n : Nat} (q : Bdy c 3 s n) (hn : n ≤ 100) : Scr c s := by
  refine ⟨?_, ⟨fun r _ _ => q.bal r 0 (by omega), fun b hb => (q.iok _ hb).elim⟩, Nat.le_trans q.len (by omega), Nat.le_trans q.ln hn⟩
  rcases List.eq_nil_or_concat s with rfl | ⟨p, l, rfl⟩
  · exact .inl rfl
  · have := q.len
    simp at this
    exact .inr ⟨p, l, by simp, by omega, fun i hi => q.iok i (by simp [hi]), .inl (q.iok l (by simp))⟩
theorem Bdy.fev {s b : List I} {n m : Nat} (q : Bdy c 3 s n) (p : Bdy c 2 b m) (hb : b ≠ []) (ht : 0 < (b.map (timeI 2)).sum) (hn : n + m + 2 ≤ 100) : Scr c (s ++ [.fev b]) := by
  refine ⟨.inr ⟨s, _, rfl, by have := q.len; omega, q.iok, .inr ⟨b, rfl, hb, by have := p.len; omega, p.iok⟩⟩, ⟨fun r _ _ => ?_, fun b' hb' => ?_⟩, by have := q.len; simp; omega, ?_⟩
  · rw [heldL_snoc, q.bal r 0 (by omega)]
    have e := p.bal r 0 (by omega)
    have e2 : heldI r 3 (.fev b) 0 = some 0 := by
      unfold heldI
      exact if_pos ⟨rfl, e⟩
    exact e2
  · rcases List.mem_append.mp hb' with z | z
    · exact (q.iok _ z).elim
    · cases List.mem_singleton.mp z
      exact ht
  · have e : linesI 3 (.fev b) = rowS [.str "forever"] :: (linesL 2 b ++ [("end" : Str)]) := rfl
    rw [linesL_snoc, e]
    have := q.ln
    have := p.ln
    simp
    omega
theorem time_nn : ∀ {d : Nat} {i : I}, IOk c d i → 0 ≤ timeI d i
  | d, .at w ns, ok => by
    rw [timeI_at]
    have ok : AOk c w ns := by cases d <;> exact ok
    cases ok <;> simp <;> omega
  | 0, .rep _ _, ok => ok.elim
  | 0, .fev _, ok => ok.elim
  | _ + 1, .fev _, ok => ok.elim
  | d + 1, .rep n b, ok => by
    show 0 ≤ n * (b.map (timeI d)).sum
    refine Int.mul_nonneg ok.1 ?_
    have : ∀ l : List I, (∀ i ∈ l, 0 ≤ timeI d i) → 0 ≤ (l.map (timeI d)).sum := by
      intro l hl
      induction l with
      | nil => simp
      | cons x l ih =>
        have := hl x (by simp)
        have := ih fun i hi => hl i (List.mem_cons_of_mem _ hi)
        simp
        omega
    exact this b fun i hi => time_nn (ok.2.2.2.2 i hi)
theorem times_nn {d : Nat} : ∀ {l : List I}, (∀ i ∈ l, IOk c d i) → 0 ≤ (l.map (timeI d)).sum
  | [], _ => by simp
  | x :: l, hl => by
    have := time_nn (hl x (by simp))
    have := times_nn (l := l) fun i hi => hl i (List.mem_cons_of_mem _ hi)
    simp
    omega
/-! _law_body -/
def BPost (c : Ct) (n : Nat) (h : AH) (d : D) (h' : AH) : Prop := ∃ s, d = .tup (toDs s) ∧ AtomL c s ∧ (∀ d, Bal d s) ∧ s.length ≤ 8 ∧ Hx n h h'
theorem f_lbody (cg : CtG c) {n : Nat} (p : PenAt n h) {many : Int} (m0 : 0 ≤ many) (m1 : many ≤ 10) (k : Nat) : W (callOf (C (k + 4)) "_law_body" [.obj n, .tup c.ds, .int many] h) (BPost c n h) := by
  rw [o_law_body]
  simp [sh_law_body]
  rw [irK_ap (by omega) (by omega)]
  simp
  refine W_call (P := fun q h' => Hx n h h' ∧ ∃ s x y, q = (.nx, [some (.obj n), some (.tup c.ds), some (.int many), some (.tup (toDs s)), x, y]) ∧ AtomL c s ∧ (∀ d, Bal d s) ∧ s.length ≤ 8) (W_forV (fun pre ρ h' => Hx n h h' ∧ ∃ s x y, ρ = [some (.obj n), some (.tup c.ds), some (.int many), some (.tup (toDs s)), x, y] ∧ AtomL c s ∧ (∀ d, Bal d s) ∧ s.length ≤ 8) ⟨.refl p, [], none, none, rfl, by simp [AtomL], fun _ => .nil, by simp⟩ ?_ ?_) ?_
  · rintro pre x post ρ h' es ⟨x1, s, z, y, rfl, a1, a2, a3⟩
    simp [sh_law_body_b1]
    refine W_call (f_chunk cg x1.pen k) ?_
    rintro d h2 ⟨t, rfl, ct, x2⟩
    by_cases hl : (s.length : Int) + t.length ≤ 8
    · simp [toDs_len, hl]
      rw [op_add_s2 (by omega)]
      simp
      exact ⟨x1.trans x2, s ++ t, rfl, fun i hi => (List.mem_append.mp hi).elim (a1 i) (ct.at_ i), fun d => (a2 d).app (ct.bal d), by simp; omega⟩
    · simp [toDs_len, hl]
      exact ⟨x1.trans x2, s, rfl, a1, a2, a3⟩
  · rintro ρ h' ⟨x1, s, z, y, rfl, a1, a2, a3⟩
    exact ⟨x1, s, z, y, rfl, a1, a2, a3⟩
  · rintro q h' ⟨x1, s, z, y, rfl, a1, a2, a3⟩
    simp
    exact ⟨s, rfl, a1, a2, a3, x1⟩
def SPost (c : Ct) (n : Nat) (h : AH) (d : D) (h' : AH) : Prop := ∃ s, d = .tup (toDs s) ∧ Scr c s ∧ Hx n h h'
theorem f_lscript (cg : CtG c) {n : Nat} (p : PenAt n h) (k : Nat) : W (callOf (C (k + 5)) "_law_script" [.obj n, .tup c.ds] h) (SPost c n h) := by
  rw [o_law_script]
  simp [sh_law_script]
  refine W_call (f_draw p (by omega) (by omega) (k + 3)) ?_
  rintro d h1 ⟨v, rfl, v0, v1, x1⟩
  simp
  refine W_call (f_lbody cg x1.pen v0 (by omega) k) ?_
  rintro d h2 ⟨s, rfl, a1, a2, a3, x2⟩
  simp
  refine W_call (f_draw x2.pen (by omega) (by omega) (k + 3)) ?_
  rintro d h3 ⟨w, rfl, w0, w1, x3⟩
  have B0 : Bdy c 3 s 8 := .atoms a1 (a2 3) a3
  have hw : w = 0 ∨ w = 1 ∨ w = 2 ∨ 2 < w := by omega
  rcases hw with rfl | rfl | rfl | hw
  · simp
    exact ⟨s, rfl, B0.scr (by omega), (x1.trans x2).trans x3⟩
  · simp
    refine W_call (f_draw x3.pen (by omega) (by omega) (k + 3)) ?_
    rintro d h4 ⟨v, rfl, v0, v1, x4⟩
    simp
    refine W_call (f_lbody cg x4.pen (show 0 ≤ 1 + v by omega) (by omega) k) ?_
    rintro d h5 ⟨b, rfl, b1, b2, b3, x5⟩
    simp
    refine W_call (f_draw x5.pen (by omega) (by omega) (k + 3)) ?_
    rintro d h6 ⟨t, rfl, t0, t1, x6⟩
    simp
    rw [show [D.tup [D.str "wait", D.int t]] = toDs [.at "wait" [t]] from rfl, op_add_s2 (by simp; omega)]
    simp
    refine W_call (f_draw x6.pen (by omega) (by omega) (k + 3)) ?_
    rintro d h7 ⟨m, rfl, m0, m1, x7⟩
    have B1 : Bdy c 3 [.rep m (b ++ [.at "wait" [t]])] (8 + 1 + 2) := .rep ((Bdy.atoms b1 (b2 2) b3).app (.one (.wait t0 (by omega)) (by simp) (by simp))) (by simp) m0 (by omega) (by omega)
    simp
    rw [show [D.tup [D.str "repeat", D.int m, D.tup (toDs (b ++ [.at "wait" [t]]))]] = toDs [.rep m (b ++ [.at "wait" [t]])] from rfl, op_add_s2 (by simp; omega)]
    simp
    exact ⟨_, rfl, (B0.app B1).scr (by omega), (((((x1.trans x2).trans x3).trans x4).trans x5).trans x6).trans x7⟩
  · simp
    refine W_call (f_draw x3.pen (by omega) (by omega) (k + 3)) ?_
    rintro d h4 ⟨u, rfl, u0, u1, x4⟩
    simp
    refine W_call (f_draw x4.pen (by omega) (by omega) (k + 3)) ?_
    rintro d h5 ⟨t, rfl, t0, t1, x5⟩
    simp
    refine W_call (f_draw x5.pen (by omega) (by omega) (k + 3)) ?_
    rintro d h6 ⟨m, rfl, m0, m1, x6⟩
    have B1 : Bdy c 2 [.rep m [.at "mark" [u], .at "wait" [t]]] (1 + 1 + 2) := .rep ((Bdy.one (.mark u0 (by omega)) (by simp) (by simp)).app (.one (.wait t0 (by omega)) (by simp) (by simp))) (by simp) m0 (by omega) (by omega)
    simp
    refine W_call (f_lbody cg x6.pen (show (0 : Int) ≤ 1 by omega) (by omega) k) ?_
    rintro d h7 ⟨b, rfl, b1, b2, b3, x7⟩
    simp
    rw [show [D.tup [D.str "repeat", D.int m, D.tup [D.tup [D.str "mark", D.int u], D.tup [D.str "wait", D.int t]]]] = toDs [.rep m [.at "mark" [u], .at "wait" [t]]] from rfl, op_add_s2 (by simp; omega)]
    simp
    refine W_call (f_draw x7.pen (by omega) (by omega) (k + 3)) ?_
    rintro d h8 ⟨m', rfl, m0', m1', x8⟩
    have B2 := Bdy.rep (m := m') ((Bdy.atoms (n := 8) b1 (b2 2) b3).app B1) (by simp) m0' (by omega) (by omega)
    simp
    rw [show [D.tup [D.str "repeat", D.int m', D.tup (toDs (b ++ [.rep m [.at "mark" [u], .at "wait" [t]]]))]] = toDs [.rep m' (b ++ [.rep m [.at "mark" [u], .at "wait" [t]]])] from rfl, op_add_s2 (by simp; omega)]
    simp
    exact ⟨_, rfl, (B0.app B2).scr (by omega), ((((((x1.trans x2).trans x3).trans x4).trans x5).trans x6).trans x7).trans x8⟩
  · simp [hw, show ¬ w = 1 by omega, show ¬ w = 2 by omega]
    refine W_call (f_draw x3.pen (by omega) (by omega) (k + 3)) ?_
    rintro d h4 ⟨v, rfl, v0, v1, x4⟩
    simp
    refine W_call (f_lbody cg x4.pen (show 0 ≤ 1 + v by omega) (by omega) k) ?_
    rintro d h5 ⟨b, rfl, b1, b2, b3, x5⟩
    simp
    refine W_call (f_pick (n := n) (t := h5.length) (ds := [.int 2, .int 3, .int 4, .int 6, .int 8, .int 12]) (x5.snoc.pen) (by simp) (by have := x5.pen.lt; omega) (by simp) (by simp) (k + 2)) ?_
    rintro d h6 ⟨hd, x6⟩
    obtain ⟨t, rfl, t0, t1⟩ : ∃ t : Int, d = .int t ∧ 0 < t ∧ t ≤ 12 := by
      simp at hd
      rcases hd with rfl | rfl | rfl | rfl | rfl | rfl <;> exact ⟨_, rfl, by omega, by omega⟩
    have B1 := (Bdy.atoms (c := c) (n := 8) b1 (b2 2) b3).app (.one (.wait (d := t) (by omega) (by omega)) (by simp) (by simp))
    simp
    rw [show [D.tup [D.str "wait", D.int t]] = toDs [.at "wait" [t]] from rfl, op_add_s2 (by simp; omega)]
    simp
    rw [show [D.tup [D.str "forever", D.tup (toDs (b ++ [.at "wait" [t]]))]] = toDs [.fev (b ++ [.at "wait" [t]])] from rfl, op_add_s2 (by simp; omega)]
    simp
    refine ⟨_, rfl, B0.fev B1 (by simp) ?_ (by omega), ((((x1.trans x2).trans x3).trans x4).trans x5.snoc).trans x6⟩
    have e1 := times_nn (c := c) (d := 2) (l := b) fun i hi => B1.iok i (by simp [hi])
    simp [timeI_at]
    omega
end Law

namespace Law
open PySem CM
variable {h : AH} {c : Ct} {cn : Nat}
/-! _law_has_rouse -/
def RPost (h : AH) (r : D) (h' : AH) : Prop := h' = h ∧ ∃ b : Bool, r = .bl b
theorem f_rouse' (d : Nat) (s : List I) (ok : ∀ i ∈ s, EOk c d i) (k : Nat) (h : AH)
    (ih : ∀ (d' : Nat) (b : List I), d = d' + 1 → (∀ i ∈ b, EOk c d' i) → ∀ h, W (callOf (C (k + d)) "_law_has_rouse" [.tup (toDs b)] h) (RPost h)) :
    W (callOf (C (k + d + 1)) "_law_has_rouse" [.tup (toDs s)] h) (RPost h) := by
  rw [o_law_has_rouse, toDs_map]
  simp [sh_law_has_rouse]
  refine W_call (P := fun p h' => h' = h ∧ ((∃ ρ, p = (.nx, ρ)) ∨ ∃ (b : Bool) (ρ : CM.Env), p = (.rt (.bl b), ρ))) (W_forV (fun pre ρ h' => h' = h ∧ ∃ x, ρ = [some (.tup (s.map I.toD)), x]) ⟨rfl, none, rfl⟩ ?_ ?_) ?_
  · rintro pre x post ρ h' es ⟨rfl, z, rfl⟩
    have okx := ok x (by rw [es]; simp)
    cases x with
    | «at» w ns =>
      cases okx.at <;> simp [I.toD, sh_law_has_rouse_b1]
    | rep m b =>
      cases d with
      | zero => exact okx.elim
      | succ d =>
        simp [I.toD, sh_law_has_rouse_b1]
        refine W_call (ih d b rfl okx.2.2.2 h') ?_
        rintro r h2 ⟨rfl, v, rfl⟩
        cases v <;> simp
    | fev b =>
      cases d with
      | zero => exact okx.elim
      | succ d =>
        simp [I.toD, sh_law_has_rouse_b1]
        refine W_call (ih d b rfl okx.2 h') ?_
        rintro r h2 ⟨rfl, v, rfl⟩
        cases v <;> simp
  · rintro ρ h' ⟨rfl, x, rfl⟩
    exact ⟨rfl, .inl ⟨_, rfl⟩⟩
  · rintro p h' ⟨rfl, ⟨ρ, rfl⟩ | ⟨b, ρ, rfl⟩⟩
    · simp
      exact ⟨rfl, _, rfl⟩
    · simp
      exact ⟨rfl, _, rfl⟩
theorem f_rouse : ∀ (d : Nat) (s : List I), (∀ i ∈ s, EOk c d i) → ∀ (k : Nat) (h : AH), W (callOf (C (k + d + 1)) "_law_has_rouse" [.tup (toDs s)] h) (RPost h) := by
  intro d
  induction d with
  | zero =>
    intro s ok k h
    exact f_rouse' 0 s ok k h fun d' b q => by omega
  | succ d ih =>
    intro s ok k h
    exact f_rouse' (d + 1) s ok k h fun d' b q ok => by
      cases Nat.succ.inj q
      exact ih b ok k
/-! _law_pass_time -/
def TB (d : Nat) : Int := 101000 * 1000 ^ d
theorem TB_s {d : Nat} : TB (d + 1) = 1000 * TB d := by
  simp only [TB, Int.pow_succ]
  omega
theorem TB_p : ∀ {d : Nat}, 101000 ≤ TB d
  | 0 => by decide
  | d + 1 => by rw [TB_s]; have := TB_p (d := d); omega
def TPost (d : Nat) (n : Nat) (h : AH) (r : D) (h' : AH) : Prop := h' = h ∧ ∃ v : Int, r = .int v ∧ 0 ≤ v ∧ 1000 * v ≤ n * (10 * TB d)
theorem f_pass' (d : Nat) (s : List I) (calm : Bool) (ok : ∀ i ∈ s, EOk c d i) (k : Nat) (h : AH)
    (ih : ∀ (d' : Nat) (b : List I), d = d' + 1 → (∀ i ∈ b, EOk c d' i) → ∀ h, W (callOf (C (k + d)) "_law_pass_time" [.tup (toDs b), .bl calm] h) (TPost d' b.length h)) :
    W (callOf (C (k + d + 1)) "_law_pass_time" [.tup (toDs s), .bl calm] h) (TPost d s.length h) := by
  have tp := TB_p (d := d)
  rw [o_law_pass_time, toDs_map]
  simp [sh_law_pass_time]
  refine W_call (P := fun p h' => h' = h ∧ ∃ (v : Int) (x : Option D), p = (.nx, [some (.tup (s.map I.toD)), some (.bl calm), some (.int v), x]) ∧ 0 ≤ v ∧ 1000 * v ≤ s.length * (10 * TB d)) (W_forV (fun pre ρ h' => h' = h ∧ ∃ (v : Int) (x : Option D), ρ = [some (.tup (s.map I.toD)), some (.bl calm), some (.int v), x] ∧ 0 ≤ v ∧ 1000 * v ≤ pre.length * (10 * TB d)) ⟨rfl, 0, none, rfl, by omega, by simp⟩ ?_ ?_) ?_
  · rintro pre x post ρ h' es ⟨rfl, v, z, rfl, v0, v1⟩
    have okx := ok x (by rw [es]; simp)
    have el : (((pre ++ [x]).length : Nat) : Int) * (10 * TB d) = pre.length * (10 * TB d) + 10 * TB d := by
      simp
      rw [Int.add_mul]
      omega
    rw [el]
    cases x with
    | «at» w ns =>
      cases okx.at with
      | wait t0 t1 =>
        rename_i t
        cases calm
        · by_cases h1 : 1 < t
          · simp [I.toD, sh_law_pass_time_b1, h1]
            omega
          · simp [I.toD, sh_law_pass_time_b1, h1]
            omega
        · simp [I.toD, sh_law_pass_time_b1]
          omega
      | _ =>
        simp [I.toD, sh_law_pass_time_b1]
        omega
    | rep m b =>
      cases d with
      | zero => exact okx.elim
      | succ d =>
        simp [I.toD, sh_law_pass_time_b1]
        refine W_call (ih d b rfl okx.2.2.2 h') ?_
        rintro r h2 ⟨rfl, u, rfl, u0, u1⟩
        obtain ⟨m0, m1, bl, _⟩ := okx
        simp [op_mul1 (small5 m0 (by omega))]
        have tp2 := TB_p (d := d)
        have e1 : (b.length : Int) * (10 * TB d) ≤ 100 * (10 * TB d) := Int.mul_le_mul_of_nonneg_right (by omega) (by omega)
        have e2 : 0 ≤ m * u := Int.mul_nonneg m0 u0
        have e3 : m * u ≤ 5 * u := Int.mul_le_mul_of_nonneg_right m1 u0
        rw [TB_s] at v1 ⊢
        omega
    | fev b =>
      simp [I.toD, sh_law_pass_time_b1]
      omega
  · rintro ρ h' ⟨rfl, v, x, rfl, v0, v1⟩
    exact ⟨rfl, v, x, rfl, v0, v1⟩
  · rintro p h' ⟨rfl, v, x, rfl, v0, v1⟩
    simp
    exact ⟨rfl, _, rfl, v0, v1⟩
theorem f_pass (calm : Bool) : ∀ (d : Nat) (s : List I), (∀ i ∈ s, EOk c d i) → ∀ (k : Nat) (h : AH), W (callOf (C (k + d + 1)) "_law_pass_time" [.tup (toDs s), .bl calm] h) (TPost d s.length h) := by
  intro d
  induction d with
  | zero =>
    intro s ok k h
    exact f_pass' 0 s calm ok k h fun d' b q => by omega
  | succ d ih =>
    intro s ok k h
    exact f_pass' (d + 1) s calm ok k h fun d' b q ok => by
      cases Nat.succ.inj q
      exact ih b ok k
/-! _law_cost -/
def KPost (h : AH) (r : D) (h' : AH) : Prop := h' = h ∧ ∃ v : Int, r = .int v
theorem TB_lt : ∀ {d : Nat}, d ≤ 2 → TB d ≤ 101000000000
  | 0, _ => by decide
  | 1, _ => by decide
  | 2, _ => by decide
theorem f_cost' (d : Nat) (s : List I) (calm : Bool) (ok : ∀ i ∈ s, EOk c d i) (hd : d ≤ 3) (k : Nat) (h : AH)
    (ih : ∀ (d' : Nat) (b : List I), d = d' + 1 → (∀ i ∈ b, EOk c d' i) → ∀ h, W (callOf (C (k + d + 1)) "_law_cost" [.tup (toDs b), .bl calm] h) (KPost h)) :
    W (callOf (C (k + d + 2)) "_law_cost" [.tup (toDs s), .bl calm] h) (KPost h) := by
  rw [o_law_cost, toDs_map]
  simp [sh_law_cost]
  refine W_call (P := fun p h' => h' = h ∧ ∃ (v : Int) (x y : Option D), p = (.nx, [some (.tup (s.map I.toD)), some (.bl calm), some (.int v), x, y])) (W_forV (fun pre ρ h' => h' = h ∧ ∃ (v : Int) (x y : Option D), ρ = [some (.tup (s.map I.toD)), some (.bl calm), some (.int v), x, y]) ⟨rfl, 1, none, none, rfl⟩ ?_ ?_) ?_
  · rintro pre x post ρ h' es ⟨rfl, v, z, y, rfl⟩
    have okx := ok x (by rw [es]; simp)
    cases x with
    | «at» w ns =>
      cases okx.at <;> simp [I.toD, sh_law_cost_b1]
    | rep m b =>
      cases d with
      | zero => exact okx.elim
      | succ d =>
        simp [I.toD, sh_law_cost_b1]
        refine W_call (ih d b rfl okx.2.2.2 h') ?_
        rintro r h2 ⟨rfl, u, rfl⟩
        simp [op_mul1 (small5 okx.1 (by have := okx.2.1; omega))]
    | fev b =>
      cases d with
      | zero => exact okx.elim
      | succ d =>
        simp [I.toD, sh_law_cost_b1]
        have e := f_pass calm d b okx.2 (k + 1) h'
        rw [show k + 1 + d + 1 = k + (d + 1) + 1 by omega] at e
        refine W_call e ?_
        rintro r h2 ⟨rfl, u, rfl, u0, u1⟩
        have tb := TB_lt (d := d) (by omega)
        have e1 : (b.length : Int) * (10 * TB d) ≤ 100 * (10 * TB d) := Int.mul_le_mul_of_nonneg_right (by have := okx.1; omega) (by have := TB_p (d := d); omega)
        obtain ⟨q, hq⟩ : ∃ q : Int, q = if 1 < u then u else 1 := ⟨_, rfl⟩
        have q0 : 0 < q := by rw [hq]; split <;> omega
        have q1 : q ≤ 101000000000 := by rw [hq]; split <;> omega
        have q2 : 0 ≤ 200 / q := Int.ediv_nonneg (by omega) (by omega)
        have q3 : 200 / q ≤ 200 := Int.ediv_le_self _ (by omega)
        simp
        rw [← hq, op_div1 q0 (by omega)]
        simp
        refine W_call (ih d b rfl okx.2 h2) ?_
        rintro r h3 ⟨rfl, w, rfl⟩
        simp [op_mul1 (small5 (n := 1 + 200 / q) (by omega) (by omega))]
  · rintro ρ h' ⟨rfl, v, x, y, rfl⟩
    exact ⟨rfl, v, x, y, rfl⟩
  · rintro p h' ⟨rfl, v, x, y, rfl⟩
    simp
    exact ⟨rfl, _, rfl⟩
theorem f_cost (calm : Bool) : ∀ (d : Nat) (s : List I), (∀ i ∈ s, EOk c d i) → d ≤ 3 → ∀ (k : Nat) (h : AH), W (callOf (C (k + d + 2)) "_law_cost" [.tup (toDs s), .bl calm] h) (KPost h) := by
  intro d
  induction d with
  | zero =>
    intro s ok hd k h
    exact f_cost' 0 s calm ok hd k h fun d' b q => by omega
  | succ d ih =>
    intro s ok hd k h
    exact f_cost' (d + 1) s calm ok hd k h fun d' b q ok => by
      cases Nat.succ.inj q
      exact ih b ok (by omega) k
end Law

namespace Law
open PySem CM
variable {h : AH} {c : Ct} {cn : Nat}
theorem lc_live {τ : Type} {xs : List τ} {f : τ → D} {n : Nat} {gt : GTg} {ge : G} {ρ : CM.Env} {G' : D → Prop} (e : h[n]? = some (.lst (xs.map f))) (hl : xs.length ≤ 100)
    (hs : ∀ x ∈ xs, W (gt (f x) ρ h) fun ρ1 h1 => h1 = h ∧ W (ge ρ1 h) fun y h3 => h3 = h ∧ G' y) :
    W (lcK gt gYes ge ρ (.live n (xs.map f).length) h) fun acc h' => h' = h ∧ ∀ y ∈ acc, G' y := by
  refine W_lc (fun j acc h' => h' = h ∧ acc.length ≤ j ∧ ∀ y ∈ acc, G' y) (fun j acc h' hj v => ?_) (fun acc h' v => ?_) _ _ _ _ rfl ⟨rfl, by simp, by simp⟩
  · obtain ⟨rfl, v1, v2⟩ := v
    have hj' : j < xs.length := by simpa [IterD.len] using hj
    refine ⟨f xs[j], by simp [IterD.get, e, hj'], W_mono (hs xs[j] (List.getElem_mem hj')) fun ρ1 h1 q => ?_⟩
    obtain ⟨q1, q⟩ := q
    subst q1
    simp
    refine W_mono q ?_
    rintro y h3 ⟨rfl, gy⟩
    refine ⟨Nat.le_trans (show acc.length ≤ 100 by omega) (by decide), rfl, by omega, fun z hz => ?_⟩
    rcases hz with hz | rfl
    · exact v2 z hz
    · exact gy
  · obtain ⟨rfl, v1, v2⟩ := v
    refine ⟨?_, rfl, v2⟩
    simp [IterD.fin, e]
theorem lAny_ex : ∀ {acc : List D}, (∀ y ∈ acc, ∃ b : Bool, y = .bl b) → ∃ b, boolsOf acc = some b
  | [], _ => ⟨[], rfl⟩
  | y :: acc, q => by
    obtain ⟨b, rfl⟩ := q y (by simp)
    obtain ⟨bs, e⟩ := lAny_ex (acc := acc) fun z hz => q z (List.mem_cons_of_mem _ hz)
    exact ⟨b :: bs, by simp [boolsOf, e]⟩
theorem lSum_ex : ∀ {acc : List D}, (∀ y ∈ acc, ∃ b : Int, y = .int b) → ∃ b, intsOf acc = some b
  | [], _ => ⟨[], rfl⟩
  | y :: acc, q => by
    obtain ⟨b, rfl⟩ := q y (by simp)
    obtain ⟨bs, e⟩ := lSum_ex (acc := acc) fun z hz => q z (List.mem_cons_of_mem _ hz)
    exact ⟨b :: bs, by simp [intsOf, e]⟩
def whK2 (gt : GB) (gb : GS) (n : Nat) : Fl × CM.Env → AH → R (Fl × CM.Env) := fun p h2 => match p with
  | (.nx, ρ2) => whLoop gt gb n ρ2 h2
  | (.ct, ρ2) => whLoop gt gb n ρ2 h2
  | (.bk, ρ2) => .ok (.nx, ρ2) h2
  | (.rt d, ρ2) => .ok (.rt d, ρ2) h2
theorem whK2_nx {gt : GB} {gb : GS} {n : Nat} {ρ : CM.Env} : whK2 gt gb n (.nx, ρ) h = whLoop gt gb n ρ h := (rfl)
def whK (gt : GB) (gb : GS) (n : Nat) (ρ : CM.Env) : Bool → AH → R (Fl × CM.Env) := fun b h1 => if b then (gb ρ h1).bind (whK2 gt gb n) else .ok (.nx, ρ) h1
theorem whK_t {gt : GB} {gb : GS} {n : Nat} {ρ : CM.Env} : whK gt gb n ρ true h = (gb ρ h).bind (whK2 gt gb n) := (rfl)
theorem whK_f {gt : GB} {gb : GS} {n : Nat} {ρ : CM.Env} : whK gt gb n ρ false h = .ok (.nx, ρ) h := (rfl)
theorem wh_s {gt : GB} {gb : GS} {n : Nat} {ρ : CM.Env} : whLoop gt gb (n + 1) ρ h = (gt ρ h).bind (whK gt gb n ρ) := (rfl)
theorem Scr.nil : Scr c [] := Bdy.nil.scr (by omega)
theorem f_fit {n : Nat} {h0 : AH} {calm : Bool} {room : Int} {sc : Option D} (k : Nat) (hn : h0.length ≤ n) : ∀ (m fuel : Nat) (xs : List (List I)) (h : AH), m ≤ xs.length → m < fuel → Pre h0 h → h[n]? = some (.lst (xs.map scrD)) → (∀ s ∈ xs, Scr c s) → xs.length ≤ 100 →
    W (whLoop (sh_law_fitted_t3 (C (k + 5))) (sh_law_fitted_b1 (C (k + 5))) fuel [sc, some (.int room), some (.obj n), some (.int ((m : Int) - 1)), some (.bl calm), none] h) fun p h' => ∃ (xs' : List (List I)) (ρ : CM.Env), p = (.nx, ρ) ∧ ρ[2]? = some (some (.obj n)) ∧ h'[n]? = some (.lst (xs'.map scrD)) ∧ xs'.length = xs.length ∧ (∀ s ∈ xs', Scr c s) ∧ Pre h0 h'
  | _, 0, _, _, _, hf, _, _, _, _ => by omega
  | 0, fuel + 1, xs, h, hm, hf, ph, e, ok, hl => by
    rw [wh_s]
    simp [sh_law_fitted_t3, whK_f]
    exact ⟨xs, e, rfl, ok, ph⟩
  | m + 1, fuel + 1, xs, h, hm, hf, ph, e, ok, hl => by
    rw [wh_s]
    have a0 : (((m + 1 : Nat) : Int) - 1) = m := by omega
    rw [a0]
    simp [sh_law_fitted_t3, ivK_obj e]
    have lcl := lc_live (xs := xs) (f := scrD) (gt := gtName 5) (ge := sh_law_fitted_e2 (C (k + 5))) (ρ := [sc, some (.int room), some (.obj n), some (.int (m : Int)), some (.bl calm), none]) (G' := fun y => ∃ b : Int, y = .int b) e hl (by
      intro x hx
      have e3 := f_cost (c := c) calm 3 x (ok x hx).ok.e (by omega) k h
      rw [show k + 3 + 2 = k + 5 from rfl] at e3
      simp [sh_law_fitted_e2, scrD]
      exact e3)
    rw [List.length_map] at lcl
    refine W_call lcl ?_
    rintro acc h1 ⟨rfl, ha⟩
    obtain ⟨bs, eb⟩ := lSum_ex ha
    simp [lSum, eb]
    by_cases hr : room < bs.sum
    · have ei : L2.ixN (xs.map scrD).length (m : Int) = some m := by
        unfold L2.ixN
        rw [if_pos (by omega), if_pos (by simp; omega)]
        rfl
      simp [hr, whK_t, sh_law_fitted_b1, subK2_ap e ei]
      rw [whK2_nx]
      have e4 : h1.set n (.lst ((xs.map scrD).set m (.tup []))) = h1.set n (.lst ((xs.set m []).map scrD)) := by
        rw [List.map_set]; rfl
      rw [e4]
      have e5 := f_fit (calm := calm) (room := room) (sc := sc) k hn m fuel (xs.set m []) (h1.set n (.lst ((xs.set m []).map scrD))) (by simp; omega) (by omega) (ph.set hn) (set_get e) (fun s hs => by
        rcases List.mem_or_eq_of_mem_set hs with z | rfl
        · exact ok s z
        · exact Scr.nil) (by simpa using hl)
      refine W_mono e5 ?_
      rintro p h2 ⟨xs', ρ, rfl, r1, r2, r3, r4, r5⟩
      exact ⟨xs', ρ, rfl, r1, r2, by simpa using r3, r4, r5⟩
    · simp [hr, whK_f]
      exact ⟨xs, e, rfl, ok, ph⟩
theorem f_fitted {t : Nat} {room : Int} {xs : List (List I)} (e : h[t]? = some (.lst (xs.map scrD))) (ok : ∀ s ∈ xs, Scr c s) (hl : xs.length ≤ 100) (k : Nat) :
    W (callOf (C (k + 6)) "_law_fitted" [.obj t, .int room] h) fun d h' => ∃ xs' : List (List I), d = .tup (xs'.map scrD) ∧ xs'.length = xs.length ∧ (∀ s ∈ xs', Scr c s) ∧ Pre h h' := by
  rw [o_law_fitted]
  have e0 : (h ++ [DO.lst (xs.map scrD)])[t]? = some (.lst (xs.map scrD)) := Pre.new.get e
  have e1 : (h ++ [DO.lst (xs.map scrD)])[h.length]? = some (.lst (xs.map scrD)) := by simp
  simp [sh_law_fitted, op_list_o e, op_len_obj e0, ivK_obj e1]
  have lcl := lc_live (xs := xs) (f := scrD) (gt := gtName 5) (ge := sh_law_fitted_e4 (C (k + 5))) (ρ := [some (.obj t), some (.int room), some (.obj h.length), some (.int ((xs.length : Int) - 1)), none, none]) (G' := fun y => ∃ b : Bool, y = .bl b) e1 hl (by
    intro x hx
    have e3 := f_rouse 3 x (ok x hx).ok.e (k + 1) (h ++ [DO.lst (xs.map scrD)])
    rw [show k + 1 + 3 + 1 = k + 5 from rfl] at e3
    simp [sh_law_fitted_e4, scrD]
    refine W_mono e3 ?_
    rintro y h3 ⟨rfl, b, rfl⟩
    cases b <;> simp)
  rw [List.length_map] at lcl
  refine W_call lcl ?_
  rintro acc h1 ⟨rfl, ha⟩
  obtain ⟨bs, eb⟩ := lAny_ex ha
  simp [lAny, eb]
  have e5 := f_fit (c := c) (h0 := h) (calm := !bs.any id) (room := room) (sc := some (.obj t)) k (Nat.le_refl _) xs.length 100000 xs (h ++ [DO.lst (xs.map scrD)]) (Nat.le_refl _) (by omega) .new e1 ok hl
  refine W_call e5 ?_
  rintro p h2 ⟨xs', ρ, rfl, r1, r2, r3, r4, r5⟩
  simp [r1, op_tuple_o r2]
  exact ⟨xs', rfl, r3, r4, r5⟩
/-! _law_store -/
theorem f_lstore {n : Nat} (p : PenAt n h) (k : Nat) : W (callOf (C (k + 2)) "_law_store" [.obj n] h) fun d h' => ∃ x : Int × List Int, d = stoD x ∧ (1 ≤ x.1 ∧ x.1 ≤ 4 ∧ (x.2.length : Int) ≤ x.1 ∧ ∀ y ∈ x.2, 0 ≤ y ∧ y ≤ 99) ∧ Hx n h h' := by
  rw [o_law_store]
  simp [sh_law_store]
  refine W_call (f_draw p (by omega) (by omega) k) ?_
  rintro d h1 ⟨v, rfl, v0, v1, x1⟩
  simp
  refine W_call (f_draw x1.pen (many := 1 + v + 1) (by omega) (by omega) k) ?_
  rintro d h2 ⟨w, rfl, w0, w1, x2⟩
  simp
  rw [irK_ap (by omega) (by omega)]
  simp
  refine W_call (P := fun acc h' => Hx n h h' ∧ ∃ ys : List Int, acc = ys.map D.int ∧ ys.length = w.toNat ∧ ∀ y ∈ ys, 0 ≤ y ∧ y ≤ 99) (W_lcV (xs := List.range w.toNat) (fun pre acc h' => Hx n h h' ∧ ∃ ys : List Int, acc = ys.map D.int ∧ ys.length = pre.length ∧ ∀ y ∈ ys, 0 ≤ y ∧ y ≤ 99) (lim100 (by simp; omega)) ⟨x1.trans x2, [], rfl, rfl, by simp⟩ ?_ ?_) ?_
  · rintro pre x post acc h' es hz ⟨y1, ys, rfl, l, q⟩
    simp [sh_law_store_e1]
    refine W_mono (f_draw y1.pen (by omega) (by omega) k) ?_
    rintro d h3 ⟨u, rfl, u0, u1, x3⟩
    refine ⟨y1.trans x3, ys ++ [u], by simp, by simp [l], fun y hy => ?_⟩
    rcases List.mem_append.mp hy with z | z
    · exact q y z
    · cases List.mem_singleton.mp z
      omega
  · rintro acc h' ⟨y1, ys, rfl, l, q⟩
    exact ⟨y1, ys, rfl, by simpa using l, q⟩
  · rintro acc h' ⟨y1, ys, rfl, l, q⟩
    simp [lTup]
    exact ⟨1 + v, ys, rfl, ⟨by omega, by omega, by omega, q⟩, y1⟩
end Law

namespace Law
open PySem CM
variable {h : AH} {c : Ct} {cn : Nat}
/-- a comprehension over range(w), one drawn thing a turn -/
theorem lc_draw {τ : Type} {n : Nat} {f : τ → D} {Gd : τ → Prop} {gt : GTg} {ge : G} {ρ : CM.Env} {w : Int} {h0 : AH} (Kp : AH → Prop) (x0 : Hx n h0 h) (k0 : Kp h) (w1 : w ≤ 100)
    (hs : ∀ (i : Nat) (h : AH), Hx n h0 h → Kp h → W (gt (.int i) ρ h) fun ρ1 h1 => W (ge ρ1 h1) fun d h' => ∃ x, d = f x ∧ Gd x ∧ Hx n h0 h' ∧ Kp h') :
    W (lcK gt gYes ge ρ (.vals ((List.range w.toNat).map fun i => D.int (i : Nat))) h) fun acc h' => ∃ xs : List τ, acc = xs.map f ∧ xs.length = w.toNat ∧ (∀ x ∈ xs, Gd x) ∧ Hx n h0 h' ∧ Kp h' := by
  refine W_lcV (xs := List.range w.toNat) (fun pre acc h' => ∃ xs : List τ, acc = xs.map f ∧ xs.length = pre.length ∧ (∀ x ∈ xs, Gd x) ∧ Hx n h0 h' ∧ Kp h') (lim100 (by simp; omega)) ⟨[], rfl, rfl, by simp, x0, k0⟩ ?_ ?_
  · rintro pre x post acc h' es hz ⟨xs, rfl, l, g, y1, k1⟩
    refine W_mono (hs x h' y1 k1) fun ρ1 h1 q => ?_
    simp
    refine W_mono q ?_
    rintro d h3 ⟨u, rfl, gu, x3, k3⟩
    refine ⟨xs ++ [u], by simp, by simp [l], fun y hy => ?_, x3, k3⟩
    rcases List.mem_append.mp hy with z | z
    · exact g y z
    · cases List.mem_singleton.mp z
      exact gu
  · rintro acc h' ⟨xs, rfl, l, g, y1, k1⟩
    exact ⟨xs, rfl, by simpa using l, g, y1, k1⟩
def MPost (most : Nat) (n : Nat) (h : AH) (d : D) (h' : AH) : Prop := ∃ m : M, d = m.toD ∧ MOk m ∧ ML m ∧ m.scr.length ≤ most ∧ Hx n h h'
theorem scr_mok {m : M} {c : Ct} (hc : m.ct = c) (rl : m.res.length ≤ 4) (ro : ∀ x ∈ m.res, (x.1 = "fifo" ∨ x.1 = "rank" ∨ x.1 = "preempt") ∧ 1 ≤ x.2 ∧ x.2 ≤ 3) (sl : m.sto.length ≤ 3) (so : ∀ x ∈ m.sto, 1 ≤ x.1 ∧ x.1 ≤ 4 ∧ (x.2.length : Int) ≤ x.1 ∧ ∀ y ∈ x.2, 0 ≤ y ∧ y ≤ 99)
    (gl : m.gat.length ≤ 3) (go : ∀ x ∈ m.gat, x = "open" ∨ x = "shut") (pl : 1 ≤ m.scr.length) (pm : m.scr.length ≤ 6) (po : ∀ s ∈ m.scr, Scr c s) : MOk m ∧ ML m := by
  subst hc
  exact ⟨⟨rl, ro, sl, so, gl, go, pl, pm, fun s hs => ⟨(po s hs).ok, (po s hs).snd, (po s hs).len⟩⟩, fun s hs => (po s hs).ln⟩
theorem f_lmodel {n : Nat} (p : PenAt n h) (k : Nat) : W (callOf (C (k + 7)) "_law_model" [.obj n, .int 4, .int 500] h) (MPost 4 n h) := by
  rw [o_law_model]
  simp [sh_law_model]
  refine W_call (f_draw p (by omega) (by omega) (k + 5)) ?_
  rintro d h1 ⟨v, rfl, v0, v1, x1⟩
  simp
  have hn1 := x1.pen.lt
  obtain ⟨t, ht⟩ : ∃ t, t = h1.length := ⟨_, rfl⟩
  have et : (h1 ++ [DO.lst [D.str "fifo", D.str "rank", D.str "preempt"]])[t]? = some (.lst [D.str "fifo", D.str "rank", D.str "preempt"]) := by simp [ht]
  have tn : t ≠ n := by omega
  rw [← ht]
  refine W_call (f_draw x1.snoc.pen (by omega) (by omega) (k + 5)) ?_
  rintro d h2 ⟨w, rfl, w0, w1, x2⟩
  have x2' := x1.snoc.trans x2
  simp
  rw [irK_ap (by omega) (by omega)]
  simp
  refine W_call (lc_draw (τ := Str × Int) (f := resD) (n := n) (h0 := h) (w := w) (Gd := fun x => (x.1 = "fifo" ∨ x.1 = "rank" ∨ x.1 = "preempt") ∧ 1 ≤ x.2 ∧ x.2 ≤ 3) (fun h => h[t]? = some (.lst [D.str "fifo", D.str "rank", D.str "preempt"])) x2' (x2.keep t _ tn et) (by omega) ?_) ?_
  · intro i h y1 y2
    simp [sh_law_model_e4]
    refine W_call (f_pick y1.pen y2 tn (by simp) (by simp) (k + 4)) ?_
    rintro d h3 ⟨hd, y3⟩
    simp
    refine W_call (f_draw y3.pen (by omega) (by omega) (k + 5)) ?_
    rintro d' h4 ⟨u, rfl, u0, u1, y4⟩
    simp at hd ⊢
    have yy := (y1.trans y3).trans y4
    have yk := y4.keep t _ tn (y3.keep t _ tn y2)
    rcases hd with rfl | rfl | rfl
    · exact ⟨"fifo", 1 + u, rfl, ⟨by simp, by omega, by omega⟩, yy, yk⟩
    · exact ⟨"rank", 1 + u, rfl, ⟨by simp, by omega, by omega⟩, yy, yk⟩
    · exact ⟨"preempt", 1 + u, rfl, ⟨by simp, by omega, by omega⟩, yy, yk⟩
  · rintro acc h3 ⟨rs, rfl, lr, gr, x3, _⟩
    simp
    obtain ⟨a, ha⟩ : ∃ a, a = h3.length := ⟨_, rfl⟩
    have ea : (h3 ++ [DO.lst (rs.map resD)])[a]? = some (.lst (rs.map resD)) := by simp [ha]
    have an : a ≠ n := by have := x3.pen.lt; omega
    rw [← ha]
    refine W_call (f_draw x3.snoc.pen (by omega) (by omega) (k + 5)) ?_
    rintro d h4 ⟨w', rfl, w0', w1', x4⟩
    have x4' := x3.snoc.trans x4
    simp
    rw [irK_ap (by omega) (by omega)]
    simp
    refine W_call (lc_draw (τ := Int × List Int) (f := stoD) (n := n) (h0 := h) (w := w') (Gd := fun x => 1 ≤ x.1 ∧ x.1 ≤ 4 ∧ (x.2.length : Int) ≤ x.1 ∧ ∀ y ∈ x.2, 0 ≤ y ∧ y ≤ 99) (fun h => h[a]? = some (.lst (rs.map resD))) x4' (x4.keep a _ an ea) (by omega) ?_) ?_
    · intro i h y1 y2
      simp [sh_law_model_e3]
      refine W_mono (f_lstore y1.pen (k + 4)) ?_
      rintro d h5 ⟨x, rfl, gx, y3⟩
      exact ⟨x.1, x.2, rfl, gx, y1.trans y3, y3.keep a _ an y2⟩
    · rintro acc h5 ⟨ss, rfl, ls, gs, x5, ka5⟩
      simp
      obtain ⟨b, hb⟩ : ∃ b, b = h5.length := ⟨_, rfl⟩
      have eb : (h5 ++ [DO.lst (ss.map stoD)])[b]? = some (.lst (ss.map stoD)) := by simp [hb]
      have bn : b ≠ n := by have := x5.pen.lt; omega
      rw [← hb]
      refine W_call (f_draw x5.snoc.pen (by omega) (by omega) (k + 5)) ?_
      rintro d h6 ⟨w2, rfl, w20, w21, x6⟩
      have x6' := x5.snoc.trans x6
      simp
      rw [irK_ap (by omega) (by omega)]
      simp
      refine W_call (lc_draw (τ := Str) (f := D.str) (n := n) (h0 := h) (w := w2) (Gd := fun x => x = "open" ∨ x = "shut") (fun h => h[a]? = some (.lst (rs.map resD)) ∧ h[b]? = some (.lst (ss.map stoD))) x6' ⟨x6.keep a _ an (Pre.new.get ka5), x6.keep b _ bn eb⟩ (by omega) ?_) ?_
      · intro i h y1 y2
        simp [sh_law_model_e2]
        refine W_mono (f_pick (n := n) (t := h.length) (ds := [.str "open", .str "shut"]) y1.snoc.pen (by simp) (by have := y1.pen.lt; omega) (by simp) (by simp) (k + 4)) ?_
        rintro d h7 ⟨hd, y3⟩
        have yy := y1.snoc.trans y3
        have k1 := y3.keep a _ an (Pre.new.get y2.1)
        have k2 := y3.keep b _ bn (Pre.new.get y2.2)
        simp at hd
        rcases hd with rfl | rfl
        · exact ⟨"open", rfl, by simp, yy, k1, k2⟩
        · exact ⟨"shut", rfl, by simp, yy, k1, k2⟩
      · rintro acc h7 ⟨gs', rfl, lg, gg, x7, ka7, kb7⟩
        obtain ⟨e, he⟩ : ∃ e, e = h7.length := ⟨_, rfl⟩
        have ee : (h7 ++ [DO.lst (gs'.map D.str)])[e]? = some (.lst (gs'.map D.str)) := by simp [he]
        have ea8 : (h7 ++ [DO.lst (gs'.map D.str)])[a]? = some (.lst (rs.map resD)) := Pre.new.get ka7
        have eb8 : (h7 ++ [DO.lst (gs'.map D.str)])[b]? = some (.lst (ss.map stoD)) := Pre.new.get kb7
        have en : e ≠ n := by have := x7.pen.lt; omega
        obtain ⟨c, hc⟩ : ∃ c : Ct, c = ⟨rs.length, ss.length, gs'.length, (1 + v).toNat⟩ := ⟨_, rfl⟩
        have cg : CtG c := by rw [hc]; exact ⟨by simp; omega, by simp; omega, by simp; omega, by simp; omega, by simp; omega⟩
        have ecd : [D.int rs.length, .int ss.length, .int gs'.length, .int (1 + v)] = c.ds := by
          rw [hc]
          simp [Ct.ds]
          omega
        simp
        rw [← he]
        simp [op_len_obj ea8, op_len_obj eb8, op_len_obj ee]
        rw [ecd, irK_ap (by omega) (by omega)]
        simp
        refine W_call (lc_draw (τ := List I) (f := scrD) (n := n) (h0 := h) (w := 1 + v) (Gd := Scr c) (fun h => h[a]? = some (.lst (rs.map resD)) ∧ h[b]? = some (.lst (ss.map stoD)) ∧ h[e]? = some (.lst (gs'.map D.str))) x7.snoc ⟨ea8, eb8, ee⟩ (by omega) ?_) ?_
        · intro i h y1 y2
          simp [sh_law_model_e1]
          refine W_mono (f_lscript cg y1.pen (k + 1)) ?_
          rintro d h9 ⟨s, rfl, gs, y3⟩
          exact ⟨s, rfl, gs, y1.trans y3, y3.keep a _ an y2.1, y3.keep b _ bn y2.2.1, y3.keep e _ en y2.2.2⟩
        · rintro acc h9 ⟨ps, rfl, lp, gp, x9, ka9, kb9, ke9⟩
          simp
          refine W_call (f_fitted (c := c) (h := h9 ++ [DO.lst (ps.map scrD)]) (xs := ps) (by simp) gp (by omega) k) ?_
          rintro d h10 ⟨qs, rfl, lq, gq, p10⟩
          have x10 := x9.snoc.trans (.pre x9.snoc.pen p10)
          simp [op_tuple_o (p10.get (Pre.new.get ka9)), op_tuple_o (p10.get (Pre.new.get kb9)), op_tuple_o (p10.get (Pre.new.get ke9))]
          have mo := scr_mok (m := ⟨rs, ss, gs', qs⟩) (c := c) (by rw [hc, M.ct]; simp; omega) (by simp; omega) gr (by simp; omega) gs (by simp; omega) gg (by simp; omega) (by simp; omega) gq
          exact ⟨⟨rs, ss, gs', qs⟩, rfl, mo.1, mo.2, by simp; omega, x10⟩
end Law

namespace Law
open PySem CM
variable {h : AH} {c : Ct} {cn : Nat}
/-! more processes allow as much -/
structure Le (c c' : Ct) : Prop where
  r : c.r = c'.r
  s : c.s = c'.s
  g : c.g = c'.g
  p : c.p ≤ c'.p
theorem AOk.le {c' : Ct} (q : Le c c') {w : Str} {ns : List Int} (ok : AOk c w ns) : AOk c' w ns := by
  have q1 := q.r
  have q2 := q.s
  have q3 := q.g
  have q4 := q.p
  cases ok with
  | wait h1 h2 => exact .wait h1 h2
  | take h1 h2 h3 h4 => exact .take h1 (by omega) h3 h4
  | give h1 h2 => exact .give h1 (by omega)
  | put h1 h2 h3 h4 => exact .put h1 (by omega) h3 h4
  | get h1 h2 => exact .get h1 (by omega)
  | pass h1 h2 => exact .pass h1 (by omega)
  | opn h1 h2 => exact .opn h1 (by omega)
  | shut h1 h2 => exact .shut h1 (by omega)
  | rouse h1 h2 => exact .rouse h1 (by omega)
  | mark h1 h2 => exact .mark h1 h2
theorem IOk.le {c' : Ct} (q : Le c c') : ∀ {d : Nat} {i : I}, IOk c d i → IOk c' d i
  | 0, .at w ns, ok => AOk.le q ok
  | _ + 1, .at w ns, ok => AOk.le q ok
  | 0, .rep _ _, ok => ok.elim
  | 0, .fev _, ok => ok.elim
  | _ + 1, .fev _, ok => ok.elim
  | d + 1, .rep n b, ⟨h1, h2, h3, h4, h5⟩ => ⟨h1, h2, h3, h4, fun i hi => (h5 i hi).le q⟩
theorem Scr.le {c' : Ct} (q : Le c c') {s : List I} (ok : Scr c s) : Scr c' s := by
  refine ⟨?_, ⟨fun r h1 h2 => ok.snd.1 r h1 (by have := q.r; omega), ok.snd.2⟩, ok.len, ok.ln⟩
  rcases ok.ok with rfl | ⟨p, l, rfl, h1, h2, h3⟩
  · exact .inl rfl
  · refine .inr ⟨p, l, rfl, h1, fun i hi => (h2 i hi).le q, ?_⟩
    rcases h3 with h3 | ⟨b, rfl, h4, h5, h6⟩
    · exact .inl (h3.le q)
    · exact .inr ⟨b, rfl, h4, h5, fun i hi => (h6 i hi).le q⟩
theorem cut_6 {ds : List D} : cutD ds none (some 6) = ds.take 6 := by
  simp [cutD, HT.sIx]
theorem cut_from {ds : List D} {v : Nat} : cutD ds (some (v : Int)) none = ds.drop v := by
  have e : HT.sIx ds.length 0 (some (v : Int)) = min v ds.length := by
    unfold HT.sIx
    simp
    intro z
    omega
  have e2 : HT.sIx ds.length ds.length none = ds.length := rfl
  rw [cutD, e, e2]
  rcases Nat.le_total v ds.length with z | z
  · rw [Nat.min_eq_left z]
    exact List.take_of_length_le (by simp)
  · rw [Nat.min_eq_right z, List.drop_eq_nil_of_le (Nat.le_refl _), List.drop_eq_nil_of_le z]
    simp
theorem f_lwide {n : Nat} (p : PenAt n h) {m : M} (ok : MOk m) (ml : ML m) (m4 : m.scr.length ≤ 4) (k : Nat) : W (callOf (C (k + 3)) "_law_wide" [.obj n, m.toD] h) (MPost 6 n h) := by
  rw [o_law_wide]
  simp [sh_law_wide]
  refine W_call (f_draw p (by omega) (by omega) (k + 1)) ?_
  rintro d h1 ⟨v, rfl, v0, v1, x1⟩
  by_cases hv : v = 0
  · simp [hv]
    exact ⟨m, rfl, ok, ml, by omega, x1⟩
  · simp [hv]
    refine W_call (f_draw x1.pen (by omega) (by omega) (k + 1)) ?_
    rintro d h2 ⟨t1, rfl, t10, t11, x2⟩
    simp
    refine W_call (f_draw x2.pen (by omega) (by omega) (k + 1)) ?_
    rintro d h3 ⟨t2, rfl, t20, t21, x3⟩
    simp
    refine W_call (f_draw x3.pen (by omega) (by omega) (k + 1)) ?_
    rintro d h4 ⟨t3, rfl, t30, t31, x4⟩
    simp
    refine W_call (f_pick (n := n) (t := h4.length) (ds := [.int 0, .int 9, .int 10, .int 99, .int 100, .int 999]) (x4.snoc.pen) (by simp) (by have := x4.pen.lt; omega) (by simp) (by simp) k) ?_
    rintro d h5 ⟨hd, x5⟩
    obtain ⟨od, rfl, od0, od1⟩ : ∃ t : Int, d = .int t ∧ 0 ≤ t ∧ t ≤ 999 := by
      simp at hd
      rcases hd with rfl | rfl | rfl | rfl | rfl | rfl <;> exact ⟨_, rfl, by omega, by omega⟩
    simp
    refine W_call (f_draw x5.pen (by omega) (by omega) (k + 1)) ?_
    rintro d h6 ⟨t4, rfl, t40, t41, x6⟩
    simp
    refine W_call (f_draw x6.pen (by omega) (by omega) (k + 1)) ?_
    rintro d h7 ⟨t5, rfl, t50, t51, x7⟩
    have x17 : Hx n h h7 := (((((x1.trans x2).trans x3).trans x4).snoc.trans x5).trans x6).trans x7
    obtain ⟨inner, hin⟩ : ∃ i : I, i = .rep t3 [.at "wait" [t1], .at "mark" [t2]] := ⟨_, rfl⟩
    obtain ⟨outer, hou⟩ : ∃ i : I, i = .rep t4 [.at "mark" [od], inner, .at "wait" [0]] := ⟨_, rfl⟩
    obtain ⟨ex, hex⟩ : ∃ l : List (List I), l = [[.rep t5 [outer, inner], .at "rouse" [0]], [.fev [outer, .at "wait" [100]]], []] := ⟨_, rfl⟩
    have exD : ex.map scrD = [.tup [.tup [.str "repeat", .int t5, .tup [.tup [.str "repeat", .int t4, .tup [.tup [.str "mark", .int od], .tup [.str "repeat", .int t3, .tup [.tup [.str "wait", .int t1], .tup [.str "mark", .int t2]]], .tup [.str "wait", .int 0]]], .tup [.str "repeat", .int t3, .tup [.tup [.str "wait", .int t1], .tup [.str "mark", .int t2]]]]], .tup [.str "rouse", .int 0]], .tup [.tup [.str "forever", .tup [.tup [.str "repeat", .int t4, .tup [.tup [.str "mark", .int od], .tup [.str "repeat", .int t3, .tup [.tup [.str "wait", .int t1], .tup [.str "mark", .int t2]]], .tup [.str "wait", .int 0]]], .tup [.str "wait", .int 100]]]], .tup []] := by
      rw [hex, hou, hin]; rfl
    have exS : ∀ c : Ct, 1 ≤ c.p → ∀ s ∈ ex, Scr c s := by
      intro c hp
      have bi : ∀ d, Bdy c (d + 1) [inner] 4 := fun d => by
        rw [hin]
        exact .rep ((Bdy.one (.wait t10 (by omega)) (by simp) (by simp)).app (.one (.mark t20 (by omega)) (by simp) (by simp))) (by simp) t30 (by omega) (by omega)
      have bo : ∀ d, Bdy c (d + 2) [outer] 8 := fun d => by
        rw [hou]
        exact .rep (((Bdy.one (.mark od0 od1) (by simp) (by simp)).app (bi d)).app (.one (.wait (d := 0) (by omega) (by omega)) (by simp) (by simp))) (by simp) t40 (by omega) (by omega)
      have b1 : Bdy c 3 [.rep t5 [outer, inner]] 14 := .rep ((bo 0).app (bi 1)) (by simp) t50 (by omega) (by omega)
      have b2 : Bdy c 3 [.rep t5 [outer, inner], .at "rouse" [0]] 15 := b1.app (.one (.rouse (by omega) (by omega)) (by simp) (by simp))
      have b3 : Bdy c 2 [outer, .at "wait" [100]] 9 := (bo 0).app (.one (.wait (d := 100) (by omega) (by omega)) (by simp) (by simp))
      intro s hs
      rw [hex] at hs
      simp at hs
      rcases hs with rfl | rfl | rfl
      · exact b2.scr (by omega)
      · refine Bdy.fev (s := []) .nil b3 (by simp) ?_ (by omega)
        have e1 := time_nn (b3.iok outer (by simp))
        simp [timeI_at]
        omega
      · exact Scr.nil
    simp
    rw [← exD]
    simp [M.toD]
    refine W_call (f_draw x17.snoc.pen (by omega) (by omega) (k + 1)) ?_
    rintro d h8 ⟨u, rfl, u0, u1, x8⟩
    have x18 := x17.snoc.trans x8
    obtain ⟨j, rfl⟩ := Int.eq_ofNat_of_zero_le u0
    have ex8 : h8[h7.length]? = some (.lst (ex.map scrD)) := x8.keep _ _ (by have := x17.pen.lt; omega) (by simp)
    have exl : ex.length = 3 := by rw [hex]; rfl
    simp
    rw [sl_obj ex8, cut_from]
    simp
    rw [op_tuple_o (ds := (ex.map scrD).drop j) (by simp)]
    simp
    rw [op_add_t (by simp; exact Nat.le_trans (show m.scr.length + (ex.length - j) ≤ 100 by omega) (by decide))]
    simp [cut_6]
    have em : (List.map scrD m.scr ++ List.drop j (List.map scrD ex)).take 6 = ((m.scr ++ ex.drop j).take 6).map scrD := by simp
    obtain ⟨ns, hns⟩ : ∃ ns, ns = (m.scr ++ ex.drop j).take 6 := ⟨_, rfl⟩
    have nl : ns.length ≤ 6 := by rw [hns]; simp; omega
    have nm : m.scr.length ≤ ns.length := by rw [hns]; simp; omega
    have le : Le m.ct (⟨m.res, m.sto, m.gat, ns⟩ : M).ct := ⟨rfl, rfl, rfl, nm⟩
    have p1 := ok.pl
    have mo := scr_mok (m := ⟨m.res, m.sto, m.gat, ns⟩) rfl ok.rl ok.ro ok.sl ok.so ok.gl ok.go (by simp; omega) nl (fun s hs => by
      have hs' : s ∈ ns := hs
      rw [hns] at hs'
      rcases List.mem_append.mp (List.mem_of_mem_take hs') with z | z
      · have q := ok.po s z
        exact Scr.le le ⟨q.1, q.2.1, q.2.2, ml s z⟩
      · exact exS _ (show 1 ≤ ns.length by omega) s (List.mem_of_mem_drop z))
    refine ⟨⟨m.res, m.sto, m.gat, ns⟩, ?_, mo.1, mo.2, nl, x18.snoc⟩
    simp only [M.toD, hns]
    rw [← em]
end Law

namespace Law
open PySem CM
variable {h : AH} {c : Ct} {cn : Nat}
theorem f_cell (ns : List Int) (j : Nat) (k : Nat) : ∃ i : Int, callOf (C (k + 1)) "_law_cell_at" [.fl (ns.map D.int), .int j] h = .ok (.int i) h := by
  rw [o_law_cell_at]
  by_cases hj : j < ns.length
  · have e : L2.atI (ns.map D.int) (j : Int) = some (.int ns[j]) := atI_k (by simp [hj])
    have hj' : (j : Int) < ns.length := by omega
    exact ⟨ns[j], by simp [sh_law_cell_at, hj', e]⟩
  · have hj' : ¬ (j : Int) < ns.length := by omega
    exact ⟨0, by simp [sh_law_cell_at, hj']⟩
theorem f_lpen (i : Int) (k : Nat) : W (callOf (C (k + 1)) "_law_pen" [.int i] h) fun d h' => ∃ n, d = .obj n ∧ PenAt n h' := by
  rw [o_law_pen]
  have e : dPow (.int 10) (.int 18) h = .ok (.int (10 ^ 18)) h := rfl
  simp [sh_law_pen, e, op_mod1 (show (0 : Int) < 2147483629 by decide)]
  exact ⟨_, _, _, by rw [List.getElem?_append_right (Nat.le_refl _), Nat.sub_self]; rfl⟩
theorem law_it (ns : List Int) (hl : ns.length ≤ 63) : W (callOf (C 30) "law" [.fl (ns.map D.int)] []) fun d _ => d = .bl true := by
  rw [show (30 : Nat) = 29 + 1 from rfl, o_law]
  obtain ⟨mx, hmx⟩ : ∃ mx : Int, mx = (if 4 < (ns.length : Int) then 4 else (ns.length : Int)) := ⟨_, rfl⟩
  obtain ⟨mn, hmn⟩ : ∃ mn : Int, mn = (if 1 < mx then mx else 1) := ⟨_, rfl⟩
  have m0 : 0 ≤ mn ∧ mn ≤ 64 := by rw [hmn]; split <;> (rw [hmx] at *; split at * <;> omega)
  simp [sh_law]
  rw [← hmx, ← hmn, irK_ap (by omega) (by omega)]
  simp
  refine W_call (P := fun p _ => ∃ ρ, p = (.nx, ρ)) (W_forV (fun pre ρ _ => ∃ x y z u, ρ = [some (.fl (ns.map D.int)), x, y, z, u]) ⟨_, _, _, _, rfl⟩ ?_ ?_) ?_
  · rintro pre j post ρ h es ⟨x, y, z, u, rfl⟩
    obtain ⟨i, e⟩ := f_cell (h := h) ns j 28
    simp [sh_law_b2]
    rw [e]
    simp
    refine W_call (f_lpen i 28) ?_
    rintro d h1 ⟨n, rfl, p1⟩
    simp
    rw [irK_ap (by omega) (by omega)]
    simp
    refine W_call (P := fun p _ => ∃ x y z u v, p = (.nx, [x, y, z, u, v]) ∧ x = some (.fl (ns.map D.int))) (W_forV (xs := List.range (2 : Int).toNat) (fun pre ρ h' => PenAt n h' ∧ ∃ x y, ρ = [some (.fl (ns.map D.int)), some (.int j), some (.obj n), x, y]) ⟨p1, _, _, rfl⟩ ?_ ?_) ?_
    · rintro pre' j' post' ρ h2 es' ⟨p2, x', y', rfl⟩
      simp [sh_law_b1]
      refine W_call (f_lmodel p2 22) ?_
      rintro d h3 ⟨m, rfl, ok, ml, m4, x3⟩
      simp
      refine W_call (f_lwide x3.pen ok ml m4 26) ?_
      rintro d h4 ⟨m, rfl, ok, ml, m6, x4⟩
      simp
      refine W_call (f_format m ok ml 15) ?_
      rintro d h5 ⟨rfl, p5⟩
      simp
      refine W_call (f_text m ok ml 23) ?_
      rintro d h6 ⟨t, rfl, ht, _, p6⟩
      have sb : SB (Txt.join "\n" m.text) 200000 := (SB.tjoin sb_lf (text_sb ok)).mono (Nat.le_trans (Nat.mul_le_mul_right _ (text_len ok ml)) (by decide))
      simp
      rw [mJoin_o ht, text_join ok ml]
      simp
      rw [f_same sb 28]
      simp
      exact ((Hx.pre x4.pen p5).trans (.pre (Hx.pre x4.pen p5).pen p6)).pen
    · rintro ρ h2 ⟨p2, x', y', rfl⟩
      exact ⟨_, _, _, _, _, rfl, rfl⟩
    · rintro p h2 ⟨x, y, z, u, v, rfl, rfl⟩
      simp
  · rintro ρ h ⟨x, y, z, u, rfl⟩
    exact ⟨_, rfl⟩
  · rintro p h ⟨ρ, rfl⟩
    simp
theorem law_true : ∃ g : GF, callAt conF nbF rows 30 "law" = some g ∧ ∀ ns : List Int, ns.length ≤ 63 → ∃ h', g [.fl (ns.map D.int)] [] = .ok (.bl true) h' := by
  refine ⟨_, c_law 29, fun ns hl => ?_⟩
  have e := law_it ns hl
  rw [show (30 : Nat) = 29 + 1 from rfl, o_law] at e
  obtain ⟨d, h', e1, e2⟩ := W_ex e
  subst e2
  refine ⟨h', ?_⟩
  rw [← e1]
  delta C
  rfl
end Law

open PySem PySem.W PySem.Calls PyProof.Rows
theorem PySem.Challenge.cw_eventsim_k78_models_written_holds : PySem.Challenge.rw_eventsim_k78_models_written.Holds := by
  w_on; o_law
  refine HandSHeadRun.head_any (r := OpenLaw.row PySem.Challenge.rw_eventsim_k78_models_written) (q := view (OpenLaw.row PySem.Challenge.rw_eventsim_k78_models_written).prog [Law.lawAt]) (H := Law.hk) (ob := Law.ob) (M := 4000) (loose := Law.looseAll) (d := HandSHeadRun.topDef (OpenLaw.row PySem.Challenge.rw_eventsim_k78_models_written).prog Law.lawAt) (kwd := []) Law.ob_eq
    (by kernel_rfl) (fun s => by kernel_rfl) Law.run (by kernel_rfl) (by kernel_rfl) (by kernel_rfl) (by rfl) (by first | assumption | decide +kernel) (by decide +kernel) ⟨rfl, rfl, rfl, rfl, rfl, by decide +kernel⟩ ?hw ?hc
  case hw => w_witness2
  case hc =>
    obtain ⟨g, eg, hq⟩ := Law.law_true
    exact CM.law_walk (l := PySem.Challenge.rw_eventsim_k78_models_written) (r := Law.r_law) (k := 29) rfl (by kernel_rfl) ⟨rfl, by decide, by decide⟩ Law.rs (by kernel_rfl) (by kernel_rfl) (by kernel_rfl) eg hq
