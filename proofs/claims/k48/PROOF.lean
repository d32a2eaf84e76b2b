import PyProof.Rows.All
import Wide.All
import OpenK.AllK
import Wide.FinOn
import KE.KStateDown
import Lean
import HandS.ForMost
import HandS.WordsExc
import HandS.Defaults
import HandS.Head0
import HandS.Head1
import HandS.Head2
import HandS.HeadEnd
import HandS.HeadHook1
import HandS.HeadHook2
import HandS.TupAny
import HandS.Style
import HandS.Conv
import HandS.IsInst
import HandS.SortInts
import HandS.Star
import PySem.Challenge.RW_fardesk_k48_association_messages
set_option Elab.async false
set_option linter.all false
set_option maxRecDepth 100000
set_option maxHeartbeats 0

/-! Ci1: values as trees, objects by numbers, what represents them -/
namespace CI
open PySem PySem.Spec PyProof.Rows L2

inductive D where
  | non | bl (b : Bool) | int (i : Int) | str (x : Str) | tup (ds : List D) | lst (ds : List D) | scr (ns : List Int) | loc (k : Nat)
inductive O where
  | lst (ds : List D) | ins (c : Str) (fs : List (Str × D)) | dct (kvs : List (Key × D))
abbrev Mem := List O
abbrev Slots := List (Option D)
/-- a result: a value, or a list that nobody else holds -/
inductive Rz where
  | val (d : D) | new (ds : List D)
def Rz.d : Rz → D
  | .val d => d
  | .new ds => .lst ds

/-- a list that never changes: frozen, or of the written part -/
def SqS (K : PySem.W.Frag) (H : Hp) (a : Addr) (xs : List V) : Prop := (∃ o, H a = some (.frz o (.lst xs))) ∨
  ∃ (o : Obj) (its : Array Value) (n : Nat), K.lookup a = some o ∧ o.cls = .type "list" ∧ o.dict = none ∧ o.data = .seq its n ∧ its.size ≤ sizeLine ∧ Vals xs its.toList
theorem SqS.l {K : PySem.W.Frag} {H : Hp} {a : Addr} {xs : List V} (h : SqS K H a xs) : SqL K H a xs := h.elim (fun h => .inl (.inr h)) .inr
mutual
def Rl (K : PySem.W.Frag) (H : Hp) (m : List Addr) : D → V → Prop
  | .non, v => v = .non
  | .bl b, v => v = .bl b
  | .int i, v => v = .int i
  | .str x, v => v = .str x
  | .tup ds, v => ∃ a vs, v = .ref a ∧ SqT K H a vs ∧ Rls K H m ds vs
  | .lst ds, v => ∃ a vs, v = .ref a ∧ a ∉ m ∧ H a = some (.lst vs) ∧ Rls K H m ds vs
  | .scr ns, v => ∃ a, v = .ref a ∧ SqS K H a (ns.map V.int)
  | .loc k, v => ∃ a, v = .ref a ∧ m[k]? = some a
def Rls (K : PySem.W.Frag) (H : Hp) (m : List Addr) : List D → List V → Prop
  | [], vs => vs = []
  | d :: ds, vs => ∃ v r, vs = v :: r ∧ Rl K H m d v ∧ Rls K H m ds r
end
def Rfs (K : PySem.W.Frag) (H : Hp) (m : List Addr) : List (Str × D) → List (Str × V) → Prop
  | [], gs => gs = []
  | (f, d) :: fs, gs => ∃ v r, gs = (f, v) :: r ∧ Rl K H m d v ∧ Rfs K H m fs r
def Rks (K : PySem.W.Frag) (H : Hp) (m : List Addr) : List (Key × D) → List (Key × V) → Prop
  | [], gs => gs = []
  | (f, d) :: fs, gs => ∃ v r, gs = (f, v) :: r ∧ Rl K H m d v ∧ Rks K H m fs r
def Ro (K : PySem.W.Frag) (H : Hp) (m : List Addr) (a : Addr) : O → Prop
  | .lst ds => ∃ vs, H a = some (.lst vs) ∧ Rls K H m ds vs
  | .ins c fs => ∃ dx gs, H a = some (.ins (He.ga K c) dx gs) ∧ Rfs K H m fs gs
  | .dct kvs => ∃ gs, H a = some (.dK gs) ∧ Rks K H m kvs gs

structure Ext (H : Hp) (m : List Addr) (H' : Hp) (m' : List Addr) : Prop where
  tup : ∀ a xs, H a = some (.tup xs) → H' a = some (.tup xs)
  frz : ∀ a o u, H a = some (.frz o u) → H' a = some (.frz o u)
  lst : ∀ a xs, a ∉ m → H a = some (.lst xs) → H' a = some (.lst xs)
  trk : ∀ a, H' a = none → H a = none
  pre : ∃ l, m' = m ++ l ∧ ∀ a ∈ l, H a = none
structure Wd (K : PySem.W.Frag) (H : Hp) (m : List Addr) (M : Mem) : Prop where
  len : m.length = M.length
  nd : m.Nodup
  at_ : ∀ (k : Nat) (a : Addr) (o : O), m[k]? = some a → M[k]? = some o → Ro K H m a o
def Rs (K : PySem.W.Frag) (H : Hp) (m : List Addr) (ρ : Slots) (σ : L2.St) : Prop :=
  ρ.length = σ.length ∧ ∀ (i : Nat) (d : D), ρ[i]? = some (some d) → ∃ v, σ[i]? = some (some v) ∧ Rl K H m d v

section
variable {K : PySem.W.Frag} {H H1 H2 H' : Hp} {m m1 m2 m' : List Addr} {M M1 : Mem} {a p : Addr}
theorem Ext.refl : Ext H m H m := ⟨fun _ _ h => h, fun _ _ _ h => h, fun _ _ _ h => h, fun _ h => h, [], by simp, fun _ h => nomatch h⟩
theorem Ext.notin (e : Ext H m H1 m1) {o : HO} (h : H a = some o) (n : a ∉ m) : a ∉ m1 := by
  obtain ⟨l, rfl, hl⟩ := e.pre
  intro q
  rcases List.mem_append.mp q with q | q
  · exact n q
  · rw [hl a q] at h; cases h
theorem Ext.trans (e : Ext H m H1 m1) (e' : Ext H1 m1 H2 m2) : Ext H m H2 m2 := by
  refine ⟨fun a xs h => e'.tup a xs (e.tup a xs h), fun a o u h => e'.frz a o u (e.frz a o u h), fun a xs n h => e'.lst a xs (e.notin h n) (e.lst a xs n h), fun a h => e.trk a (e'.trk a h), ?_⟩
  obtain ⟨l, rfl, hl⟩ := e.pre
  obtain ⟨l', rfl, hl'⟩ := e'.pre
  exact ⟨l ++ l', by rw [List.append_assoc], fun a q => (List.mem_append.mp q).elim (hl a) fun q => e.trk a (hl' a q)⟩
/-- a new object -/
theorem Ext.new {o : HO} (n : H p = none) : Ext H m (upd H p o) m := by
  have ne : ∀ a u, H a = some u → a ≠ p := fun a u h => ne_of_none h n
  refine ⟨fun a xs h => by rw [upd_ne (ne a _ h)]; exact h, fun a o u h => by rw [upd_ne (ne a _ h)]; exact h, fun a xs _ h => by rw [upd_ne (ne a _ h)]; exact h, fun a h => ?_, [], by simp, fun _ h => nomatch h⟩
  by_cases q : a = p
  · rw [q]; exact n
  · rw [upd_ne q] at h; exact h
/-- an own object is changed -/
theorem Ext.set {o u : HO} (h : H p = some u) (hm : p ∈ m) (nt : ∀ xs, u ≠ .tup xs) (nf : ∀ o u', u ≠ .frz o u') : Ext H m (upd H p o) m := by
  refine ⟨fun a xs q => ?_, fun a o u' q => ?_, fun a xs n q => ?_, fun a q => ?_, [], by simp, fun _ h => nomatch h⟩
  · rw [upd_ne (fun z => by subst z; rw [h] at q; cases q; exact nt xs rfl)]; exact q
  · rw [upd_ne (fun z => by subst z; rw [h] at q; cases q; exact nf _ _ rfl)]; exact q
  · rw [upd_ne (fun z => n (by rw [z]; exact hm))]; exact q
  · by_cases z : a = p
    · rw [z, upd_same] at q; cases q
    · rw [upd_ne z] at q; exact q
theorem Ext.get (e : Ext H m H1 m1) {k : Nat} (h : m[k]? = some a) : m1[k]? = some a := by
  obtain ⟨l, rfl, _⟩ := e.pre
  obtain ⟨h1, _⟩ := List.getElem?_eq_some_iff.mp h
  rw [List.getElem?_append_left h1]; exact h
theorem sqT_ext (e : Ext H m H1 m1) {vs : List V} (h : SqT K H a vs) : SqT K H1 a vs := by
  rcases h with (h | ⟨o, h⟩) | h
  · exact .inl (.inl (e.tup _ _ h))
  · exact .inl (.inr ⟨o, e.frz _ _ _ h⟩)
  · exact .inr h
mutual
theorem Rl.ext (e : Ext H m H1 m1) : ∀ {d : D} {v : V}, Rl K H m d v → Rl K H1 m1 d v
  | .non, _, h => h
  | .bl _, _, h => h
  | .int _, _, h => h
  | .str _, _, h => h
  | .tup ds, _, h => by
    rw [Rl] at h ⊢
    obtain ⟨a, vs, r, s, t⟩ := h
    exact ⟨a, vs, r, sqT_ext e s, Rls.ext e t⟩
  | .lst ds, _, h => by
    rw [Rl] at h ⊢
    obtain ⟨a, vs, r, n, s, t⟩ := h
    exact ⟨a, vs, r, e.notin s n, e.lst _ _ n s, Rls.ext e t⟩
  | .scr ns, _, h => by
    rw [Rl] at h ⊢
    obtain ⟨a, r, s⟩ := h
    exact ⟨a, r, s.imp (fun ⟨o, s⟩ => ⟨o, e.frz _ _ _ s⟩) id⟩
  | .loc k, _, h => by
    rw [Rl] at h ⊢
    obtain ⟨a, r, s⟩ := h
    exact ⟨a, r, e.get s⟩
theorem Rls.ext (e : Ext H m H1 m1) : ∀ {ds : List D} {vs : List V}, Rls K H m ds vs → Rls K H1 m1 ds vs
  | [], _, h => by rw [Rls] at h ⊢; exact h
  | d :: ds, _, h => by
    rw [Rls] at h ⊢
    obtain ⟨v, r, q, h1, h2⟩ := h
    exact ⟨v, r, q, Rl.ext e h1, Rls.ext e h2⟩
end
theorem Rfs.ext (e : Ext H m H1 m1) : ∀ {fs : List (Str × D)} {gs : List (Str × V)}, Rfs K H m fs gs → Rfs K H1 m1 fs gs
  | [], _, h => h
  | (f, d) :: fs, _, h => by
    obtain ⟨v, r, q, h1, h2⟩ := h
    exact ⟨v, r, q, Rl.ext e h1, Rfs.ext e h2⟩
theorem Rks.ext (e : Ext H m H1 m1) : ∀ {fs : List (Key × D)} {gs : List (Key × V)}, Rks K H m fs gs → Rks K H1 m1 fs gs
  | [], _, h => h
  | (f, d) :: fs, _, h => by
    obtain ⟨v, r, q, h1, h2⟩ := h
    exact ⟨v, r, q, Rl.ext e h1, Rks.ext e h2⟩
theorem Ro.ext (e : Ext H m H1 m1) {o : O} (hs : H1 a = H a) (h : Ro K H m a o) : Ro K H1 m1 a o := by
  cases o with
  | lst ds => obtain ⟨vs, h1, h2⟩ := h; exact ⟨vs, hs.trans h1, h2.ext e⟩
  | ins c fs => obtain ⟨dx, gs, h1, h2⟩ := h; exact ⟨dx, gs, hs.trans h1, h2.ext e⟩
  | dct kvs => obtain ⟨gs, h1, h2⟩ := h; exact ⟨gs, hs.trans h1, h2.ext e⟩
theorem Ro.there {o : O} (h : Ro K H m a o) : ∃ u, H a = some u ∧ (∀ xs, u ≠ .tup xs) ∧ ∀ o' u', u ≠ .frz o' u' := by
  cases o with
  | lst ds => obtain ⟨vs, h1, h2⟩ := h; exact ⟨_, h1, (by intro _ z; cases z), (by intro _ _ z; cases z)⟩
  | ins c fs => obtain ⟨dx, gs, h1, h2⟩ := h; exact ⟨_, h1, (by intro _ z; cases z), (by intro _ _ z; cases z)⟩
  | dct kvs => obtain ⟨gs, h1, h2⟩ := h; exact ⟨_, h1, (by intro _ z; cases z), (by intro _ _ z; cases z)⟩
theorem Wd.there (w : Wd K H m M) (h : a ∈ m) : ∃ u, H a = some u ∧ (∀ xs, u ≠ .tup xs) ∧ ∀ o' u', u ≠ .frz o' u' := by
  obtain ⟨k, hk, e⟩ := List.mem_iff_getElem.mp h
  have h2 : k < M.length := by rw [← w.len]; exact hk
  exact (w.at_ k a M[k] (by rw [List.getElem?_eq_getElem hk, e]) (List.getElem?_eq_getElem h2)).there
theorem Wd.fresh (w : Wd K H m M) (n : H p = none) : p ∉ m := fun h => by
  obtain ⟨u, q, _⟩ := w.there h
  rw [n] at q; cases q
theorem Wd.same (w : Wd K H m M) (e : Ext H m H1 m) (hs : ∀ a ∈ m, H1 a = H a) : Wd K H1 m M :=
  ⟨w.len, w.nd, fun k a o h1 h2 => (w.at_ k a o h1 h2).ext e (hs a (List.mem_of_getElem? h1))⟩
theorem Wd.new {o : HO} (w : Wd K H m M) (n : H p = none) : Wd K (upd H p o) m M :=
  w.same (.new n) fun a h => upd_ne fun z => w.fresh n (z ▸ h)
theorem nodup_at {m : List Addr} (nd : m.Nodup) {i j : Nat} (a : m[i]? = some p) (b : m[j]? = some p) : i = j := by
  obtain ⟨h1, e1⟩ := List.getElem?_eq_some_iff.mp a
  obtain ⟨h2, e2⟩ := List.getElem?_eq_some_iff.mp b
  exact (List.getElem_inj nd).mp (e1.trans e2.symm)
/-- the object k is changed -/
theorem Wd.set {k : Nat} {o : O} {u : HO} (w : Wd K H m M) (hk : m[k]? = some p) (h : Ro K (upd H p u) m p o) : Wd K (upd H p u) m (M.set k o) := by
  obtain ⟨v, hv, nt, nf⟩ := w.there (List.mem_of_getElem? hk)
  have e : Ext H m (upd H p u) m := .set hv (List.mem_of_getElem? hk) nt nf
  refine ⟨by rw [List.length_set]; exact w.len, w.nd, fun j a o' h1 h2 => ?_⟩
  by_cases q : j = k
  · subst q
    rw [hk] at h1; cases h1
    obtain ⟨z, _⟩ := List.getElem?_eq_some_iff.mp h2
    rw [List.length_set] at z
    rw [List.getElem?_set_self z] at h2
    cases h2; exact h
  · rw [List.getElem?_set_ne (Ne.symm q)] at h2
    exact (w.at_ j a o' h1 h2).ext e (upd_ne fun z => q (nodup_at w.nd (z ▸ h1) hk))
theorem Wd.ext_set {k : Nat} {u : HO} (w : Wd K H m M) (hk : m[k]? = some p) : Ext H m (upd H p u) m := by
  obtain ⟨v, hv, nt, nf⟩ := w.there (List.mem_of_getElem? hk)
  exact .set hv (List.mem_of_getElem? hk) nt nf
theorem Wd.get (w : Wd K H m M) {k : Nat} {o : O} (h : M[k]? = some o) : ∃ a, m[k]? = some a ∧ Ro K H m a o := by
  obtain ⟨h1, _⟩ := List.getElem?_eq_some_iff.mp h
  have h2 : k < m.length := by rw [w.len]; exact h1
  exact ⟨m[k], List.getElem?_eq_getElem h2, w.at_ k _ o (List.getElem?_eq_getElem h2) h⟩
/-- a new own object -/
theorem Wd.push {o : O} {u : HO} (w : Wd K H m M) (n : H p = none) (h : Ro K (upd H p u) (m ++ [p]) p o) : Wd K (upd H p u) (m ++ [p]) (M ++ [o]) ∧ Ext H m (upd H p u) (m ++ [p]) := by
  have hp := w.fresh n
  have e1 : Ext H m (upd H p u) m := .new n
  have e : Ext H m (upd H p u) (m ++ [p]) := ⟨e1.tup, e1.frz, e1.lst, e1.trk, [p], rfl, fun a q => by simp at q; rw [q]; exact n⟩
  refine ⟨⟨by simp [w.len], ?_, fun k a o' h1 h2 => ?_⟩, e⟩
  · rw [List.nodup_append]
    exact ⟨w.nd, by simp, fun a ha b hb z => by simp at hb; subst hb; exact hp (z ▸ ha)⟩
  · by_cases q : k < m.length
    · rw [List.getElem?_append_left q] at h1
      rw [List.getElem?_append_left (by rw [← w.len]; exact q)] at h2
      exact (w.at_ k a o' h1 h2).ext e (upd_ne fun z => hp (z ▸ List.mem_of_getElem? h1))
    · have hk : k = m.length := by
        obtain ⟨z, _⟩ := List.getElem?_eq_some_iff.mp h1
        simp at z; omega
      subst hk
      rw [List.getElem?_append_right (Nat.le_refl _)] at h1
      rw [w.len, List.getElem?_append_right (Nat.le_refl _)] at h2
      simp at h1 h2
      subst h1 h2
      exact h
theorem Rs.ext (e : Ext H m H1 m1) {ρ : Slots} {σ : L2.St} (h : Rs K H m ρ σ) : Rs K H1 m1 ρ σ :=
  ⟨h.1, fun i d q => let ⟨v, a, b⟩ := h.2 i d q; ⟨v, a, b.ext e⟩⟩
theorem Rs.set {ρ : Slots} {σ : L2.St} {d : D} {v : V} (h : Rs K H m ρ σ) (r : Rl K H m d v) (i : Nat) : Rs K H m (ρ.set i (some d)) (σ.set i (some v)) := by
  refine ⟨by simp [h.1], fun j e q => ?_⟩
  by_cases z : j = i
  · subst z
    obtain ⟨z, _⟩ := List.getElem?_eq_some_iff.mp q
    rw [List.length_set] at z
    rw [List.getElem?_set_self z] at q
    cases q
    exact ⟨v, List.getElem?_set_self (by rw [← h.1]; exact z), r⟩
  · rw [List.getElem?_set_ne (Ne.symm z)] at q
    rw [List.getElem?_set_ne (Ne.symm z)]
    exact h.2 j e q
theorem Rls.length : ∀ {ds : List D} {vs : List V}, Rls K H m ds vs → ds.length = vs.length
  | [], _, h => by rw [Rls] at h; subst h; rfl
  | d :: ds, _, h => by
    rw [Rls] at h
    obtain ⟨v, r, rfl, _, h2⟩ := h
    simp [h2.length]
theorem Rls.get : ∀ {ds : List D} {vs : List V}, Rls K H m ds vs → ∀ {i : Nat} {d : D}, ds[i]? = some d → ∃ v, vs[i]? = some v ∧ Rl K H m d v
  | [], _, h, i, d, q => by simp at q
  | e :: ds, _, h, i, d, q => by
    rw [Rls] at h
    obtain ⟨v, r, rfl, h1, h2⟩ := h
    cases i with
    | zero => simp at q; subst q; exact ⟨v, rfl, h1⟩
    | succ i => simpa using Rls.get h2 (i := i) (d := d) (by simpa using q)
theorem Rls.getR : ∀ {ds : List D} {vs : List V}, Rls K H m ds vs → ∀ {i : Nat} {v : V}, vs[i]? = some v → ∃ d, ds[i]? = some d ∧ Rl K H m d v
  | [], _, h, i, d, q => by rw [Rls] at h; subst h; simp at q
  | e :: ds, _, h, i, d, q => by
    rw [Rls] at h
    obtain ⟨v, r, rfl, h1, h2⟩ := h
    cases i with
    | zero => simp at q; subst q; exact ⟨e, rfl, h1⟩
    | succ i => simpa using Rls.getR h2 (i := i) (v := d) (by simpa using q)
theorem Rls.append : ∀ {ds es : List D} {vs ws : List V}, Rls K H m ds vs → Rls K H m es ws → Rls K H m (ds ++ es) (vs ++ ws)
  | [], _, _, _, h, g => by rw [Rls] at h; subst h; exact g
  | d :: ds, _, _, _, h, g => by
    rw [Rls] at h
    obtain ⟨v, r, rfl, h1, h2⟩ := h
    show Rls K H m (d :: (ds ++ _)) (v :: (r ++ _))
    rw [Rls]
    exact ⟨v, _, rfl, h1, h2.append g⟩
theorem Rls.take : ∀ {ds : List D} {vs : List V} (n : Nat), Rls K H m ds vs → Rls K H m (ds.take n) (vs.take n)
  | _, _, 0, _ => by simp [Rls]
  | [], _, n + 1, h => by rw [Rls] at h; subst h; simp [Rls]
  | d :: ds, _, n + 1, h => by
    rw [Rls] at h
    obtain ⟨v, r, rfl, h1, h2⟩ := h
    show Rls K H m (d :: ds.take n) (v :: r.take n)
    rw [Rls]
    exact ⟨v, _, rfl, h1, h2.take n⟩
theorem Rls.drop : ∀ {ds : List D} {vs : List V} (n : Nat), Rls K H m ds vs → Rls K H m (ds.drop n) (vs.drop n)
  | _, _, 0, h => by simpa using h
  | [], _, n + 1, h => by rw [Rls] at h; subst h; simp [Rls]
  | d :: ds, _, n + 1, h => by
    rw [Rls] at h
    obtain ⟨v, r, rfl, h1, h2⟩ := h
    exact h2.drop n
theorem Rls.one {d : D} {vs : List V} (h : Rls K H m [d] vs) : ∃ v, vs = [v] ∧ Rl K H m d v := by
  rw [Rls] at h
  obtain ⟨v, r, rfl, h1, h2⟩ := h
  rw [Rls] at h2
  subst h2
  exact ⟨v, rfl, h1⟩
theorem Rls.two {d e : D} {vs : List V} (h : Rls K H m [d, e] vs) : ∃ v w, vs = [v, w] ∧ Rl K H m d v ∧ Rl K H m e w := by
  rw [Rls] at h
  obtain ⟨v, r, rfl, h1, h2⟩ := h
  obtain ⟨w, rfl, h3⟩ := h2.one
  exact ⟨v, w, rfl, h1, h3⟩
theorem Rls.ints : ∀ {ns : List Int}, Rls K H m (ns.map D.int) (ns.map V.int)
  | [] => by simp [Rls]
  | n :: ns => by
    show Rls K H m (D.int n :: ns.map D.int) (V.int n :: ns.map V.int)
    rw [Rls]
    exact ⟨_, _, rfl, by rw [Rl], Rls.ints⟩
theorem Rls.set : ∀ {ds : List D} {vs : List V} {d : D} {v : V} (i : Nat), Rls K H m ds vs → Rl K H m d v → Rls K H m (ds.set i d) (vs.set i v)
  | [], _, _, _, _, h, _ => by rw [Rls] at h; subst h; simp [Rls]
  | e :: ds, _, d, v, 0, h, g => by
    rw [Rls] at h
    obtain ⟨w, r, rfl, h1, h2⟩ := h
    show Rls K H m (d :: ds) (v :: r)
    rw [Rls]
    exact ⟨_, _, rfl, g, h2⟩
  | e :: ds, _, d, v, i + 1, h, g => by
    rw [Rls] at h
    obtain ⟨w, r, rfl, h1, h2⟩ := h
    show Rls K H m (e :: ds.set i d) (w :: r.set i v)
    rw [Rls]
    exact ⟨_, _, rfl, h1, h2.set i g⟩
theorem Rls.eraseIdx : ∀ {ds : List D} {vs : List V} (i : Nat), Rls K H m ds vs → Rls K H m (ds.eraseIdx i) (vs.eraseIdx i)
  | [], _, _, h => by rw [Rls] at h; subst h; simp [Rls]
  | e :: ds, _, 0, h => by
    rw [Rls] at h
    obtain ⟨w, r, rfl, h1, h2⟩ := h
    exact h2
  | e :: ds, _, i + 1, h => by
    rw [Rls] at h
    obtain ⟨w, r, rfl, h1, h2⟩ := h
    show Rls K H m (e :: ds.eraseIdx i) (w :: r.eraseIdx i)
    rw [Rls]
    exact ⟨_, _, rfl, h1, h2.eraseIdx i⟩
theorem Rfs.lookup {f : Str} {d : D} : ∀ {fs : List (Str × D)} {gs : List (Str × V)}, Rfs K H m fs gs → fs.lookup f = some d → ∃ v, gs.lookup f = some v ∧ Rl K H m d v
  | [], _, h, q => by simp at q
  | (g, e) :: fs, _, h, q => by
    obtain ⟨v, r, rfl, h1, h2⟩ := h
    rw [List.lookup_cons] at q ⊢
    by_cases z : f == g
    · simp [z] at q ⊢; subst q; exact h1
    · simp [z] at q ⊢; exact h2.lookup q
theorem Rfs.lookup_none {f : Str} : ∀ {fs : List (Str × D)} {gs : List (Str × V)}, Rfs K H m fs gs → fs.lookup f = none → gs.lookup f = none
  | [], _, h, q => by cases h; simp
  | (g, e) :: fs, _, h, q => by
    obtain ⟨v, r, rfl, h1, h2⟩ := h
    rw [List.lookup_cons] at q ⊢
    by_cases z : f == g
    · rw [z] at q; cases q
    · rw [show (f == g) = false from by simpa using z] at q ⊢; exact h2.lookup_none q
theorem Rfs.length : ∀ {fs : List (Str × D)} {gs : List (Str × V)}, Rfs K H m fs gs → fs.length = gs.length
  | [], _, h => by cases h; rfl
  | (g, e) :: fs, _, h => by
    obtain ⟨v, r, rfl, h1, h2⟩ := h
    simp [h2.length]
end
end CI

/-! Ci2: readings of expressions -/
namespace CI
open PySem PySem.Spec PyProof.Rows L2

abbrev Ef := Slots → Mem → Option (Rz × Mem)
abbrev Tf := Slots → Mem → Option (Bool × Mem)
abbrev Af := Slots → Mem → Option (List D × Mem)

def Post (K : PySem.W.Frag) (H : Hp) (m : List Addr) (r : Rz) (M' : Mem) (Q : VK) : Prop := ∀ H1 m1, Ext H m H1 m1 → Wd K H1 m1 M' → match r with
  | .val d => ∀ v, Rl K H1 m1 d v → Q v H1
  | .new ds => ∀ vs a, Rls K H1 m1 ds vs → H1 a = none → Q (.ref a) (upd H1 a (.lst vs))
def tE (K : PySem.W.Frag) (f : Ef) : TE := fun σ H Q => ∃ ρ M m r M', Rs K H m ρ σ ∧ Wd K H m M ∧ f ρ M = some (r, M') ∧ Post K H m r M' Q
def tT (K : PySem.W.Frag) (f : Tf) : TT := fun σ H Q => ∃ ρ M m b M', Rs K H m ρ σ ∧ Wd K H m M ∧ f ρ M = some (b, M') ∧ ∀ H1 m1, Ext H m H1 m1 → Wd K H1 m1 M' → Q b H1
def tA (K : PySem.W.Frag) (f : Af) : TA := fun σ H Q => ∃ ρ M m ds M', Rs K H m ρ σ ∧ Wd K H m M ∧ f ρ M = some (ds, M') ∧ ∀ H1 m1 vs, Ext H m H1 m1 → Wd K H1 m1 M' → Rls K H1 m1 ds vs → Q vs H1
abbrev CEx (X : Cx) (e : Expr) (f : Ef) : Prop := PE X e (tE X.K f)
abbrev CTx (X : Cx) (e : Expr) (f : Tf) : Prop := PT X e (tT X.K f)
abbrev CWx (X : Cx) (e : Expr) (f : Tf) : Prop := PW X e (tT X.K f)
abbrev CAx (X : Cx) (es : List Expr) (f : Af) : Prop := PA X es (tA X.K f)

theorem PE.imp {X : Cx} {e : Expr} {t t' : TE} (h : PE X e t) (i : ∀ σ H Q, t' σ H Q → t σ H Q) : PE X e t' := ⟨fun pins s σ H Q I q => h.run pins s σ H Q I (i σ H Q q)⟩
theorem PT.imp {X : Cx} {e : Expr} {t t' : TT} (h : PT X e t) (i : ∀ σ H Q, t' σ H Q → t σ H Q) : PT X e t' := ⟨fun pins s σ H Q I q => h.run pins s σ H Q I (i σ H Q q)⟩
theorem PW.imp {X : Cx} {e : Expr} {t t' : TT} (h : PW X e t) (i : ∀ σ H Q, t' σ H Q → t σ H Q) : PW X e t' := ⟨fun w pins s σ H Q I q => h.run w pins s σ H Q I (i σ H Q q)⟩
theorem PA.imp {X : Cx} {es : List Expr} {t t' : TA} (h : PA X es t) (i : ∀ σ H Q, t' σ H Q → t σ H Q) : PA X es t' := ⟨fun p pins s σ H Q I q => h.run p pins s σ H Q I (i σ H Q q)⟩
theorem PE.or {X : Cx} {e : Expr} {t t' : TE} (h : PE X e t) (h' : PE X e t') : PE X e (fun σ H Q => t σ H Q ∨ t' σ H Q) :=
  ⟨fun pins s σ H Q I q => q.elim (h.run pins s σ H Q I) (h'.run pins s σ H Q I)⟩

section
variable {K : PySem.W.Frag} {H H1 H2 : Hp} {m m1 m2 : List Addr} {M M1 M2 : Mem} {Q : VK} {r : Rz}
theorem Post.use (P : ∀ H1 m1 v, Ext H m H1 m1 → Wd K H1 m1 M1 → Rl K H1 m1 r.d v → Q v H1) : Post K H m r M1 Q := by
  intro H1 m1 e w
  cases r with
  | val d => exact fun v r => P H1 m1 v e w r
  | new ds =>
    intro vs a r n
    have e2 : Ext H1 m1 (upd H1 a (.lst vs)) m1 := .new n
    refine P _ m1 _ (e.trans e2) (w.new n) ?_
    show Rl K _ m1 (.lst ds) _
    rw [Rl]
    exact ⟨a, vs, rfl, w.fresh n, upd_same, r.ext e2⟩
theorem Post.ext (P : Post K H m r M1 Q) (e : Ext H m H2 m2) : Post K H2 m2 r M1 Q := fun H1 m1 e1 w => P H1 m1 (e.trans e1) w
theorem Post.val {d : D} {v : V} (P : Post K H m (.val d) M1 Q) (w : Wd K H m M1) (r : Rl K H m d v) : Q v H := P H m .refl w v r
theorem Post.new {ds : List D} {vs : List V} (P : Post K H m (.new ds) M1 Q) (w : Wd K H m M1) (r : Rls K H m ds vs) : ∀ p, H p = none → Q (.ref p) (upd H p (.lst vs)) :=
  fun p n => P H m .refl w vs p r n
theorem Post.tup {ds : List D} {vs : List V} (P : Post K H m (.val (.tup ds)) M1 Q) (w : Wd K H m M1) (r : Rls K H m ds vs) : ∀ p, H p = none → Q (.ref p) (upd H p (.tup vs)) :=
  fun p n => P _ m (.new n) (w.new n) _ (by rw [Rl]; exact ⟨p, vs, rfl, .of upd_same, r.ext (.new n)⟩)
theorem bindE {f : Ef} {ρ : Slots} {σ : L2.St} (rs : Rs K H m ρ σ) (w : Wd K H m M) (h : f ρ M = some (r, M1))
    (P : ∀ H1 m1 v, Ext H m H1 m1 → Wd K H1 m1 M1 → Rs K H1 m1 ρ σ → Rl K H1 m1 r.d v → Q v H1) : tE K f σ H Q :=
  ⟨ρ, M, m, r, M1, rs, w, h, Post.use fun H1 m1 v e w' r' => P H1 m1 v e w' (rs.ext e) r'⟩
theorem bindT {f : Tf} {ρ : Slots} {σ : L2.St} {b : Bool} {Q : Bool → Hp → Prop} (rs : Rs K H m ρ σ) (w : Wd K H m M) (h : f ρ M = some (b, M1))
    (P : ∀ H1 m1, Ext H m H1 m1 → Wd K H1 m1 M1 → Rs K H1 m1 ρ σ → Q b H1) : tT K f σ H Q :=
  ⟨ρ, M, m, b, M1, rs, w, h, fun H1 m1 e w' => P H1 m1 e w' (rs.ext e)⟩
theorem bindA {f : Af} {ρ : Slots} {σ : L2.St} {ds : List D} {Q : List V → Hp → Prop} (rs : Rs K H m ρ σ) (w : Wd K H m M) (h : f ρ M = some (ds, M1))
    (P : ∀ H1 m1 vs, Ext H m H1 m1 → Wd K H1 m1 M1 → Rs K H1 m1 ρ σ → Rls K H1 m1 ds vs → Q vs H1) : tA K f σ H Q :=
  ⟨ρ, M, m, ds, M1, rs, w, h, fun H1 m1 vs e w' r' => P H1 m1 vs e w' (rs.ext e) r'⟩
end

/-! ### names and constants -/
def slot (ρ : Slots) (i : Nat) : Option D := ρ.getD i none
def cVar (i : Nat) : Ef := fun ρ M => (slot ρ i).bind fun d => some (.val d, M)
def cVal (d : D) : Ef := fun _ M => some (.val d, M)
abbrev cInt (i : Int) : Ef := cVal (.int i)
abbrev cBl (b : Bool) : Ef := cVal (.bl b)
abbrev cNon : Ef := cVal .non
abbrev cStr (x : Str) : Ef := cVal (.str x)
theorem slot_some {ρ : Slots} {i : Nat} {d : D} (h : slot ρ i = some d) : ρ[i]? = some (some d) := by
  unfold slot at h
  rw [List.getD_eq_getElem?_getD] at h
  cases q : ρ[i]? with
  | none => rw [q] at h; cases h
  | some o => rw [q] at h; simp at h; rw [h]
section
variable {X : Cx}
theorem ce_var {e : Expr} {i : Nat} (h : PE X e (tVar i)) : CEx X e (cVar i) := PE.imp h fun σ H Q ⟨ρ, M, m, r, M', rs, w, hf, P⟩ => by
  unfold cVar at hf
  cases q : slot ρ i with
  | none => rw [q] at hf; cases hf
  | some d =>
    rw [q] at hf
    cases hf
    obtain ⟨v, h1, h2⟩ := rs.2 i d (slot_some q)
    exact ⟨v, h1, P.val w h2⟩
theorem ce_val {e : Expr} {d : D} {v : V} (h : PE X e (tC v)) (hr : ∀ H m, Rl X.K H m d v) : CEx X e (cVal d) := PE.imp h fun σ H Q ⟨ρ, M, m, r, M', rs, w, hf, P⟩ => by
  cases hf
  exact P.val w (hr H m)
theorem ce_int {i : Int} {j pos} : CEx X (.Constant (.int i) j pos) (cInt i) := ce_val pe_int fun _ _ => by rw [Rl]
theorem ce_bl {b : Bool} {j pos} : CEx X (.Constant (.bool b) j pos) (cBl b) := ce_val pe_bl fun _ _ => by rw [Rl]
theorem ce_non {j pos} : CEx X (.Constant .none j pos) cNon := ce_val pe_non fun _ _ => by rw [Rl]
theorem ce_str {x : Str} {j pos} : CEx X (.Constant (.str x) j pos) (cStr x) := ce_val pe_str fun _ _ => by rw [Rl]
end

/-! ### operators -/
def Bop := D → D → Mem → Option Rz
def OpOk (X : Cx) (f : Value → Value → Sem Value) (o : Bop) : Prop := ∃ r : R2, OpR X f r ∧
  ∀ H m M d e x y z Q, Wd X.K H m M → Rl X.K H m d x → Rl X.K H m e y → o d e M = some z → Post X.K H m z M Q → r x y H Q
def cBin (o : Bop) (fa fb : Ef) : Ef := fun ρ M => (fa ρ M).bind fun p => (fb ρ p.2).bind fun q => (o p.1.d q.1.d q.2).bind fun r => some (r, q.2)
theorem bin_of {X : Cx} {o : Bop} {fa fb : Ef} {r : R2} (ho : ∀ H m M d e x y z Q, Wd X.K H m M → Rl X.K H m d x → Rl X.K H m e y → o d e M = some z → Post X.K H m z M Q → r x y H Q)
    {σ : L2.St} {H : Hp} {Q : VK} (h : tE X.K (cBin o fa fb) σ H Q) : tOp r (tE X.K fa) (tE X.K fb) σ H Q := by
  obtain ⟨ρ, M, m, z, M', rs, w, hf, P⟩ := h
  unfold cBin at hf
  cases ea : fa ρ M with
  | none => rw [ea] at hf; cases hf
  | some p =>
    rw [ea] at hf
    cases eb : fb ρ p.2 with
    | none => simp [eb] at hf
    | some q =>
      cases ec : o p.1.d q.1.d q.2 with
      | none => simp [eb, ec] at hf
      | some z' =>
        simp [eb, ec] at hf
        obtain ⟨rfl, rfl⟩ := hf
        refine bindE rs w ea fun H1 m1 v e1 w1 rs1 r1 => ?_
        refine bindE rs1 w1 eb fun H2 m2 u e2 w2 rs2 r2 => ?_
        exact ho H2 m2 q.2 _ _ v u _ Q w2 (r1.ext e2) r2 ec (P.ext (e1.trans e2))
section
variable {X : Cx} {a b c : Expr} {fa fb fc : Ef} {pos : Pos} {o o' : Bop}
theorem ce_bin {op : Operator} (ho : OpOk X (binaryOp op) o) (ha : CEx X a fa) (hb : CEx X b fb) : CEx X (.BinOp a op b pos) (cBin o fa fb) := by
  obtain ⟨r, h1, h2⟩ := ho
  exact PE.imp (pe_op h1 ha hb) fun σ H Q h => bin_of h2 h
theorem ce_cmp {op : CmpOp} (ho : OpOk X (compareOp op) o) (ha : CEx X a fa) (hb : CEx X b fb) (hm : behindInMarks op b = false) : CEx X (.Compare a [op] [b] pos) (cBin o fa fb) := by
  obtain ⟨r, h1, h2⟩ := ho
  exact PE.imp (pe_cmpR h1 ha hb hm) fun σ H Q h => bin_of h2 h
/-- a value that must be a bool, as a test -/
def toB (f : Ef) : Tf := fun ρ M => (f ρ M).bind fun p => match p.1.d with
  | .bl b => some (b, p.2)
  | _ => none
theorem tst_of {f : Ef} {σ : L2.St} {H : Hp} {Q : Bool → Hp → Prop} (h : tT X.K (toB f) σ H Q) : tE X.K f σ H fun x H' => ∃ k, x = .bl k ∧ Q k H' := by
  obtain ⟨ρ, M, m, z, M', rs, w, hf, P⟩ := h
  unfold toB at hf
  cases ea : f ρ M with
  | none => rw [ea] at hf; cases hf
  | some p =>
    rw [ea] at hf
    simp only [Option.bind_some] at hf
    refine bindE rs w ea fun H1 m1 v e1 w1 rs1 r1 => ?_
    split at hf
    · rename_i b hb
      cases hf
      rw [hb, Rl] at r1
      exact ⟨_, r1, P H1 m1 e1 w1⟩
    · cases hf
theorem ct_cmp {op : CmpOp} (ho : OpOk X (compareOp op) o) (ha : CEx X a fa) (hb : CEx X b fb) (hm : behindInMarks op b = false) : CTx X (.Compare a [op] [b] pos) (toB (cBin o fa fb)) := by
  obtain ⟨r, h1, h2⟩ := ho
  exact PT.imp (pt_cmpR h1 ha hb hm) fun σ H Q h => bin_of h2 (tst_of h)
/-- a op b op' c -/
def cChain (o o' : Bop) (fa fb fc : Ef) : Ef := fun ρ M => (fa ρ M).bind fun p => (fb ρ p.2).bind fun q => (o p.1.d q.1.d q.2).bind fun r => match r with
  | .val (.bl true) => (fc ρ q.2).bind fun s => (o' q.1.d s.1.d s.2).bind fun z => some (z, s.2)
  | .val (.bl false) => some (.val (.bl false), q.2)
  | _ => none
theorem chain_of {r r' : R2} (ho : ∀ H m M d e x y z Q, Wd X.K H m M → Rl X.K H m d x → Rl X.K H m e y → o d e M = some z → Post X.K H m z M Q → r x y H Q)
    (ho' : ∀ H m M d e x y z Q, Wd X.K H m M → Rl X.K H m d x → Rl X.K H m e y → o' d e M = some z → Post X.K H m z M Q → r' x y H Q)
    {σ : L2.St} {H : Hp} {Q : VK} (h : tE X.K (cChain o o' fa fb fc) σ H Q) : tChain r r' (tE X.K fa) (tE X.K fb) (tE X.K fc) σ H Q := by
  obtain ⟨ρ, M, m, z, M', rs, w, hf, P⟩ := h
  unfold cChain at hf
  cases ea : fa ρ M with
  | none => rw [ea] at hf; cases hf
  | some p =>
    rw [ea] at hf
    cases eb : fb ρ p.2 with
    | none => simp [eb] at hf
    | some q =>
      cases ec : o p.1.d q.1.d q.2 with
      | none => simp [eb, ec] at hf
      | some z' =>
        simp only [Option.bind_some, eb, ec] at hf
        refine bindE rs w ea fun H1 m1 v e1 w1 rs1 r1 => ?_
        refine bindE rs1 w1 eb fun H2 m2 u e2 w2 rs2 r2 => ?_
        refine ho H2 m2 q.2 _ _ v u _ _ w2 (r1.ext e2) r2 ec ?_
        split at hf
        · refine Post.use fun H3 m3 t e3 w3 r3 => ?_
          rw [show (Rz.val (D.bl true)).d = .bl true from rfl, Rl] at r3
          refine ⟨true, r3, ?_⟩
          rw [if_pos rfl]
          cases es : fc ρ q.2 with
          | none => simp [es] at hf
          | some s =>
            cases et : o' q.1.d s.1.d s.2 with
            | none => simp [es, et] at hf
            | some z2 =>
              simp [es, et] at hf
              obtain ⟨rfl, rfl⟩ := hf
              refine bindE (rs2.ext e3) w3 es fun H4 m4 t' e4 w4 rs4 r4 => ?_
              exact ho' H4 m4 s.2 _ _ u t' _ Q w4 (r2.ext (e3.trans e4)) r4 et (P.ext (((e1.trans e2).trans e3).trans e4))
        · refine Post.use fun H3 m3 t e3 w3 r3 => ?_
          rw [show (Rz.val (D.bl false)).d = .bl false from rfl, Rl] at r3
          refine ⟨false, r3, ?_⟩
          rw [if_neg Bool.false_ne_true]
          cases hf
          exact P.ext ((e1.trans e2).trans e3) |>.val w3 (by rw [Rl])
        · cases hf
theorem ce_chain {op op' : CmpOp} (ho : OpOk X (compareOp op) o) (ho' : OpOk X (compareOp op') o') (ha : CEx X a fa) (hb : CEx X b fb) (hc : CEx X c fc)
    (hm : lastMarks [op, op'] [b, c] = false := by with_unfolding_all rfl) : CEx X (.Compare a [op, op'] [b, c] pos) (cChain o o' fa fb fc) := by
  obtain ⟨r, h1, h2⟩ := ho
  obtain ⟨r', h1', h2'⟩ := ho'
  exact PE.imp (pe_chain h1 h1' ha hb hc hm) fun σ H Q h => chain_of h2 h2' h
theorem ct_chain {op op' : CmpOp} (ho : OpOk X (compareOp op) o) (ho' : OpOk X (compareOp op') o') (ha : CEx X a fa) (hb : CEx X b fb) (hc : CEx X c fc)
    (hm : lastMarks [op, op'] [b, c] = false := by with_unfolding_all rfl) : CTx X (.Compare a [op, op'] [b, c] pos) (toB (cChain o o' fa fb fc)) := by
  obtain ⟨r, h1, h2⟩ := ho
  obtain ⟨r', h1', h2'⟩ := ho'
  exact PT.imp (pt_chain h1 h1' ha hb hc hm) fun σ H Q h => chain_of h2 h2' (tst_of h)
end

/-! ### and, or, not, if else -/
section
variable {X : Cx} {a b c : Expr} {rest : List Expr} {fa fb : Ef} {ta tb : Tf} {pos : Pos}
def kAnd (ta tb : Tf) : Tf := fun ρ M => (ta ρ M).bind fun p => if p.1 = true then tb ρ p.2 else some (false, p.2)
def kOr (ta tb : Tf) : Tf := fun ρ M => (ta ρ M).bind fun p => if p.1 = true then some (true, p.2) else tb ρ p.2
def kNot (ta : Tf) : Tf := fun ρ M => (ta ρ M).bind fun p => some (!p.1, p.2)
theorem cw_and1 (ha : CTx X a ta) : CWx X (.BoolOp .And [a] pos) ta := pw_and1 ha
theorem cw_or1 (ha : CTx X a ta) : CWx X (.BoolOp .Or [a] pos) ta := pw_or1 ha
theorem cw_and (ha : CTx X a ta) (hb : CWx X (.BoolOp .And (b :: rest) pos) tb) : CWx X (.BoolOp .And (a :: b :: rest) pos) (kAnd ta tb) := PW.imp (pw_and ha hb) fun σ H Q h => by
  obtain ⟨ρ, M, m, z, M', rs, w, hf, P⟩ := h
  unfold kAnd at hf
  cases ea : ta ρ M with
  | none => rw [ea] at hf; cases hf
  | some p =>
    rw [ea] at hf
    simp only [Option.bind_some] at hf
    refine bindT rs w ea fun H1 m1 e1 w1 rs1 => ?_
    split at hf
    · rename_i e; rw [if_pos e]
      exact ⟨ρ, p.2, m1, z, M', rs1, w1, hf, fun H2 m2 e2 w2 => P H2 m2 (e1.trans e2) w2⟩
    · rename_i e; rw [if_neg e]
      cases hf
      exact P H1 m1 e1 w1
theorem cw_or (ha : CTx X a ta) (hb : CWx X (.BoolOp .Or (b :: rest) pos) tb) : CWx X (.BoolOp .Or (a :: b :: rest) pos) (kOr ta tb) := PW.imp (pw_or ha hb) fun σ H Q h => by
  obtain ⟨ρ, M, m, z, M', rs, w, hf, P⟩ := h
  unfold kOr at hf
  cases ea : ta ρ M with
  | none => rw [ea] at hf; cases hf
  | some p =>
    rw [ea] at hf
    simp only [Option.bind_some] at hf
    refine bindT rs w ea fun H1 m1 e1 w1 rs1 => ?_
    split at hf
    · rename_i e; rw [if_pos e]
      cases hf
      exact P H1 m1 e1 w1
    · rename_i e; rw [if_neg e]
      exact ⟨ρ, p.2, m1, z, M', rs1, w1, hf, fun H2 m2 e2 w2 => P H2 m2 (e1.trans e2) w2⟩
theorem ct_w (h : CWx X a ta) : CTx X a ta := h.pt
theorem ct_not (ha : CTx X a ta) : CTx X (.UnaryOp .Not a pos) (kNot ta) := PT.imp (pt_not ha) fun σ H Q h => by
  obtain ⟨ρ, M, m, z, M', rs, w, hf, P⟩ := h
  unfold kNot at hf
  cases ea : ta ρ M with
  | none => rw [ea] at hf; cases hf
  | some p =>
    rw [ea] at hf
    cases hf
    exact bindT rs w ea fun H1 m1 e1 w1 rs1 => P H1 m1 e1 w1
/-- .. as values -/
def cAnd (fa fb : Ef) : Ef := fun ρ M => (fa ρ M).bind fun p => match p.1.d with
  | .bl true => fb ρ p.2
  | .bl false => some (.val (.bl false), p.2)
  | _ => none
def cOr (fa fb : Ef) : Ef := fun ρ M => (fa ρ M).bind fun p => match p.1.d with
  | .bl true => some (.val (.bl true), p.2)
  | .bl false => fb ρ p.2
  | _ => none
def cNot (fa : Ef) : Ef := fun ρ M => (fa ρ M).bind fun p => match p.1.d with
  | .bl b => some (.val (.bl (!b)), p.2)
  | _ => none
theorem ce_one {op} (h : CEx X a fa) : CEx X (.BoolOp op [a] pos) fa := pe_one h
theorem ce_and (ha : CEx X a fa) (hb : CEx X (.BoolOp .And (b :: rest) pos) fb) : CEx X (.BoolOp .And (a :: b :: rest) pos) (cAnd fa fb) := PE.imp (pe_and ha hb) fun σ H Q h => by
  obtain ⟨ρ, M, m, z, M', rs, w, hf, P⟩ := h
  unfold cAnd at hf
  cases ea : fa ρ M with
  | none => rw [ea] at hf; cases hf
  | some p =>
    rw [ea] at hf
    simp only [Option.bind_some] at hf
    refine bindE rs w ea fun H1 m1 v e1 w1 rs1 r1 => ?_
    split at hf
    · rename_i e; rw [e, Rl] at r1
      refine ⟨true, r1, ?_⟩; rw [if_pos rfl]
      exact ⟨ρ, p.2, m1, z, M', rs1, w1, hf, P.ext e1⟩
    · rename_i e; rw [e, Rl] at r1
      refine ⟨false, r1, ?_⟩; rw [if_neg Bool.false_ne_true]
      cases hf
      exact (P.ext e1).val w1 (by rw [Rl])
    · cases hf
theorem ce_or (ha : CEx X a fa) (hb : CEx X (.BoolOp .Or (b :: rest) pos) fb) : CEx X (.BoolOp .Or (a :: b :: rest) pos) (cOr fa fb) := PE.imp (pe_or ha hb) fun σ H Q h => by
  obtain ⟨ρ, M, m, z, M', rs, w, hf, P⟩ := h
  unfold cOr at hf
  cases ea : fa ρ M with
  | none => rw [ea] at hf; cases hf
  | some p =>
    rw [ea] at hf
    simp only [Option.bind_some] at hf
    refine bindE rs w ea fun H1 m1 v e1 w1 rs1 r1 => ?_
    split at hf
    · rename_i e; rw [e, Rl] at r1
      refine ⟨true, r1, ?_⟩; rw [if_pos rfl]
      cases hf
      exact (P.ext e1).val w1 (by rw [Rl])
    · rename_i e; rw [e, Rl] at r1
      refine ⟨false, r1, ?_⟩; rw [if_neg Bool.false_ne_true]
      exact ⟨ρ, p.2, m1, z, M', rs1, w1, hf, P.ext e1⟩
    · cases hf
theorem ce_not (ha : CEx X a fa) : CEx X (.UnaryOp .Not a pos) (cNot fa) := PE.imp (pe_not ha) fun σ H Q h => by
  obtain ⟨ρ, M, m, z, M', rs, w, hf, P⟩ := h
  unfold cNot at hf
  cases ea : fa ρ M with
  | none => rw [ea] at hf; cases hf
  | some p =>
    rw [ea] at hf
    simp only [Option.bind_some] at hf
    refine bindE rs w ea fun H1 m1 v e1 w1 rs1 r1 => ?_
    split at hf
    · rename_i b e; rw [e, Rl] at r1
      cases hf
      exact ⟨b, r1, (P.ext e1).val w1 (by rw [Rl])⟩
    · cases hf
def cIf (t : Tf) (fa fb : Ef) : Ef := fun ρ M => (t ρ M).bind fun p => if p.1 = true then fa ρ p.2 else fb ρ p.2
theorem ce_if (hc : CTx X c ta) (ha : CEx X a fa) (hb : CEx X b fb) : CEx X (.IfExp c a b pos) (cIf ta fa fb) := PE.imp (pe_ifExp hc ha hb) fun σ H Q h => by
  obtain ⟨ρ, M, m, z, M', rs, w, hf, P⟩ := h
  unfold cIf at hf
  cases ea : ta ρ M with
  | none => rw [ea] at hf; cases hf
  | some p =>
    rw [ea] at hf
    simp only [Option.bind_some] at hf
    refine bindT rs w ea fun H1 m1 e1 w1 rs1 => ?_
    split at hf
    · rename_i e; rw [if_pos e]; exact ⟨ρ, p.2, m1, z, M', rs1, w1, hf, P.ext e1⟩
    · rename_i e; rw [if_neg e]; exact ⟨ρ, p.2, m1, z, M', rs1, w1, hf, P.ext e1⟩
end

/-! ### argument lists, displays -/
section
variable {X : Cx} {e : Expr} {es : List Expr} {f : Ef} {g : Af} {pos : Pos}
def aNil : Af := fun _ M => some ([], M)
def aCons (f : Ef) (g : Af) : Af := fun ρ M => (f ρ M).bind fun p => (g ρ p.2).bind fun q => some (p.1.d :: q.1, q.2)
theorem ca_nil : CAx X [] aNil := PA.imp pa_nil fun σ H Q ⟨ρ, M, m, ds, M', rs, w, hf, P⟩ => by
  cases hf
  exact P H m [] .refl w (by rw [Rls])
theorem ca_cons (ha : CEx X e f) (hr : CAx X es g) (hs : starEach (e :: es) X.env = (false, eval e X.env) :: starEach es X.env := by rfl) : CAx X (e :: es) (aCons f g) := PA.imp (pa_cons ha hr hs) fun σ H Q ⟨ρ, M, m, ds, M', rs, w, hf, P⟩ => by
  unfold aCons at hf
  cases ea : f ρ M with
  | none => rw [ea] at hf; cases hf
  | some p =>
    cases eb : g ρ p.2 with
    | none => simp [ea, eb] at hf
    | some q =>
      simp [ea, eb] at hf
      obtain ⟨rfl, rfl⟩ := hf
      refine bindE rs w ea fun H1 m1 v e1 w1 rs1 r1 => ?_
      refine bindA rs1 w1 eb fun H2 m2 vs e2 w2 rs2 r2 => ?_
      exact P H2 m2 _ (e1.trans e2) w2 (by rw [Rls]; exact ⟨_, _, rfl, r1.ext e2, r2⟩)
def cTup (g : Af) : Ef := fun ρ M => (g ρ M).bind fun p => if p.1.length ≤ sizeLine then some (.val (.tup p.1), p.2) else none
def cLst (g : Af) : Ef := fun ρ M => (g ρ M).bind fun p => if p.1.length ≤ sizeLine then some (.new p.1, p.2) else none
theorem ce_tup {x1} (h : CAx X es g) : CEx X (.Tuple es x1 pos) (cTup g) := PE.imp (pe_tup h) fun σ H Q ⟨ρ, M, m, z, M', rs, w, hf, P⟩ => by
  unfold cTup at hf
  cases ea : g ρ M with
  | none => rw [ea] at hf; cases hf
  | some p =>
    rw [ea] at hf
    simp only [Option.bind_some] at hf
    split at hf
    · cases hf
      refine bindA rs w ea fun H1 m1 vs e1 w1 rs1 r1 => ⟨by rw [← r1.length]; assumption, (P.ext e1).tup w1 r1⟩
    · cases hf
theorem ce_lst (h : CAx X es g) : CEx X (.List es pos) (cLst g) := PE.imp (pe_lst h) fun σ H Q ⟨ρ, M, m, z, M', rs, w, hf, P⟩ => by
  unfold cLst at hf
  cases ea : g ρ M with
  | none => rw [ea] at hf; cases hf
  | some p =>
    rw [ea] at hf
    simp only [Option.bind_some] at hf
    split at hf
    · cases hf
      refine bindA rs w ea fun H1 m1 vs e1 w1 rs1 r1 => ⟨by rw [← r1.length]; assumption, (P.ext e1).new w1 r1⟩
    · cases hf
end
end CI

/-! Ci3: operators by values, subscripts, slices, calls, attributes -/
namespace CI
open PySem PySem.Spec PyProof.Rows L2

/-! ### sequences -/
/-- a list that can be read; that can be written; a tuple -/
def asL (M : Mem) : D → Option (List D)
  | .lst ds => some ds
  | .scr ns => some (ns.map .int)
  | .loc k => match M[k]? with
    | some (.lst ds) => some ds
    | _ => none
  | _ => none
def asW (M : Mem) : D → Option (List D)
  | .lst ds => some ds
  | .loc k => match M[k]? with
    | some (.lst ds) => some ds
    | _ => none
  | _ => none
def asT : D → Option (List D)
  | .tup ds => some ds
  | _ => none
/-- any sequence -/
def asS (M : Mem) (d : D) : Option (List D) := match d with
  | .tup ds => some ds
  | d => asL M d
section
variable {K : PySem.W.Frag} {H : Hp} {m : List Addr} {M : Mem} {d : D} {ds : List D} {x : V}
theorem asW_ok (w : Wd K H m M) (r : Rl K H m d x) (h : asW M d = some ds) : ∃ a vs, x = .ref a ∧ H a = some (.lst vs) ∧ Rls K H m ds vs := by
  cases d with
  | lst es => cases h; rw [Rl] at r; obtain ⟨a, vs, r1, _, r2, r3⟩ := r; exact ⟨a, vs, r1, r2, r3⟩
  | loc k =>
    rw [Rl] at r
    obtain ⟨a, rfl, ha⟩ := r
    unfold asW at h
    simp only at h
    split at h
    · rename_i es hk
      cases h
      obtain ⟨b, hb, vs, h1, h2⟩ := w.get hk
      rw [ha] at hb; cases hb
      exact ⟨a, vs, rfl, h1, h2⟩
    · cases h
  | _ => cases h
theorem asL_ok (w : Wd K H m M) (r : Rl K H m d x) (h : asL M d = some ds) : ∃ a vs, x = .ref a ∧ SqL K H a vs ∧ Rls K H m ds vs := by
  cases d with
  | lst es => obtain ⟨a, vs, h1, h2, h3⟩ := asW_ok w r (d := .lst es) h; exact ⟨a, vs, h1, .of h2, h3⟩
  | loc k => obtain ⟨a, vs, h1, h2, h3⟩ := asW_ok w r (d := .loc k) h; exact ⟨a, vs, h1, .of h2, h3⟩
  | scr ns =>
    cases h
    rw [Rl] at r
    obtain ⟨a, rfl, ha⟩ := r
    exact ⟨a, _, rfl, ha.l, .ints⟩
  | _ => cases h
theorem asT_ok (r : Rl K H m d x) (h : asT d = some ds) : ∃ a vs, x = .ref a ∧ SqT K H a vs ∧ Rls K H m ds vs := by
  cases d with
  | tup es => cases h; rw [Rl] at r; exact r
  | _ => cases h
theorem asS_ok (w : Wd K H m M) (r : Rl K H m d x) (h : asS M d = some ds) : ∃ a vs, x = .ref a ∧ (SqL K H a vs ∨ SqT K H a vs) ∧ Rls K H m ds vs := by
  cases d with
  | tup es => obtain ⟨a, vs, h1, h2, h3⟩ := asT_ok r (d := .tup es) h; exact ⟨a, vs, h1, .inr h2, h3⟩
  | lst es => obtain ⟨a, vs, h1, h2, h3⟩ := asL_ok w r (d := .lst es) h; exact ⟨a, vs, h1, .inl h2, h3⟩
  | loc k => obtain ⟨a, vs, h1, h2, h3⟩ := asL_ok w r (d := .loc k) h; exact ⟨a, vs, h1, .inl h2, h3⟩
  | scr k => obtain ⟨a, vs, h1, h2, h3⟩ := asL_ok w r (d := .scr k) h; exact ⟨a, vs, h1, .inl h2, h3⟩
  | _ => cases h
end

/-! ### int operators -/
section
variable {X : Cx}
def oI (g : Int → Int → D) : Bop := fun d e _ => match d, e with
  | .int i, .int j => some (.val (g i j))
  | _, _ => none
def oIc (C : Int → Int → Bool) (g : Int → Int → D) : Bop := fun d e _ => match d, e with
  | .int i, .int j => if C i j = true then some (.val (g i j)) else none
  | _, _ => none
theorem opOk_I {f : Value → Value → Sem Value} {g : Int → Int → D} {gv : Int → Int → V} (h : OpR X f (rI0 gv)) (hg : ∀ i j H m, Rl X.K H m (g i j) (gv i j)) : OpOk X f (oI g) :=
  ⟨_, h, fun H m M d e x y z Q w rd re ho P => by
    unfold oI at ho
    split at ho
    · rename_i i j
      cases ho
      rw [Rl] at rd re
      exact ⟨i, j, rd, re, P.val w (hg i j H m)⟩
    · cases ho⟩
theorem opOk_Ic {f : Value → Value → Sem Value} {C : Int → Int → Prop} {Cb : Int → Int → Bool} {g : Int → Int → D} {gv : Int → Int → V} (h : OpR X f (rI C gv)) (hg : ∀ i j H m, Rl X.K H m (g i j) (gv i j)) (hc : ∀ i j, Cb i j = true → C i j) : OpOk X f (oIc Cb g) :=
  ⟨_, h, fun H m M d e x y z Q w rd re ho P => by
    unfold oIc at ho
    split at ho
    · rename_i i j
      split at ho
      · rename_i hcb
        cases ho
        rw [Rl] at rd re
        exact ⟨i, j, rd, re, hc i j hcb, P.val w (hg i j H m)⟩
      · cases ho
    · cases ho⟩
theorem OpOk.or {f : Value → Value → Sem Value} {o o' : Bop} (h : OpOk X f o) (h' : OpOk X f o') : OpOk X f (fun d e M => (o d e M).orElse fun _ => o' d e M) := by
  obtain ⟨r, h1, h2⟩ := h
  obtain ⟨r', h1', h2'⟩ := h'
  refine ⟨_, h1.or h1', fun H m M d e x y z Q w rd re ho P => ?_⟩
  cases q : o d e M with
  | some z' => simp [q] at ho; subst ho; exact .inl (h2 H m M d e x y z' Q w rd re q P)
  | none => simp [q] at ho; exact .inr (h2' H m M d e x y z Q w rd re ho P)
def sm64 (i : Int) : Bool := decide (-(2 ^ 64) < i) && decide (i < 2 ^ 64)
def bMul (i j : Int) : Bool := sm64 i || sm64 j
def bDiv (_ j : Int) : Bool := decide (0 < j) && decide (j < 1073741824)
def bMod (_ j : Int) : Bool := decide (0 < j)
def bPow (i j : Int) : Bool := decide (0 ≤ j) && decide (j ≤ 1000000) && decide (i.natAbs < 2 ^ 64)
theorem rl_int {K : PySem.W.Frag} {H : Hp} {m : List Addr} {i : Int} : Rl K H m (.int i) (.int i) := by rw [Rl]
theorem rl_bl {K : PySem.W.Frag} {H : Hp} {m : List Addr} {i : Bool} : Rl K H m (.bl i) (.bl i) := by rw [Rl]
theorem rl_str {K : PySem.W.Frag} {H : Hp} {m : List Addr} {i : Str} : Rl K H m (.str i) (.str i) := by rw [Rl]
theorem rl_non {K : PySem.W.Frag} {H : Hp} {m : List Addr} : Rl K H m .non .non := by rw [Rl]
def oSub : Bop := oI fun i j => .int (i - j)
theorem ok_sub : OpOk X (binaryOp .Sub) oSub := opOk_I op_sub fun _ _ _ _ => rl_int
def oMulI : Bop := oIc bMul fun i j => .int (i * j)
theorem ok_mulI : OpOk X (binaryOp .Mult) oMulI := opOk_Ic op_mul (fun _ _ _ _ => rl_int) fun i j h => by
  unfold bMul sm64 at h
  simp only [Bool.or_eq_true, Bool.and_eq_true, decide_eq_true_eq] at h
  exact h
def oDiv : Bop := oIc bDiv fun i j => .int (i / j)
theorem ok_div : OpOk X (binaryOp .FloorDiv) oDiv := opOk_Ic op_fdiv (fun _ _ _ _ => rl_int) fun i j h => by
  unfold bDiv at h
  simp only [Bool.and_eq_true, decide_eq_true_eq] at h
  exact h
def oMod : Bop := oIc bMod fun i j => .int (i % j)
theorem ok_mod : OpOk X (binaryOp .Mod) oMod := opOk_Ic op_mod (fun _ _ _ _ => rl_int) fun i j h => by
  unfold bMod at h
  simpa using h
def oPow : Bop := oIc bPow fun i j => .int (i ^ j.toNat)
theorem ok_pow : OpOk X (binaryOp .Pow) oPow := opOk_Ic op_pow (fun _ _ _ _ => rl_int) fun i j h => by
  unfold bPow at h
  simp only [Bool.and_eq_true, decide_eq_true_eq] at h
  exact ⟨h.1.1, h.1.2, h.2⟩
def oLt : Bop := oI fun i j => .bl (decide (i < j))
theorem ok_lt : OpOk X (compareOp .Lt) oLt := opOk_I op_lt fun _ _ _ _ => rl_bl
def oLe : Bop := oI fun i j => .bl (decide (i ≤ j))
theorem ok_le : OpOk X (compareOp .LtE) oLe := opOk_I op_le fun _ _ _ _ => rl_bl
def oGt : Bop := oI fun i j => .bl (decide (j < i))
theorem ok_gt : OpOk X (compareOp .Gt) oGt := opOk_I op_gt fun _ _ _ _ => rl_bl
def oGe : Bop := oI fun i j => .bl (decide (j ≤ i))
theorem ok_ge : OpOk X (compareOp .GtE) oGe := opOk_I op_ge fun _ _ _ _ => rl_bl
/-! ### + -/
def oAdd : Bop := fun d e M => match d, e with
  | .int i, .int j => some (.val (.int (i + j)))
  | .str i, .str j => if i.length + j.length ≤ sizeLine then some (.val (.str (i ++ j))) else none
  | .tup xs, .tup ys => if xs.length + ys.length ≤ sizeLine then some (.val (.tup (xs ++ ys))) else none
  | d, e => match asW M d, asW M e with
    | some xs, some ys => if xs.length + ys.length ≤ sizeLine then some (.new (xs ++ ys)) else none
    | _, _ => none
theorem rls_nil {K : PySem.W.Frag} {H : Hp} {m : List Addr} {vs : List V} (h : Rls K H m [] vs) : vs = [] := by rw [Rls] at h; exact h
theorem rls_of_nil {K : PySem.W.Frag} {H : Hp} {m : List Addr} {ds : List D} (h : Rls K H m ds []) : ds = [] := by
  have := h.length
  exact List.eq_nil_of_length_eq_zero (by simpa using this)
theorem ok_add : OpOk X (binaryOp .Add) oAdd := by
  refine ⟨_, op_add.or (op_add_str.or (op_catA.or op_cat)), fun H m M d e x y z Q w rd re ho P => ?_⟩
  unfold oAdd at ho
  split at ho
  · rename_i i j
    cases ho
    rw [Rl] at rd re
    exact .inl ⟨i, j, rd, re, P.val w rl_int⟩
  · rename_i i j
    rw [Rl] at rd re
    split at ho
    · rename_i hl
      cases ho
      exact .inr (.inl ⟨i, j, rd, re, hl, P.val w rl_str⟩)
    · cases ho
  · rename_i xs ys
    split at ho
    · rename_i hl
      cases ho
      rw [Rl] at rd re
      obtain ⟨a, vs, rfl, hv, r1⟩ := rd
      obtain ⟨b, ws, rfl, hw, r2⟩ := re
      refine .inr (.inr (.inl ⟨a, b, vs, ws, rfl, rfl, hv, hw, by rw [← r1.length, ← r2.length]; exact hl, fun q => ?_, fun _ q => ?_, fun _ _ => P.tup w (r1.append r2)⟩))
      · subst q
        have := rls_of_nil r1; subst this
        exact P.val w (by rw [Rl]; exact ⟨b, ws, rfl, hw, r2⟩)
      · subst q
        have := rls_of_nil r2; subst this
        exact P.val w (by rw [Rl]; exact ⟨a, vs, rfl, hv, by simpa using r1⟩)
    · cases ho
  · split at ho
    · rename_i xs ys h1 h2
      split at ho
      · rename_i hl
        cases ho
        obtain ⟨a, vs, rfl, hv, r1⟩ := asW_ok w rd h1
        obtain ⟨b, ws, rfl, hw, r2⟩ := asW_ok w re h2
        exact .inr (.inr (.inr ⟨a, b, vs, ws, rfl, rfl, hv, hw, by rw [← r1.length, ← r2.length]; exact hl, P.new w (r1.append r2)⟩))
      · cases ho
    · cases ho

/-! ### is -/
def isBl (b : Bool) : D → Bool
  | .bl a => decide (a = b)
  | _ => false
def isNon : D → Bool
  | .non => true
  | _ => false
def oIs (neg : Bool) : Bop := fun d e _ => match e with
  | .non => some (.val (.bl (neg != isNon d)))
  | .bl b => some (.val (.bl (neg != isBl b d)))
  | _ => none
theorem plain_of {x : V} {v : Value} {b : Bool} (r : RelV x v) : plainIs v (.bool b) = true := by
  cases x with
  | non => cases r; rfl
  | bl _ => cases r; rfl
  | int _ => obtain ⟨t, rfl⟩ := r; rfl
  | str _ => obtain ⟨t, rfl⟩ := r; rfl
  | byt _ => obtain ⟨t, rfl⟩ := r; rfl
  | flt _ => obtain ⟨t, rfl⟩ := r; rfl
  | ref _ => cases r; rfl
  | ty _ => cases r; rfl
theorem beq_bl {x : V} {v : Value} {b : Bool} (r : RelV x v) : (v == Value.bool b) = decide (x = V.bl b) := by
  cases x with
  | non => cases r; rfl
  | bl a =>
    cases r
    by_cases e : a = b
    · subst e; simp
    · simp [e]
  | int _ => obtain ⟨t, rfl⟩ := r; rfl
  | str _ => obtain ⟨t, rfl⟩ := r; rfl
  | byt _ => obtain ⟨t, rfl⟩ := r; rfl
  | flt _ => obtain ⟨t, rfl⟩ := r; rfl
  | ref _ => cases r; rfl
  | ty _ => cases r; rfl
theorem op_isB : OpR X (compareOp .Is) (fun x y H Q => ∃ b, y = .bl b ∧ Q (.bl (decide (x = .bl b))) H) := by
  intro pins s σ H x y v u Q I rx ry h
  obtain ⟨b, rfl, q⟩ := h
  cases (show u = Value.bool b from ry)
  exact wpAny_is_plain (plain_of rx) ⟨.bl _, H, I, by rw [beq_bl rx]; rfl, q⟩
theorem op_notB : OpR X (compareOp .IsNot) (fun x y H Q => ∃ b, y = .bl b ∧ Q (.bl (!decide (x = .bl b))) H) := by
  intro pins s σ H x y v u Q I rx ry h
  obtain ⟨b, rfl, q⟩ := h
  cases (show u = Value.bool b from ry)
  exact wpAny_isNot_plain (plain_of rx) ⟨.bl _, H, I, by rw [beq_bl rx]; rfl, q⟩
theorem isNon_ok {K : PySem.W.Frag} {H : Hp} {m : List Addr} {d : D} {x : V} (rd : Rl K H m d x) : decide (x = V.non) = isNon d := by
  cases d <;> rw [Rl] at rd
  · simp [rd, isNon]
  all_goals first | (simp [rd, isNon]; done) | (obtain ⟨_, _, rfl, _⟩ := rd; simp [isNon]; done) | (obtain ⟨_, rfl, _⟩ := rd; simp [isNon]; done)
theorem isBl_ok {K : PySem.W.Frag} {H : Hp} {m : List Addr} {d : D} {x : V} {b : Bool} (rd : Rl K H m d x) : decide (x = V.bl b) = isBl b d := by
  cases d <;> rw [Rl] at rd
  all_goals first | (simp [rd, isBl]; done) | (obtain ⟨_, _, rfl, _⟩ := rd; simp [isBl]; done) | (obtain ⟨_, rfl, _⟩ := rd; simp [isBl]; done)
theorem ok_is : OpOk X (compareOp .Is) (oIs false) := by
  refine ⟨_, op_isN.or op_isB, fun H m M d e x y z Q w rd re ho P => ?_⟩
  unfold oIs at ho
  split at ho
  · cases ho
    rw [Rl] at re
    refine .inl ⟨re, ?_⟩
    rw [isNon_ok rd]
    exact P.val w (by rw [Rl]; cases isNon d <;> rfl)
  · rename_i b
    cases ho
    rw [Rl] at re
    refine .inr ⟨b, re, ?_⟩
    rw [isBl_ok rd]
    exact P.val w (by rw [Rl]; cases isBl b d <;> rfl)
  · cases ho
theorem ok_isnot : OpOk X (compareOp .IsNot) (oIs true) := by
  refine ⟨_, op_notN.or op_notB, fun H m M d e x y z Q w rd re ho P => ?_⟩
  unfold oIs at ho
  split at ho
  · cases ho
    rw [Rl] at re
    refine .inl ⟨re, ?_⟩
    rw [isNon_ok rd]
    exact P.val w (by rw [Rl]; cases isNon d <;> rfl)
  · rename_i b
    cases ho
    rw [Rl] at re
    refine .inr ⟨b, re, ?_⟩
    rw [isBl_ok rd]
    exact P.val w (by rw [Rl]; cases isBl b d <;> rfl)
  · cases ho

/-! ### == -/
mutual
def py0 : D → Option PyData
  | .non => some .none
  | .bl b => some (.bool b)
  | .int i => some (.int i)
  | .str x => some (.str x)
  | .tup ds => (py0s ds).map .tuple
  | .lst ds => (py0s ds).map .list
  | .scr ns => some (.list (ns.map .int))
  | .loc _ => none
def py0s : List D → Option (List PyData)
  | [] => some []
  | d :: ds => (py0 d).bind fun p => (py0s ds).bind fun ps => some (p :: ps)
end
def py (M : Mem) (d : D) : Option PyData := match d with
  | .loc k => match M[k]? with
    | some (.lst ds) => (py0s ds).map .list
    | _ => none
  | d => py0 d
section
variable {K : PySem.W.Frag} {H : Hp} {m : List Addr} {M : Mem}
mutual
theorem py0_ok : ∀ {d : D} {x : V} {p : PyData}, Rl K H m d x → py0 d = some p → Dp K H x p
  | .non, _, _, r, h => by rw [Rl] at r; subst r; cases h; exact .non
  | .bl b, _, _, r, h => by rw [Rl] at r; subst r; cases h; exact .bl b
  | .int b, _, _, r, h => by rw [Rl] at r; subst r; cases h; exact .int b
  | .str b, _, _, r, h => by rw [Rl] at r; subst r; cases h; exact .str b
  | .tup ds, _, p, r, h => by
    rw [Rl] at r
    obtain ⟨a, vs, rfl, h1, h2⟩ := r
    rw [py0] at h
    cases q : py0s ds with
    | none => rw [q] at h; cases h
    | some ps => rw [q] at h; cases h; exact .tup h1 (py0s_ok h2 q)
  | .lst ds, _, p, r, h => by
    rw [Rl] at r
    obtain ⟨a, vs, rfl, _, h1, h2⟩ := r
    rw [py0] at h
    cases q : py0s ds with
    | none => rw [q] at h; cases h
    | some ps => rw [q] at h; cases h; exact .lst (.of h1) (py0s_ok h2 q)
  | .scr ns, _, p, r, h => by
    rw [Rl] at r
    obtain ⟨a, rfl, h1⟩ := r
    rw [py0] at h
    cases h
    refine .lst h1.l ?_
    induction ns with
    | nil => exact .nil
    | cons n ns ih => exact .cons (.int n) (by
        clear h1 ih
        induction ns with
        | nil => exact .nil
        | cons n ns ih => exact .cons (.int n) ih)
  | .loc _, _, _, _, h => by cases h
theorem py0s_ok : ∀ {ds : List D} {vs : List V} {ps : List PyData}, Rls K H m ds vs → py0s ds = some ps → DpAll K H vs ps
  | [], _, _, r, h => by rw [Rls] at r; subst r; cases h; exact .nil
  | d :: ds, _, ps, r, h => by
    rw [Rls] at r
    obtain ⟨v, r', rfl, h1, h2⟩ := r
    rw [py0s] at h
    cases q : py0 d with
    | none => rw [q] at h; cases h
    | some p =>
      cases q2 : py0s ds with
      | none => rw [q, q2] at h; cases h
      | some ps2 => rw [q, q2] at h; cases h; exact .cons (py0_ok h1 q) (py0s_ok h2 q2)
end
theorem py_ok {d : D} {x : V} {p : PyData} (w : Wd K H m M) (r : Rl K H m d x) (h : py M d = some p) : Dp K H x p := by
  cases d with
  | loc k =>
    rw [Rl] at r
    obtain ⟨a, rfl, ha⟩ := r
    unfold py at h
    simp only at h
    split at h
    · rename_i ds hk
      cases q : py0s ds with
      | none => rw [q] at h; cases h
      | some ps =>
        rw [q] at h; cases h
        obtain ⟨b, hb, vs, h1, h2⟩ := w.get hk
        rw [ha] at hb; cases hb
        exact .lst (.of h1) (py0s_ok h2 q)
    · cases h
  | _ => exact py0_ok r h
end
def eqB (M : Mem) (d e : D) : Option Bool := match d, e with
  | .int i, .int j => some (decide (i = j))
  | .str i, .str j => some (decide (i = j))
  | .bl i, .bl j => some (decide (i = j))
  | d, e => match py M d, py M e with
    | some a, some b => if SeqAt.shaped a = true ∧ SeqAt.shaped b = true then some (PyData.eqv a b) else none
    | _, _ => none
def oEq : Bop := fun d e M => (eqB M d e).bind fun b => some (.val (.bl b))
def oNe : Bop := fun d e M => (eqB M d e).bind fun b => some (.val (.bl (!b)))
theorem eq_of {H : Hp} {m : List Addr} {M : Mem} {d e : D} {x y : V} {b : Bool} {K : PySem.W.Frag} (w : Wd K H m M) (rd : Rl K H m d x) (re : Rl K H m e y) (h : eqB M d e = some b) :
    (scal x y = true ∧ b = decide (x = y)) ∨ ∃ p q, Dp K H x p ∧ Dp K H y q ∧ SeqAt.shaped p = true ∧ SeqAt.shaped q = true ∧ b = PyData.eqv p q := by
  unfold eqB at h
  split at h
  · rw [Rl] at rd re; subst rd re; cases h; exact .inl ⟨rfl, by simp⟩
  · rw [Rl] at rd re; subst rd re; cases h; exact .inl ⟨rfl, by simp⟩
  · rw [Rl] at rd re; subst rd re; cases h; exact .inl ⟨rfl, by simp⟩
  · split at h
    · rename_i p q h1 h2
      split at h
      · rename_i hs
        cases h
        exact .inr ⟨p, q, py_ok w rd h1, py_ok w re h2, hs.1, hs.2, rfl⟩
      · cases h
    · cases h
theorem ok_eq (hu : X.A.units + 64 < cLine) : OpOk X (compareOp .Eq) oEq := by
  refine ⟨_, op_eq.or (op_eqD hu), fun H m M d e x y z Q w rd re ho P => ?_⟩
  unfold oEq at ho
  cases q : eqB M d e with
  | none => rw [q] at ho; cases ho
  | some b =>
    rw [q] at ho; cases ho
    rcases eq_of w rd re q with ⟨h1, rfl⟩ | ⟨p, p', h1, h2, h3, h4, rfl⟩
    · exact .inl ⟨h1, P.val w rl_bl⟩
    · exact .inr ⟨p, p', h1, h2, h3, h4, P.val w rl_bl⟩
theorem ok_ne (hu : X.A.units + 64 < cLine) : OpOk X (compareOp .NotEq) oNe := by
  refine ⟨_, op_ne.or (op_neD hu), fun H m M d e x y z Q w rd re ho P => ?_⟩
  unfold oNe at ho
  cases q : eqB M d e with
  | none => rw [q] at ho; cases ho
  | some b =>
    rw [q] at ho; cases ho
    rcases eq_of w rd re q with ⟨h1, rfl⟩ | ⟨p, p', h1, h2, h3, h4, rfl⟩
    · exact .inl ⟨h1, P.val w rl_bl⟩
    · exact .inr ⟨p, p', h1, h2, h3, h4, P.val w rl_bl⟩

/-! ### in -/
def fl : D → Bool
  | .non => true | .bl _ => true | .int _ => true | .str _ => true | _ => false
def eqF : D → D → Bool
  | .non, .non => true
  | .bl a, .bl b => a == b
  | .bl a, .int b => (if a then 1 else 0) == b
  | .int a, .bl b => a == (if b then 1 else 0)
  | .int a, .int b => a == b
  | .str a, .str b => a == b
  | _, _ => false
def inD (d : D) (ds : List D) : Bool := ds.any fun e => eqF e d
def oIn (neg : Bool) : Bop := fun d e M => (asS M e).bind fun ds => if fl d = true ∧ ds.all fl = true then some (.val (.bl (if neg then !inD d ds else inD d ds))) else none
theorem fl_ok {K : PySem.W.Frag} {H : Hp} {m : List Addr} {d : D} {x : V} (r : Rl K H m d x) (h : fl d = true) : flatV x = true := by
  cases d <;> first | (rw [Rl] at r; subst r; rfl) | cases h
theorem eqF_ok {K : PySem.W.Frag} {H : Hp} {m : List Addr} {d e : D} {x y : V} (r : Rl K H m d x) (r' : Rl K H m e y) (h : fl d = true) (h' : fl e = true) : eqF d e = eqV x y := by
  cases d <;> first | (cases h; done) | (cases e <;> first | (cases h'; done) | (rw [Rl] at r; rw [Rl] at r'; subst r r'; rfl))
theorem fls_ok {K : PySem.W.Frag} {H : Hp} {m : List Addr} : ∀ {ds : List D} {vs : List V}, Rls K H m ds vs → ds.all fl = true → vs.all flatV = true
  | [], _, r, _ => by rw [Rls] at r; subst r; rfl
  | d :: ds, _, r, h => by
    rw [Rls] at r
    obtain ⟨v, s, rfl, h1, h2⟩ := r
    rw [List.all_cons, Bool.and_eq_true] at h ⊢
    exact ⟨fl_ok h1 h.1, fls_ok h2 h.2⟩
theorem inD_ok {K : PySem.W.Frag} {H : Hp} {m : List Addr} {d : D} {x : V} (r : Rl K H m d x) (h : fl d = true) : ∀ {ds : List D} {vs : List V}, Rls K H m ds vs → ds.all fl = true → inD d ds = inV x vs
  | [], _, r, _ => by rw [Rls] at r; subst r; rfl
  | e :: ds, _, r', h' => by
    rw [Rls] at r'
    obtain ⟨v, s, rfl, h1, h2⟩ := r'
    rw [List.all_cons, Bool.and_eq_true] at h'
    show (eqF e d || inD d ds) = (eqV v x || inV x s)
    rw [eqF_ok h1 r h'.1 h, inD_ok r h h2 h'.2]
theorem in_of {neg : Bool} {H : Hp} {m : List Addr} {M : Mem} {d e : D} {x y : V} {z : Rz} {Q : VK} {K : PySem.W.Frag} (w : Wd K H m M) (rd : Rl K H m d x) (re : Rl K H m e y) (ho : oIn neg d e M = some z) (P : Post K H m z M Q) : rIn K neg x y H Q := by
  unfold oIn at ho
  cases q : asS M e with
  | none => rw [q] at ho; cases ho
  | some ds =>
    rw [q] at ho
    simp only [Option.bind_some] at ho
    split at ho
    · rename_i hh
      cases ho
      obtain ⟨a, vs, rfl, hs, hr⟩ := asS_ok w re q
      refine ⟨a, vs, rfl, hs, fl_ok rd hh.1, fls_ok hr hh.2, ?_⟩
      rw [← inD_ok rd hh.1 hr hh.2]
      exact P.val w rl_bl
    · cases ho
theorem ok_in : OpOk X (compareOp .In) (oIn false) := ⟨_, op_in_seq, fun H m M d e x y z Q w rd re ho P => in_of w rd re ho P⟩
theorem ok_notin : OpOk X (compareOp .NotIn) (oIn true) := ⟨_, op_notIn_seq, fun H m M d e x y z Q w rd re ho P => in_of w rd re ho P⟩
end
end CI

/-! Ci4: subscripts, slices, calls, attributes, methods -/
namespace CI
open PySem PySem.Spec PyProof.Rows L2

section
variable {K : PySem.W.Frag} {H : Hp} {m : List Addr} {M : Mem}
theorem Rls.atI {ds : List D} {vs : List V} (h : Rls K H m ds vs) {i : Int} {d : D} (q : L2.atI ds i = some d) : ∃ v, L2.atI vs i = some v ∧ Rl K H m d v := by
  unfold L2.atI at q ⊢
  rw [← h.length]
  cases e : ixN ds.length i with
  | none => rw [e] at q; cases q
  | some j =>
    rw [e] at q
    exact h.get (i := j) q
def cutD (xs : List D) (lo hi : Option Int) : List D := (xs.drop (HT.sIx xs.length 0 lo)).take (HT.sIx xs.length xs.length hi - HT.sIx xs.length 0 lo)
theorem Rls.cut {ds : List D} {vs : List V} (h : Rls K H m ds vs) (lo hi : Option Int) : Rls K H m (cutD ds lo hi) (cutV vs lo hi) := by
  unfold cutD cutV
  rw [← h.length]
  exact (h.drop _).take _
end

/-! ### subscripts -/
def oIx : Bop := fun d e M => match e with
  | .int i => match d with
    | .str z => if z.length ≤ sizeLine then (L2.atI z.cps.toList i).bind fun c => some (.val (.str ⟨#[c]⟩)) else none
    | d => (asS M d).bind fun ds => (L2.atI ds i).bind fun x => some (.val x)
  | _ => none
section
variable {X : Cx} {a b : Expr} {fa fb : Ef} {pos : Pos}
theorem ce_ix (ha : CEx X a fa) (hb : CEx X b fb) (hs : PlainIx b) : CEx X (.Subscript a b pos) (cBin oIx fa fb) := PE.imp (pe_ix ix_seq ha hb hs) fun σ H Q h => by
  refine bin_of (fun H m M d e x y z Q w rd re ho P => ?_) h
  unfold oIx at ho
  split at ho
  · rename_i i
    rw [Rl] at re; subst re
    split at ho
    · rename_i s
      rw [Rl] at rd; subst rd
      split at ho
      · rename_i hz
        cases q : L2.atI s.cps.toList i with
        | none => rw [q] at ho; cases ho
        | some c => rw [q] at ho; cases ho; exact .inr (.inr ⟨s, i, c, rfl, rfl, hz, q, P.val w rl_str⟩)
      · cases ho
    · cases q : asS M d with
      | none => rw [q] at ho; cases ho
      | some ds =>
        rw [q] at ho
        simp only [Option.bind_some] at ho
        cases q2 : L2.atI ds i with
        | none => rw [q2] at ho; cases ho
        | some c =>
          rw [q2] at ho; cases ho
          obtain ⟨p, vs, rfl, hs, hr⟩ := asS_ok w rd q
          obtain ⟨v, hv, rv⟩ := hr.atI q2
          rcases hs with hs | hs
          · exact .inl ⟨p, vs, i, v, rfl, rfl, hs, hv, P.val w rv⟩
          · exact .inr (.inl ⟨p, vs, i, v, rfl, rfl, hs, hv, P.val w rv⟩)
  · cases ho
end

/-! ### slices -/
abbrev Of := Slots → Mem → Option (Option Int × Mem)
def tO (K : PySem.W.Frag) (f : Of) : TO := fun σ H Q => ∃ ρ M m o M', Rs K H m ρ σ ∧ Wd K H m M ∧ f ρ M = some (o, M') ∧ ∀ H1 m1, Ext H m H1 m1 → Wd K H1 m1 M' → Q o H1
abbrev COx (X : Cx) (e : Option Expr) (f : Of) : Prop := PO X e (tO X.K f)
theorem PO.imp {X : Cx} {e : Option Expr} {t t' : TO} (h : PO X e t) (i : ∀ σ H Q, t' σ H Q → t σ H Q) : PO X e t' := ⟨fun pins s σ H Q I q => h.run pins s σ H Q I (i σ H Q q)⟩
def sNone : Of := fun _ M => some (none, M)
def sSome (f : Ef) : Of := fun ρ M => (f ρ M).bind fun p => match p.1.d with
  | .int i => some (some i, p.2)
  | _ => none
def oSl (lo hi : Option Int) (d : D) (M : Mem) : Option Rz := match d with
  | .tup ds => some (.val (.tup (cutD ds lo hi)))
  | .str z => if z.length ≤ sizeLine then some (.val (.str (cutS z lo hi))) else none
  | d => (asL M d).bind fun ds => some (.new (cutD ds lo hi))
def cSl (f : Ef) (l h : Of) : Ef := fun ρ M => (f ρ M).bind fun p => (l ρ p.2).bind fun q => (h ρ q.2).bind fun r => (oSl q.1 r.1 p.1.d r.2).bind fun z => some (z, r.2)
section
variable {X : Cx} {e : Expr} {lo hi : Option Expr} {f : Ef} {l h : Of} {pos p2 : Pos}
theorem co_none : COx X none sNone := PO.imp po_none fun σ H Q ⟨ρ, M, m, o, M', rs, w, hf, P⟩ => by cases hf; exact P H m .refl w
theorem co_some (he : CEx X e f) : COx X (some e) (sSome f) := PO.imp (po_some he) fun σ H Q ⟨ρ, M, m, o, M', rs, w, hf, P⟩ => by
  unfold sSome at hf
  cases ea : f ρ M with
  | none => rw [ea] at hf; cases hf
  | some p =>
    rw [ea] at hf
    simp only [Option.bind_some] at hf
    refine bindE rs w ea fun H1 m1 v e1 w1 rs1 r1 => ?_
    split at hf
    · rename_i i hi
      cases hf
      rw [hi, Rl] at r1
      exact ⟨i, r1, P H1 m1 e1 w1⟩
    · cases hf
theorem ce_sl (he : CEx X e f) (hl : COx X lo l) (hh : COx X hi h) : CEx X (.Subscript e (.Slice lo hi none p2) pos) (cSl f l h) := PE.imp (pe_slice (sl_tupA.or (sl_str.or sl_list)) he hl hh) fun σ H Q hq => by
  obtain ⟨ρ, M, m, z, M', rs, w, hf, P⟩ := hq
  unfold cSl at hf
  cases ea : f ρ M with
  | none => rw [ea] at hf; cases hf
  | some p =>
    cases el : l ρ p.2 with
    | none => simp [ea, el] at hf
    | some q =>
      cases eh : h ρ q.2 with
      | none => simp [ea, el, eh] at hf
      | some r =>
        cases ez : oSl q.1 r.1 p.1.d r.2 with
        | none => simp [ea, el, eh, ez] at hf
        | some z' =>
          simp [ea, el, eh, ez] at hf
          obtain ⟨rfl, rfl⟩ := hf
          refine bindE rs w ea fun H1 m1 v e1 w1 rs1 r1 => ?_
          refine ⟨ρ, p.2, m1, q.1, q.2, rs1, w1, el, fun H2 m2 e2 w2 => ?_⟩
          refine ⟨ρ, q.2, m2, r.1, r.2, rs1.ext e2, w2, eh, fun H3 m3 e3 w3 => ?_⟩
          have r3 := r1.ext (e2.trans e3)
          have P3 := P.ext ((e1.trans e2).trans e3)
          unfold oSl at ez
          split at ez
          · rename_i ds hd
            cases ez
            rw [hd, Rl] at r3
            obtain ⟨a, vs, rfl, hs, hr⟩ := r3
            refine .inl ⟨a, vs, rfl, hs, fun hw => ?_, fun _ => P3.tup w3 (hr.cut _ _)⟩
            refine P3.val w3 ?_
            rw [Rl]
            refine ⟨a, vs, rfl, hs, ?_⟩
            have e : cutD ds q.1 r.1 = ds := by
              unfold cutD
              rw [hr.length, hw.1, hw.2]
              rw [List.drop_zero, Nat.sub_zero, ← hr.length, List.take_length]
            rw [e]; exact hr
          · rename_i s hd
            split at ez
            · rename_i hz
              cases ez
              rw [hd, Rl] at r3; subst r3
              exact .inr (.inl ⟨s, rfl, hz, P3.val w3 rl_str⟩)
            · cases ez
          · cases eq : asL r.2 p.1.d with
            | none => simp [eq] at ez
            | some ds =>
              simp [eq] at ez
              subst ez
              obtain ⟨a, vs, rfl, hs, hr⟩ := asL_ok w3 r3 eq
              exact .inr (.inr ⟨a, vs, rfl, hs, P3.new w3 (hr.cut _ _)⟩)
end

/-! ### built-in calls -/
def Cop := List D → Mem → Option Rz
def ClOk (X : Cx) (f : Value) (o : Cop) : Prop := ∃ r, CallR X f r ∧ ∀ H m M ds xs z Q, Wd X.K H m M → Rls X.K H m ds xs → o ds M = some z → Post X.K H m z M Q → r xs H Q
def cCB (o : Cop) (g : Af) : Ef := fun ρ M => (g ρ M).bind fun p => (o p.1 p.2).bind fun r => some (r, p.2)
section
variable {X : Cx} {e : Expr} {es : List Expr} {g : Af} {o : Cop} {x : Str} {id T : String} {p pos : Pos}
theorem cb_of {r : List V → Hp → VK → Prop} (ho : ∀ H m M ds xs z Q, Wd X.K H m M → Rls X.K H m ds xs → o ds M = some z → Post X.K H m z M Q → r xs H Q) {σ : L2.St} {H : Hp} {Q : VK}
    (h : tE X.K (cCB o g) σ H Q) : tCB r (tA X.K g) σ H Q := by
  obtain ⟨ρ, M, m, z, M', rs, w, hf, P⟩ := h
  unfold cCB at hf
  cases ea : g ρ M with
  | none => rw [ea] at hf; cases hf
  | some p =>
    cases eb : o p.1 p.2 with
    | none => simp [ea, eb] at hf
    | some q =>
      simp [ea, eb] at hf
      obtain ⟨rfl, rfl⟩ := hf
      exact bindA rs w ea fun H1 m1 vs e1 w1 rs1 r1 => ho H1 m1 p.2 _ _ _ Q w1 r1 eb (P.ext e1)
theorem ce_callB (hc : ClOk X (.builtin id) o) (hg : Gl X x) (hm : X.mg x = none) (hv : bootBuiltins x = some (.builtin id)) (ha : CAx X (e :: es) g) (hn : x ≠ "__name__" := by decide) (hdb : (x == ("__debug__" : Str)) = false := by decide)
    (he : starEach (e :: es) X.env = (false, eval e X.env) :: starEach es X.env := by rfl) (hpl : (backTo pos (starEach es X.env)).any (·.1) = false := by rfl) : CEx X (.Call (.Name x p) (e :: es) [] pos) (cCB o g) := by
  obtain ⟨r, h1, h2⟩ := hc
  exact PE.imp (pe_callB h1 hg hm hv ha hn hdb he hpl) fun σ H Q h => cb_of h2 h
theorem ce_callTy (hc : ClOk X (.type T) o) (hg : Gl X x) (hm : X.mg x = none) (hv : bootBuiltins x = some (.type T)) (ha : CAx X (e :: es) g) (hn : x ≠ "__name__" := by decide) (hdb : (x == ("__debug__" : Str)) = false := by decide)
    (he : starEach (e :: es) X.env = (false, eval e X.env) :: starEach es X.env := by rfl) (hpl : (backTo pos (starEach es X.env)).any (·.1) = false := by rfl) : CEx X (.Call (.Name x p) (e :: es) [] pos) (cCB o g) := by
  obtain ⟨r, h1, h2⟩ := hc
  exact PE.imp (pe_callTy h1 hg hm hv ha hn hdb he hpl) fun σ H Q h => cb_of h2 h
def oLen : Cop := fun ds M => match ds with
  | [.str z] => if z.length ≤ sizeLine then some (.val (.int z.length)) else none
  | [d] => (asS M d).bind fun es => some (.val (.int es.length))
  | _ => none
theorem ok_len : ClOk X (.builtin "len") oLen := by
  refine ⟨_, call_len, fun H m M ds xs z Q w rd ho P => ?_⟩
  unfold oLen at ho
  split at ho
  · rename_i s
    split at ho
    · rename_i hz
      cases ho
      obtain ⟨v, rfl, r⟩ := rd.one
      rw [Rl] at r; subst r
      exact ⟨_, _, rfl, ⟨hz, rfl⟩, P.val w rl_int⟩
    · cases ho
  · rename_i d _
    obtain ⟨v, rfl, r⟩ := rd.one
    cases q : asS M d with
    | none => rw [q] at ho; cases ho
    | some es =>
      rw [q] at ho; cases ho
      obtain ⟨a, vs, rfl, hs, hr⟩ := asS_ok w r q
      refine ⟨_, vs.length, rfl, ?_, by rw [← hr.length]; exact P.val w rl_int⟩
      exact hs.elim (fun hs => .inl ⟨vs, hs, rfl⟩) fun hs => .inr ⟨vs, hs, rfl⟩
  · cases ho
def oInt : Cop := fun ds _ => match ds with
  | [.int i] => some (.val (.int i))
  | [.bl b] => some (.val (.int (if b then 1 else 0)))
  | _ => none
theorem ok_int : ClOk X (.type "int") oInt := by
  refine ⟨_, call_int1, fun H m M ds xs z Q w rd ho P => ?_⟩
  unfold oInt at ho
  split at ho
  · obtain ⟨v, rfl, r⟩ := rd.one
    rw [Rl] at r; subst r; cases ho
    exact .inl ⟨_, rfl, P.val w rl_int⟩
  · obtain ⟨v, rfl, r⟩ := rd.one
    rw [Rl] at r; subst r; cases ho
    exact .inr ⟨_, rfl, P.val w rl_int⟩
  · cases ho
def oTuple : Cop := fun ds M => match ds with
  | [d] => (asS M d).bind fun es => some (.val (.tup es))
  | _ => none
theorem ok_tuple : ClOk X (.type "tuple") oTuple := by
  refine ⟨_, call_tuple_of, fun H m M ds xs z Q w rd ho P => ?_⟩
  unfold oTuple at ho
  split at ho
  · rename_i d
    obtain ⟨v, rfl, r⟩ := rd.one
    cases q : asS M d with
    | none => rw [q] at ho; cases ho
    | some es =>
      rw [q] at ho; cases ho
      obtain ⟨a, vs, rfl, hs, hr⟩ := asS_ok w r q
      refine ⟨a, vs, rfl, ?_⟩
      rcases hs with hs | hs
      · exact .inl ⟨hs, P.tup w hr⟩
      · exact .inr ⟨hs, P.val w (by rw [Rl]; exact ⟨a, vs, rfl, hs, hr⟩)⟩
  · cases ho
def oList : Cop := fun ds M => match ds with
  | [d] => (asS M d).bind fun es => some (.new es)
  | _ => none
theorem ok_list : ClOk X (.type "list") oList := by
  refine ⟨_, call_list_of, fun H m M ds xs z Q w rd ho P => ?_⟩
  unfold oList at ho
  split at ho
  · rename_i d
    obtain ⟨v, rfl, r⟩ := rd.one
    cases q : asS M d with
    | none => rw [q] at ho; cases ho
    | some es =>
      rw [q] at ho; cases ho
      obtain ⟨a, vs, rfl, hs, hr⟩ := asS_ok w r q
      exact ⟨a, vs, rfl, hs, P.new w hr⟩
  · cases ho
def oMax2 : Cop := fun ds _ => match ds with
  | [.int i, .int j] => some (.val (.int (if j > i then j else i)))
  | _ => none
def oMin2 : Cop := fun ds _ => match ds with
  | [.int i, .int j] => some (.val (.int (if j < i then j else i)))
  | _ => none
theorem ok_max2 (hc : X.calm = true) : ClOk X (.builtin "max") oMax2 := by
  refine ⟨_, call_max2 hc, fun H m M ds xs z Q w rd ho P => ?_⟩
  unfold oMax2 at ho
  split at ho
  · obtain ⟨v, u, rfl, r, r'⟩ := rd.two
    rw [Rl] at r; rw [Rl] at r'; subst r r'; cases ho
    exact ⟨_, _, rfl, P.val w rl_int⟩
  · cases ho
theorem ok_min2 (hc : X.calm = true) : ClOk X (.builtin "min") oMin2 := by
  refine ⟨_, call_min2 hc, fun H m M ds xs z Q w rd ho P => ?_⟩
  unfold oMin2 at ho
  split at ho
  · obtain ⟨v, u, rfl, r, r'⟩ := rd.two
    rw [Rl] at r; rw [Rl] at r'; subst r r'; cases ho
    exact ⟨_, _, rfl, P.val w rl_int⟩
  · cases ho
def oStr : Cop := fun ds _ => match ds with
  | [.int i] => if i.natAbs.log2 < 1920 then some (.val (.str (toString i))) else none
  | _ => none
theorem ok_str : ClOk X (.type "str") oStr := by
  refine ⟨_, call_str_int, fun H m M ds xs z Q w rd ho P => ?_⟩
  unfold oStr at ho
  split at ho
  · obtain ⟨v, rfl, r⟩ := rd.one
    rw [Rl] at r; subst r
    split at ho
    · rename_i hz
      cases ho
      exact ⟨_, rfl, hz, P.val w rl_str⟩
    · cases ho
  · cases ho
def oOrd : Cop := fun ds _ => match ds with
  | [.str x] => if x.length = 1 then some (.val (.int (x.cps.getD 0 0 : Nat))) else none
  | _ => none
theorem ok_ord : ClOk X (.builtin "ord") oOrd := by
  refine ⟨_, call_ord, fun H m M ds xs z Q w rd ho P => ?_⟩
  unfold oOrd at ho
  split at ho
  · obtain ⟨v, rfl, r⟩ := rd.one
    rw [Rl] at r; subst r
    split at ho
    · rename_i hz
      cases ho
      exact ⟨_, rfl, hz, P.val w rl_int⟩
    · cases ho
  · cases ho
/-! sorted of ints -/
def sIns (a : Int) : List Int → List Int
  | [] => [a]
  | b :: l => if a ≤ b then a :: b :: l else b :: sIns a l
def isort (l : List Int) : List Int := l.foldr sIns []
theorem sIns_perm (a : Int) : ∀ l, (sIns a l).Perm (a :: l)
  | [] => .refl _
  | b :: l => by
    unfold sIns
    split
    · exact .refl _
    · exact ((sIns_perm a l).cons b).trans (.swap a b l)
theorem isort_perm : ∀ l, (isort l).Perm l
  | [] => .refl _
  | a :: l => (sIns_perm a (isort l)).trans ((isort_perm l).cons a)
theorem sIns_pw (a : Int) : ∀ l : List Int, l.Pairwise (· ≤ ·) → (sIns a l).Pairwise (· ≤ ·)
  | [], _ => by simp [sIns]
  | b :: l, h => by
    unfold sIns
    rw [List.pairwise_cons] at h
    split
    · rename_i hab
      rw [List.pairwise_cons, List.pairwise_cons]
      refine ⟨fun x hx => ?_, h.1, h.2⟩
      rcases List.mem_cons.mp hx with e | e
      · rw [e]; exact hab
      · exact Int.le_trans hab (h.1 x e)
    · rename_i hab
      rw [List.pairwise_cons]
      refine ⟨fun x hx => ?_, sIns_pw a l h.2⟩
      rcases List.mem_cons.mp ((sIns_perm a l).mem_iff.mp hx) with e | e
      · omega
      · exact h.1 x e
theorem isort_pw : ∀ l : List Int, (isort l).Pairwise (· ≤ ·)
  | [] => .nil
  | a :: l => sIns_pw a _ (isort_pw l)
theorem sorted_one : ∀ {l l' : List Int}, l.Perm l' → l.Pairwise (· ≤ ·) → l'.Pairwise (· ≤ ·) → l = l'
  | [], l', p, _, _ => by rw [List.nil_perm.mp p]
  | a :: l, [], p, _, _ => by simp at p
  | a :: l, b :: l', p, h, h' => by
    rw [List.pairwise_cons] at h h'
    have e : a = b := by
      have h1 : a ∈ b :: l' := p.mem_iff.mp List.mem_cons_self
      have h2 : b ∈ a :: l := p.mem_iff.mpr List.mem_cons_self
      rcases List.mem_cons.mp h1 with e | e
      · exact e
      · rcases List.mem_cons.mp h2 with e' | e'
        · exact e'.symm
        · have := h'.1 a e; have := h.1 b e'; omega
    subst e
    rw [sorted_one (List.Perm.cons_inv p) h.2 h'.2]
def intsD : List D → Option (List Int)
  | [] => some []
  | .int i :: ds => (intsD ds).bind fun is => some (i :: is)
  | _ => none
theorem intsD_eq : ∀ {ds : List D} {is : List Int}, intsD ds = some is → ds = is.map .int
  | [], _, h => by cases h; rfl
  | d :: ds, is, h => by
    cases d with
    | int i =>
      rw [intsD] at h
      cases q : intsD ds with
      | none => rw [q] at h; cases h
      | some js => rw [q] at h; cases h; rw [intsD_eq q]; rfl
    | _ => simp [intsD] at h
theorem intsD_map : ∀ is : List Int, intsD (is.map .int) = some is
  | [] => rfl
  | i :: is => by simp [intsD, intsD_map is]
theorem rls_ints {K : PySem.W.Frag} {H : Hp} {m : List Addr} : ∀ {is : List Int} {vs : List V}, Rls K H m (is.map .int) vs → vs = is.map V.int
  | [], _, h => rls_nil h
  | i :: is, _, h => by
    rw [List.map_cons, Rls] at h
    obtain ⟨v, r, rfl, h1, h2⟩ := h
    rw [Rl] at h1
    rw [h1, rls_ints h2]; rfl
def oSorted : Cop := fun ds M => match ds with
  | [d] => (asL M d).bind fun es => (intsD es).bind fun is => some (.new ((isort is).map .int))
  | _ => none
theorem ok_sorted : ClOk X (.builtin "sorted") oSorted := by
  refine ⟨_, cr_sortedI, fun H m M ds xs z Q w rd ho P => ?_⟩
  unfold oSorted at ho
  split at ho
  · rename_i d
    obtain ⟨v, rfl, r⟩ := rd.one
    cases q : asL M d with
    | none => rw [q] at ho; cases ho
    | some es =>
      cases q2 : intsD es with
      | none => simp [q, q2] at ho
      | some is =>
        simp [q, q2] at ho
        subst ho
        obtain ⟨a, vs, rfl, hs, hr⟩ := asL_ok w r q
        rw [intsD_eq q2] at hr
        have e := rls_ints hr
        subst e
        refine ⟨a, is, rfl, hs, fun ns' p hp hw hn => ?_⟩
        rw [sorted_one (hp.trans (isort_perm is).symm) hw (isort_pw is)]
        exact P.new w .ints p hn
  · cases ho

/-! ### isinstance -/
def tyOf (M : Mem) : D → Option String
  | .non => some "NoneType" | .bl _ => some "bool" | .int _ => some "int" | .str _ => some "str" | .tup _ => some "tuple" | .lst _ => some "list" | .scr _ => some "list"
  | .loc k => match M[k]? with
    | some (.lst _) => some "list"
    | some (.dct _) => some "dict"
    | _ => none
def cIsI (n : String) (f : Ef) : Ef := fun ρ M => (f ρ M).bind fun p => (tyOf p.2 p.1.d).bind fun t => (kitB t n).bind fun b => some (.val (.bl b), p.2)
theorem tyOf_ok {K : PySem.W.Frag} {H : Hp} {m : List Addr} {M : Mem} {d : D} {x : V} {t : String} (w : Wd K H m M) (r : Rl K H m d x) (h : tyOf M d = some t) : TyX K H x (.type t) := by
  cases d with
  | non => rw [Rl] at r; subst r; cases h; exact .base .non
  | bl b => rw [Rl] at r; subst r; cases h; exact .base (.bl b)
  | int b => rw [Rl] at r; subst r; cases h; exact .base (.int b)
  | str b => rw [Rl] at r; subst r; cases h; exact .base (.str b)
  | tup ds =>
    rw [Rl] at r
    obtain ⟨a, vs, rfl, hs, _⟩ := r
    cases h
    rcases hs with (hs | ⟨o, hs⟩) | ⟨o, its, n, hk, hc, _⟩
    · exact .base (.tup hs)
    · exact .fTuple hs
    · exact .kTuple hk hc
  | lst ds =>
    rw [Rl] at r
    obtain ⟨a, vs, rfl, _, hs, _⟩ := r
    cases h
    exact .base (.lst hs)
  | scr ns =>
    rw [Rl] at r
    obtain ⟨a, rfl, hs⟩ := r
    cases h
    rcases hs with ⟨o, hs⟩ | ⟨o, its, n, hk, hc, _⟩
    · exact .base (.frz hs)
    · exact .kList hk hc
  | loc k =>
    rw [Rl] at r
    obtain ⟨a, rfl, ha⟩ := r
    unfold tyOf at h
    simp only at h
    split at h
    · rename_i ds hk
      cases h
      obtain ⟨b, hb, vs, h1, h2⟩ := w.get hk
      rw [ha] at hb; cases hb
      exact .base (.lst h1)
    · rename_i ds hk
      cases h
      obtain ⟨b, hb, vs, h1, h2⟩ := w.get hk
      rw [ha] at hb; cases hb
      exact .base (.dK h1)
    · cases h
theorem ce_isi {b : Expr} {n : String} {f : Ef} (hg : Gl X "isinstance") (hm : X.mg "isinstance" = none) (ha : CEx X e f) (hb : PE X b (tC (.ty n)))
    (he : starEach [e, b] X.env = (false, eval e X.env) :: starEach [b] X.env := by rfl) (he2 : starEach [b] X.env = (false, eval b X.env) :: starEach [] X.env := by rfl) (hpl : (backTo pos (starEach [b] X.env)).any (·.1) = false := by rfl) :
    CEx X (.Call (.Name "isinstance" p) [e, b] [] pos) (cIsI n f) :=
  PE.imp (pe_callB call_isi hg hm (by decide +kernel) (pa_cons ha (pa_cons hb pa_nil he2) he) (by decide) (by decide) he hpl) fun σ H Q h => by
    obtain ⟨ρ, M, m, z, M', rs, w, hf, P⟩ := h
    unfold cIsI at hf
    cases ea : f ρ M with
    | none => rw [ea] at hf; cases hf
    | some p =>
      cases eb : tyOf p.2 p.1.d with
      | none => simp [ea, eb] at hf
      | some t =>
        cases ec : kitB t n with
        | none => simp [ea, eb, ec] at hf
        | some k =>
          simp [ea, eb, ec] at hf
          obtain ⟨rfl, rfl⟩ := hf
          refine bindE rs w ea fun H1 m1 v e1 w1 rs1 r1 => ?_
          exact ⟨v, .ty n, _, _, k, rfl, .ty n, tyOf_ok w1 r1 eb, kit_ty ec, (P.ext e1).val w1 rl_bl⟩
/-! ### truth -/
def trD (M : Mem) (d : D) : Option Bool := match d with
  | .non => some false
  | .bl b => some b
  | .int i => some (i != 0)
  | .str y => if y.length ≤ sizeLine then some ((y.length : Int) != 0) else none
  | d => (asS M d).bind fun ds => some (!ds.isEmpty)
def toTr (f : Ef) : Tf := fun ρ M => (f ρ M).bind fun p => (trD p.2 p.1.d).bind fun b => some (b, p.2)
theorem ct_truth {f : Ef} (ha : CEx X e f) (he : ∀ whole, isTrue e X.env whole = (do let v ← whole; standAt e.pos; holding [v] (truthy v))) : CTx X e (toTr f) := PT.imp (pt_truth ha he) fun σ H Q h => by
  obtain ⟨ρ, M, m, z, M', rs, w, hf, P⟩ := h
  unfold toTr at hf
  cases ea : f ρ M with
  | none => rw [ea] at hf; cases hf
  | some p =>
    cases eb : trD p.2 p.1.d with
    | none => simp [ea, eb] at hf
    | some b =>
      simp [ea, eb] at hf
      obtain ⟨rfl, rfl⟩ := hf
      refine bindE rs w ea fun H1 m1 v e1 w1 rs1 r1 => ⟨b, ?_, P H1 m1 e1 w1⟩
      unfold trD at eb
      split at eb
      · rename_i hd; rw [hd, Rl] at r1; subst r1; cases eb; rfl
      · rename_i hd; rw [hd, Rl] at r1; subst r1; cases eb; rfl
      · rename_i hd; rw [hd, Rl] at r1; subst r1; cases eb; rfl
      · rename_i hd
        rw [hd, Rl] at r1; subst r1
        split at eb
        · rename_i hz; cases eb; exact ⟨hz, rfl⟩
        · cases eb
      · cases q : asS p.2 p.1.d with
        | none => simp [q] at eb
        | some ds =>
          simp only [q, Option.bind_some, Option.some.injEq] at eb
          subst eb
          obtain ⟨a, vs, rfl, hs, hr⟩ := asS_ok w1 r1 q
          have e : ds.isEmpty = vs.isEmpty := by
            have := hr.length
            cases ds <;> cases vs <;> simp_all
          rcases hs with hs | hs
          · exact .inl ⟨vs, hs, by rw [e]⟩
          · exact .inr (.inl ⟨vs, hs, by rw [e]⟩)
end
end CI

/-! Ci5: calls of defs, attributes, methods, statements, loops -/
namespace CI
open PySem PySem.Spec PyProof.Rows L2

/-! ### what a def means -/
def Fn := List D → Mem → Option (Rz × Mem)
def spF (K : PySem.W.Frag) (F : Fn) : Sp := fun vs H Q _ => ∃ ds M m r M', Rls K H m ds vs ∧ Wd K H m M ∧ F ds M = some (r, M') ∧ Post K H m r M' Q
def cCall (F : Fn) (g : Af) : Ef := fun ρ M => (g ρ M).bind fun p => F p.1 p.2
def cNew (c : Str) (F : Fn) (g : Af) : Ef := fun ρ M => (g ρ M).bind fun p => (F (.loc p.2.length :: p.1) (p.2 ++ [.ins c []])).bind fun q => match q.1 with
  | .val .non => some (.val (.loc p.2.length), q.2)
  | _ => none
def cMeth (c m : Str) (F : Fn) (f : Ef) (g : Af) : Ef := fun ρ M => (f ρ M).bind fun p => match p.1.d with
  | .loc k => match p.2[k]? with
    | some (.ins c' fs) => if c' = c ∧ fs.lookup m = none then (g ρ p.2).bind fun q => F (.loc k :: q.1) q.2 else none
    | _ => none
  | _ => none
def cFld (cs : List Str) (f : Str) (fo : Ef) : Ef := fun ρ M => (fo ρ M).bind fun p => match p.1.d with
  | .loc k => match p.2[k]? with
    | some (.ins c fs) => if c ∈ cs then (fs.lookup f).bind fun d => some (.val d, p.2) else none
    | _ => none
  | _ => none
section
variable {X : Cx} {k : Nat} {f : Addr} {fd : FuncData} {ps : List Str} {x m c : Str} {p pos apos : Pos} {e o : Expr} {es : List Expr} {G : Fn} {fo : Ef} {g : Af}
theorem call_of {σ : L2.St} {H : Hp} {Q : VK} {E : XK} (h : tE X.K (cCall G g) σ H Q) : tCall (spF X.K G) [] E (tA X.K g) σ H Q := by
  obtain ⟨ρ, M, m, z, M', rs, w, hf, P⟩ := h
  unfold cCall at hf
  cases ea : g ρ M with
  | none => rw [ea] at hf; cases hf
  | some p =>
    rw [ea] at hf
    exact bindA rs w ea fun H1 m1 vs e1 w1 rs1 r1 => ⟨p.1, p.2, m1, z, M', by rw [List.append_nil]; exact r1, w1, hf, P.ext e1⟩
theorem ce_call (F : FnOk X.prog X.w X.K X.mg X.base CX0 k f fd ps (spF X.K G)) (hr : Room k X.A) (hg : Gl X x) (hm : X.mg x = some (.ref f)) (hk : PySem.W.keepIn X.K (.ref f) = true) (hb : Binds X.K fd ps [])
    (ha : CAx X (e :: es) g) (hdb : (x == ("__debug__" : Str)) = false := by decide) (he : starEach (e :: es) X.env = (false, eval e X.env) :: starEach es X.env := by rfl) (hpl : (backTo pos (starEach es X.env)).any (·.1) = false := by rfl) :
    CEx X (.Call (.Name x p) (e :: es) [] pos) (cCall G g) := PE.imp (pe_call F hr hg hm hk hb .nil pass0 ha hdb he hpl) fun _ _ _ h => call_of h
theorem ce_call0 (F : FnOk X.prog X.w X.K X.mg X.base CX0 k f fd ps (spF X.K G)) (hr : Room k X.A) (hg : Gl X x) (hm : X.mg x = some (.ref f)) (hk : PySem.W.keepIn X.K (.ref f) = true) (hb : Binds X.K fd ps [])
    (hdb : (x == ("__debug__" : Str)) = false := by decide) : CEx X (.Call (.Name x p) [] [] pos) (cCall G aNil) :=
  PE.imp (pe_call0 F hr hg hm hk hb .nil pass0 hdb) fun σ H Q ⟨ρ, M, m, z, M', rs, w, hf, P⟩ => ⟨[], M, m, z, M', by rw [Rls]; rfl, w, hf, P⟩
theorem new_of {σ : L2.St} {H : Hp} {Q : VK} {E : XK} (h : tE X.K (cNew c G g) σ H Q) : tMake (He.ga X.K c) (spF X.K G) [] E (tA X.K g) σ H Q := by
  obtain ⟨ρ, M, m, z, M', rs, w, hf, P⟩ := h
  unfold cNew at hf
  cases ea : g ρ M with
  | none => rw [ea] at hf; cases hf
  | some p =>
    rw [ea] at hf
    simp only [Option.bind_some] at hf
    cases eb : G (.loc p.2.length :: p.1) (p.2 ++ [.ins c []]) with
    | none => rw [eb] at hf; cases hf
    | some q =>
      rw [eb] at hf
      simp only [Option.bind_some] at hf
      refine bindA rs w ea fun H1 m1 vs e1 w1 rs1 r1 => fun x dx nx ndx ne => ?_
      have e2 : Ext H1 m1 (upd H1 dx (.own x)) m1 := .new ndx
      have w2 : Wd X.K (upd H1 dx (.own x)) m1 p.2 := w1.new ndx
      have nx2 : upd H1 dx (.own x) x = none := by rw [upd_ne (Ne.symm ne)]; exact nx
      obtain ⟨w3, e3⟩ := w2.push (o := .ins c []) (u := .ins (He.ga X.K c) dx []) nx2 ⟨dx, [], upd_same, rfl⟩
      split at hf
      · rename_i hq
        cases hf
        refine ⟨.loc p.2.length :: p.1, _, m1 ++ [x], q.1, q.2, ?_, w3, eb, Post.use fun H4 m4 v e4 w4 r4 => ?_⟩
        · rw [Rls]
          refine ⟨_, _, rfl, ?_, by rw [List.append_nil]; exact r1.ext (e2.trans e3)⟩
          rw [Rl]
          exact ⟨x, rfl, by rw [← w1.len, List.getElem?_append_right (Nat.le_refl _)]; simp⟩
        · rw [hq] at r4
          rw [show (Rz.val D.non).d = .non from rfl, Rl] at r4
          refine ⟨r4, (P.ext (((e1.trans e2).trans e3).trans e4)).val w4 ?_⟩
          rw [Rl]
          exact ⟨x, rfl, e4.get (by rw [← w1.len, List.getElem?_append_right (Nat.le_refl _)]; simp)⟩
      · cases hf
theorem ce_new (Mk' : Mk X.K (He.ga X.K c) f) (F : FnOk X.prog X.w X.K X.mg X.base CX0 k f fd ps (spF X.K G)) (hr : Room (k + 1) X.A) (hg : Gl X x) (hm : X.mg x = some (.ref (He.ga X.K c))) (hb : Binds X.K fd ps [])
    (ha : CAx X (e :: es) g) (hdb : (x == ("__debug__" : Str)) = false := by decide) (he : starEach (e :: es) X.env = (false, eval e X.env) :: starEach es X.env := by rfl) (hpl : (backTo pos (starEach es X.env)).any (·.1) = false := by rfl) :
    CEx X (.Call (.Name x p) (e :: es) [] pos) (cNew c G g) := PE.imp (pe_make Mk' F hr hg hm hb .nil pass0 ha hdb he hpl) fun _ _ _ h => new_of h
theorem ce_new0 (Mk' : Mk X.K (He.ga X.K c) f) (F : FnOk X.prog X.w X.K X.mg X.base CX0 k f fd ps (spF X.K G)) (hr : Room (k + 1) X.A) (hg : Gl X x) (hm : X.mg x = some (.ref (He.ga X.K c))) (hb : Binds X.K fd ps [])
    (hdb : (x == ("__debug__" : Str)) = false := by decide) : CEx X (.Call (.Name x p) [] [] pos) (cNew c G aNil) :=
  PE.imp (pe_make0 Mk' F hr hg hm hb .nil pass0 hdb) fun σ H Q h => by
    have h2 := new_of (E := E0) h
    obtain ⟨ρ, M, m, ds, M', rs, w, hf, P⟩ := h2
    cases hf
    exact P H m [] .refl w (by rw [Rls])
theorem meth_of {σ : L2.St} {H : Hp} {Q : VK} {E : XK} (h : tE X.K (cMeth c m G fo g) σ H Q) : tMeth (He.ga X.K c) m (spF X.K G) [] E (tE X.K fo) (tA X.K g) σ H Q := by
  obtain ⟨ρ, M, mm, z, M', rs, w, hf, P⟩ := h
  unfold cMeth at hf
  cases ea : fo ρ M with
  | none => rw [ea] at hf; cases hf
  | some p =>
    rw [ea] at hf
    simp only [Option.bind_some] at hf
    refine bindE rs w ea fun H1 m1 v e1 w1 rs1 r1 => ?_
    split at hf
    · rename_i k hk
      rw [hk, Rl] at r1
      obtain ⟨a, rfl, ha⟩ := r1
      split at hf
      · rename_i c' fs hfs
        split at hf
        · rename_i hc
          obtain ⟨rfl, hl⟩ := hc
          obtain ⟨b, hb, dx, gs, h1, h2⟩ := w1.get hfs
          rw [ha] at hb; cases hb
          refine ⟨a, dx, gs, rfl, h1, h2.lookup_none hl, ?_⟩
          cases eg : g ρ p.2 with
          | none => rw [eg] at hf; cases hf
          | some q =>
            rw [eg] at hf
            simp only [Option.bind_some] at hf
            refine bindA rs1 w1 eg fun H2 m2 vs e2 w2 rs2 r2 => ⟨.loc k :: q.1, q.2, m2, z, M', ?_, w2, hf, P.ext (e1.trans e2)⟩
            rw [Rls]
            refine ⟨_, _, rfl, ?_, by rw [List.append_nil]; exact r2⟩
            rw [Rl]
            exact ⟨a, rfl, e2.get ha⟩
        · cases hf
      · cases hf
    · cases hf
theorem ce_meth {pl : Sem Bool} (he : CEx X o fo) (c' : Cls X.K (He.ga X.K c)) (hm : Meth X.K (He.ga X.K c) m f) (F : FnOk X.prog X.w X.K X.mg X.base CX0 k f fd ps (spF X.K G)) (hr : Room k X.A) (hb : Binds X.K fd ps []) (ha : CAx X (e :: es) g)
    (hst : starEach (e :: es) X.env = (false, eval e X.env) :: starEach es X.env := by rfl) (hpl : (backTo pos (starEach es X.env)).any (·.1) = false := by rfl)
    (ht : eval (.Call (.Attribute o m apos) (e :: es) [] pos) X.env = (do
      let ov ← eval o X.env
      standAt apos.atName
      let (f, first) ← holding [ov] (getMethod ov m pl)
      callWith pos f first (backTo pos (starEach (e :: es) X.env)) (backToKw pos (keywordEach [] X.env))) := by rfl) :
    CEx X (.Call (.Attribute o m apos) (e :: es) [] pos) (cMeth c m G fo g) := PE.imp (pe_meth he c' hm F hr hb .nil pass0 ha hst hpl ht) fun _ _ _ h => meth_of h
theorem ce_meth0 {pl : Sem Bool} (he : CEx X o fo) (c' : Cls X.K (He.ga X.K c)) (hm : Meth X.K (He.ga X.K c) m f) (F : FnOk X.prog X.w X.K X.mg X.base CX0 k f fd ps (spF X.K G)) (hr : Room k X.A) (hb : Binds X.K fd ps [])
    (ht : eval (.Call (.Attribute o m apos) [] [] pos) X.env = (do
      let ov ← eval o X.env
      standAt apos.atName
      let (f, first) ← holding [ov] (getMethod ov m pl)
      callWith pos f first (backTo pos (starEach [] X.env)) (backToKw pos (keywordEach [] X.env))) := by rfl) :
    CEx X (.Call (.Attribute o m apos) [] [] pos) (cMeth c m G fo aNil) := PE.imp (pe_meth0 he c' hm F hr hb .nil pass0 ht) fun σ H Q h => by
  have h2 := meth_of (E := E0) h
  obtain ⟨ρ, M, mm, z, M', rs, w, hf, P⟩ := h2
  refine ⟨ρ, M, mm, z, M', rs, w, hf, fun H1 m1 e1 w1 => ?_⟩
  have P1 := P H1 m1 e1 w1
  cases z with
  | val d =>
    intro v rv
    obtain ⟨a, dx, fs, h1, h2, h3, ρ', M2, m2, ds, M3, _, w2, hf2, P2⟩ := P1 v rv
    cases hf2
    exact ⟨a, dx, fs, h1, h2, h3, P2 H1 m2 [] .refl w2 (by rw [Rls])⟩
  | new ds =>
    intro vs a rv n
    obtain ⟨a', dx, fs, h1, h2, h3, ρ', M2, m2, ds2, M3, _, w2, hf2, P2⟩ := P1 vs a rv n
    cases hf2
    exact ⟨a', dx, fs, h1, h2, h3, P2 _ m2 [] .refl w2 (by rw [Rls])⟩
theorem ce_fld {cs : List Str} {n : Str} (he : CEx X e fo) (hcs : ∀ c ∈ cs, Cls X.K (He.ga X.K c) ∧ NoAttr X.K (He.ga X.K c) n) (hb : attributeBase e n X.env (eval e X.env) = eval e X.env := by rfl) : CEx X (.Attribute e n pos) (cFld cs n fo) :=
  PE.imp (pe_fld he hb) fun σ H Q h => by
    obtain ⟨ρ, M, mm, z, M', rs, w, hf, P⟩ := h
    unfold cFld at hf
    cases ea : fo ρ M with
    | none => rw [ea] at hf; cases hf
    | some p =>
      rw [ea] at hf
      simp only [Option.bind_some] at hf
      refine bindE rs w ea fun H1 m1 v e1 w1 rs1 r1 => ?_
      split at hf
      · rename_i k hk
        rw [hk, Rl] at r1
        obtain ⟨a, rfl, ha⟩ := r1
        split at hf
        · rename_i c fs hfs
          split at hf
          · rename_i hc
            obtain ⟨b, hb, dx, gs, h1, h2⟩ := w1.get hfs
            rw [ha] at hb; cases hb
            cases q : fs.lookup n with
            | none => rw [q] at hf; cases hf
            | some d =>
              rw [q] at hf
              cases hf
              obtain ⟨v, hv, rv⟩ := h2.lookup q
              exact ⟨a, _, dx, gs, v, rfl, h1, (hcs c hc).1, (hcs c hc).2, hv, (P.ext e1).val w1 rv⟩
          · cases hf
        · cases hf
      · cases hf
end

/-! ### methods of lists -/
def Mop := D → List D → Mem → Option (Rz × Mem)
def MtOk (X : Cx) (T id : String) (o : Mop) : Prop := ∃ r, MtR X id r ∧ ∀ H m M d ds x xs z M' Q, Wd X.K H m M → Rl X.K H m d x → Rls X.K H m ds xs → o d ds M = some (z, M') → Post X.K H m z M' Q → r x xs H Q
def cBM (T : String) (o : Mop) (f : Ef) (g : Af) : Ef := fun ρ M => (f ρ M).bind fun p => if tyOf p.2 p.1.d = some T then (g ρ p.2).bind fun q => o p.1.d q.1 q.2 else none
section
variable {X : Cx} {o e : Expr} {es : List Expr} {fo : Ef} {g : Af} {name : Str} {apos cpos : Pos} {id : String} {op : Mop}
theorem tyV_list {K : PySem.W.Frag} {H : Hp} {m : List Addr} {M : Mem} {d : D} {x : V} (w : Wd K H m M) (r : Rl K H m d x) (h : tyOf M d = some "list") : tyV K "list" x H := by
  cases d with
  | lst ds => rw [Rl] at r; obtain ⟨a, vs, rfl, _, h1, _⟩ := r; exact .inl ⟨rfl, vs, .of h1⟩
  | scr ns => rw [Rl] at r; obtain ⟨a, rfl, h1⟩ := r; exact .inl ⟨rfl, _, h1.l⟩
  | loc k =>
    rw [Rl] at r
    obtain ⟨a, rfl, ha⟩ := r
    unfold tyOf at h
    simp only at h
    split at h
    · rename_i ds hk
      obtain ⟨b, hb, vs, h1, h2⟩ := w.get hk
      rw [ha] at hb; cases hb
      exact .inl ⟨rfl, vs, .of h1⟩
    · exact absurd (Option.some.inj h) (by decide)
    · cases h
  | non => exact absurd (Option.some.inj h) (by decide)
  | bl b => exact absurd (Option.some.inj h) (by decide)
  | int b => exact absurd (Option.some.inj h) (by decide)
  | str b => exact absurd (Option.some.inj h) (by decide)
  | tup b => exact absurd (Option.some.inj h) (by decide)
theorem bm_of {r : V → List V → Hp → VK → Prop} (ho : ∀ H m M d ds x xs z M' Q, Wd X.K H m M → Rl X.K H m d x → Rls X.K H m ds xs → op d ds M = some (z, M') → Post X.K H m z M' Q → r x xs H Q) {σ : L2.St} {H : Hp} {Q : VK}
    (h : tE X.K (cBM "list" op fo g) σ H Q) : tBM X.K "list" r (tE X.K fo) (tA X.K g) σ H Q := by
  obtain ⟨ρ, M, mm, z, M', rs, w, hf, P⟩ := h
  unfold cBM at hf
  cases ea : fo ρ M with
  | none => rw [ea] at hf; cases hf
  | some p =>
    rw [ea] at hf
    simp only [Option.bind_some] at hf
    refine bindE rs w ea fun H1 m1 v e1 w1 rs1 r1 => ?_
    split at hf
    · rename_i ht
      refine ⟨tyV_list w1 r1 ht, ?_⟩
      cases eg : g ρ p.2 with
      | none => rw [eg] at hf; cases hf
      | some q =>
        rw [eg] at hf
        simp only [Option.bind_some] at hf
        exact bindA rs1 w1 eg fun H2 m2 vs e2 w2 rs2 r2 => ho H2 m2 q.2 _ _ _ _ _ _ Q w2 (r1.ext e2) r2 hf (P.ext (e1.trans e2))
    · cases hf
theorem ce_bm (pa : PlainAttrs "list") (slot : Slot "list" name id) (hty : typeOf (.builtin id) = pure (.type "method_descriptor")) (hm : MtOk X "list" id op) (ho : CEx X o fo) (ha : CAx X (e :: es) g)
    (hbase : attributeBase o name X.env (eval o X.env) = eval o X.env := by rfl)
    (hfew : ((backTo cpos (starEach (e :: es) X.env)).all (fun x => !x.1) && (backToKw cpos (keywordEach [] X.env)).all (fun x => x.1.isSome)
      && decide ((e :: es).length + ([] : List Keyword).length + (if ([] : List Keyword).isEmpty then 0 else 1) < 30)) = true := by rfl)
    (hline : (apos.endLine == cpos.line) = true := by rfl) (hs : starEach (e :: es) X.env = (false, eval e X.env) :: starEach es X.env := by rfl) (hplain : (backTo cpos (starEach es X.env)).any (·.1) = false := by rfl) :
    CEx X (.Call (.Attribute o name apos) (e :: es) [] cpos) (cBM "list" op fo g) := by
  obtain ⟨r, h1, h2⟩ := hm
  exact PE.imp (pe_bm pa slot hty h1 ho ha hbase hfew hline hs hplain) fun _ _ _ h => bm_of h2 h
theorem ce_bm0 (pa : PlainAttrs "list") (slot : Slot "list" name id) (hty : typeOf (.builtin id) = pure (.type "method_descriptor")) (hm : MtOk X "list" id op) (ho : CEx X o fo)
    (hbase : attributeBase o name X.env (eval o X.env) = eval o X.env := by rfl) (hline : (apos.endLine == cpos.line) = true := by rfl) :
    CEx X (.Call (.Attribute o name apos) [] [] cpos) (cBM "list" op fo aNil) := by
  obtain ⟨r, h1, h2⟩ := hm
  refine PE.imp (pe_bm0 pa slot hty h1 ho hbase hline) fun σ H Q h => ?_
  obtain ⟨ρ, M, mm, z, M', rs, w, hf, P⟩ := h
  unfold cBM at hf
  cases ea : fo ρ M with
  | none => rw [ea] at hf; cases hf
  | some p =>
    rw [ea] at hf
    simp only [Option.bind_some] at hf
    refine bindE rs w ea fun H1 m1 v e1 w1 rs1 r1 => ?_
    split at hf
    · rename_i ht
      refine ⟨tyV_list w1 r1 ht, ?_⟩
      simp only [aNil, Option.bind_some] at hf
      exact h2 H1 m1 p.2 _ [] _ [] _ _ Q w1 r1 (by rw [Rls]) hf (P.ext e1)
    · cases hf
/-- the object k is changed: what follows -/
theorem Post.set {K : PySem.W.Frag} {H : Hp} {m : List Addr} {M : Mem} {k : Nat} {a : Addr} {ob : O} {u : HO} {z : D} {v : V} {Q : VK} (w : Wd K H m M) (hk : m[k]? = some a) (P : Post K H m (.val z) (M.set k ob) Q)
    (ho : Ro K (upd H a u) m a ob) (hz : Rl K (upd H a u) m z v) : Q v (upd H a u) := P _ m (w.ext_set hk) (w.set hk ho) v hz
def oAppend : Mop := fun d ds M => match d, ds with
  | .loc k, [x] => match M[k]? with
    | some (.lst es) => if es.length < sizeLine then some (.val .non, M.set k (.lst (es ++ [x]))) else none
    | _ => none
  | _, _ => none
theorem ok_append : MtOk X "list" "list.append" oAppend := by
  refine ⟨_, mt_append, fun H m M d ds x xs z M' Q w rd rds ho P => ?_⟩
  unfold oAppend at ho
  split at ho
  · rename_i k y
    split at ho
    · rename_i es hk
      split at ho
      · rename_i hz
        cases ho
        rw [Rl] at rd
        obtain ⟨a, rfl, ha⟩ := rd
        obtain ⟨b, hb, vs, h1, h2⟩ := w.get hk
        rw [ha] at hb; cases hb
        obtain ⟨v, rfl, rv⟩ := rds.one
        have e := w.ext_set (K := X.K) (u := .lst (vs ++ [v])) ha
        refine ⟨a, vs, v, rfl, rfl, h1, by rw [← h2.length]; exact hz, P.set w ha ⟨_, upd_same, ?_⟩ rl_non⟩
        exact (h2.ext e).append (by rw [Rls]; exact ⟨_, _, rfl, rv.ext e, by rw [Rls]⟩)
      · cases ho
    · cases ho
  · cases ho
end

/-! ### statements -/
inductive Fl where
  | nx | bk | ct | rt (r : Rz)
abbrev Sf := Slots → Mem → Option (Fl × Slots × Mem)
def PostN (K : PySem.W.Frag) (H : Hp) (m : List Addr) (ρ' : Slots) (M' : Mem) (N : L2.St → Hp → Prop) : Prop := ∀ H1 m1 σ1, Ext H m H1 m1 → Wd K H1 m1 M' → Rs K H1 m1 ρ' σ1 → N σ1 H1
def PostS (K : PySem.W.Frag) (H : Hp) (m : List Addr) (fl : Fl) (ρ' : Slots) (M' : Mem) (Dn : Ends) : Prop := match fl with
  | .nx => PostN K H m ρ' M' Dn.nx
  | .bk => PostN K H m ρ' M' Dn.bk
  | .ct => PostN K H m ρ' M' Dn.ct
  | .rt r => Post K H m r M' Dn.rt
def tS (K : PySem.W.Frag) (f : Sf) : TS := fun Dn σ H => ∃ ρ M m fl ρ' M', Rs K H m ρ σ ∧ Wd K H m M ∧ f ρ M = some (fl, ρ', M') ∧ PostS K H m fl ρ' M' Dn
abbrev CSx (X : Cx) (st : Stmt) (f : Sf) : Prop := PS X st (tS X.K f)
abbrev CBx (X : Cx) (st : List Stmt) (f : Sf) : Prop := PSs X st (tS X.K f)
theorem PS.imp {X : Cx} {e : Stmt} {t t' : TS} (h : PS X e t) (i : ∀ Dn σ H, t' Dn σ H → t Dn σ H) : PS X e t' := ⟨fun pins s σ H Q I q => h.run pins s σ H Q I (i Q σ H q)⟩
theorem PSs.imp {X : Cx} {e : List Stmt} {t t' : TS} (h : PSs X e t) (i : ∀ Dn σ H, t' Dn σ H → t Dn σ H) : PSs X e t' := ⟨fun pins s σ H Q I q => h.run pins s σ H Q I (i Q σ H q)⟩
section
variable {K : PySem.W.Frag} {H H1 : Hp} {m m1 : List Addr} {ρ' : Slots} {M' : Mem} {fl : Fl} {Dn : Ends}
theorem PostN.ext {N : L2.St → Hp → Prop} (P : PostN K H m ρ' M' N) (e : Ext H m H1 m1) : PostN K H1 m1 ρ' M' N := fun H2 m2 σ2 e2 w r => P H2 m2 σ2 (e.trans e2) w r
theorem PostS.ext (P : PostS K H m fl ρ' M' Dn) (e : Ext H m H1 m1) : PostS K H1 m1 fl ρ' M' Dn := by
  cases fl with
  | nx => exact PostN.ext P e
  | bk => exact PostN.ext P e
  | ct => exact PostN.ext P e
  | rt r => exact Post.ext P e
end
section
variable {X : Cx} {st : Stmt} {rest : List Stmt} {f g : Sf} {fe fo : Ef} {ft : Tf} {e : Expr} {pos : Pos}
def sNil : Sf := fun ρ M => some (.nx, ρ, M)
def sCons (f g : Sf) : Sf := fun ρ M => (f ρ M).bind fun p => match p.1 with
  | .nx => g p.2.1 p.2.2
  | fl => some (fl, p.2.1, p.2.2)
theorem nx_of {Dn : Ends} {σ : L2.St} {H : Hp} (h : tS X.K sNil Dn σ H) : Dn.nx σ H := by
  obtain ⟨ρ, M, m, fl, ρ', M', rs, w, hf, P⟩ := h
  cases hf
  exact P H m σ .refl w rs
theorem cb_nil : CBx X [] sNil := PSs.imp pss_nil fun _ _ _ h => nx_of h
theorem cb_cons (h1 : CSx X st f) (h2 : CBx X rest g) : CBx X (st :: rest) (sCons f g) := PSs.imp (pss_cons h1 h2) fun Dn σ H h => by
  obtain ⟨ρ, M, m, fl, ρ', M', rs, w, hf, P⟩ := h
  unfold sCons at hf
  cases ea : f ρ M with
  | none => rw [ea] at hf; cases hf
  | some p =>
    obtain ⟨fl1, ρ1, M1⟩ := p
    rw [ea] at hf
    simp only [Option.bind_some] at hf
    refine ⟨ρ, M, m, fl1, ρ1, M1, rs, w, ea, ?_⟩
    cases fl1 with
    | nx => exact fun H1 m1 σ1 e1 w1 r1 => ⟨ρ1, M1, m1, fl, ρ', M', r1, w1, hf, P.ext e1⟩
    | bk => cases hf; exact P
    | ct => cases hf; exact P
    | rt r => cases hf; exact P
theorem cb_one (h1 : CSx X st f) : CBx X [st] f := pss_one h1
theorem cs_pass : CSx X (.Pass pos) sNil := PS.imp ps_pass fun _ _ _ h => nx_of h
theorem cs_doc {x : Str} {j pos'} : CSx X (.Expr (.Constant (.str x) j pos') pos) sNil := PS.imp ps_doc fun _ _ _ h => nx_of h
def sBreak : Sf := fun ρ M => some (.bk, ρ, M)
def sCont : Sf := fun ρ M => some (.ct, ρ, M)
theorem cs_break : CSx X (.Break pos) sBreak := PS.imp ps_break fun Dn σ H h => by
  obtain ⟨ρ, M, m, fl, ρ', M', rs, w, hf, P⟩ := h
  cases hf
  exact P H m σ .refl w rs
theorem cs_continue : CSx X (.Continue pos) sCont := PS.imp ps_continue fun Dn σ H h => by
  obtain ⟨ρ, M, m, fl, ρ', M', rs, w, hf, P⟩ := h
  cases hf
  exact P H m σ .refl w rs
def sExpr (f : Ef) : Sf := fun ρ M => (f ρ M).bind fun p => some (.nx, ρ, p.2)
theorem cs_expr (he : CEx X e fe) (hs : swapsWith e none pos.line X.env = pure false := by rfl) : CSx X (.Expr e pos) (sExpr fe) := PS.imp (ps_expr he hs) fun Dn σ H h => by
  obtain ⟨ρ, M, m, fl, ρ', M', rs, w, hf, P⟩ := h
  unfold sExpr at hf
  cases ea : fe ρ M with
  | none => rw [ea] at hf; cases hf
  | some p =>
    rw [ea] at hf
    cases hf
    exact bindE rs w ea fun H1 m1 v e1 w1 rs1 r1 => P H1 m1 σ e1 w1 rs1
def sRet (f : Ef) : Sf := fun ρ M => (f ρ M).bind fun p => some (.rt p.1, ρ, p.2)
theorem cs_ret (he : CEx X e fe) : CSx X (.Return (some e) pos) (sRet fe) := PS.imp (ps_ret he) fun Dn σ H h => by
  obtain ⟨ρ, M, m, fl, ρ', M', rs, w, hf, P⟩ := h
  unfold sRet at hf
  cases ea : fe ρ M with
  | none => rw [ea] at hf; cases hf
  | some p =>
    rw [ea] at hf
    cases hf
    exact ⟨ρ, M, m, p.1, p.2, rs, w, ea, P⟩
def sRetN : Sf := fun ρ M => some (.rt (.val .non), ρ, M)
theorem cs_retN : CSx X (.Return none pos) sRetN := PS.imp ps_retN fun Dn σ H h => by
  obtain ⟨ρ, M, m, fl, ρ', M', rs, w, hf, P⟩ := h
  cases hf
  exact Post.val P w rl_non
def sIf (t : Tf) (f g : Sf) : Sf := fun ρ M => (t ρ M).bind fun p => if p.1 = true then f ρ p.2 else g ρ p.2
theorem cs_if {c : Expr} {a b : List Stmt} (hc : CTx X c ft) (ha : CBx X a f) (hb : CBx X b g) : CSx X (.If c a b pos) (sIf ft f g) := PS.imp (ps_if hc ha hb) fun Dn σ H h => by
  obtain ⟨ρ, M, m, fl, ρ', M', rs, w, hf, P⟩ := h
  unfold sIf at hf
  cases ea : ft ρ M with
  | none => rw [ea] at hf; cases hf
  | some p =>
    rw [ea] at hf
    simp only [Option.bind_some] at hf
    refine bindT rs w ea fun H1 m1 e1 w1 rs1 => ?_
    split at hf
    · rename_i e; rw [if_pos e]; exact ⟨ρ, p.2, m1, fl, ρ', M', rs1, w1, hf, P.ext e1⟩
    · rename_i e; rw [if_neg e]; exact ⟨ρ, p.2, m1, fl, ρ', M', rs1, w1, hf, P.ext e1⟩
/-- code that is never reached -/
def sNever : Sf := fun _ _ => none
theorem cs_never : CSx X st sNever := PS.imp ps_never fun Dn σ H h => by
  obtain ⟨ρ, M, m, fl, ρ', M', rs, w, hf, P⟩ := h
  cases hf
theorem cb_never {sts : List Stmt} : CBx X sts sNever := PSs.imp pss_never fun Dn σ H h => by
  obtain ⟨ρ, M, m, fl, ρ', M', rs, w, hf, P⟩ := h
  cases hf
/-- name = value -/
def sSet (i : Nat) (f : Ef) : Sf := fun ρ M => (f ρ M).bind fun p => some (.nx, ρ.set i (some p.1.d), p.2)
theorem cs_set {i : Nat} (h : PS X st (tAsg (tE X.K fe) (gName i))) : CSx X st (sSet i fe) := PS.imp h fun Dn σ H h => by
  obtain ⟨ρ, M, m, fl, ρ', M', rs, w, hf, P⟩ := h
  unfold sSet at hf
  cases ea : fe ρ M with
  | none => rw [ea] at hf; cases hf
  | some p =>
    rw [ea] at hf
    cases hf
    exact bindE rs w ea fun H1 m1 v e1 w1 rs1 r1 => P H1 m1 _ e1 w1 (rs1.set r1 i)
/-- name = value, a new list becomes an object of our own -/
def sSetM (i : Nat) (f : Ef) : Sf := fun ρ M => (f ρ M).bind fun p => match p.1 with
  | .new ds => some (.nx, ρ.set i (some (.loc p.2.length)), p.2 ++ [.lst ds])
  | .val d => some (.nx, ρ.set i (some d), p.2)
theorem cs_setM {i : Nat} (h : PS X st (tAsg (tE X.K fe) (gName i))) : CSx X st (sSetM i fe) := PS.imp h fun Dn σ H h => by
  obtain ⟨ρ, M, m, fl, ρ', M', rs, w, hf, P⟩ := h
  unfold sSetM at hf
  cases ea : fe ρ M with
  | none => rw [ea] at hf; cases hf
  | some p =>
    obtain ⟨r, M1⟩ := p
    rw [ea] at hf
    simp only [Option.bind_some] at hf
    refine ⟨ρ, M, m, r, M1, rs, w, ea, fun H1 m1 e1 w1 => ?_⟩
    cases r with
    | val d =>
      cases hf
      exact fun v r1 => P H1 m1 _ e1 w1 ((rs.ext e1).set r1 i)
    | new ds =>
      cases hf
      intro vs a r1 n
      obtain ⟨w2, e2⟩ := w1.push (o := .lst ds) (u := .lst vs) n (by
        refine ⟨vs, upd_same, ?_⟩
        have e1 : Ext H1 m1 (upd H1 a (.lst vs)) m1 := .new n
        exact r1.ext ⟨e1.tup, e1.frz, e1.lst, e1.trk, [a], rfl, fun b q => by simp at q; rw [q]; exact n⟩)
      refine P _ _ _ (e1.trans e2) w2 (((rs.ext e1).ext e2).set ?_ i)
      rw [Rl]
      exact ⟨a, rfl, by rw [← w1.len, List.getElem?_append_right (Nat.le_refl _)]; simp⟩
end

/-! ### fields stored -/
def putD (f : Str) (v : D) : List (Str × D) → List (Str × D)
  | [] => [(f, v)]
  | (g, x) :: r => if g = f then (g, v) :: r else (g, x) :: putD f v r
theorem Rfs.put {K : PySem.W.Frag} {H : Hp} {m : List Addr} {f : Str} {d : D} {v : V} (r : Rl K H m d v) : ∀ {fs : List (Str × D)} {gs : List (Str × V)}, Rfs K H m fs gs → Rfs K H m (putD f d fs) (putF f v gs)
  | [], _, h => by cases h; exact ⟨v, [], rfl, r, rfl⟩
  | (g, x) :: fs, _, h => by
    obtain ⟨u, s, rfl, h1, h2⟩ := h
    unfold putD putF
    split
    · exact ⟨v, s, rfl, r, h2⟩
    · exact ⟨u, _, rfl, h1, Rfs.put r h2⟩
def stFld (cs : List Str) (f : Str) (fo : Ef) (d : D) (ρ : Slots) (M : Mem) : Option (Fl × Slots × Mem) := (fo ρ M).bind fun q => match q.1.d with
  | .loc k => match q.2[k]? with
    | some (.ins c fs) => if c ∈ cs ∧ fs.length < 1000 then some (.nx, ρ, q.2.set k (.ins c (putD f d fs))) else none
    | _ => none
  | _ => none
def sFldS (cs : List Str) (f : Str) (fo fv : Ef) : Sf := fun ρ M => (fv ρ M).bind fun p => stFld cs f fo p.1.d ρ p.2
def sFldM (cs : List Str) (f : Str) (fo fv : Ef) : Sf := fun ρ M => (fv ρ M).bind fun p => match p.1 with
  | .new ds => stFld cs f fo (.loc p.2.length) ρ (p.2 ++ [.lst ds])
  | .val d => stFld cs f fo d ρ p.2
section
variable {X : Cx} {st : Stmt} {fe fo fv : Ef} {o value : Expr} {n : Str} {pos pos' : Pos} {cs : List Str}
theorem fld_of {ρ ρ' : Slots} {M M' : Mem} {fl : Fl} {d : D} {y : V} {H H0 : Hp} {m m0 : List Addr} {σ : L2.St} {Dn : Ends} (hcs : ∀ c ∈ cs, Cls X.K (He.ga X.K c) ∧ NoAttr X.K (He.ga X.K c) n) (e : Ext H0 m0 H m) (rs : Rs X.K H m ρ σ) (w : Wd X.K H m M) (r : Rl X.K H m d y)
    (hf : stFld cs n fo d ρ M = some (fl, ρ', M')) (P : PostS X.K H0 m0 fl ρ' M' Dn) :
    tE X.K fo σ H fun x H2 => ∃ a C dx fs, x = .ref a ∧ H2 a = some (.ins C dx fs) ∧ Cls X.K C ∧ NoAttr X.K C n ∧ fs.length < 1000 ∧ Dn.nx σ (upd H2 a (.ins C dx (putF n y fs))) := by
  unfold stFld at hf
  cases ea : fo ρ M with
  | none => rw [ea] at hf; cases hf
  | some q =>
    rw [ea] at hf
    simp only [Option.bind_some] at hf
    refine bindE rs w ea fun H1 m1 v e1 w1 rs1 r1 => ?_
    split at hf
    · rename_i k hk
      rw [hk, Rl] at r1
      obtain ⟨a, rfl, ha⟩ := r1
      split at hf
      · rename_i c fs hfs
        split at hf
        · rename_i hc
          cases hf
          obtain ⟨b, hb, dx, gs, h1, h2⟩ := w1.get hfs
          rw [ha] at hb; cases hb
          have e2 := w1.ext_set (u := .ins (He.ga X.K c) dx (putF n y gs)) ha
          refine ⟨a, _, dx, gs, rfl, h1, (hcs c hc.1).1, (hcs c hc.1).2, by rw [← h2.length]; exact hc.2, ?_⟩
          exact P _ m1 σ ((e.trans e1).trans e2) (w1.set ha ⟨dx, _, upd_same, Rfs.put ((r.ext e1).ext e2) (h2.ext e2)⟩) (rs1.ext e2)
        · cases hf
      · cases hf
    · cases hf
theorem cs_fld (ha : CEx X o fo) (hv : CEx X value fv) (hcs : ∀ c ∈ cs, Cls X.K (He.ga X.K c) ∧ NoAttr X.K (He.ga X.K c) n) (hs : swapsWith value (some (.Attribute o n pos')) pos.line X.env = pure false := by rfl) : CSx X (.Assign [.Attribute o n pos'] value pos) (sFldS cs n fo fv) :=
  PS.imp (ps_fld ha hv hs) fun Dn σ H h => by
    obtain ⟨ρ, M, m, fl, ρ', M', rs, w, hf, P⟩ := h
    unfold sFldS at hf
    cases ea : fv ρ M with
    | none => rw [ea] at hf; cases hf
    | some p =>
      rw [ea] at hf
      exact bindE rs w ea fun H1 m1 v e1 w1 rs1 r1 => fld_of hcs e1 rs1 w1 r1 hf P
theorem cs_fldM (ha : CEx X o fo) (hv : CEx X value fv) (hcs : ∀ c ∈ cs, Cls X.K (He.ga X.K c) ∧ NoAttr X.K (He.ga X.K c) n) (hs : swapsWith value (some (.Attribute o n pos')) pos.line X.env = pure false := by rfl) : CSx X (.Assign [.Attribute o n pos'] value pos) (sFldM cs n fo fv) :=
  PS.imp (ps_fld ha hv hs) fun Dn σ H h => by
    obtain ⟨ρ, M, m, fl, ρ', M', rs, w, hf, P⟩ := h
    unfold sFldM at hf
    cases ea : fv ρ M with
    | none => rw [ea] at hf; cases hf
    | some p =>
      obtain ⟨r, M1⟩ := p
      rw [ea] at hf
      simp only [Option.bind_some] at hf
      refine ⟨ρ, M, m, r, M1, rs, w, ea, fun H1 m1 e1 w1 => ?_⟩
      cases r with
      | val d => exact fun v r1 => fld_of hcs e1 (rs.ext e1) w1 r1 hf P
      | new ds =>
        intro vs a r1 nn
        obtain ⟨w2, e2⟩ := w1.push (o := .lst ds) (u := .lst vs) nn (by
          refine ⟨vs, upd_same, ?_⟩
          have e1 : Ext H1 m1 (upd H1 a (.lst vs)) m1 := .new nn
          exact r1.ext ⟨e1.tup, e1.frz, e1.lst, e1.trk, [a], rfl, fun b q => by simp at q; rw [q]; exact nn⟩)
        refine fld_of hcs (e1.trans e2) ((rs.ext e1).ext e2) w2 ?_ hf P
        rw [Rl]
        exact ⟨a, rfl, by rw [← w1.len, List.getElem?_append_right (Nat.le_refl _)]; simp⟩
end
end CI

/-! Ci6: targets, loops, defs -/
namespace CI
open PySem PySem.Spec PyProof.Rows L2

/-! ### targets -/
abbrev Gf := D → Slots → Mem → Option (Slots × Mem)
abbrev GsF := List D → Slots → Mem → Option (Slots × Mem)
def tG (K : PySem.W.Frag) (g : Gf) : TG := fun v σ H Q => ∃ d ρ M m ρ' M', Rl K H m d v ∧ Rs K H m ρ σ ∧ Wd K H m M ∧ g d ρ M = some (ρ', M') ∧ PostN K H m ρ' M' Q
def tGs (K : PySem.W.Frag) (g : GsF) : TGs := fun vs σ H Q => ∃ ds ρ M m ρ' M', Rls K H m ds vs ∧ Rs K H m ρ σ ∧ Wd K H m M ∧ g ds ρ M = some (ρ', M') ∧ PostN K H m ρ' M' Q
theorem PG.imp {X : Cx} {e : Expr} {t t' : TG} (h : PG X e t) (i : ∀ v σ H Q, t' v σ H Q → t v σ H Q) : PG X e t' := ⟨fun pins s σ H v u Q I r q => h.run pins s σ H v u Q I r (i v σ H Q q)⟩
theorem PGs.imp {X : Cx} {e : List Expr} {t t' : TGs} (h : PGs X e t) (i : ∀ v σ H Q, t' v σ H Q → t v σ H Q) : PGs X e t' := ⟨fun pins s σ H v u Q I r q => h.run pins s σ H v u Q I r (i v σ H Q q)⟩
abbrev CGx (X : Cx) (e : Expr) (g : Gf) : Prop := PG X e (tG X.K g)
abbrev CGsx (X : Cx) (es : List Expr) (g : GsF) : Prop := PGs X es (tGs X.K g)
def gNm (i : Nat) : Gf := fun d ρ M => some (ρ.set i (some d), M)
def gsNil : GsF := fun ds ρ M => match ds with
  | [] => some (ρ, M)
  | _ => none
def gsCons (g : Gf) (gs : GsF) : GsF := fun ds ρ M => match ds with
  | d :: ds => (g d ρ M).bind fun p => gs ds p.1 p.2
  | [] => none
def gTp (n : Nat) (gs : GsF) : Gf := fun d ρ M => match d with
  | .tup ds => if ds.length = n then gs ds ρ M else none
  | _ => none
section
variable {X : Cx} {e tg : Expr} {es : List Expr} {g : Gf} {gs : GsF} {pos : Pos} {fe : Ef} {st : Stmt}
theorem cg_of {i : Nat} (h : PG X e (gName i)) : CGx X e (gNm i) := PG.imp h fun v σ H Q ⟨d, ρ, M, m, ρ', M', r, rs, w, hf, P⟩ => by
  cases hf
  exact P H m _ .refl w (rs.set r i)
theorem cgs_nil : CGsx X [] gsNil := PGs.imp pgs_nil fun vs σ H Q ⟨ds, ρ, M, m, ρ', M', r, rs, w, hf, P⟩ => by
  unfold gsNil at hf
  split at hf
  · cases hf
    exact ⟨rls_nil r, P H m _ .refl w rs⟩
  · cases hf
theorem cgs_cons (h1 : CGx X e g) (h2 : CGsx X es gs) (hs : (assignEach (e :: es) X.env).map (·.2) = assign e X.env :: (assignEach es X.env).map (·.2) := by rfl) : CGsx X (e :: es) (gsCons g gs) :=
  PGs.imp (pgs_cons h1 h2 hs) fun vs σ H Q ⟨ds, ρ, M, m, ρ', M', r, rs, w, hf, P⟩ => by
    unfold gsCons at hf
    split at hf
    · rename_i d ds
      rw [Rls] at r
      obtain ⟨v, vr, rfl, r1, r2⟩ := r
      cases ea : g d ρ M with
      | none => rw [ea] at hf; cases hf
      | some p =>
        rw [ea] at hf
        simp only [Option.bind_some] at hf
        refine ⟨v, vr, rfl, d, ρ, M, m, p.1, p.2, r1, rs, w, ea, fun H1 m1 σ1 e1 w1 rs1 => ?_⟩
        exact ⟨ds, p.1, p.2, m1, ρ', M', r2.ext e1, rs1, w1, hf, P.ext e1⟩
    · cases hf
theorem cg_tup {k n : Nat} (hc : X.calm = true) (h : CGsx X es gs) (hn : (assignEach es X.env).length = n := by rfl) (hst : (assignEach es X.env).findIdx? (·.1) = none := by rfl) : CGx X (.Tuple es k pos) (gTp n gs) :=
  PG.imp (pg_tup hc h hn hst) fun v σ H Q ⟨d, ρ, M, m, ρ', M', r, rs, w, hf, P⟩ => by
    unfold gTp at hf
    split at hf
    · rename_i ds
      split at hf
      · rename_i hl
        rw [Rl] at r
        obtain ⟨a, vs, rfl, h1, h2⟩ := r
        exact ⟨a, vs, rfl, h1, by rw [← h2.length]; exact hl, ds, ρ, M, m, ρ', M', h2, rs, w, hf, P⟩
      · cases hf
    · cases hf
def sAsg (g : Gf) (f : Ef) : Sf := fun ρ M => (f ρ M).bind fun p => (g p.1.d ρ p.2).bind fun q => some (.nx, q.1, q.2)
theorem cs_asg (h : PS X st (tAsg (tE X.K fe) (tG X.K g))) : CSx X st (sAsg g fe) := PS.imp h fun Dn σ H h => by
  obtain ⟨ρ, M, m, fl, ρ', M', rs, w, hf, P⟩ := h
  unfold sAsg at hf
  cases ea : fe ρ M with
  | none => rw [ea] at hf; cases hf
  | some p =>
    cases eg : g p.1.d ρ p.2 with
    | none => simp [ea, eg] at hf
    | some q =>
      simp [ea, eg] at hf
      obtain ⟨rfl, rfl, rfl⟩ := hf
      exact bindE rs w ea fun H1 m1 v e1 w1 rs1 r1 => ⟨p.1.d, ρ, p.2, m1, q.1, q.2, r1, rs1, w1, eg, PostN.ext P e1⟩
end
/-- xs[i] = v as a target -/
def gIx (fo fi : Ef) : Gf := fun d ρ M => (fo ρ M).bind fun p => (fi ρ p.2).bind fun q => match p.1.d, q.1.d with
  | .loc k, .int i => match q.2[k]? with
    | some (.lst es) => (ixN es.length i).bind fun j => some (ρ, q.2.set k (.lst (es.set j d)))
    | _ => none
  | _, _ => none
theorem cg_ix {X : Cx} {o i : Expr} {fo fi : Ef} {pos : Pos} (ho : CEx X o fo) (hi : CEx X i fi) (ha : ∀ v, assign (.Subscript o i pos) X.env v = (do
      let ov ← holding [v] (eval o X.env)
      let iv ← holding [v, ov] (eval i X.env)
      standAt pos
      holding [v, ov, iv] (setItem ov iv v)
      release [v, ov, iv] []) := by intro _; rfl) : CGx X (.Subscript o i pos) (gIx fo fi) :=
  PG.imp (pg_sub ho hi set_list ha) fun v σ H Q ⟨d, ρ, M, m, ρ', M', r, rs, w, hf, P⟩ => by
    unfold gIx at hf
    cases ea : fo ρ M with
    | none => rw [ea] at hf; cases hf
    | some p =>
      cases ei : fi ρ p.2 with
      | none => simp [ea, ei] at hf
      | some q =>
        simp only [ea, ei, Option.bind_some] at hf
        refine bindE rs w ea fun H1 m1 v1 e1 w1 rs1 r1 => bindE rs1 w1 ei fun H2 m2 v2 e2 w2 rs2 r2 => ?_
        split at hf
        · rename_i k i hk hi
          split at hf
          · rename_i es hes
            cases ej : ixN es.length i with
            | none => rw [ej] at hf; cases hf
            | some j =>
              rw [ej] at hf
              cases hf
              have r1' := r1.ext e2
              rw [hk, Rl] at r1'
              rw [hi, Rl] at r2
              obtain ⟨a, rfl, ha⟩ := r1'
              subst r2
              obtain ⟨b, hb, vs, h1, h2⟩ := w2.get hes
              rw [ha] at hb; cases hb
              have e3 := w2.ext_set (u := .lst (vs.set j v)) ha
              refine ⟨a, vs, i, j, rfl, rfl, h1, by rw [← h2.length]; exact ej, ?_⟩
              exact P _ m2 _ ((e1.trans e2).trans e3) (w2.set ha ⟨_, upd_same, (h2.ext e3).set j (((r.ext e1).ext e2).ext e3)⟩) ((rs2).ext e3)
          · cases hf
        · cases hf

/-! ### what is walked -/
abbrev If := Slots → Mem → Option (List D × Option Nat × Mem)
def GdOk (K : PySem.W.Frag) (gk : Option Nat) (ds : List D) (H : Hp) (m : List Addr) : Prop := ∀ k, gk = some k → ∃ a vs, m[k]? = some a ∧ H a = some (.lst vs) ∧ Rls K H m ds vs
structure Yl (K : PySem.W.Frag) (H0 : Hp) (m0 : List Addr) (J : It) (ds : List D) (gk : Option Nat) : Prop where
  go : ∀ i H m, i < ds.length → Ext H0 m0 H m → GdOk K gk ds H m → J.go i H
  yld : ∀ i d H m M x H', ds[i]? = some d → Ext H0 m0 H m → GdOk K gk ds H m → Wd K H m M → J.yld i H x H' → Ext H m H' m ∧ Wd K H' m M ∧ Rl K H' m d x
  stop : ∀ H m, Ext H0 m0 H m → GdOk K gk ds H m → J.stop ds.length H
def tI (K : PySem.W.Frag) (f : If) : TI := fun σ H R => ∃ ρ M m ds gk M', Rs K H m ρ σ ∧ Wd K H m M ∧ f ρ M = some (ds, gk, M') ∧
  ∀ H1 m1 J, Ext H m H1 m1 → Wd K H1 m1 M' → GdOk K gk ds H1 m1 → Yl K H1 m1 J ds gk → R J H1
theorem PI.imp {X : Cx} {tg e : Expr} {t t' : TI} (h : PI X tg e t) (i : ∀ σ H R, t' σ H R → t σ H R) : PI X tg e t' := ⟨fun pins s σ H R I q => h.run pins s σ H R I (i σ H R q)⟩
theorem PI.or {X : Cx} {tg e : Expr} {t t' : TI} (h : PI X tg e t) (h' : PI X tg e t') : PI X tg e (fun σ H R => t σ H R ∨ t' σ H R) := ⟨fun pins s σ H R I q => q.elim (h.run pins s σ H R I) (h'.run pins s σ H R I)⟩
abbrev CIx (X : Cx) (tg e : Expr) (f : If) : Prop := PI X tg e (tI X.K f)
def gkOf : D → Option Nat
  | .loc k => some k
  | _ => none
def iSeq (f : Ef) : If := fun ρ M => (f ρ M).bind fun p => (asS p.2 p.1.d).bind fun ds => some (ds, gkOf p.1.d, p.2)
theorem gd_none {K : PySem.W.Frag} {ds : List D} {H : Hp} {m : List Addr} : GdOk K none ds H m := fun k e => by cases e

section
variable {K : PySem.W.Frag} {H : Hp} {m : List Addr} {M : Mem} {a : Addr} {ds : List D} {vs : List V}
theorem yl_tup (h : SqT K H a vs) (r : Rls K H m ds vs) : Yl K H m (Itt K a) ds none where
  go := fun i H1 m1 hi e _ => by
    have hl := r.length
    exact ⟨vs, vs[i], sqT_ext e h, List.getElem?_eq_getElem (by omega)⟩
  yld := fun i d H1 m1 M1 x H' q e _ w y => by
    obtain ⟨rfl, y⟩ := y
    obtain ⟨v, h1, h2⟩ := (r.ext e).get q
    have := y vs (sqT_ext e h)
    rw [h1] at this; cases this
    exact ⟨.refl, w, h2⟩
  stop := fun H1 m1 e _ => ⟨vs, sqT_ext e h, by rw [r.length]; exact Nat.le_refl _⟩
theorem yl_sq (h : ∀ H1 m1, Ext H m H1 m1 → SqL K H1 a vs) (r : Rls K H m ds vs) : Yl K H m (Itl K a) ds none where
  go := fun i H1 m1 hi e _ => by
    have hl := r.length
    exact ⟨vs, vs[i], h _ _ e, List.getElem?_eq_getElem (by omega)⟩
  yld := fun i d H1 m1 M1 x H' q e _ w y => by
    obtain ⟨rfl, y⟩ := y
    obtain ⟨v, h1, h2⟩ := (r.ext e).get q
    have := y vs (h _ _ e)
    rw [h1] at this; cases this
    exact ⟨.refl, w, h2⟩
  stop := fun H1 m1 e _ => ⟨vs, h _ _ e, by rw [r.length]; exact Nat.le_refl _⟩
theorem yl_loc {k : Nat} (h : m[k]? = some a) : Yl K H m (Itl K a) ds (some k) where
  go := fun i H1 m1 hi e g => by
    obtain ⟨b, vs, h1, h2, h3⟩ := g k rfl
    rw [e.get h] at h1; cases h1
    have hl := h3.length
    exact ⟨vs, vs[i], .of h2, List.getElem?_eq_getElem (by omega)⟩
  yld := fun i d H1 m1 M1 x H' q e g w y => by
    obtain ⟨rfl, y⟩ := y
    obtain ⟨b, vs, h1, h2, h3⟩ := g k rfl
    rw [e.get h] at h1; cases h1
    obtain ⟨v, h4, h5⟩ := h3.get q
    have := y vs (.of h2)
    rw [h4] at this; cases this
    exact ⟨.refl, w, h5⟩
  stop := fun H1 m1 e g => by
    obtain ⟨b, vs, h1, h2, h3⟩ := g k rfl
    rw [e.get h] at h1; cases h1
    exact ⟨vs, .of h2, by rw [h3.length]; exact Nat.le_refl _⟩
def rgD (lo : Int) (n : Nat) : List D := (List.range n).map fun (i : Nat) => D.int (lo + i)
theorem rgD_len {lo : Int} {n : Nat} : (rgD lo n).length = n := by unfold rgD; simp
theorem rgD_get {lo : Int} {n i : Nat} {d : D} (h : (rgD lo n)[i]? = some d) : i < n ∧ d = .int (lo + i) := by
  unfold rgD at h
  rw [List.getElem?_map] at h
  cases q : (List.range n)[i]? with
  | none => rw [q] at h; cases h
  | some j =>
    rw [q] at h
    cases h
    obtain ⟨h1, h2⟩ := List.getElem?_eq_some_iff.mp q
    simp at h1 h2
    exact ⟨h1, by rw [h2]⟩
theorem yl_rng {lo : Int} {n : Nat} : Yl K H m (Itr lo n) (rgD lo n) none where
  go := fun i H1 m1 hi e _ => by rw [rgD_len] at hi; exact hi
  yld := fun i d H1 m1 M1 x H' q e _ w y => by
    obtain ⟨rfl, rfl⟩ := y
    obtain ⟨_, rfl⟩ := rgD_get q
    exact ⟨.refl, w, by rw [Rl]⟩
  stop := fun H1 m1 e _ => by rw [rgD_len]; exact Nat.le_refl _
end
section
variable {X : Cx} {tg e a b : Expr} {f fa fb : Ef} {p pos : Pos}
theorem ci_seq (h : CEx X e f) : CIx X tg e (iSeq f) := PI.imp (PI.or (pi_list h) (pi_tup h)) fun σ H R ⟨ρ, M, m, ds, gk, M', rs, w, hf, P⟩ => by
  unfold iSeq at hf
  cases ea : f ρ M with
  | none => rw [ea] at hf; cases hf
  | some q =>
    obtain ⟨r, M1⟩ := q
    rw [ea] at hf
    simp only [Option.bind_some] at hf
    cases es : asS M1 r.d with
    | none => rw [es] at hf; cases hf
    | some ds' =>
      rw [es] at hf
      cases hf
      cases er : r.d with
      | tup es' =>
        refine .inr (bindE rs w ea fun H1 m1 v e1 w1 rs1 r1 => ?_)
        rw [er] at r1 es
        cases es
        rw [Rl] at r1
        obtain ⟨a, vs, rfl, h1, h2⟩ := r1
        rw [er] at P
        exact ⟨a, rfl, ⟨vs, h1⟩, P H1 m1 _ e1 w1 gd_none (yl_tup h1 h2)⟩
      | lst es' =>
        refine .inl (bindE rs w ea fun H1 m1 v e1 w1 rs1 r1 => ?_)
        rw [er] at r1 es
        cases es
        rw [Rl] at r1
        obtain ⟨a, vs, rfl, hn, h1, h2⟩ := r1
        rw [er] at P
        exact ⟨a, rfl, ⟨vs, .of h1⟩, P H1 m1 _ e1 w1 gd_none (yl_sq (fun H2 m2 e2 => .of (e2.lst _ _ hn h1)) h2)⟩
      | scr ns =>
        refine .inl (bindE rs w ea fun H1 m1 v e1 w1 rs1 r1 => ?_)
        rw [er] at r1 es
        cases es
        rw [Rl] at r1
        obtain ⟨a, rfl, h1⟩ := r1
        rw [er] at P
        exact ⟨a, rfl, ⟨_, h1.l⟩, P H1 m1 _ e1 w1 gd_none (yl_sq (fun H2 m2 e2 => (SqS.l (h1.imp (fun ⟨o, s⟩ => ⟨o, e2.frz _ _ _ s⟩) id))) .ints)⟩
      | loc k =>
        refine .inl (bindE rs w ea fun H1 m1 v e1 w1 rs1 r1 => ?_)
        rw [er] at r1 es
        have r2 := r1
        rw [Rl] at r1
        obtain ⟨a, rfl, ha⟩ := r1
        obtain ⟨b, vs, hb, h1, h2⟩ := asW_ok (d := .loc k) (ds := ds) w1 r2 es
        cases hb
        rw [er] at P
        exact ⟨a, rfl, ⟨vs, .of h1⟩, P H1 m1 _ e1 w1 (fun k' hk => by cases hk; exact ⟨a, vs, ha, h1, h2⟩) (yl_loc ha)⟩
      | _ => rw [er] at es; cases es
def rgB (i : Int) : Bool := decide (-(2 ^ 62) ≤ i) && decide (i < 2 ^ 62)
def iRg1 (fa : Ef) : If := fun ρ M => (fa ρ M).bind fun p => match p.1.d with
  | .int j => if rgB j = true then some (rgD 0 j.toNat, none, p.2) else none
  | _ => none
def iRg2 (fa fb : Ef) : If := fun ρ M => (fa ρ M).bind fun p => (fb ρ p.2).bind fun q => match p.1.d, q.1.d with
  | .int i, .int j => if rgB i = true ∧ rgB j = true then some (rgD i (j - i).toNat, none, q.2) else none
  | _, _ => none
theorem rgB_ok {i : Int} (h : rgB i = true) : -(2 ^ 62) ≤ i ∧ i < 2 ^ 62 := by
  unfold rgB at h
  simpa [Bool.and_eq_true] using h
theorem ci_rg1 (hg : Gl X "range") (hm : X.mg "range" = none) (ha : CEx X a fa) (hs : starEach [a] X.env = [(false, eval a X.env)] := by rfl) (hs' : starEach [a] X.env = (false, eval a X.env) :: starEach [] X.env := by rfl) : CIx X tg (.Call (.Name "range" p) [a] [] pos) (iRg1 fa) :=
  PI.imp (pi_range1 hg hm (pa_cons ha pa_nil hs') hs) fun σ H R ⟨ρ, M, m, ds, gk, M', rs, w, hf, P⟩ => by
    unfold iRg1 at hf
    cases ea : fa ρ M with
    | none => rw [ea] at hf; cases hf
    | some q =>
      rw [ea] at hf
      simp only [Option.bind_some] at hf
      refine bindE rs w ea fun H1 m1 v e1 w1 rs1 r1 => ?_
      split at hf
      · rename_i j hj
        split at hf
        · rename_i hb
          cases hf
          rw [hj, Rl] at r1; subst r1
          exact ⟨j, rfl, (rgB_ok hb).1, (rgB_ok hb).2, P H1 m1 _ e1 w1 gd_none yl_rng⟩
        · cases hf
      · cases hf
theorem ci_rg2 (hg : Gl X "range") (hm : X.mg "range" = none) (ha : CEx X a fa) (hb : CEx X b fb) (hs : starEach [a, b] X.env = [(false, eval a X.env), (false, eval b X.env)] := by rfl) (hs2 : starEach [b] X.env = [(false, eval b X.env)] := by rfl)
    (hs' : starEach [a, b] X.env = (false, eval a X.env) :: starEach [b] X.env := by rfl) (hs2' : starEach [b] X.env = (false, eval b X.env) :: starEach [] X.env := by rfl) : CIx X tg (.Call (.Name "range" p) [a, b] [] pos) (iRg2 fa fb) :=
  PI.imp (pi_range2 hg hm (pa_cons ha (pa_cons hb pa_nil hs2') hs') hs hs2) fun σ H R ⟨ρ, M, m, ds, gk, M', rs, w, hf, P⟩ => by
    unfold iRg2 at hf
    cases ea : fa ρ M with
    | none => rw [ea] at hf; cases hf
    | some q =>
      cases eb : fb ρ q.2 with
      | none => simp [ea, eb] at hf
      | some q2 =>
        simp only [ea, eb, Option.bind_some] at hf
        refine bindE rs w ea fun H1 m1 v e1 w1 rs1 r1 => bindE rs1 w1 eb fun H2 m2 v2 e2 w2 rs2 r2 => ?_
        split at hf
        · rename_i i j hi hj
          split at hf
          · rename_i hb
            cases hf
            rw [hi, Rl] at r1; subst r1
            rw [hj, Rl] at r2; subst r2
            exact ⟨i, j, rfl, ⟨(rgB_ok hb.1).1, (rgB_ok hb.1).2, (rgB_ok hb.2).1, (rgB_ok hb.2).2⟩, P H2 m2 _ (e1.trans e2) w2 gd_none yl_rng⟩
          · cases hf
        · cases hf
end

/-! ### for -/
def guard (gk : Option Nat) (ds : List D) (M : Mem) : Prop := ∀ k, gk = some k → M[k]? = some (.lst ds)
abbrev Stp := D → Slots → Mem → Option (Fl × Slots × Mem)
def loopF (step : Stp) : List D → Slots → Mem → Option (Fl × Slots × Mem)
  | [], ρ, M => some (.nx, ρ, M)
  | d :: ds, ρ, M => (step d ρ M).bind fun p => match p.1 with
    | .nx => loopF step ds p.2.1 p.2.2
    | .ct => loopF step ds p.2.1 p.2.2
    | .bk => some (.nx, p.2.1, p.2.2)
    | .rt r => some (.rt r, p.2.1, p.2.2)
open Classical in
noncomputable def stpF (gk : Option Nat) (ds : List D) (g : Gf) (body : Sf) : Stp := fun d ρ M => (g d ρ M).bind fun p => (body p.1 p.2).bind fun q => if guard gk ds q.2.2 then some q else none
noncomputable def sFor (it : If) (g : Gf) (body : Sf) : Sf := fun ρ M => (it ρ M).bind fun p => loopF (stpF p.2.1 p.1 g body) p.1 ρ p.2.2
theorem gd_of {K : PySem.W.Frag} {H : Hp} {m : List Addr} {M : Mem} {gk : Option Nat} {ds : List D} (w : Wd K H m M) (h : guard gk ds M) : GdOk K gk ds H m := fun k e => by
  obtain ⟨a, h1, vs, h2, h3⟩ := w.get (h k e)
  exact ⟨a, vs, h1, h2, h3⟩
section
variable {X : Cx} {tg iter : Expr} {body : List Stmt} {it : If} {g : Gf} {fb : Sf} {pos : Pos}
theorem cs_for (hp : PassesOwn (model X.prog X.w) X.A X.env X.xe) (hc : X.calm = true) (hi : CIx X tg iter it) (hg : CGx X tg g) (hb : CBx X body fb)
    (hs : ∀ x, foldedSetIterable iter X.env x = pure x := by intro _; rfl) : CSx X (.For tg iter body [] pos) (sFor it g fb) := PS.imp (ps_for hp hc hi hg hb hs) fun Dn σ H h => by
  obtain ⟨ρ, M, m, fl, ρ', M', rs, w, hf, P⟩ := h
  unfold sFor at hf
  cases ea : it ρ M with
  | none => rw [ea] at hf; cases hf
  | some p =>
    obtain ⟨ds, gk, M1⟩ := p
    rw [ea] at hf
    simp only [Option.bind_some] at hf
    refine ⟨ρ, M, m, ds, gk, M1, rs, w, ea, fun H1 m1 J e1 w1 gd1 Y => ?_⟩
    refine ⟨fun i n σ H => n = ds.length - i ∧ i ≤ ds.length ∧ ∃ ρ2 M2 m2, Ext H1 m1 H m2 ∧ Rs X.K H m2 ρ2 σ ∧ Wd X.K H m2 M2 ∧ GdOk X.K gk ds H m2 ∧ loopF (stpF gk ds g fb) (ds.drop i) ρ2 M2 = some (fl, ρ', M'),
      ⟨ds.length, by simp, Nat.zero_le _, ρ, M1, m1, .refl, rs.ext e1, w1, gd1, by simpa using hf⟩, ?_⟩
    rintro i n σ H ⟨rfl, hle, ρ2, M2, m2, e2, rs2, w2, gd2, hl⟩
    by_cases hlt : i < ds.length
    · refine .inr ⟨Y.go i H m2 hlt e2 gd2, ?_⟩
      have hd : ds.drop i = ds[i] :: ds.drop (i + 1) := List.drop_eq_getElem_cons hlt
      rw [hd] at hl
      unfold loopF at hl
      cases es : stpF gk ds g fb ds[i] ρ2 M2 with
      | none => rw [es] at hl; cases hl
      | some q =>
        obtain ⟨fl1, ρ3, M3⟩ := q
        rw [es] at hl
        simp only [Option.bind_some] at hl
        refine ⟨fun σ' H' => ∃ m3, Ext H m2 H' m3 ∧ Rs X.K H' m3 ρ3 σ' ∧ Wd X.K H' m3 M3 ∧ GdOk X.K gk ds H' m3 ∧ loopF (stpF gk ds g fb) (ds.drop (i + 1)) ρ3 M3 = some (fl, ρ', M'),
          fun σ' H' ⟨m3, e3, rs3, w3, gd3, hl3⟩ => ⟨ds.length - (i + 1), by omega, rfl, hlt, ρ3, M3, m3, e2.trans e3, rs3, w3, gd3, hl3⟩, fun x H' y => ?_⟩
        obtain ⟨e3, w3, r3⟩ := Y.yld i ds[i] H m2 M2 x H' (List.getElem?_eq_getElem hlt) e2 gd2 w2 y
        unfold stpF at es
        cases eg : g ds[i] ρ2 M2 with
        | none => rw [eg] at es; cases es
        | some q =>
          rw [eg] at es
          simp only [Option.bind_some] at es
          cases eb : fb q.1 q.2 with
          | none => rw [eb] at es; cases es
          | some q2 =>
            rw [eb] at es
            simp only [Option.bind_some] at es
            split at es
            · rename_i hgd
              cases es
              refine ⟨ds[i], ρ2, M2, m2, q.1, q.2, r3, rs2.ext e3, w3, eg, fun H4 m4 σ4 e4 w4 rs4 => ?_⟩
              refine ⟨q.1, q.2, m4, fl1, ρ3, M3, rs4, w4, eb, ?_⟩
              have eT : Ext H m2 H4 m4 := e3.trans e4
              have PT := P.ext ((e1.trans e2).trans eT)
              cases fl1 with
              | nx => exact fun H5 m5 σ5 e5 w5 rs5 => ⟨m5, eT.trans e5, rs5, w5, gd_of w5 hgd, hl⟩
              | ct => exact fun H5 m5 σ5 e5 w5 rs5 => ⟨m5, eT.trans e5, rs5, w5, gd_of w5 hgd, hl⟩
              | bk =>
                simp only [Option.some.injEq, Prod.mk.injEq] at hl
                obtain ⟨rfl, rfl, rfl⟩ := hl
                exact PT
              | rt r =>
                simp only [Option.some.injEq, Prod.mk.injEq] at hl
                obtain ⟨rfl, rfl, rfl⟩ := hl
                exact PT
            · cases es
    · have e : i = ds.length := by omega
      subst e
      rw [List.drop_length] at hl
      cases hl
      exact .inl ⟨Y.stop H m2 e2 gd2, P H m2 σ (e1.trans e2) w2 rs2⟩
end

/-! ### while -/
def whF (t : Tf) (body : Sf) : Nat → Slots → Mem → Option (Fl × Slots × Mem)
  | 0, _, _ => none
  | n + 1, ρ, M => (t ρ M).bind fun p => if p.1 = true then (body ρ p.2).bind fun q => (match q.1 with
      | .nx => whF t body n q.2.1 q.2.2
      | .ct => whF t body n q.2.1 q.2.2
      | .bk => some (.nx, q.2.1, q.2.2)
      | .rt r => some (.rt r, q.2.1, q.2.2)) else some (.nx, ρ, p.2)
def sWhile (n : Nat) (t : Tf) (body : Sf) : Sf := whF t body n
section
variable {X : Cx} {c : Expr} {body : List Stmt} {t : Tf} {fb : Sf} {pos : Pos}
theorem cs_while {n : Nat} (hp : PassesOwn (model X.prog X.w) X.A X.env X.xe) (hc : CTx X c t) (hb : CBx X body fb) : CSx X (.While c body [] pos) (sWhile n t fb) := PS.imp (ps_while hp hc hb) fun Dn σ H h => by
  obtain ⟨ρ, M, m, fl, ρ', M', rs, w, hf, P⟩ := h
  refine ⟨fun n σ H1 => ∃ ρ2 M2 m2, Ext H m H1 m2 ∧ Rs X.K H1 m2 ρ2 σ ∧ Wd X.K H1 m2 M2 ∧ whF t fb n ρ2 M2 = some (fl, ρ', M'), ⟨n, ρ, M, m, .refl, rs, w, hf⟩, ?_⟩
  rintro n σ H1 ⟨ρ2, M2, m2, e2, rs2, w2, hl⟩
  cases n with
  | zero => cases hl
  | succ n =>
    unfold whF at hl
    cases et : t ρ2 M2 with
    | none => rw [et] at hl; cases hl
    | some p =>
      rw [et] at hl
      simp only [Option.bind_some] at hl
      refine bindT rs2 w2 et fun H3 m3 e3 w3 rs3 => ?_
      split at hl
      · rename_i hb1
        rw [if_pos hb1]
        cases eb : fb ρ2 p.2 with
        | none => rw [eb] at hl; cases hl
        | some q =>
          obtain ⟨fl1, ρ3, M3⟩ := q
          rw [eb] at hl
          simp only [Option.bind_some] at hl
          refine ⟨fun σ' H' => ∃ m4, Ext H3 m3 H' m4 ∧ Rs X.K H' m4 ρ3 σ' ∧ Wd X.K H' m4 M3 ∧ whF t fb n ρ3 M3 = some (fl, ρ', M'),
            fun σ' H' ⟨m4, e4, rs4, w4, hl4⟩ => ⟨n, Nat.lt_succ_self _, ρ3, M3, m4, (e2.trans e3).trans e4, rs4, w4, hl4⟩, ρ2, p.2, m3, fl1, ρ3, M3, rs3, w3, eb, ?_⟩
          have PT := P.ext (e2.trans e3)
          cases fl1 with
          | nx => exact fun H5 m5 σ5 e5 w5 rs5 => ⟨m5, e5, rs5, w5, hl⟩
          | ct => exact fun H5 m5 σ5 e5 w5 rs5 => ⟨m5, e5, rs5, w5, hl⟩
          | bk =>
            simp only [Option.some.injEq, Prod.mk.injEq] at hl
            obtain ⟨rfl, rfl, rfl⟩ := hl
            exact PT
          | rt r =>
            simp only [Option.some.injEq, Prod.mk.injEq] at hl
            obtain ⟨rfl, rfl, rfl⟩ := hl
            exact PT
      · rename_i hb1
        rw [if_neg hb1]
        cases hl
        exact P H3 m3 σ (e2.trans e3) w3 rs3
end

/-! ### a def -/
mutual
def nl (n : Nat) : D → Bool
  | .loc k => decide (k < n)
  | .tup ds => nls n ds
  | .lst ds => nls n ds
  | _ => true
def nls (n : Nat) : List D → Bool
  | [] => true
  | d :: ds => nl n d && nls n ds
end
section
variable {K : PySem.W.Frag} {H : Hp} {m l : List Addr} {a : Addr}
mutual
theorem Rl.cut : ∀ {d : D} {v : V}, Rl K H (m ++ l) d v → nl m.length d = true → Rl K H m d v
  | .non, _, h, _ => by rw [Rl] at h ⊢; exact h
  | .bl _, _, h, _ => by rw [Rl] at h ⊢; exact h
  | .int _, _, h, _ => by rw [Rl] at h ⊢; exact h
  | .str _, _, h, _ => by rw [Rl] at h ⊢; exact h
  | .scr _, _, h, _ => by rw [Rl] at h ⊢; exact h
  | .tup ds, _, h, n => by
    rw [Rl] at h ⊢
    rw [nl] at n
    obtain ⟨a, vs, r, s, t⟩ := h
    exact ⟨a, vs, r, s, Rls.cut' t n⟩
  | .lst ds, _, h, n => by
    rw [Rl] at h ⊢
    rw [nl] at n
    obtain ⟨a, vs, r, z, s, t⟩ := h
    exact ⟨a, vs, r, fun q => z (List.mem_append_left _ q), s, Rls.cut' t n⟩
  | .loc k, _, h, n => by
    rw [Rl] at h ⊢
    rw [nl] at n
    obtain ⟨a, r, s⟩ := h
    exact ⟨a, r, by rw [List.getElem?_append_left (of_decide_eq_true n)] at s; exact s⟩
theorem Rls.cut' : ∀ {ds : List D} {vs : List V}, Rls K H (m ++ l) ds vs → nls m.length ds = true → Rls K H m ds vs
  | [], _, h, _ => by rw [Rls] at h ⊢; exact h
  | d :: ds, _, h, n => by
    rw [Rls] at h ⊢
    rw [nls, Bool.and_eq_true] at n
    obtain ⟨v, r, q, h1, h2⟩ := h
    exact ⟨v, r, q, Rl.cut h1 n.1, Rls.cut' h2 n.2⟩
end
/-- the heap without a -/
def del (H : Hp) (a : Addr) : Hp := fun b => if b = a then none else H b
theorem del_ne {b : Addr} (h : b ≠ a) : del H a b = H b := if_neg h
theorem del_same : del H a a = none := if_pos rfl
theorem upd_del {o : HO} (h : H a = some o) : upd (del H a) a o = H := by
  funext b
  by_cases q : b = a
  · rw [q, upd_same, h]
  · rw [upd_ne q, del_ne q]
mutual
theorem Rl.del {ws : List V} (ha : H a = some (.lst ws)) (hm : a ∈ l) : ∀ {d : D} {v : V}, Rl K H (m ++ l) d v → nl m.length d = true → Rl K (del H a) m d v
  | .non, _, h, _ => by rw [Rl] at h ⊢; exact h
  | .bl _, _, h, _ => by rw [Rl] at h ⊢; exact h
  | .int _, _, h, _ => by rw [Rl] at h ⊢; exact h
  | .str _, _, h, _ => by rw [Rl] at h ⊢; exact h
  | .scr _, _, h, _ => by
    rw [Rl] at h ⊢
    obtain ⟨b, r, s⟩ := h
    exact ⟨b, r, s.imp (fun ⟨o, s⟩ => ⟨o, by rw [del_ne (fun z => by rw [z, ha] at s; cases s)]; exact s⟩) id⟩
  | .tup ds, _, h, n => by
    rw [Rl] at h ⊢
    rw [nl] at n
    obtain ⟨b, vs, r, s, t⟩ := h
    refine ⟨b, vs, r, ?_, Rls.del ha hm t n⟩
    rcases s with (s | ⟨o, s⟩) | s
    · exact .inl (.inl (by rw [del_ne (fun z => by rw [z, ha] at s; cases s)]; exact s))
    · exact .inl (.inr ⟨o, by rw [del_ne (fun z => by rw [z, ha] at s; cases s)]; exact s⟩)
    · exact .inr s
  | .lst ds, _, h, n => by
    rw [Rl] at h ⊢
    rw [nl] at n
    obtain ⟨b, vs, r, z, s, t⟩ := h
    exact ⟨b, vs, r, fun q => z (List.mem_append_left _ q), by rw [del_ne (fun q => z (List.mem_append_right _ (by rw [q]; exact hm)))]; exact s, Rls.del ha hm t n⟩
  | .loc k, _, h, n => by
    rw [Rl] at h ⊢
    rw [nl] at n
    obtain ⟨b, r, s⟩ := h
    exact ⟨b, r, by rw [List.getElem?_append_left (of_decide_eq_true n)] at s; exact s⟩
theorem Rls.del {ws : List V} (ha : H a = some (.lst ws)) (hm : a ∈ l) : ∀ {ds : List D} {vs : List V}, Rls K H (m ++ l) ds vs → nls m.length ds = true → Rls K (del H a) m ds vs
  | [], _, h, _ => by rw [Rls] at h ⊢; exact h
  | d :: ds, _, h, n => by
    rw [Rls] at h ⊢
    rw [nls, Bool.and_eq_true] at n
    obtain ⟨v, r, q, h1, h2⟩ := h
    exact ⟨v, r, q, Rl.del ha hm h1 n.1, Rls.del ha hm h2 n.2⟩
end
end
end CI

/-! Ci7: a def as a function, comprehensions -/
namespace CI
open PySem PySem.Spec PyProof.Rows L2

def nlF (n : Nat) : List (Str × D) → Bool
  | [] => true
  | (_, d) :: fs => nl n d && nlF n fs
def nlK (n : Nat) : List (Key × D) → Bool
  | [] => true
  | (_, d) :: fs => nl n d && nlK n fs
def nlO (n : Nat) : O → Bool
  | .lst ds => nls n ds
  | .ins _ fs => nlF n fs
  | .dct kvs => nlK n kvs
def nlM (n : Nat) : Mem → Bool
  | [] => true
  | o :: M => nlO n o && nlM n M
section
variable {K : PySem.W.Frag} {H H0 : Hp} {m l : List Addr} {M Me : Mem} {a b : Addr}
mutual
theorem Rl.nl : ∀ {d : D} {v : V}, Rl K H m d v → CI.nl m.length d = true
  | .non, _, _ => rfl
  | .bl _, _, _ => rfl
  | .int _, _, _ => rfl
  | .str _, _, _ => rfl
  | .scr _, _, _ => rfl
  | .tup ds, _, h => by
    rw [Rl] at h
    obtain ⟨a, vs, r, s, t⟩ := h
    rw [CI.nl]; exact Rls.nl t
  | .lst ds, _, h => by
    rw [Rl] at h
    obtain ⟨a, vs, r, _, s, t⟩ := h
    rw [CI.nl]; exact Rls.nl t
  | .loc k, _, h => by
    rw [Rl] at h
    obtain ⟨a, r, s⟩ := h
    rw [CI.nl]
    exact decide_eq_true (List.getElem?_eq_some_iff.mp s).1
theorem Rls.nl : ∀ {ds : List D} {vs : List V}, Rls K H m ds vs → nls m.length ds = true
  | [], _, _ => rfl
  | d :: ds, _, h => by
    rw [Rls] at h
    obtain ⟨v, r, q, h1, h2⟩ := h
    rw [nls, Rl.nl h1, Rls.nl h2]; rfl
end
theorem Rfs.nl : ∀ {fs : List (Str × D)} {gs : List (Str × V)}, Rfs K H m fs gs → nlF m.length fs = true
  | [], _, _ => rfl
  | (f, d) :: fs, _, h => by
    obtain ⟨v, r, q, h1, h2⟩ := h
    rw [nlF, h1.nl, Rfs.nl h2]; rfl
theorem Rks.nl : ∀ {fs : List (Key × D)} {gs : List (Key × V)}, Rks K H m fs gs → nlK m.length fs = true
  | [], _, _ => rfl
  | (f, d) :: fs, _, h => by
    obtain ⟨v, r, q, h1, h2⟩ := h
    rw [nlK, h1.nl, Rks.nl h2]; rfl
theorem Ro.nl {o : O} (h : Ro K H m a o) : nlO m.length o = true := by
  cases o with
  | lst ds => obtain ⟨vs, _, h⟩ := h; exact h.nl
  | ins c fs => obtain ⟨dx, gs, _, h⟩ := h; exact h.nl
  | dct kvs => obtain ⟨gs, _, h⟩ := h; exact h.nl
theorem Wd.nl (w : Wd K H m M) : ∀ o ∈ M, nlO m.length o = true := fun o ho => by
  obtain ⟨k, hk, e⟩ := List.mem_iff_getElem.mp ho
  obtain ⟨a, _, r⟩ := w.get (k := k) (by rw [List.getElem?_eq_getElem hk, e])
  exact r.nl
theorem nlM_ok {n : Nat} : ∀ {M : Mem}, nlM n M = true → ∀ o ∈ M, nlO n o = true
  | [], _, o, h => nomatch h
  | p :: M, h, o, ho => by
    rw [nlM, Bool.and_eq_true] at h
    rcases List.mem_cons.mp ho with e | e
    · rw [e]; exact h.1
    · exact nlM_ok h.2 o e
theorem Rfs.cut : ∀ {fs : List (Str × D)} {gs : List (Str × V)}, Rfs K H (m ++ l) fs gs → nlF m.length fs = true → Rfs K H m fs gs
  | [], _, h, _ => h
  | (f, d) :: fs, _, h, n => by
    obtain ⟨v, r, q, h1, h2⟩ := h
    rw [nlF, Bool.and_eq_true] at n
    exact ⟨v, r, q, h1.cut n.1, Rfs.cut h2 n.2⟩
theorem Rks.cut : ∀ {fs : List (Key × D)} {gs : List (Key × V)}, Rks K H (m ++ l) fs gs → nlK m.length fs = true → Rks K H m fs gs
  | [], _, h, _ => h
  | (f, d) :: fs, _, h, n => by
    obtain ⟨v, r, q, h1, h2⟩ := h
    rw [nlK, Bool.and_eq_true] at n
    exact ⟨v, r, q, h1.cut n.1, Rks.cut h2 n.2⟩
theorem Rfs.del {ws : List V} (ha : H a = some (.lst ws)) (hm : a ∈ l) : ∀ {fs : List (Str × D)} {gs : List (Str × V)}, Rfs K H (m ++ l) fs gs → nlF m.length fs = true → Rfs K (CI.del H a) m fs gs
  | [], _, h, _ => h
  | (f, d) :: fs, _, h, n => by
    obtain ⟨v, r, q, h1, h2⟩ := h
    rw [nlF, Bool.and_eq_true] at n
    exact ⟨v, r, q, h1.del ha hm n.1, Rfs.del ha hm h2 n.2⟩
theorem Rks.del {ws : List V} (ha : H a = some (.lst ws)) (hm : a ∈ l) : ∀ {fs : List (Key × D)} {gs : List (Key × V)}, Rks K H (m ++ l) fs gs → nlK m.length fs = true → Rks K (CI.del H a) m fs gs
  | [], _, h, _ => h
  | (f, d) :: fs, _, h, n => by
    obtain ⟨v, r, q, h1, h2⟩ := h
    rw [nlK, Bool.and_eq_true] at n
    exact ⟨v, r, q, h1.del ha hm n.1, Rks.del ha hm h2 n.2⟩
theorem Ro.cut {o : O} (h : Ro K H (m ++ l) b o) (n : nlO m.length o = true) : Ro K H m b o := by
  cases o with
  | lst ds => obtain ⟨vs, h1, h2⟩ := h; exact ⟨vs, h1, Rls.cut' h2 n⟩
  | ins c fs => obtain ⟨dx, gs, h1, h2⟩ := h; exact ⟨dx, gs, h1, h2.cut n⟩
  | dct kvs => obtain ⟨gs, h1, h2⟩ := h; exact ⟨gs, h1, h2.cut n⟩
theorem Ro.del {o : O} {ws : List V} (ha : H a = some (.lst ws)) (hm : a ∈ l) (hb : b ≠ a) (h : Ro K H (m ++ l) b o) (n : nlO m.length o = true) : Ro K (CI.del H a) m b o := by
  cases o with
  | lst ds => obtain ⟨vs, h1, h2⟩ := h; exact ⟨vs, by rw [del_ne hb]; exact h1, Rls.del ha hm h2 n⟩
  | ins c fs => obtain ⟨dx, gs, h1, h2⟩ := h; exact ⟨dx, gs, by rw [del_ne hb]; exact h1, h2.del ha hm n⟩
  | dct kvs => obtain ⟨gs, h1, h2⟩ := h; exact ⟨gs, by rw [del_ne hb]; exact h1, h2.del ha hm n⟩
theorem Ext.back (e : Ext H0 m H (m ++ l)) : Ext H0 m H m := ⟨e.tup, e.frz, e.lst, e.trk, [], by simp, fun _ h => nomatch h⟩
theorem Ext.fresh (e : Ext H0 m H (m ++ l)) (h : a ∈ l) : H0 a = none := by
  obtain ⟨l', q, hl⟩ := e.pre
  rw [List.append_cancel_left q] at h
  exact hl a h
theorem Ext.del {ws : List V} (e : Ext H0 m H (m ++ l)) (h : a ∈ l) : Ext H0 m (CI.del H a) m := by
  have hf := e.fresh h
  have ne : ∀ b o, H0 b = some o → b ≠ a := fun b o q z => by rw [z, hf] at q; cases q
  refine ⟨fun b xs q => by rw [del_ne (ne b _ q)]; exact e.tup b xs q, fun b o u q => by rw [del_ne (ne b _ q)]; exact e.frz b o u q, fun b xs n q => by rw [del_ne (ne b _ q)]; exact e.lst b xs n q, fun b q => ?_, [], by simp, fun _ h => nomatch h⟩
  by_cases z : b = a
  · rw [z]; exact hf
  · rw [del_ne z] at q; exact e.trk b q
theorem take_get {M Me : Mem} {n k : Nat} {o : O} (t : Me.take n = M) (h : M[k]? = some o) : Me[k]? = some o := by
  rw [← t, List.getElem?_take] at h
  split at h
  · exact h
  · cases h
theorem Wd.cut (w : Wd K H (m ++ l) Me) (t : Me.take m.length = M) (hl : m.length = M.length) (n : ∀ o ∈ M, nlO m.length o = true) : Wd K H m M := by
  refine ⟨hl, (List.nodup_append.mp w.nd).1, fun k b o h1 h2 => ?_⟩
  have hk : k < m.length := (List.getElem?_eq_some_iff.mp h1).1
  exact (w.at_ k b o (by rw [List.getElem?_append_left hk]; exact h1) (take_get t h2)).cut (n o (List.mem_of_getElem? h2))
theorem Wd.del {ws : List V} (w : Wd K H (m ++ l) Me) (t : Me.take m.length = M) (hl : m.length = M.length) (n : ∀ o ∈ M, nlO m.length o = true) (ha : H a = some (.lst ws)) (hm : a ∈ l) : Wd K (CI.del H a) m M := by
  refine ⟨hl, (List.nodup_append.mp w.nd).1, fun k b o h1 h2 => ?_⟩
  have hk : k < m.length := (List.getElem?_eq_some_iff.mp h1).1
  refine (w.at_ k b o (by rw [List.getElem?_append_left hk]; exact h1) (take_get t h2)).del ha hm (fun z => ?_) (n o (List.mem_of_getElem? h2))
  exact (List.nodup_append.mp w.nd).2.2 b (List.mem_of_getElem? h1) a hm z
end

/-! ### what a def hands back -/
open Classical in
noncomputable def finish (M : Mem) (r : Rz) (Me : Mem) : Rz × Mem :=
  if Me.length = M.length then (r, Me) else if Me.take M.length = M then (match r with
    | .val (.loc k) => if k < M.length then (r, M) else match Me[k]? with
      | some (.lst ds) => if nls M.length ds = true then (.new ds, M) else (r, Me)
      | _ => (r, Me)
    | .val d => if nl M.length d = true then (r, M) else (r, Me)
    | .new ds => if nls M.length ds = true then (r, M) else (r, Me)) else (r, Me)
theorem finish_ok {K : PySem.W.Frag} {H0 : Hp} {m : List Addr} {M Me : Mem} {r : Rz} {Q : VK} (w0 : Wd K H0 m M) (P : Post K H0 m (finish M r Me).1 (finish M r Me).2 Q) : Post K H0 m r Me Q := by
  unfold finish at P
  split at P
  · exact P
  · split at P
    · rename_i hne ht
      have hn := w0.nl
      have hlen := w0.len
      rw [← hlen] at P ht
      cases r with
      | new ds =>
        simp only at P
        split at P
        · rename_i hd
          intro H1 m1 e1 w1 vs a r1 na
          obtain ⟨l, rfl, _⟩ := id e1.pre
          exact P H1 m e1.back (w1.cut ht hlen hn) vs a (Rls.cut' r1 hd) na
        · exact P
      | val d =>
        have plain : ∀ d, nl m.length d = true → Post K H0 m (.val d) M Q → Post K H0 m (.val d) Me Q := fun d hd P => by
          intro H1 m1 e1 w1 v r1
          obtain ⟨l, rfl, _⟩ := id e1.pre
          exact P H1 m e1.back (w1.cut ht hlen hn) v (r1.cut hd)
        cases d with
        | loc k =>
          simp only at P
          split at P
          · rename_i hk
            exact plain _ (by rw [nl]; exact decide_eq_true hk) P
          · rename_i hk
            split at P
            · rename_i ds hds
              split at P
              · rename_i hd
                intro H1 m1 e1 w1 v r1
                obtain ⟨l, rfl, _⟩ := id e1.pre
                rw [Rl] at r1
                obtain ⟨a, rfl, ha⟩ := r1
                obtain ⟨b, hb, vs, h1, h2⟩ := w1.get hds
                rw [ha] at hb; cases hb
                have hal : a ∈ l := by
                  rw [List.getElem?_append_right (by omega)] at ha
                  exact List.mem_of_getElem? ha
                have := P (del H1 a) m (e1.del (ws := vs) hal) (w1.del ht hlen hn h1 hal) vs a (Rls.del h1 hal h2 hd) del_same
                rw [upd_del h1] at this
                exact this
              · exact P
            · exact P
        | non => exact plain _ rfl (by simpa [nl] using P)
        | bl b => exact plain _ rfl (by simpa [nl] using P)
        | int b => exact plain _ rfl (by simpa [nl] using P)
        | str b => exact plain _ rfl (by simpa [nl] using P)
        | scr b => exact plain _ rfl (by simpa [nl] using P)
        | tup ds =>
          simp only at P
          split at P
          · rename_i hd; exact plain _ hd P
          · exact P
        | lst ds =>
          simp only at P
          split at P
          · rename_i hd; exact plain _ hd P
          · exact P
    · exact P

noncomputable def mkFn (np ns : Nat) (body : Sf) : Fn := fun ds M => if ds.length = np then (match body (ds.map some ++ List.replicate (ns - ds.length) none) M with
  | some (.rt r, _, Me) => some (finish M r Me)
  | some (.nx, _, Me) => some (finish M (.val .non) Me)
  | _ => none) else none
theorem rs_start {K : PySem.W.Frag} {H : Hp} {m : List Addr} {N : List Str} {ds : List D} {vs : List V} (r : Rls K H m ds vs) : Rs K H m (ds.map some ++ List.replicate (N.length - ds.length) none) (L2.start N vs) := by
  unfold L2.start
  have hl := r.length
  refine ⟨by simp [hl], fun i d q => ?_⟩
  by_cases h : i < ds.length
  · rw [List.getElem?_append_left (by simpa using h), List.getElem?_map] at q
    rw [List.getElem?_append_left (by simpa [← hl] using h), List.getElem?_map]
    cases e : ds[i]? with
    | none => rw [e] at q; cases q
    | some d' =>
      rw [e] at q
      simp at q; subst q
      obtain ⟨v, h1, h2⟩ := r.get e
      exact ⟨v, by rw [h1]; rfl, h2⟩
  · rw [List.getElem?_append_right (by simpa using h), List.getElem?_replicate] at q
    split at q
    · simp at q
    · cases q
theorem run_ok {K : PySem.W.Frag} {N : List Str} {np : Nat} {fb : Sf} {vs : List V} {H : Hp} {Q : VK} {E : XK} (h : spF K (mkFn np N.length fb) vs H Q E) : tS K fb { nx := fun _ H' => Q .non H', rt := Q } (L2.start N vs) H := by
  obtain ⟨ds, M, m, r, M', rd, w, hf, P⟩ := h
  unfold mkFn at hf
  split at hf
  · split at hf
    · rename_i r' ρ' Me hb
      cases e : finish M r' Me with | mk a b =>
      rw [e] at hf; cases hf
      refine ⟨_, M, m, _, _, _, rs_start rd, w, hb, ?_⟩
      refine finish_ok w ?_
      rw [e]; exact P
    · rename_i ρ' Me hb
      cases e : finish M (.val .non) Me with | mk a b =>
      rw [e] at hf; cases hf
      refine ⟨_, M, m, _, _, _, rs_start rd, w, hb, fun H1 m1 σ1 e1 w1 rs1 => ?_⟩
      have P2 : Post K H m (.val .non) Me Q := finish_ok w (by rw [e]; exact P)
      exact P2 H1 m1 e1 w1 .non (by rw [Rl])
    · cases hf
  · cases hf
theorem spF_len {K : PySem.W.Frag} {np ns : Nat} {fb : Sf} {vs : List V} {H : Hp} {Q : VK} {E : XK} (h : spF K (mkFn np ns fb) vs H Q E) : vs.length = np := by
  obtain ⟨ds, M, m, r, M', rd, w, hf, P⟩ := h
  unfold mkFn at hf
  split at hf
  · rename_i hl; rw [← rd.length]; exact hl
  · cases hf
section
variable {P : Program} {w : World} {K : PySem.W.Frag} {mg : Str → Option Value} {base : Heap} {x qual : Str} {params : Arguments} {body : List Stmt} {scope : Scope} {f : Addr} {fd : FuncData}
/-- a def whose body means fb -/
theorem fn_ok {N ps : List Str} {k : Nat} {fb : Sf} (F : FunD K x qual params body scope [] [] f fd) (S : FnScope N ps scope)
    (hb : ∀ (cdv : Value) (A : Around) (outer : List Env) (s : Shared) (H : Hp) (E : XK), Room k (A.deeper (envOfC qual scope s.heap.objs.size f cdv)) → CBx (cxOf CX0 P w K mg base N qual scope f cdv A outer s H E).nox body fb) :
    FnOk P w K mg base CX0 (k + 1) f fd ps (spF K (mkFn ps.length N.length fb)) :=
  F.ok S (fun vs H Q E h => spF_len h) fun cdv A outer s H vs Q E hr h => ⟨_, PSs.nox (hb cdv A outer s H E hr), run_ok h⟩
end
/-- a law: called with the script it gives True -/
theorem law_sp {K : PySem.W.Frag} {F : Fn} (h : ∀ ns : List Int, ns.length ≤ 63 → ∃ M, F [.scr ns] [] = some (.val (.bl true), M)) (H : Hp) (a : Addr) (ns : List Int) (hl : ns.length ≤ 63) (hO : Only H) (hS : SqL K H a (ns.map V.int)) :
    spF K F [.ref a] H (fun v _ => v = .bl true) fun _ _ _ => False := by
  obtain ⟨M, hM⟩ := h ns hl
  refine ⟨[.scr ns], [], [], _, M, ?_, ⟨rfl, .nil, fun k a o h _ => by simp at h⟩, hM, fun H1 m1 e1 w1 v r => by rw [Rl] at r; exact r⟩
  rw [Rls]
  refine ⟨_, [], rfl, ?_, by rw [Rls]⟩
  rw [Rl]
  refine ⟨a, rfl, ?_⟩
  rcases hS with (h | h) | h
  · rcases hO a with q | ⟨o, xs, q⟩
    · rw [q] at h; cases h
    · rw [q] at h; cases h
  · exact .inl h
  · exact .inr h
end CI

/-! Ci8: reckoning with the functions -/
namespace CI
open PySem PySem.Spec PyProof.Rows L2
@[simp] theorem Rz_d_val {d : D} : (Rz.val d).d = d := rfl
@[simp] theorem Rz_d_new {ds : List D} : (Rz.new ds).d = .lst ds := rfl
@[simp] theorem cVar_ap {i : Nat} {ρ : Slots} {M : Mem} : (cVar i) ρ M = ((slot ρ i).bind fun d => some (.val d, M)) := rfl
@[simp] theorem cVal_ap {d : D} {ρ : Slots} {M : Mem} : (cVal d) ρ M = (some (.val d, M)) := rfl
@[simp] theorem cBin_ap {o : Bop} {fa fb : Ef} {ρ : Slots} {M : Mem} : (cBin o fa fb) ρ M = ((fa ρ M).bind fun p => (fb ρ p.2).bind fun q => (o p.1.d q.1.d q.2).bind fun r => some (r, q.2)) := rfl
@[simp] theorem toB_ap {f : Ef} {ρ : Slots} {M : Mem} : (toB f) ρ M = ((f ρ M).bind fun p => match p.1.d with | .bl b => some (b, p.2) | _ => none) := rfl
@[simp] theorem cChain_ap {o o' : Bop} {fa fb fc : Ef} {ρ : Slots} {M : Mem} : (cChain o o' fa fb fc) ρ M = ((fa ρ M).bind fun p => (fb ρ p.2).bind fun q => (o p.1.d q.1.d q.2).bind fun r => match r with | .val (.bl true) => (fc ρ q.2).bind fun s => (o' q.1.d s.1.d s.2).bind fun z => some (z, s.2) | .val (.bl false) => some (.val (.bl false), q.2) | _ => none) := rfl
@[simp] theorem kAnd_ap {ta tb : Tf} {ρ : Slots} {M : Mem} : (kAnd ta tb) ρ M = ((ta ρ M).bind fun p => if p.1 = true then tb ρ p.2 else some (false, p.2)) := rfl
@[simp] theorem kOr_ap {ta tb : Tf} {ρ : Slots} {M : Mem} : (kOr ta tb) ρ M = ((ta ρ M).bind fun p => if p.1 = true then some (true, p.2) else tb ρ p.2) := rfl
@[simp] theorem kNot_ap {ta : Tf} {ρ : Slots} {M : Mem} : (kNot ta) ρ M = ((ta ρ M).bind fun p => some (!p.1, p.2)) := rfl
@[simp] theorem cAnd_ap {fa fb : Ef} {ρ : Slots} {M : Mem} : (cAnd fa fb) ρ M = ((fa ρ M).bind fun p => match p.1.d with | .bl true => fb ρ p.2 | .bl false => some (.val (.bl false), p.2) | _ => none) := rfl
@[simp] theorem cOr_ap {fa fb : Ef} {ρ : Slots} {M : Mem} : (cOr fa fb) ρ M = ((fa ρ M).bind fun p => match p.1.d with | .bl true => some (.val (.bl true), p.2) | .bl false => fb ρ p.2 | _ => none) := rfl
@[simp] theorem cNot_ap {fa : Ef} {ρ : Slots} {M : Mem} : (cNot fa) ρ M = ((fa ρ M).bind fun p => match p.1.d with | .bl b => some (.val (.bl (!b)), p.2) | _ => none) := rfl
@[simp] theorem cIf_ap {t : Tf} {fa fb : Ef} {ρ : Slots} {M : Mem} : (cIf t fa fb) ρ M = ((t ρ M).bind fun p => if p.1 = true then fa ρ p.2 else fb ρ p.2) := rfl
@[simp] theorem aNil_ap  {ρ : Slots} {M : Mem} : aNil ρ M = (some ([], M)) := rfl
@[simp] theorem aCons_ap {f : Ef} {g : Af} {ρ : Slots} {M : Mem} : (aCons f g) ρ M = ((f ρ M).bind fun p => (g ρ p.2).bind fun q => some (p.1.d :: q.1, q.2)) := rfl
@[simp] theorem cTup_ap {g : Af} {ρ : Slots} {M : Mem} : (cTup g) ρ M = ((g ρ M).bind fun p => if p.1.length ≤ sizeLine then some (.val (.tup p.1), p.2) else none) := rfl
@[simp] theorem cLst_ap {g : Af} {ρ : Slots} {M : Mem} : (cLst g) ρ M = ((g ρ M).bind fun p => if p.1.length ≤ sizeLine then some (.new p.1, p.2) else none) := rfl
@[simp] theorem sNone_ap  {ρ : Slots} {M : Mem} : sNone ρ M = (some (none, M)) := rfl
@[simp] theorem sSome_ap {f : Ef} {ρ : Slots} {M : Mem} : (sSome f) ρ M = ((f ρ M).bind fun p => match p.1.d with | .int i => some (some i, p.2) | _ => none) := rfl
@[simp] theorem cSl_ap {f : Ef} {l h : Of} {ρ : Slots} {M : Mem} : (cSl f l h) ρ M = ((f ρ M).bind fun p => (l ρ p.2).bind fun q => (h ρ q.2).bind fun r => (oSl q.1 r.1 p.1.d r.2).bind fun z => some (z, r.2)) := rfl
@[simp] theorem cCB_ap {o : Cop} {g : Af} {ρ : Slots} {M : Mem} : (cCB o g) ρ M = ((g ρ M).bind fun p => (o p.1 p.2).bind fun r => some (r, p.2)) := rfl
@[simp] theorem cIsI_ap {n : String} {f : Ef} {ρ : Slots} {M : Mem} : (cIsI n f) ρ M = ((f ρ M).bind fun p => (tyOf p.2 p.1.d).bind fun t => (kitB t n).bind fun b => some (.val (.bl b), p.2)) := rfl
@[simp] theorem toTr_ap {f : Ef} {ρ : Slots} {M : Mem} : (toTr f) ρ M = ((f ρ M).bind fun p => (trD p.2 p.1.d).bind fun b => some (b, p.2)) := rfl
@[simp] theorem cCall_ap {F : Fn} {g : Af} {ρ : Slots} {M : Mem} : (cCall F g) ρ M = ((g ρ M).bind fun p => F p.1 p.2) := rfl
@[simp] theorem cNew_ap {c : Str} {F : Fn} {g : Af} {ρ : Slots} {M : Mem} : (cNew c F g) ρ M = ((g ρ M).bind fun p => (F (.loc p.2.length :: p.1) (p.2 ++ [.ins c []])).bind fun q => match q.1 with | .val .non => some (.val (.loc p.2.length), q.2) | _ => none) := rfl
@[simp] theorem cMeth_ap {c m : Str} {F : Fn} {f : Ef} {g : Af} {ρ : Slots} {M : Mem} : (cMeth c m F f g) ρ M = ((f ρ M).bind fun p => match p.1.d with | .loc k => (match p.2[k]? with | some (.ins c' fs) => if c' = c ∧ fs.lookup m = none then (g ρ p.2).bind fun q => F (.loc k :: q.1) q.2 else none | _ => none) | _ => none) := rfl
@[simp] theorem cFld_ap {cs : List Str} {n : Str} {f : Ef} {ρ : Slots} {M : Mem} : (cFld cs n f) ρ M = ((f ρ M).bind fun p => match p.1.d with | .loc k => (match p.2[k]? with | some (.ins c fs) => if c ∈ cs then (fs.lookup n).bind fun d => some (.val d, p.2) else none | _ => none) | _ => none) := rfl
@[simp] theorem cBM_ap {T : String} {o : Mop} {f : Ef} {g : Af} {ρ : Slots} {M : Mem} : (cBM T o f g) ρ M = ((f ρ M).bind fun p => if tyOf p.2 p.1.d = some T then (g ρ p.2).bind fun q => o p.1.d q.1 q.2 else none) := rfl
@[simp] theorem sNil_ap  {ρ : Slots} {M : Mem} : sNil ρ M = (some (.nx, ρ, M)) := rfl
@[simp] theorem sCons_ap {f g : Sf} {ρ : Slots} {M : Mem} : (sCons f g) ρ M = ((f ρ M).bind fun p => match p.1 with | .nx => g p.2.1 p.2.2 | fl => some (fl, p.2.1, p.2.2)) := rfl
@[simp] theorem sBreak_ap  {ρ : Slots} {M : Mem} : sBreak ρ M = (some (.bk, ρ, M)) := rfl
@[simp] theorem sCont_ap  {ρ : Slots} {M : Mem} : sCont ρ M = (some (.ct, ρ, M)) := rfl
@[simp] theorem sExpr_ap {f : Ef} {ρ : Slots} {M : Mem} : (sExpr f) ρ M = ((f ρ M).bind fun p => some (.nx, ρ, p.2)) := rfl
@[simp] theorem sRet_ap {f : Ef} {ρ : Slots} {M : Mem} : (sRet f) ρ M = ((f ρ M).bind fun p => some (.rt p.1, ρ, p.2)) := rfl
@[simp] theorem sRetN_ap  {ρ : Slots} {M : Mem} : sRetN ρ M = (some (.rt (.val .non), ρ, M)) := rfl
@[simp] theorem sIf_ap {t : Tf} {f g : Sf} {ρ : Slots} {M : Mem} : (sIf t f g) ρ M = ((t ρ M).bind fun p => if p.1 = true then f ρ p.2 else g ρ p.2) := rfl
@[simp] theorem sSet_ap {i : Nat} {f : Ef} {ρ : Slots} {M : Mem} : (sSet i f) ρ M = ((f ρ M).bind fun p => some (.nx, ρ.set i (some p.1.d), p.2)) := rfl
@[simp] theorem sSetM_ap {i : Nat} {f : Ef} {ρ : Slots} {M : Mem} : (sSetM i f) ρ M = ((f ρ M).bind fun p => match p.1 with | .new ds => some (.nx, ρ.set i (some (.loc p.2.length)), p.2 ++ [.lst ds]) | .val d => some (.nx, ρ.set i (some d), p.2)) := rfl
@[simp] theorem sFldS_ap {cs : List Str} {n : Str} {fo fv : Ef} {ρ : Slots} {M : Mem} : (sFldS cs n fo fv) ρ M = ((fv ρ M).bind fun p => stFld cs n fo p.1.d ρ p.2) := rfl
@[simp] theorem sFldM_ap {cs : List Str} {n : Str} {fo fv : Ef} {ρ : Slots} {M : Mem} : (sFldM cs n fo fv) ρ M = ((fv ρ M).bind fun p => match p.1 with | .new ds => stFld cs n fo (.loc p.2.length) ρ (p.2 ++ [.lst ds]) | .val d => stFld cs n fo d ρ p.2) := rfl
@[simp] theorem iSeq_ap {f : Ef} {ρ : Slots} {M : Mem} : (iSeq f) ρ M = ((f ρ M).bind fun p => (asS p.2 p.1.d).bind fun ds => some (ds, gkOf p.1.d, p.2)) := rfl
@[simp] theorem iRg1_ap {fa : Ef} {ρ : Slots} {M : Mem} : (iRg1 fa) ρ M = ((fa ρ M).bind fun p => match p.1.d with | .int j => if rgB j = true then some (rgD 0 j.toNat, none, p.2) else none | _ => none) := rfl
@[simp] theorem iRg2_ap {fa fb : Ef} {ρ : Slots} {M : Mem} : (iRg2 fa fb) ρ M = ((fa ρ M).bind fun p => (fb ρ p.2).bind fun q => match p.1.d, q.1.d with | .int i, .int j => if rgB i = true ∧ rgB j = true then some (rgD i (j - i).toNat, none, q.2) else none | _, _ => none) := rfl
@[simp] theorem sFor_ap {it : If} {g : Gf} {body : Sf} {ρ : Slots} {M : Mem} : (sFor it g body) ρ M = ((it ρ M).bind fun p => loopF (stpF p.2.1 p.1 g body) p.1 ρ p.2.2) := rfl
@[simp] theorem sAsg_ap {g : Gf} {f : Ef} {ρ : Slots} {M : Mem} : (sAsg g f) ρ M = ((f ρ M).bind fun p => (g p.1.d ρ p.2).bind fun q => some (.nx, q.1, q.2)) := rfl
@[simp] theorem slot_zero {o : Option D} {ρ : Slots} : slot (o :: ρ) 0 = o := rfl
@[simp] theorem slot_succ {o : Option D} {ρ : Slots} {i : Nat} : slot (o :: ρ) (i + 1) = slot ρ i := rfl
@[simp] theorem gNm_ap {i : Nat} {d : D} {ρ : Slots} {M : Mem} : gNm i d ρ M = some (ρ.set i (some d), M) := rfl
@[simp] theorem line_le {n : Nat} : (n ≤ sizeLine) = (n ≤ 16777216) := by rw [sizeLine_eq]
@[simp] theorem line_lt {n : Nat} : (n < sizeLine) = (n < 16777216) := by rw [sizeLine_eq]
@[simp] theorem guard_none {ds : List D} {M : Mem} : guard none ds M = True := by
  unfold guard; simp
@[simp] theorem stp_none {ds : List D} {g : Gf} {body : Sf} {d : D} {ρ : Slots} {M : Mem} : stpF none ds g body d ρ M = (g d ρ M).bind fun p => body p.1 p.2 := by
  unfold stpF
  cases g d ρ M with
  | none => rfl
  | some p =>
    simp only [Option.bind_some, guard_none, if_true]
    cases body p.1 p.2 <;> rfl
@[simp] theorem set_end {M : Mem} {a b : O} : (M ++ [a]).set M.length b = M ++ [b] := by
  rw [List.set_append_right _ _ (Nat.le_refl _)]; simp
@[simp] theorem get_end {M : Mem} {a : O} : (M ++ [a])[M.length]? = some a := by simp
@[simp] theorem nls_ints {n : Nat} : ∀ {ns : List Int}, nls n (ns.map .int) = true
  | [] => rfl
  | _ :: ns => by rw [List.map_cons, nls, nls_ints, Bool.and_true]; simp [nl]
@[simp] theorem finish_same {M : Mem} {r : Rz} : finish M r M = (r, M) := by
  unfold finish; simp
@[simp] theorem finish_list {M : Mem} {ds : List D} : finish M (.val (.loc M.length)) (M ++ [.lst ds]) = if nls M.length ds = true then (.new ds, M) else (.val (.loc M.length), M ++ [.lst ds]) := by
  unfold finish; simp
@[simp] theorem oI_int {g : Int → Int → D} {i j : Int} {M : Mem} : oI g (.int i) (.int j) M = some (.val (g i j)) := rfl
@[simp] theorem oIc_int {C : Int → Int → Bool} {g : Int → Int → D} {i j : Int} {M : Mem} : oIc C g (.int i) (.int j) M = if C i j = true then some (.val (g i j)) else none := rfl
@[simp] theorem oAdd_int {i j : Int} {M : Mem} : oAdd (.int i) (.int j) M = some (.val (.int (i + j))) := rfl
@[simp] theorem oAdd_tup {xs ys : List D} {M : Mem} : oAdd (.tup xs) (.tup ys) M = if xs.length + ys.length ≤ sizeLine then some (.val (.tup (xs ++ ys))) else none := rfl
@[simp] theorem oAdd_lst {xs ys : List D} {M : Mem} : oAdd (.lst xs) (.lst ys) M = if xs.length + ys.length ≤ sizeLine then some (.new (xs ++ ys)) else none := rfl
@[simp] theorem oEq_int {i j : Int} {M : Mem} : oEq (.int i) (.int j) M = some (.val (.bl (decide (i = j)))) := rfl
@[simp] theorem oNe_int {i j : Int} {M : Mem} : oNe (.int i) (.int j) M = some (.val (.bl (!decide (i = j)))) := rfl
@[simp] theorem oEq_str {i j : Str} {M : Mem} : oEq (.str i) (.str j) M = some (.val (.bl (decide (i = j)))) := rfl
@[simp] theorem oNe_str {i j : Str} {M : Mem} : oNe (.str i) (.str j) M = some (.val (.bl (!decide (i = j)))) := rfl
@[simp] theorem oSub_int {i j : Int} {M : Mem} : oSub (.int i) (.int j) M = some (.val (.int (i - j))) := rfl
@[simp] theorem oLt_int {i j : Int} {M : Mem} : oLt (.int i) (.int j) M = some (.val (.bl (decide (i < j)))) := rfl
@[simp] theorem oLe_int {i j : Int} {M : Mem} : oLe (.int i) (.int j) M = some (.val (.bl (decide (i ≤ j)))) := rfl
@[simp] theorem oGt_int {i j : Int} {M : Mem} : oGt (.int i) (.int j) M = some (.val (.bl (decide (j < i)))) := rfl
@[simp] theorem oGe_int {i j : Int} {M : Mem} : oGe (.int i) (.int j) M = some (.val (.bl (decide (j ≤ i)))) := rfl
@[simp] theorem oMul_int {i j : Int} {M : Mem} : oMulI (.int i) (.int j) M = if bMul i j = true then some (.val (.int (i * j))) else none := rfl
@[simp] theorem oDiv_int {i j : Int} {M : Mem} : oDiv (.int i) (.int j) M = if bDiv i j = true then some (.val (.int (i / j))) else none := rfl
@[simp] theorem oMod_int {i j : Int} {M : Mem} : oMod (.int i) (.int j) M = if bMod i j = true then some (.val (.int (i % j))) else none := rfl
@[simp] theorem oPow_int {i j : Int} {M : Mem} : oPow (.int i) (.int j) M = if bPow i j = true then some (.val (.int (i ^ j.toNat))) else none := rfl
@[simp] theorem oInt_int {i : Int} {M : Mem} : oInt [.int i] M = some (.val (.int i)) := rfl
@[simp] theorem bMul_eq {i j : Int} : bMul i j = (sm64 i || sm64 j) := rfl
theorem p64 : (2 : Int) ^ 64 = 18446744073709551616 := by decide
theorem sm64_of {i : Int} (h0 : -1000000000000000000 < i) (h1 : i < 1000000000000000000) : sm64 i = true := by
  unfold sm64
  rw [p64]
  simp only [Bool.and_eq_true, decide_eq_true_eq]
  omega
@[simp] theorem sm64_lit {n : Nat} (h : n < 1000000000000000000) : sm64 (no_index (@OfNat.ofNat Int n instOfNat)) = true := sm64_of (by show (-1000000000000000000 : Int) < (n : Int); omega) (by show (n : Int) < 1000000000000000000; omega)
@[simp] theorem bDiv_eq {i j : Int} : bDiv i j = (decide (0 < j) && decide (j < 1073741824)) := rfl
@[simp] theorem bMod_eq {i j : Int} : bMod i j = decide (0 < j) := rfl
@[simp] theorem bPow_eq {i j : Int} : bPow i j = (decide (0 ≤ j) && decide (j ≤ 1000000) && decide (i.natAbs < 2 ^ 64)) := rfl
@[simp] theorem asS_lst {ds : List D} {M : Mem} : asS M (.lst ds) = some ds := rfl
@[simp] theorem asS_tup {ds : List D} {M : Mem} : asS M (.tup ds) = some ds := rfl
@[simp] theorem asS_scr {ns : List Int} {M : Mem} : asS M (.scr ns) = some (ns.map .int) := rfl
@[simp] theorem asL_lst {ds : List D} {M : Mem} : asL M (.lst ds) = some ds := rfl
@[simp] theorem asL_scr {ns : List Int} {M : Mem} : asL M (.scr ns) = some (ns.map .int) := rfl
theorem asS_loc {k : Nat} {M : Mem} {ds : List D} (h : M[k]? = some (.lst ds)) : asS M (.loc k) = some ds := by
  show (match M[k]? with | some (.lst ds) => some ds | _ => none) = some ds
  rw [h]
@[simp] theorem asS_end {M : Mem} {ds : List D} : asS (M ++ [.lst ds]) (.loc M.length) = some ds := asS_loc get_end
@[simp] theorem tyOf_end {M : Mem} {ds : List D} : tyOf (M ++ [.lst ds]) (.loc M.length) = some "list" := by
  show (match (M ++ [O.lst ds])[M.length]? with | some (.lst _) => some "list" | some (.dct _) => some "dict" | _ => none) = _
  rw [get_end]
@[simp] theorem oLen_lst {ds : List D} {M : Mem} : oLen [.lst ds] M = some (.val (.int ds.length)) := rfl
@[simp] theorem oLen_tup {ds : List D} {M : Mem} : oLen [.tup ds] M = some (.val (.int ds.length)) := rfl
@[simp] theorem oLen_scr {ns : List Int} {M : Mem} : oLen [.scr ns] M = some (.val (.int ns.length)) := by
  show some (Rz.val (.int (ns.map D.int).length)) = _
  rw [List.length_map]
theorem oLen_loc {k : Nat} {M : Mem} {ds : List D} (h : M[k]? = some (.lst ds)) : oLen [.loc k] M = some (.val (.int ds.length)) := by
  show ((asS M (.loc k)).bind fun es => some (Rz.val (.int es.length))) = _
  rw [asS_loc h]; rfl
@[simp] theorem oLen_end {M : Mem} {ds : List D} : oLen [.loc M.length] (M ++ [.lst ds]) = some (.val (.int ds.length)) := oLen_loc get_end
theorem oAppend_loc {k : Nat} {M : Mem} {ds : List D} {d : D} (h : M[k]? = some (.lst ds)) (hl : ds.length < 16777216) : oAppend (.loc k) [d] M = some (.val .non, M.set k (.lst (ds ++ [d]))) := by
  show (match M[k]? with | some (.lst es) => if es.length < sizeLine then some (Rz.val D.non, M.set k (.lst (es ++ [d]))) else none | _ => none) = _
  rw [h]
  simp [hl]
theorem oAppend_end {M : Mem} {ds : List D} {d : D} (hl : ds.length < 16777216) : oAppend (.loc M.length) [d] (M ++ [.lst ds]) = some (.val .non, M ++ [.lst (ds ++ [d])]) := by
  rw [oAppend_loc get_end hl, set_end]
theorem rgB_nat {n : Nat} (h : n < 16777216) : rgB (n : Int) = true := by
  unfold rgB; simp; omega
/-- a loop by an invariant -/
theorem loop_inv {step : Stp} (I : List D → Slots → Mem → Prop) (hs : ∀ d ds ρ M, I (d :: ds) ρ M → ∃ fl ρ' M', step d ρ M = some (fl, ρ', M') ∧ (fl = .nx ∨ fl = .ct) ∧ I ds ρ' M') :
    ∀ ds ρ M, I ds ρ M → ∃ ρ' M', loopF step ds ρ M = some (.nx, ρ', M') ∧ I [] ρ' M'
  | [], ρ, M, h => ⟨ρ, M, rfl, h⟩
  | d :: ds, ρ, M, h => by
    obtain ⟨fl, ρ1, M1, e, hf, h1⟩ := hs d ds ρ M h
    obtain ⟨ρ2, M2, e2, h2⟩ := loop_inv I hs ds ρ1 M1 h1
    refine ⟨ρ2, M2, ?_, h2⟩
    unfold loopF
    rw [e]
    rcases hf with rfl | rfl <;> exact e2
/-- .. counted -/
theorem loop_rg {step : Stp} {lo : Int} {n : Nat} {ρ : Slots} {M : Mem} (I : Nat → Slots → Mem → Prop) (h0 : I 0 ρ M) (hs : ∀ (i : Nat) ρ M, i < n → I i ρ M → ∃ fl ρ' M', step (.int (lo + i)) ρ M = some (fl, ρ', M') ∧ (fl = .nx ∨ fl = .ct) ∧ I (i + 1) ρ' M') :
    ∃ ρ' M', loopF step (rgD lo n) ρ M = some (.nx, ρ', M') ∧ I n ρ' M' := by
  have key : ∀ (k : Nat) ds ρ M, (rgD lo n).drop k = ds → k ≤ n → I k ρ M → ∃ ρ' M', loopF step ds ρ M = some (.nx, ρ', M') ∧ I n ρ' M' := by
    intro k ds
    induction ds generalizing k with
    | nil =>
      intro ρ M e hk h
      have : k = n := by
        have := congrArg List.length e
        rw [List.length_drop, rgD_len] at this
        simp at this; omega
      subst this
      exact ⟨ρ, M, rfl, h⟩
    | cons d ds ih =>
      intro ρ M e hk h
      have hd : (rgD lo n)[k]? = some d := by
        have := congrArg (fun l => l[0]?) e
        simpa [List.getElem?_drop] using this
      obtain ⟨hkn, rfl⟩ := rgD_get hd
      obtain ⟨fl, ρ1, M1, e1, hf, h1⟩ := hs k ρ M hkn h
      obtain ⟨ρ2, M2, e2, h2⟩ := ih (k + 1) ρ1 M1 (by rw [← List.tail_drop, e]; rfl) hkn h1
      refine ⟨ρ2, M2, ?_, h2⟩
      unfold loopF
      rw [e1]
      rcases hf with rfl | rfl <;> exact e2
  exact key 0 _ ρ M rfl (Nat.zero_le _) h0
end CI

/-! Ci9: the laws' common defs: draws, same -/
namespace CI
open PySem PySem.Spec PyProof.Rows L2
@[simp] theorem kit_NoneType_bool : kitB "NoneType" "bool" = some false := by decide +kernel
@[simp] theorem kit_NoneType_int : kitB "NoneType" "int" = some false := by decide +kernel
@[simp] theorem kit_NoneType_str : kitB "NoneType" "str" = some false := by decide +kernel
@[simp] theorem kit_NoneType_tuple : kitB "NoneType" "tuple" = some false := by decide +kernel
@[simp] theorem kit_NoneType_list : kitB "NoneType" "list" = some false := by decide +kernel
@[simp] theorem kit_NoneType_dict : kitB "NoneType" "dict" = some false := by decide +kernel
@[simp] theorem kit_bool_bool : kitB "bool" "bool" = some true := by decide +kernel
@[simp] theorem kit_bool_int : kitB "bool" "int" = some true := by decide +kernel
@[simp] theorem kit_bool_str : kitB "bool" "str" = some false := by decide +kernel
@[simp] theorem kit_bool_tuple : kitB "bool" "tuple" = some false := by decide +kernel
@[simp] theorem kit_bool_list : kitB "bool" "list" = some false := by decide +kernel
@[simp] theorem kit_bool_dict : kitB "bool" "dict" = some false := by decide +kernel
@[simp] theorem kit_int_bool : kitB "int" "bool" = some false := by decide +kernel
@[simp] theorem kit_int_int : kitB "int" "int" = some true := by decide +kernel
@[simp] theorem kit_int_str : kitB "int" "str" = some false := by decide +kernel
@[simp] theorem kit_int_tuple : kitB "int" "tuple" = some false := by decide +kernel
@[simp] theorem kit_int_list : kitB "int" "list" = some false := by decide +kernel
@[simp] theorem kit_int_dict : kitB "int" "dict" = some false := by decide +kernel
@[simp] theorem kit_str_bool : kitB "str" "bool" = some false := by decide +kernel
@[simp] theorem kit_str_int : kitB "str" "int" = some false := by decide +kernel
@[simp] theorem kit_str_str : kitB "str" "str" = some true := by decide +kernel
@[simp] theorem kit_str_tuple : kitB "str" "tuple" = some false := by decide +kernel
@[simp] theorem kit_str_list : kitB "str" "list" = some false := by decide +kernel
@[simp] theorem kit_str_dict : kitB "str" "dict" = some false := by decide +kernel
@[simp] theorem kit_tuple_bool : kitB "tuple" "bool" = some false := by decide +kernel
@[simp] theorem kit_tuple_int : kitB "tuple" "int" = some false := by decide +kernel
@[simp] theorem kit_tuple_str : kitB "tuple" "str" = some false := by decide +kernel
@[simp] theorem kit_tuple_tuple : kitB "tuple" "tuple" = some true := by decide +kernel
@[simp] theorem kit_tuple_list : kitB "tuple" "list" = some false := by decide +kernel
@[simp] theorem kit_tuple_dict : kitB "tuple" "dict" = some false := by decide +kernel
@[simp] theorem kit_list_bool : kitB "list" "bool" = some false := by decide +kernel
@[simp] theorem kit_list_int : kitB "list" "int" = some false := by decide +kernel
@[simp] theorem kit_list_str : kitB "list" "str" = some false := by decide +kernel
@[simp] theorem kit_list_tuple : kitB "list" "tuple" = some false := by decide +kernel
@[simp] theorem kit_list_list : kitB "list" "list" = some true := by decide +kernel
@[simp] theorem kit_list_dict : kitB "list" "dict" = some false := by decide +kernel
@[simp] theorem kit_dict_bool : kitB "dict" "bool" = some false := by decide +kernel
@[simp] theorem kit_dict_int : kitB "dict" "int" = some false := by decide +kernel
@[simp] theorem kit_dict_str : kitB "dict" "str" = some false := by decide +kernel
@[simp] theorem kit_dict_tuple : kitB "dict" "tuple" = some false := by decide +kernel
@[simp] theorem kit_dict_list : kitB "dict" "list" = some false := by decide +kernel
@[simp] theorem kit_dict_dict : kitB "dict" "dict" = some true := by decide +kernel
def dr1 : Sf := (sIf (toB (cBin oGt (cVar 3) (cInt (0))))
    (sCons (sExpr (cBM "list" oAppend (cVar 2) (aCons (cBin oMod (cCB oInt (aCons (cVar 3) aNil)) (cInt (1000))) aNil)))
    (sSet 3 (cBin oDiv (cVar 3) (cInt (1000)))))
    sNil)
def dr2 : Sf := (sCons (sSet 4 (cBin oMod (cCB oInt (aCons (cBin oAdd (cBin oAdd (cBin oMulI (cVar 4) (cInt (48271))) (cBin oMulI (cVar 5) (cInt (69621)))) (cInt (7))) aNil)) (cInt (2147483647))))
    (sIf (toB (cBin oLt (cCB oLen (aCons (cVar 2) aNil)) (cVar 1)))
    (sExpr (cBM "list" oAppend (cVar 2) (aCons (cBin oMod (cCB oInt (aCons (cBin oMod (cCB oInt (aCons (cBin oAdd (cBin oMulI (cVar 4) (cInt (69621))) (cInt (5))) aNil)) (cInt (2147483629))) aNil)) (cInt (1000))) aNil)))
    sNil))
noncomputable def B_draws : Sf :=
    (sCons (sSetM 2 (cLst aNil))
    (sCons (sSet 3 (cCB oInt (aCons (cVar 0) aNil)))
    (sCons (sIf (toB (cBin oGe (cVar 3) (cBin oPow (cInt (10)) (cInt (18)))))
    (sFor (iRg1 (cVar 1)) (gNm 5)
    dr1)
    sNil)
    (sCons (sSet 4 (cBin oMod (cCB oInt (aCons (cBin oAdd (cBin oMulI (cCB oInt (aCons (cVar 0) aNil)) (cInt (48271))) (cInt (11))) aNil)) (cInt (2147483647))))
    (sCons (sFor (iRg1 (cVar 1)) (gNm 5)
    dr2)
    (sRet (cVar 2)))))))
noncomputable def F_draws : Fn := mkFn 2 6 B_draws
noncomputable def B_big : Sf :=
    (sCons (sIf (toB (cBin oEq (cBin oMod (cCB oInt (aCons (cVar 0) aNil)) (cInt (4))) (cInt (0))))
    (sRet (cBin oIx (cLst (aCons (cInt (0)) (aCons (cInt (1)) (aCons (cInt (255)) (aCons (cInt (256)) (aCons (cInt (65535)) (aCons (cInt (65536)) (aCons (cInt (16777216)) (aCons (cInt (4294967295)) aNil))))))))) (cBin oMod (cCB oInt (aCons (cVar 1) aNil)) (cInt (8)))))
    sNil)
    (sRet (cBin oMod (cCB oInt (aCons (cBin oAdd (cBin oMulI (cCB oInt (aCons (cVar 0) aNil)) (cInt (4294967))) (cBin oMulI (cCB oInt (aCons (cVar 1) aNil)) (cInt (65537)))) aNil)) (cInt (4294967296)))))
noncomputable def F_big : Fn := mkFn 2 2 B_big
noncomputable def B_OctetReader_init : Sf :=
    (sCons (sFldS ["OctetReader"] "_octets" (cVar 0) (cCB oList (aCons (cVar 1) aNil)))
    (sFldS ["OctetReader"] "_place" (cVar 0) (cInt (0))))
noncomputable def F_OctetReader_init : Fn := mkFn 2 2 B_OctetReader_init
noncomputable def B_same (F : Fn) : Sf :=
    (sCons (sIf (toB (cBin (oIs false) (cVar 1) cNon))
    (sRet (cBin (oIs false) (cVar 0) cNon))
    sNil)
    (sCons (sIf (toB (cBin (oIs false) (cVar 1) (cBl true)))
    (sRet (cBin (oIs false) (cVar 0) (cBl true)))
    sNil)
    (sCons (sIf (toB (cBin (oIs false) (cVar 1) (cBl false)))
    (sRet (cBin (oIs false) (cVar 0) (cBl false)))
    sNil)
    (sCons (sIf (toTr (cIsI "int" (cVar 1)))
    (sRet (cAnd (cIsI "int" (cVar 0)) (cAnd (cNot (cIsI "bool" (cVar 0))) (cBin oEq (cVar 0) (cVar 1)))))
    sNil)
    (sCons (sIf (toTr (cIsI "str" (cVar 1)))
    (sRet (cAnd (cIsI "str" (cVar 0)) (cBin oEq (cVar 0) (cVar 1))))
    sNil)
    (sCons (sIf (kAnd (toTr (cIsI "tuple" (cVar 1))) (kNot (toTr (cIsI "tuple" (cVar 0)))))
    (sRet (cBl false))
    sNil)
    (sCons (sIf (kAnd (toTr (cIsI "list" (cVar 1))) (kNot (toTr (cIsI "list" (cVar 0)))))
    (sRet (cBl false))
    sNil)
    (sCons (sIf (toB (cBin oNe (cCB oLen (aCons (cVar 0) aNil)) (cCB oLen (aCons (cVar 1) aNil))))
    (sRet (cBl false))
    sNil)
    (sCons (sFor (iRg1 (cCB oLen (aCons (cVar 1) aNil))) (gNm 2)
    (sIf (kNot (toTr (cCall (F) (aCons (cBin oIx (cVar 0) (cVar 2)) (aCons (cBin oIx (cVar 1) (cVar 2)) aNil)))))
    (sRet (cBl false))
    sNil))
    (sRet (cBl true)))))))))))
noncomputable def F_same : Nat → Fn
  | 0 => fun _ _ => none
  | n + 1 => mkFn 2 3 (B_same (F_same n))
@[simp] theorem oIs_non {b : Bool} {d : D} {M : Mem} : oIs b d .non M = some (.val (.bl (b != isNon d))) := rfl
@[simp] theorem oIs_bl {b c : Bool} {d : D} {M : Mem} : oIs b d (.bl c) M = some (.val (.bl (b != isBl c d))) := rfl
@[simp] theorem trD_bl {b : Bool} {M : Mem} : trD M (.bl b) = some b := rfl
@[simp] theorem ge_nat {n : Nat} : ((n : Int) < 0) = False := by simp
/-- draws: so many numbers below 1000 -/
theorem draws_l1 (cell : Int) (many : Nat) (hm : many < 1000) (M : Mem) : ∀ (rest : Int) (x y : Option D), ∃ (rows : List Int) (rest' : Int) (y' : Option D), rows.length ≤ many ∧ (∀ r ∈ rows, 0 ≤ r ∧ r < 1000) ∧
    loopF (stpF none (rgD 0 many) (gNm 5) dr1) (rgD 0 many) [some (.int cell), some (.int many), some (.loc M.length), some (.int rest), x, y] (M ++ [.lst []]) =
    some (.nx, [some (.int cell), some (.int many), some (.loc M.length), some (.int rest'), x, y'], M ++ [.lst (rows.map .int)]) := by
  intro rest x y
  obtain ⟨ρ', M', e, rows, rest', y', h1, h2, rfl, rfl⟩ := loop_rg (step := stpF none (rgD 0 many) (gNm 5) dr1) (lo := 0) (n := many) (ρ := [some (.int cell), some (.int many), some (.loc M.length), some (.int rest), x, y]) (M := M ++ [.lst []])
    (fun i ρ M' => ∃ (rows : List Int) (rest' : Int) (y' : Option D), rows.length ≤ i ∧ (∀ r ∈ rows, 0 ≤ r ∧ r < 1000) ∧ ρ = [some (.int cell), some (.int many), some (.loc M.length), some (.int rest'), x, y'] ∧ M' = M ++ [.lst (rows.map .int)])
    ⟨[], rest, y, by simp, by simp, rfl, rfl⟩ (by
      rintro i ρ M' hi ⟨rows, rest', y', h1, h2, rfl, rfl⟩
      by_cases hr : 0 < rest'
      · refine ⟨.nx, _, _, ?_, .inl rfl, rows ++ [rest' % 1000], rest' / 1000, some (.int (0 + i)), by simp; omega, ?_, rfl, rfl⟩
        · simp [dr1, hr, oAppend_end (ds := rows.map D.int) (show (rows.map D.int).length < 16777216 by simp; omega)]
        · intro r hr'
          rcases List.mem_append.mp hr' with q | q
          · exact h2 r q
          · simp at q; subst q; omega
      · refine ⟨.nx, _, _, ?_, .inl rfl, rows, rest', some (.int (0 + i)), by omega, h2, rfl, rfl⟩
        simp [dr1, hr])
  exact ⟨rows, rest', y', h1, h2, e⟩
theorem draws_l2 (cell : Int) (many : Nat) (hm : many < 1000) (M : Mem) : ∀ (rest st : Int) (rows : List Int) (y : Option D), rows.length ≤ many → (∀ r ∈ rows, 0 ≤ r ∧ r < 1000) → 0 ≤ st → st < 2147483647 → ∃ (rows' : List Int) (ρ' : Slots), rows'.length = many ∧ (∀ r ∈ rows', 0 ≤ r ∧ r < 1000) ∧ slot ρ' 2 = some (.loc M.length) ∧
    loopF (stpF none (rgD 0 many) (gNm 5) dr2) (rgD 0 many) [some (.int cell), some (.int many), some (.loc M.length), some (.int rest), some (.int st), y] (M ++ [.lst (rows.map .int)]) =
    some (.nx, ρ', M ++ [.lst (rows'.map .int)]) := by
  intro rest st rows y hl hb hs0 hs1
  obtain ⟨ρ', M', e, rows', st', y', h1, h2, h3, rfl, rfl⟩ := loop_rg (step := stpF none (rgD 0 many) (gNm 5) dr2) (lo := 0) (n := many) (ρ := [some (.int cell), some (.int many), some (.loc M.length), some (.int rest), some (.int st), y]) (M := M ++ [.lst (rows.map .int)])
    (fun i ρ M' => ∃ (rows' : List Int) (st' : Int) (y' : Option D), rows'.length ≤ many ∧ i ≤ rows'.length ∧ (∀ r ∈ rows', 0 ≤ r ∧ r < 1000) ∧ ρ = [some (.int cell), some (.int many), some (.loc M.length), some (.int rest), some (.int st'), y'] ∧ M' = M ++ [.lst (rows'.map .int)])
    ⟨rows, st, y, hl, Nat.zero_le _, hb, rfl, rfl⟩ (by
      rintro i ρ M' hi ⟨rows', st', y', h1, h2, h3, rfl, rfl⟩
      have hst : ∃ st2 : Int, st2 = (st' * 48271 + (i : Int) * 69621 + 7) % 2147483647 := ⟨_, rfl⟩
      obtain ⟨st2, est⟩ := hst
      by_cases hr : rows'.length < many
      · refine ⟨.nx, _, _, ?_, .inl rfl, rows' ++ [(st2 * 69621 + 5) % 2147483629 % 1000], st2, some (.int (0 + i)), by simp; omega, by simp; omega, ?_, rfl, rfl⟩
        · simp -implicitDefEqProofs [dr2, hr, ← est, oAppend_end (ds := rows'.map D.int) (show (rows'.map D.int).length < 16777216 by simp; omega)]
        · intro r hr'
          rcases List.mem_append.mp hr' with q | q
          · exact h3 r q
          · simp at q; subst q; omega
      · refine ⟨.nx, _, _, ?_, .inl rfl, rows', st2, some (.int (0 + i)), by omega, by omega, h3, rfl, rfl⟩
        simp -implicitDefEqProofs [dr2, hr, ← est])
  exact ⟨rows', _, by omega, h3, rfl, e⟩
theorem draws_ok (cell : Int) (many : Nat) (hm : many < 1000) (M : Mem) :
    ∃ rows : List Int, rows.length = many ∧ (∀ r ∈ rows, 0 ≤ r ∧ r < 1000) ∧ F_draws [.int cell, .int many] M = some (.new (rows.map .int), M) := by
  have hrg : rgB (many : Int) = true := rgB_nat (by omega)
  -- the first loop
  unfold F_draws mkFn B_draws
  by_cases hc : (1000000000000000000 : Int) ≤ cell
  · obtain ⟨rows, rest', y', h1, h2, e1⟩ := draws_l1 cell many hm M cell none none
    obtain ⟨rows', ρ', h3, h4, h5, e2⟩ := draws_l2 cell many hm M rest' ((cell * 48271 + 11) % 2147483647) rows y' h1 h2 (by omega) (by omega)
    refine ⟨rows', h3, h4, ?_⟩
    simp -implicitDefEqProofs [hc, hrg, e1, e2, h5]
  · obtain ⟨rows', ρ', h3, h4, h5, e2⟩ := draws_l2 cell many hm M cell ((cell * 48271 + 11) % 2147483647) [] none (Nat.zero_le _) (fun _ h => nomatch h) (by omega) (by omega)
    refine ⟨rows', h3, h4, ?_⟩
    simp only [List.map_nil] at e2
    simp -implicitDefEqProofs [hc, hrg, e2, h5]
end CI

/-! Ci10: same -/
namespace CI
open PySem PySem.Spec PyProof.Rows L2
@[simp] theorem isNon_non : isNon .non = true := rfl
@[simp] theorem isNon_bl {b} : isNon (.bl b) = false := rfl
@[simp] theorem isNon_int {b} : isNon (.int b) = false := rfl
@[simp] theorem isNon_str {b} : isNon (.str b) = false := rfl
@[simp] theorem isNon_tup {b} : isNon (.tup b) = false := rfl
@[simp] theorem isNon_lst {b} : isNon (.lst b) = false := rfl
@[simp] theorem isNon_scr {b} : isNon (.scr b) = false := rfl
@[simp] theorem isNon_loc {b} : isNon (.loc b) = false := rfl
@[simp] theorem isBl_bl {b c} : isBl b (.bl c) = decide (c = b) := rfl
@[simp] theorem isBl_non {b} : isBl b .non = false := rfl
@[simp] theorem isBl_int {b c} : isBl b (.int c) = false := rfl
@[simp] theorem isBl_str {b c} : isBl b (.str c) = false := rfl
@[simp] theorem isBl_tup {b c} : isBl b (.tup c) = false := rfl
@[simp] theorem isBl_lst {b c} : isBl b (.lst c) = false := rfl
@[simp] theorem isBl_scr {b c} : isBl b (.scr c) = false := rfl
@[simp] theorem isBl_loc {b c} : isBl b (.loc c) = false := rfl
@[simp] theorem tyOf_non {M} : tyOf M .non = some "NoneType" := rfl
@[simp] theorem tyOf_bl {M b} : tyOf M (.bl b) = some "bool" := rfl
@[simp] theorem tyOf_int {M b} : tyOf M (.int b) = some "int" := rfl
@[simp] theorem tyOf_str {M b} : tyOf M (.str b) = some "str" := rfl
@[simp] theorem tyOf_tup {M b} : tyOf M (.tup b) = some "tuple" := rfl
@[simp] theorem tyOf_lst {M b} : tyOf M (.lst b) = some "list" := rfl
@[simp] theorem tyOf_scr {M b} : tyOf M (.scr b) = some "list" := rfl
theorem tyOf_loc {k : Nat} {M : Mem} {ds : List D} (h : M[k]? = some (.lst ds)) : tyOf M (.loc k) = some "list" := by
  show (match M[k]? with | some (.lst _) => some "list" | some (.dct _) => some "dict" | _ => none) = _
  rw [h]
/-- a sequence: is it a tuple, its items -/
def sh (M : Mem) : D → Option (Bool × List D)
  | .tup ds => some (true, ds)
  | .lst ds => some (false, ds)
  | .scr ns => some (false, ns.map .int)
  | .loc k => match M[k]? with
    | some (.lst ds) => some (false, ds)
    | _ => none
  | _ => none
theorem sh_asS {M : Mem} {d : D} {b : Bool} {ds : List D} (h : sh M d = some (b, ds)) : asS M d = some ds ∧ tyOf M d = some (if b then "tuple" else "list") ∧ isNon d = false ∧ (∀ c, isBl c d = false) ∧ oLen [d] M = some (.val (.int ds.length)) := by
  cases d with
  | tup es => cases h; exact ⟨rfl, rfl, rfl, fun _ => rfl, rfl⟩
  | lst es => cases h; exact ⟨rfl, rfl, rfl, fun _ => rfl, rfl⟩
  | scr es => cases h; exact ⟨rfl, rfl, rfl, fun _ => rfl, by rw [oLen_scr]; simp⟩
  | loc k =>
    unfold sh at h
    simp only at h
    split at h
    · rename_i es hk
      cases h
      exact ⟨asS_loc hk, tyOf_loc hk, rfl, fun _ => rfl, oLen_loc hk⟩
    · cases h
  | _ => cases h
/-- the same to a depth of n -/
def Sm (M : Mem) : Nat → D → D → Prop
  | 0, _, _ => False
  | n + 1, d, e => (d = e ∧ (d = .non ∨ (∃ b, d = .bl b) ∨ (∃ i, d = .int i) ∨ ∃ x, d = .str x)) ∨
    ∃ b ds es, sh M d = some (b, ds) ∧ sh M e = some (b, es) ∧ ds.length < 10000 ∧ ds.length = es.length ∧ ∀ (i : Nat) (x y : D), ds[i]? = some x → es[i]? = some y → Sm M n x y
theorem oIx_of {M : Mem} {d : D} {ds : List D} {i : Nat} {x : D} (h : asS M d = some ds) (hx : ds[i]? = some x) : oIx d (.int i) M = some (.val x) := by
  have e : ((asS M d).bind fun ds => (L2.atI ds (i : Int)).bind fun x => some (Rz.val x)) = some (.val x) := by
    rw [h]
    simp only [Option.bind_some]
    rw [atI_nat hx]; rfl
  cases d <;> first | exact e | cases h
theorem same_ok : ∀ (n : Nat) (M : Mem) (d e : D), Sm M n d e → F_same n [d, e] M = some (.val (.bl true), M)
  | 0, _, _, _, h => h.elim
  | n + 1, M, d, e, h => by
    unfold F_same mkFn B_same
    rcases h with ⟨rfl, h⟩ | ⟨b, ds, es, h1, h2, hl, hle, hs⟩
    · rcases h with rfl | ⟨b, rfl⟩ | ⟨i, rfl⟩ | ⟨x, rfl⟩
      · simp -implicitDefEqProofs
      · cases b <;> simp -implicitDefEqProofs
      · simp -implicitDefEqProofs
      · simp -implicitDefEqProofs
    · obtain ⟨a1, a2, a3, a4, a5⟩ := sh_asS h1
      obtain ⟨b1, b2, b3, b4, b5⟩ := sh_asS h2
      have hrg : rgB (es.length : Int) = true := rgB_nat (by omega)
      have lp : ∀ x, ∃ y, loopF (stpF none (rgD 0 es.length) (gNm 2) (sIf (kNot (toTr (cCall (F_same n) (aCons (cBin oIx (cVar 0) (cVar 2)) (aCons (cBin oIx (cVar 1) (cVar 2)) aNil)))))
    (sRet (cBl false)) sNil)) (rgD 0 es.length) [some d, some e, x] M = some (.nx, [some d, some e, y], M) := by
        intro x
        obtain ⟨ρ', M', e1, y, rfl, rfl⟩ := loop_rg (step := stpF none (rgD 0 es.length) (gNm 2) (sIf (kNot (toTr (cCall (F_same n) (aCons (cBin oIx (cVar 0) (cVar 2)) (aCons (cBin oIx (cVar 1) (cVar 2)) aNil)))))
    (sRet (cBl false)) sNil)) (lo := 0) (n := es.length) (ρ := [some d, some e, x]) (M := M)
          (fun i ρ M' => ∃ y, ρ = [some d, some e, y] ∧ M' = M) ⟨x, rfl, rfl⟩ (by
            rintro i ρ M' hi ⟨y, rfl, rfl⟩
            have i1 : ds[i]? = some ds[i] := List.getElem?_eq_getElem (by omega)
            have i2 : es[i]? = some es[i] := List.getElem?_eq_getElem hi
            have q := same_ok n _ _ _ (hs i _ _ i1 i2)
            refine ⟨.nx, [some d, some e, some (.int i)], _, ?_, .inl rfl, _, rfl, rfl⟩
            simp -implicitDefEqProofs only [stp_none, gNm_ap, Option.bind_some, Int.zero_add, sIf_ap, kNot_ap, toTr_ap, cCall_ap, aCons_ap, cBin_ap, cVar_ap, slot_zero, slot_succ, List.set_cons_succ, List.set_cons_zero, Rz_d_val, oIx_of a1 i1, oIx_of b1 i2, aNil_ap, q, trD_bl]
            simp -implicitDefEqProofs)
        exact ⟨y, e1⟩
      obtain ⟨y, e1⟩ := lp none
      cases b
      · simp -implicitDefEqProofs at a2 b2
        simp -implicitDefEqProofs [a2, a3, a4, a5, b2, b3, b4, b5, hle, hrg, e1]
      · simp -implicitDefEqProofs at a2 b2
        simp -implicitDefEqProofs [a2, a3, a4, a5, b2, b3, b4, b5, hle, hrg, e1]
end CI

/-! Ci11: comprehensions -/
namespace CI
open PySem PySem.Spec PyProof.Rows L2

/-! ### targets within a block -/
theorem wipe_set {x : Option V} {i : Nat} : ∀ {vs : List Nat} {σ : L2.St}, i ∈ vs → wipe (σ.set i x) vs = wipe σ vs
  | [], _, h => nomatch h
  | v :: vs, σ, h => by
    show (wipe (σ.set i x) vs).set v none = (wipe σ vs).set v none
    by_cases hi : i ∈ vs
    · rw [wipe_set hi]
    · have hv : i = v := (List.mem_cons.mp h).resolve_right hi
      subst hv
      have key : ∀ (vs : List Nat) (σ : L2.St), i ∉ vs → wipe (σ.set i x) vs = (wipe σ vs).set i x := by
        intro vs
        induction vs with
        | nil => intro σ _; rfl
        | cons v vs ih =>
          intro σ hn
          show (wipe (σ.set i x) vs).set v none = ((wipe σ vs).set v none).set i x
          rw [ih σ fun z => hn (List.mem_cons_of_mem _ z)]
          exact List.set_comm _ _ (fun z => hn (by rw [z]; exact List.mem_cons_self))
      rw [key vs σ hi, List.set_set]
theorem wipe_idem : ∀ {vs : List Nat} {σ : L2.St}, wipe (wipe σ vs) vs = wipe σ vs
  | [], _ => rfl
  | v :: vs, σ => by
    show (wipe ((wipe σ vs).set v none) vs).set v none = (wipe σ vs).set v none
    by_cases hv : v ∈ vs
    · rw [wipe_set hv, wipe_idem]
    · have key : ∀ (us : List Nat) (σ : L2.St), v ∉ us → wipe (σ.set v none) us = (wipe σ us).set v none := by
        intro us
        induction us with
        | nil => intro σ _; rfl
        | cons u us ih =>
          intro σ hn
          show (wipe (σ.set v none) us).set u none = ((wipe σ us).set u none).set v none
          rw [ih σ fun z => hn (List.mem_cons_of_mem _ z)]
          exact List.set_comm _ _ (fun z => hn (by rw [z]; exact List.mem_cons_self))
      rw [key vs _ hv, wipe_idem, List.set_set]
def wipeD (ρ : Slots) : List Nat → Slots
  | [] => ρ
  | v :: vs => (wipeD ρ vs).set v none
theorem Rs.wipe {K : PySem.W.Frag} {H : Hp} {m : List Addr} {ρ : Slots} {σ : L2.St} (h : Rs K H m ρ σ) : ∀ vs : List Nat, Rs K H m (wipeD ρ vs) (L2.wipe σ vs)
  | [] => h
  | v :: vs => by
    have r := h.wipe vs
    refine ⟨by show ((wipeD ρ vs).set v none).length = ((L2.wipe σ vs).set v none).length; simp [r.1], fun i d q => ?_⟩
    show ∃ w, ((L2.wipe σ vs).set v none)[i]? = some (some w) ∧ _
    have q : ((wipeD ρ vs).set v none)[i]? = some (some d) := q
    by_cases z : i = v
    · subst z
      obtain ⟨z, _⟩ := List.getElem?_eq_some_iff.mp q
      rw [List.length_set] at z
      rw [List.getElem?_set_self z] at q
      cases q
    · rw [List.getElem?_set_ne (Ne.symm z)] at q
      rw [List.getElem?_set_ne (Ne.symm z)]
      exact r.2 i d q
/-- a target that stores at the slots vs alone -/
def tGw (K : PySem.W.Frag) (vs : List Nat) (g : Gf) : TG := fun v σ H Q => ∃ d ρ M m ρ' M', Rl K H m d v ∧ Rs K H m ρ σ ∧ Wd K H m M ∧ g d ρ M = some (ρ', M') ∧
  ∀ H1 m1 σ1, Ext H m H1 m1 → Wd K H1 m1 M' → Rs K H1 m1 ρ' σ1 → wipe σ1 vs = wipe σ vs → Q σ1 H1
def tGsw (K : PySem.W.Frag) (vs : List Nat) (g : GsF) : TGs := fun us σ H Q => ∃ ds ρ M m ρ' M', Rls K H m ds us ∧ Rs K H m ρ σ ∧ Wd K H m M ∧ g ds ρ M = some (ρ', M') ∧
  ∀ H1 m1 σ1, Ext H m H1 m1 → Wd K H1 m1 M' → Rs K H1 m1 ρ' σ1 → wipe σ1 vs = wipe σ vs → Q σ1 H1
section
variable {X : Cx} {K : PySem.W.Frag} {e tg : Expr} {es : List Expr} {g : Gf} {gs : GsF} {pos : Pos} {vs : List Nat}
theorem cgw_of {i : Nat} (h : PG X e (gName i)) (hi : i ∈ vs) : PG X e (tGw K vs (gNm i)) := PG.imp h fun v σ H Q ⟨d, ρ, M, m, ρ', M', r, rs, w, hf, P⟩ => by
  cases hf
  exact P H m _ .refl w (rs.set r i) (wipe_set hi)
theorem cgsw_nil : PGs X [] (tGsw K vs gsNil) := PGs.imp pgs_nil fun us σ H Q ⟨ds, ρ, M, m, ρ', M', r, rs, w, hf, P⟩ => by
  unfold gsNil at hf
  split at hf
  · cases hf
    exact ⟨rls_nil r, P H m _ .refl w rs rfl⟩
  · cases hf
theorem cgsw_cons (h1 : PG X e (tGw K vs g)) (h2 : PGs X es (tGsw K vs gs)) (hs : (assignEach (e :: es) X.env).map (·.2) = assign e X.env :: (assignEach es X.env).map (·.2) := by rfl) : PGs X (e :: es) (tGsw K vs (gsCons g gs)) :=
  PGs.imp (pgs_cons h1 h2 hs) fun us σ H Q ⟨ds, ρ, M, m, ρ', M', r, rs, w, hf, P⟩ => by
    unfold gsCons at hf
    split at hf
    · rename_i d ds
      rw [Rls] at r
      obtain ⟨v, vr, rfl, r1, r2⟩ := r
      cases ea : g d ρ M with
      | none => rw [ea] at hf; cases hf
      | some p =>
        rw [ea] at hf
        simp only [Option.bind_some] at hf
        refine ⟨v, vr, rfl, d, ρ, M, m, p.1, p.2, r1, rs, w, ea, fun H1 m1 σ1 e1 w1 rs1 z1 => ?_⟩
        exact ⟨ds, p.1, p.2, m1, ρ', M', r2.ext e1, rs1, w1, hf, fun H2 m2 σ2 e2 w2 rs2 z2 => P H2 m2 σ2 (e1.trans e2) w2 rs2 (z2.trans z1)⟩
    · cases hf
theorem cgw_tup {k n : Nat} (hc : X.calm = true) (h : PGs X es (tGsw X.K vs gs)) (hn : (assignEach es X.env).length = n := by rfl) (hst : (assignEach es X.env).findIdx? (·.1) = none := by rfl) : PG X (.Tuple es k pos) (tGw X.K vs (gTp n gs)) :=
  PG.imp (pg_tup hc h hn hst) fun v σ H Q ⟨d, ρ, M, m, ρ', M', r, rs, w, hf, P⟩ => by
    unfold gTp at hf
    split at hf
    · rename_i ds
      split at hf
      · rename_i hl
        rw [Rl] at r
        obtain ⟨a, us, rfl, h1, h2⟩ := r
        exact ⟨a, us, rfl, h1, by rw [← h2.length]; exact hl, ds, ρ, M, m, ρ', M', h2, rs, w, hf, P⟩
      · cases hf
    · cases hf
end

/-! ### the comprehension -/
/-- the turns: the list made so far is the object n -/
noncomputable def lcF (g : Gf) (tt : Tf) (te : Ef) (ρw : Slots) (n : Nat) (gk : Option Nat) (ds0 : List D) : List D → Mem → Option Mem
  | [], M => some M
  | d :: ds, M => (g d ρw M).bind fun p => (tt p.1 p.2).bind fun b => if b.1 = true then (te p.1 b.2).bind fun r => (match r.2[n]? with
      | some (.lst acc) => if acc.length < sizeLine then (open Classical in if guard gk ds0 (r.2.set n (.lst (acc ++ [r.1.d]))) then lcF g tt te ρw n gk ds0 ds (r.2.set n (.lst (acc ++ [r.1.d]))) else none) else none
      | _ => none) else (open Classical in if guard gk ds0 b.2 then lcF g tt te ρw n gk ds0 ds b.2 else none)
open Classical in
noncomputable def cLc (it : If) (vs : List Nat) (g : Gf) (tt : Tf) (te : Ef) : Ef := fun ρ M => (it ρ M).bind fun p =>
  (lcF g tt te (wipeD ρ vs) p.2.2.length p.2.1 p.1 p.1 (p.2.2 ++ [.lst []])).bind fun Me => match Me[p.2.2.length]? with
  | some (.lst acc) => if Me.length = p.2.2.length + 1 ∧ (Me.take p.2.2.length = p.2.2 ∨ nlM p.2.2.length (Me.take p.2.2.length) = true) ∧ nls p.2.2.length acc = true then some (.new acc, Me.take p.2.2.length) else none
  | _ => none
def tYesF : Tf := fun _ M => some (true, M)
section
variable {X : Cx} {elt tg iter : Expr} {ifs : List Expr} {scope : Scope} {own : List (Str × Nat)} {pos : Pos} {it : If} {g : Gf} {tt : Tf} {te : Ef}
theorem lc_of {σ : L2.St} {H : Hp} {Q : VK} {vs : List Nat} (h : tE X.K (cLc it vs g tt te) σ H Q) : tLc (tI X.K it) (tGw X.K vs g) (tT X.K tt) (tE X.K te) vs σ H Q := by
  obtain ⟨ρ, M, m, r, M', rs, w, hf, P⟩ := h
  unfold cLc at hf
  cases ea : it ρ M with
  | none => rw [ea] at hf; cases hf
  | some p =>
    obtain ⟨ds, gk, M1⟩ := p
    rw [ea] at hf
    simp only [Option.bind_some] at hf
    cases el : lcF g tt te (wipeD ρ vs) M1.length gk ds ds (M1 ++ [.lst []]) with
    | none => rw [el] at hf; cases hf
    | some Me =>
      rw [el] at hf
      simp only [Option.bind_some] at hf
      refine ⟨ρ, M, m, ds, gk, M1, rs, w, ea, fun H1 m1 J e1 w1 gd1 Y => fun D hD => ?_⟩
      obtain ⟨w2, e2⟩ := w1.push (o := .lst []) (u := .lst []) hD ⟨[], upd_same, by rw [Rls]⟩
      have gd2 : GdOk X.K gk ds (upd H1 D (.lst [])) (m1 ++ [D]) := fun k hk => by
        obtain ⟨a, us, q1, q2, q3⟩ := gd1 k hk
        exact ⟨a, us, e2.get q1, by rw [upd_ne (fun z => by rw [z, hD] at q2; cases q2)]; exact q2, q3.ext e2⟩
      have hn1 : M1.length = m1.length := w1.len.symm
      have hDm : (m1 ++ [D])[M1.length]? = some D := by rw [hn1, List.getElem?_append_right (Nat.le_refl _)]; simp
      refine ⟨fun i n H => n = ds.length - i ∧ i ≤ ds.length ∧ ∃ M2 m2, Ext (upd H1 D (.lst [])) (m1 ++ [D]) H m2 ∧ Wd X.K H m2 M2 ∧ GdOk X.K gk ds H m2 ∧ lcF g tt te (wipeD ρ vs) M1.length gk ds (ds.drop i) M2 = some Me,
        ⟨ds.length, by simp, Nat.zero_le _, M1 ++ [.lst []], m1 ++ [D], .refl, w2, gd2, by simpa using el⟩, ?_⟩
      rintro i n H ⟨rfl, hle, M2, m2, e3, w3, gd3, hl⟩
      have eY : Ext H1 m1 H m2 := e2.trans e3
      by_cases hlt : i < ds.length
      · refine .inr ⟨Y.go i H m2 hlt eY gd3, ?_⟩
        have hd : ds.drop i = ds[i] :: ds.drop (i + 1) := List.drop_eq_getElem_cons hlt
        rw [hd] at hl
        unfold lcF at hl
        refine ⟨fun H' => ∃ M3 m3, Ext H m2 H' m3 ∧ Wd X.K H' m3 M3 ∧ GdOk X.K gk ds H' m3 ∧ lcF g tt te (wipeD ρ vs) M1.length gk ds (ds.drop (i + 1)) M3 = some Me,
          fun H' ⟨M3, m3, e4, w4, gd4, hl4⟩ => ⟨ds.length - (i + 1), by omega, rfl, hlt, M3, m3, e3.trans e4, w4, gd4, hl4⟩, fun x H' y => ?_⟩
        obtain ⟨e4, w4, r4⟩ := Y.yld i ds[i] H m2 M2 x H' (List.getElem?_eq_getElem hlt) eY gd3 w3 y
        cases eg : g ds[i] (wipeD ρ vs) M2 with
        | none => rw [eg] at hl; cases hl
        | some q =>
          rw [eg] at hl
          simp only [Option.bind_some] at hl
          refine ⟨ds[i], wipeD ρ vs, M2, m2, q.1, q.2, r4, ((rs.ext e1).ext (eY.trans e4)).wipe vs, w4, eg, fun H5 m5 σ5 e5 w5 rs5 z5 => ⟨z5.trans wipe_idem, ?_⟩⟩
          cases et : tt q.1 q.2 with
          | none => rw [et] at hl; cases hl
          | some b =>
            rw [et] at hl
            simp only [Option.bind_some] at hl
            refine bindT rs5 w5 et fun H6 m6 e6 w6 rs6 => ?_
            split at hl
            · rename_i hb
              rw [if_pos hb]
              cases ev : te q.1 b.2 with
              | none => rw [ev] at hl; cases hl
              | some rz =>
                rw [ev] at hl
                simp only [Option.bind_some] at hl
                refine bindE rs6 w6 ev fun H7 m7 v e7 w7 rs7 r7 => ?_
                split at hl
                · rename_i acc hacc
                  split at hl
                  · rename_i hz
                    have eAll : Ext (upd H1 D (.lst [])) (m1 ++ [D]) H7 m7 := (((e3.trans e4).trans e5).trans e6).trans e7
                    have hD7 := eAll.get hDm
                    obtain ⟨a, ha, us, h1, h2⟩ := w7.get hacc
                    rw [hD7] at ha; cases ha
                    refine ⟨us, h1, by rw [← h2.length]; exact hz, ?_⟩
                    have e8 := w7.ext_set (u := .lst (us ++ [v])) hD7
                    have w8 := w7.set (o := .lst (acc ++ [rz.1.d])) (u := .lst (us ++ [v])) hD7 ⟨_, upd_same, (h2.ext e8).append (by rw [Rls]; exact ⟨_, _, rfl, r7.ext e8, by rw [Rls]⟩)⟩
                    split at hl
                    · rename_i hgd
                      exact ⟨_, m7, (((e4.trans e5).trans e6).trans e7).trans e8, w8, gd_of w8 hgd, hl⟩
                    · cases hl
                  · cases hl
                · cases hl
            · rename_i hb
              rw [if_neg hb]
              split at hl
              · rename_i hgd
                exact ⟨_, m6, (e4.trans e5).trans e6, w6, gd_of w6 hgd, hl⟩
              · cases hl
      · have e : i = ds.length := by omega
        subst e
        refine .inl ⟨Y.stop H m2 eY gd3, ?_⟩
        rw [List.drop_length] at hl
        unfold lcF at hl
        cases hl
        split at hf
        · rename_i acc hacc
          split at hf
          · rename_i hcond
            obtain ⟨c1, c2, c3⟩ := hcond
            cases hf
            obtain ⟨l, rfl, hl0⟩ := id e3.pre
            have hl1 : l = [] := by
              have := w3.len
              rw [c1, hn1] at this
              simp at this
              exact this
            subst hl1
            rw [List.append_nil] at w3 e3
            obtain ⟨a, ha, us, h1, h2⟩ := w3.get hacc
            rw [hDm] at ha; cases ha
            have eD : Ext H1 m1 H (m1 ++ [D]) := e2.trans e3
            have hnl : ∀ o ∈ Me.take m1.length, nlO m1.length o = true := by
              rw [hn1] at c2
              rcases c2 with c2 | c2
              · rw [c2]; exact w1.nl
              · exact nlM_ok c2
            have hlen : m1.length = (Me.take m1.length).length := by
              rw [List.length_take, c1, hn1]; omega
            rw [hn1] at P c3
            have := P (del H D) m1 (e1.trans (eD.del (ws := us) (by simp))) (w3.del rfl hlen hnl h1 (by simp)) us D (Rls.del h1 (by simp) h2 c3) del_same
            rw [upd_del h1] at this
            exact this
          · cases hf
        · cases hf
theorem ce_lc (hc : X.calm = true) (hN : X.N.Nodup) (hi : CIx X tg iter it) (ok : BlkOk X.N X.env.scope scope own)
    (hg : ∀ (s : Shared) (H : Hp) (C : Addr) (cl : List (Str × Addr)) (fp : List Addr), PG (X.blk s H scope (compEnvC scope cl C X.env) fp) tg (tGw X.K (own.map (·.2)) g)) (ht : ∀ (s : Shared) (H : Hp) (C : Addr) (cl : List (Str × Addr)) (fp : List Addr), PTs (X.blk s H scope (compEnvC scope cl C X.env) fp) ifs (tT X.K tt))
    (he : ∀ (s : Shared) (H : Hp) (C : Addr) (cl : List (Str × Addr)) (fp : List Addr), PE (X.blk s H scope (compEnvC scope cl C X.env) fp) elt (tE X.K te)) (hs : ∀ x, foldedSetIterable iter X.env x = pure x := by intro _; rfl) :
    CEx X (.ListComp elt [⟨tg, iter, ifs, 0⟩] scope pos) (cLc it (own.map (·.2)) g tt te) := PE.imp (pe_lc hc hN hi ok hg ht he hs) fun _ _ _ h => lc_of h
theorem cs_setLc {i : Nat} {y : Str} {py spos : Pos} (hc : X.calm = true) (hN : X.N.Nodup) (hy : X.N[i]? = some y) (hyl : X.env.scope.names.lookup y = some .local)
    (hsw : swapsWith (.ListComp elt [⟨tg, iter, ifs, 0⟩] scope pos) (some (.Name y py)) spos.line X.env = pure true) (hi : CIx X tg iter it) (ok : BlkOk X.N X.env.scope scope own)
    (hg : ∀ (s : Shared) (H : Hp) (C : Addr) (cl : List (Str × Addr)) (fp : List Addr), PG (X.blk s H scope (compEnvC scope cl C X.env) fp) tg (tGw X.K (own.map (·.2)) g)) (ht : ∀ (s : Shared) (H : Hp) (C : Addr) (cl : List (Str × Addr)) (fp : List Addr), PTs (X.blk s H scope (compEnvC scope cl C X.env) fp) ifs (tT X.K tt))
    (he : ∀ (s : Shared) (H : Hp) (C : Addr) (cl : List (Str × Addr)) (fp : List Addr), PE (X.blk s H scope (compEnvC scope cl C X.env) fp) elt (tE X.K te)) (hs : ∀ x, foldedSetIterable iter X.env x = pure x := by intro _; rfl) :
    PS X (.Assign [.Name y py] (.ListComp elt [⟨tg, iter, ifs, 0⟩] scope pos) spos) (tAsg (tE X.K (cLc it (own.map (·.2)) g tt te)) (gName i)) := PS.imp (ps_setLc hc hN hy hyl hsw hi ok hg ht he hs) fun Dn σ H h => lc_of h
theorem cts_nil : PTs X [] (tT X.K tYesF) := ⟨fun pins s σ H Q I h => by
  obtain ⟨ρ, M, m, b, M', rs, w, hf, P⟩ := h
  cases hf
  exact pts_nil.run pins s σ H Q I (P H m .refl w)⟩
theorem cts_one {c : Expr} (h : CTx X c tt) : PTs X [c] (tT X.K tt) := pts_one h
end
end CI

/-! Ci12: stars in displays, list(range), enumerate; comprehensions reckoned -/
namespace CI
open PySem PySem.Spec PyProof.Rows L2
def oLenD : Cop := fun ds M => match ds with
  | [.loc k] => match M[k]? with
    | some (.dct kvs) => some (.val (.int kvs.length))
    | _ => none
  | _ => none
section
variable {X : Cx} {e : Expr} {es : List Expr} {f : Ef} {g : Af} {p pos : Pos}
/-- the items of a starred sequence are read when it is met: what follows does not change them -/
def aStar' (f : Ef) (g : Af) : Af := fun ρ M => (f ρ M).bind fun p => (asS p.2 p.1.d).bind fun ds => (g ρ p.2).bind fun q => some (ds ++ q.1, q.2)
theorem ca_star (he : CEx X e f) (hr : CAx X es g) (hs : starEach (.Starred e p :: es) X.env = (true, eval e X.env) :: starEach es X.env := by rfl) : CAx X (.Starred e p :: es) (aStar' f g) := PA.imp (StX.pa_star he hr hs) fun σ H Q ⟨ρ, M, m, ds, M', rs, w, hf, P⟩ => by
  unfold aStar' at hf
  cases ea : f ρ M with
  | none => rw [ea] at hf; cases hf
  | some p =>
    cases es : asS p.2 p.1.d with
    | none => simp [ea, es] at hf
    | some zs =>
      cases eb : g ρ p.2 with
      | none => simp [ea, es, eb] at hf
      | some q =>
        simp [ea, es, eb] at hf
        obtain ⟨rfl, rfl⟩ := hf
        refine bindE rs w ea fun H1 m1 v e1 w1 rs1 r1 => ?_
        obtain ⟨a, us, rfl, h1, h2⟩ := asS_ok w1 r1 es
        refine ⟨a, us, rfl, h1.symm, bindA rs1 w1 eb fun H2 m2 vs e2 w2 rs2 r2 => P H2 m2 _ (e1.trans e2) w2 ((h2.ext e2).append r2)⟩
/-- list(range(a, b)), tuple(range(a, b)) -/
def bRg (a b : Int) : Bool := rgB a && rgB b && decide ((b - a).toNat ≤ 16777216)
def cLRg (fa fb : Ef) : Ef := fun ρ M => (fa ρ M).bind fun p => (fb ρ p.2).bind fun q => match p.1.d, q.1.d with
  | .int i, .int j => if bRg i j = true then some (.new (rgD i (j - i).toNat), q.2) else none
  | _, _ => none
theorem rls_rg {K : PySem.W.Frag} {H : Hp} {m : List Addr} {lo hi : Int} : Rls K H m (rgD lo (hi - lo).toNat) (rgV lo hi) := by
  unfold rgD rgV
  generalize (List.range (hi - lo).toNat) = l
  induction l with
  | nil => simp [Rls]
  | cons i l ih =>
    rw [List.map_cons, List.map_cons, Rls]
    exact ⟨_, _, rfl, by rw [Rl], ih⟩
theorem ce_lrg2 {a b : Expr} {fa fb : Ef} {p2 pos2 : Pos} (hc : X.calm = true) (hg : Gl X "list") (hm : X.mg "list" = none) (hg2 : Gl X "range") (hm2 : X.mg "range" = none) (ha : CEx X a fa) (hb : CEx X b fb)
    (na : starEach [a, b] X.env = (false, eval a X.env) :: starEach [b] X.env := by rfl) (nb : starEach [b] X.env = (false, eval b X.env) :: starEach [] X.env := by rfl)
    (nr : starEach [.Call (.Name "range" p2) [a, b] [] pos2] X.env = (false, eval (.Call (.Name "range" p2) [a, b] [] pos2) X.env) :: starEach [] X.env := by rfl) (hp : (backTo pos2 (starEach [b] X.env)).any (·.1) = false := by rfl) :
    CEx X (.Call (.Name "list" p) [.Call (.Name "range" p2) [a, b] [] pos2] [] pos) (cLRg fa fb) := PE.imp (pe_listRg hc hg hm (prg_2 hg2 hm2 ha hb na nb hp) nr) fun σ H Q h => by
  obtain ⟨ρ, M, m, z, M', rs, w, hf, P⟩ := h
  unfold cLRg at hf
  cases ea : fa ρ M with
  | none => rw [ea] at hf; cases hf
  | some p =>
    cases eb : fb ρ p.2 with
    | none => simp [ea, eb] at hf
    | some q =>
      simp only [ea, eb, Option.bind_some] at hf
      refine bindE rs w ea fun H1 m1 v e1 w1 rs1 r1 => bindE rs1 w1 eb fun H2 m2 u e2 w2 rs2 r2 => ?_
      split at hf
      · rename_i i j hi hj
        split at hf
        · rename_i hb
          cases hf
          rw [hi, Rl] at r1; subst r1
          rw [hj, Rl] at r2; subst r2
          unfold bRg at hb
          simp only [Bool.and_eq_true, decide_eq_true_eq] at hb
          refine ⟨i, j, rfl, rfl, ⟨(rgB_ok hb.1.1).1, (rgB_ok hb.1.1).2, (rgB_ok hb.1.2).1, (rgB_ok hb.1.2).2, hb.2⟩, ?_⟩
          exact (P.ext (e1.trans e2)).new w2 rls_rg
        · cases hf
      · cases hf
theorem ce_lrg1 {a : Expr} {fa : Ef} {p2 pos2 : Pos} (hc : X.calm = true) (hg : Gl X "list") (hm : X.mg "list" = none) (hg2 : Gl X "range") (hm2 : X.mg "range" = none) (ha : CEx X a fa)
    (na : starEach [a] X.env = (false, eval a X.env) :: starEach [] X.env := by rfl)
    (nr : starEach [.Call (.Name "range" p2) [a] [] pos2] X.env = (false, eval (.Call (.Name "range" p2) [a] [] pos2) X.env) :: starEach [] X.env := by rfl) :
    CEx X (.Call (.Name "list" p) [.Call (.Name "range" p2) [a] [] pos2] [] pos) (cLRg (cInt 0) fa) := PE.imp (pe_listRg hc hg hm (prg_1 hg2 hm2 ha na) nr) fun σ H Q h => by
  obtain ⟨ρ, M, m, z, M', rs, w, hf, P⟩ := h
  unfold cLRg at hf
  rw [show cInt 0 ρ M = some (.val (.int 0), M) from rfl] at hf
  simp only [Option.bind_some] at hf
  cases eb : fa ρ M with
  | none => simp [eb] at hf
  | some q =>
    simp only [eb, Option.bind_some] at hf
    refine bindE rs w eb fun H2 m2 u e2 w2 rs2 r2 => ?_
    split at hf
    · rename_i i j hi hj
      split at hf
      · rename_i hb
        cases hf
        rw [hj, Rl] at r2; subst r2
        cases hi
        unfold bRg at hb
        simp only [Bool.and_eq_true, decide_eq_true_eq] at hb
        refine ⟨j, rfl, ⟨(rgB_ok hb.1.1).1, (rgB_ok hb.1.1).2, (rgB_ok hb.1.2).1, (rgB_ok hb.1.2).2, hb.2⟩, ?_⟩
        exact (P.ext e2).new w2 rls_rg
      · cases hf
    · cases hf
/-- enumerate -/
def iEnumF (f : Ef) : If := fun ρ M => (f ρ M).bind fun p => (asL p.2 p.1.d).bind fun ds => some (((List.range ds.length).zip ds).map fun q => D.tup [.int q.1, q.2], gkOf p.1.d, p.2)
end

/-! ### comprehensions whose parts change nothing -/
theorem lcF_pure {g : Gf} {tt : Tf} {te : Ef} {ρw : Slots} {M : Mem} {gk : Option Nat} {ds0 : List D} {p : D → Bool} {h : D → D} (hgd : ∀ x : O, guard gk ds0 (M ++ [x])) : ∀ (ds acc : List D), acc.length + ds.length < 16777216 →
    (∀ d ∈ ds, ∀ acc, ∃ ρ2, g d ρw (M ++ [.lst acc]) = some (ρ2, M ++ [.lst acc]) ∧ tt ρ2 (M ++ [.lst acc]) = some (p d, M ++ [.lst acc]) ∧ (p d = true → ∃ r, te ρ2 (M ++ [.lst acc]) = some (r, M ++ [.lst acc]) ∧ r.d = h d)) →
    lcF g tt te ρw M.length gk ds0 ds (M ++ [.lst acc]) = some (M ++ [.lst (acc ++ (ds.filter p).map h)])
  | [], acc, _, _ => by unfold lcF; simp
  | d :: ds, acc, hl, hd => by
    obtain ⟨ρ2, e1, e2, e3⟩ := hd d List.mem_cons_self acc
    have ih := fun acc' hl' => lcF_pure hgd ds acc' hl' fun d' h' => hd d' (List.mem_cons_of_mem _ h')
    unfold lcF
    rw [e1]
    simp only [Option.bind_some]
    rw [e2]
    simp only [Option.bind_some]
    cases hp : p d with
    | true =>
      obtain ⟨r, e4, e5⟩ := e3 hp
      simp only [if_true]
      rw [e4]
      simp only [Option.bind_some]
      rw [get_end]
      simp only
      have hz : acc.length < sizeLine := by rw [line_lt]; simp at hl; omega
      rw [if_pos hz, set_end, if_pos (hgd _), ih _ (by simp at hl ⊢; omega), e5]
      simp [hp]
    | false =>
      simp only [Bool.false_eq_true, if_false]
      rw [if_pos (hgd _), ih _ (by simp at hl ⊢; omega)]
      simp [hp]
theorem guard_app {gk : Option Nat} {ds : List D} {M : Mem} (h : guard gk ds M) (x : O) : guard gk ds (M ++ [x]) := fun k e => by
  have := h k e
  rw [List.getElem?_append_left (List.getElem?_eq_some_iff.mp this).1]; exact this
theorem nls_all {n : Nat} : ∀ {ds : List D}, (∀ d ∈ ds, nl n d = true) → nls n ds = true
  | [], _ => rfl
  | d :: ds, h => by rw [nls, h d List.mem_cons_self, nls_all fun e he => h e (List.mem_cons_of_mem _ he)]; rfl
theorem cLc_pure {it : If} {vs : List Nat} {g : Gf} {tt : Tf} {te : Ef} {ρ : Slots} {M : Mem} {gk : Option Nat} {ds : List D} (p : D → Bool) (h : D → D) (hi : it ρ M = some (ds, gk, M)) (hgd : guard gk ds M) (hl : ds.length < 16777216)
    (hd : ∀ d ∈ ds, ∀ acc, ∃ ρ2, g d (wipeD ρ vs) (M ++ [.lst acc]) = some (ρ2, M ++ [.lst acc]) ∧ tt ρ2 (M ++ [.lst acc]) = some (p d, M ++ [.lst acc]) ∧ (p d = true → ∃ r, te ρ2 (M ++ [.lst acc]) = some (r, M ++ [.lst acc]) ∧ r.d = h d))
    (hn : ∀ d ∈ ds, p d = true → nl M.length (h d) = true) : cLc it vs g tt te ρ M = some (.new ((ds.filter p).map h), M) := by
  unfold cLc
  rw [hi]
  simp only [Option.bind_some]
  rw [lcF_pure (p := p) (h := h) (guard_app hgd) ds [] (by simpa using hl) hd]
  simp only [Option.bind_some, List.nil_append]
  rw [get_end]
  simp only
  rw [if_pos]
  · simp
  · refine ⟨by simp, .inl (by simp), nls_all fun e he => ?_⟩
    obtain ⟨d, hd', rfl⟩ := List.mem_map.mp he
    obtain ⟨h1, h2⟩ := List.mem_filter.mp hd'
    exact hn d h1 h2
@[simp] theorem wipeD_nil {ρ : Slots} : wipeD ρ [] = ρ := rfl
@[simp] theorem wipeD_cons {ρ : Slots} {v : Nat} {vs : List Nat} : wipeD ρ (v :: vs) = (wipeD ρ vs).set v none := rfl
@[simp] theorem tYesF_ap {ρ : Slots} {M : Mem} : tYesF ρ M = some (true, M) := rfl
@[simp] theorem aStar'_ap {f : Ef} {g : Af} {ρ : Slots} {M : Mem} : aStar' f g ρ M = (f ρ M).bind fun p => (asS p.2 p.1.d).bind fun ds => (g ρ p.2).bind fun q => some (ds ++ q.1, q.2) := rfl
@[simp] theorem cLRg_ap {fa fb : Ef} {ρ : Slots} {M : Mem} : cLRg fa fb ρ M = (fa ρ M).bind fun p => (fb ρ p.2).bind fun q => match p.1.d, q.1.d with
  | .int i, .int j => if bRg i j = true then some (.new (rgD i (j - i).toNat), q.2) else none
  | _, _ => none := rfl
@[simp] theorem filter_true {ds : List D} : ds.filter (fun _ => true) = ds := by simp
end CI

/-! Ci13: more to reckon with -/
namespace CI
open PySem PySem.Spec PyProof.Rows L2
/-- data to a depth -/
def plD : Nat → D → Bool
  | 0, _ => false
  | n + 1, d => match d with
    | .tup ds => decide (ds.length < 10000) && ds.all (plD n)
    | .lst ds => decide (ds.length < 10000) && ds.all (plD n)
    | .scr _ => false
    | .loc _ => false
    | _ => true
theorem plD_tup {n : Nat} {ds : List D} : plD (n + 1) (.tup ds) = (decide (ds.length < 10000) && ds.all (plD n)) := rfl
theorem plD_lst {n : Nat} {ds : List D} : plD (n + 1) (.lst ds) = (decide (ds.length < 10000) && ds.all (plD n)) := rfl
theorem plD_int {n : Nat} {i : Int} : plD (n + 1) (.int i) = true := rfl
theorem plD_ints {n : Nat} {l : List Int} : (l.map D.int).all (plD (n + 1)) = true := by
  rw [List.all_eq_true]; intro x hx
  obtain ⟨i, _, rfl⟩ := List.mem_map.mp hx; rfl
theorem sm_refl {M : Mem} : ∀ (n : Nat) (d : D), plD n d = true → Sm M n d d
  | 0, _, h => by cases h
  | n + 1, d, h => by
    cases d with
    | non => exact .inl ⟨rfl, .inl rfl⟩
    | bl b => exact .inl ⟨rfl, .inr (.inl ⟨b, rfl⟩)⟩
    | int b => exact .inl ⟨rfl, .inr (.inr (.inl ⟨b, rfl⟩))⟩
    | str b => exact .inl ⟨rfl, .inr (.inr (.inr ⟨b, rfl⟩))⟩
    | scr _ => cases h
    | loc _ => cases h
    | tup ds =>
      have h : (decide (ds.length < 10000) && ds.all (plD n)) = true := h
      rw [Bool.and_eq_true] at h
      refine .inr ⟨true, ds, ds, rfl, rfl, of_decide_eq_true h.1, rfl, fun i x y hx hy => ?_⟩
      rw [hx] at hy; cases hy
      exact sm_refl n x (List.all_eq_true.mp h.2 x (List.mem_of_getElem? hx))
    | lst ds =>
      have h : (decide (ds.length < 10000) && ds.all (plD n)) = true := h
      rw [Bool.and_eq_true] at h
      refine .inr ⟨false, ds, ds, rfl, rfl, of_decide_eq_true h.1, rfl, fun i x y hx hy => ?_⟩
      rw [hx] at hy; cases hy
      exact sm_refl n x (List.all_eq_true.mp h.2 x (List.mem_of_getElem? hx))
theorem plD_mono : ∀ {n : Nat} {d : D}, plD n d = true → plD (n + 1) d = true
  | 0, _, h => by cases h
  | n + 1, d, h => by
    cases d with
    | tup ds =>
      have h : (decide (ds.length < 10000) && ds.all (plD n)) = true := h
      show (decide (ds.length < 10000) && ds.all (plD (n + 1))) = true
      rw [Bool.and_eq_true] at h ⊢
      exact ⟨h.1, List.all_eq_true.mpr fun x hx => plD_mono (List.all_eq_true.mp h.2 x hx)⟩
    | lst ds =>
      have h : (decide (ds.length < 10000) && ds.all (plD n)) = true := h
      show (decide (ds.length < 10000) && ds.all (plD (n + 1))) = true
      rw [Bool.and_eq_true] at h ⊢
      exact ⟨h.1, List.all_eq_true.mpr fun x hx => plD_mono (List.all_eq_true.mp h.2 x hx)⟩
    | scr _ => cases h
    | loc _ => cases h
    | _ => rfl
theorem sm_list {M : Mem} {n : Nat} {d e : D} {b : Bool} {ds es : List D} (h1 : sh M d = some (b, ds)) (h2 : sh M e = some (b, es)) (hl : ds.length < 10000) (he : ds.length = es.length) (h : ∀ (i : Nat) (x y : D), ds[i]? = some x → es[i]? = some y → Sm M n x y) : Sm M (n + 1) d e :=
  .inr ⟨b, ds, es, h1, h2, hl, he, h⟩
theorem sh_loc {k : Nat} {M : Mem} {ds : List D} (h : M[k]? = some (.lst ds)) : sh M (.loc k) = some (false, ds) := by
  show (match M[k]? with | some (.lst ds) => some (false, ds) | _ => none) = _
  rw [h]
/-- None or an int -/
def stD : Option Int → D
  | none => .non
  | some i => .int i
@[simp] theorem nl_stD {n : Nat} {s : Option Int} : nl n (stD s) = true := by cases s <;> simp [stD, nl]
theorem eqB_st (a b : Option Int) (M : Mem) : eqB M (stD a) (stD b) = some (decide (a = b)) := by
  cases a with
  | none =>
    cases b with
    | none => simp [stD, eqB, py, py0, PyData.eqv]; decide
    | some j => simp [stD, eqB, py, py0, PyData.eqv]; exact ⟨by decide, rfl⟩
  | some i =>
    cases b with
    | none => simp [stD, eqB, py, py0, PyData.eqv]; exact ⟨rfl, by decide⟩
    | some j => simp [stD, eqB]
theorem oEq_st (a b : Option Int) (M : Mem) : oEq (stD a) (stD b) M = some (.val (.bl (decide (a = b)))) := by
  unfold oEq; rw [eqB_st]; rfl
@[simp] theorem isNon_st {s : Option Int} : isNon (stD s) = s.isNone := by cases s <;> rfl
theorem draws4 (cell : Int) (M : Mem) : ∃ a b c d : Int, (0 ≤ a ∧ a < 1000) ∧ (0 ≤ b ∧ b < 1000) ∧ (0 ≤ c ∧ c < 1000) ∧ (0 ≤ d ∧ d < 1000) ∧ F_draws [.int cell, .int 4] M = some (.new [.int a, .int b, .int c, .int d], M) := by
  obtain ⟨rows, hl, hb, hd⟩ := draws_ok cell 4 (by decide) M
  match rows, hl with
  | [a, b, c, d], _ => exact ⟨a, b, c, d, hb a (by simp), hb b (by simp), hb c (by simp), hb d (by simp), hd⟩
end CI

namespace K48
open PySem PySem.Spec PyProof.Rows L2 CI
noncomputable def B__law_draws : Sf :=
    (sCons (sSetM 2 (cLst aNil))
    (sCons (sSet 3 (cCB oInt (aCons (cVar 0) aNil)))
    (sCons (sIf (toB (cBin oGe (cVar 3) (cBin oPow (cInt (10)) (cInt (18)))))
    (sFor (iRg1 (cVar 1)) (gNm 5)
    (sIf (toB (cBin oGt (cVar 3) (cInt (0))))
    (sCons (sExpr (cBM "list" oAppend (cVar 2) (aCons (cBin oMod (cCB oInt (aCons (cVar 3) aNil)) (cInt (1000))) aNil)))
    (sSet 3 (cBin oDiv (cVar 3) (cInt (1000)))))
    sNil))
    sNil)
    (sCons (sSet 4 (cBin oMod (cCB oInt (aCons (cBin oAdd (cBin oMulI (cCB oInt (aCons (cVar 0) aNil)) (cInt (48271))) (cInt (11))) aNil)) (cInt (2147483647))))
    (sCons (sFor (iRg1 (cVar 1)) (gNm 5)
    (sCons (sSet 4 (cBin oMod (cCB oInt (aCons (cBin oAdd (cBin oAdd (cBin oMulI (cVar 4) (cInt (48271))) (cBin oMulI (cVar 5) (cInt (69621)))) (cInt (7))) aNil)) (cInt (2147483647))))
    (sIf (toB (cBin oLt (cCB oLen (aCons (cVar 2) aNil)) (cVar 1)))
    (sExpr (cBM "list" oAppend (cVar 2) (aCons (cBin oMod (cCB oInt (aCons (cBin oMod (cCB oInt (aCons (cBin oAdd (cBin oMulI (cVar 4) (cInt (69621))) (cInt (5))) aNil)) (cInt (2147483629))) aNil)) (cInt (1000))) aNil)))
    sNil)))
    (sRet (cVar 2)))))))
noncomputable def F__law_draws : Fn := mkFn 2 6 B__law_draws
noncomputable def B_Association_init : Sf :=
    (sCons (sFldS ["Association"] "tag" (cVar 0) (cVar 1))
    (sCons (sFldS ["Association"] "peer" (cVar 0) (cVar 2))
    (sCons (sFldS ["Association"] "paths" (cVar 0) (cCB oTuple (aCons (cVar 3) aNil)))
    (sCons (sFldM ["Association"] "given" (cVar 0) (cLst aNil))
    (sCons (sFldS ["Association"] "sent" (cVar 0) (cInt (0)))
    (sCons (sFldS ["Association"] "acked" (cVar 0) (cInt (0)))
    (sCons (sFldS ["Association"] "beyond" (cVar 0) (cLst aNil))
    (sCons (sFldS ["Association"] "up_to" (cVar 0) (cInt (0)))
    (sCons (sFldS ["Association"] "arrived" (cVar 0) (cLst aNil))
    (sCons (sFldS ["Association"] "waiting" (cVar 0) (cLst aNil))
    (sCons (sFldS ["Association"] "delivered" (cVar 0) (cLst aNil))
    (sCons (sFldS ["Association"] "serial_in" (cVar 0) (cInt (0)))
    (sCons (sFldS ["Association"] "serial_out" (cVar 0) (cInt (0)))
    (sCons (sFldS ["Association"] "serial_acked" (cVar 0) (cInt (0)))
    (sFldS ["Association"] "closing" (cVar 0) (cStr "no"))))))))))))))))
noncomputable def F_Association_init : Fn := mkFn 4 4 B_Association_init
noncomputable def B__law_stream : Sf :=
    (sCons (sIf (toB (cBin oEq (cBin oMod (cCB oInt (aCons (cVar 0) aNil)) (cInt (4))) (cInt (0))))
    (sRet cNon)
    sNil)
    (sRet (cBin oIx (cLst (aCons (cInt (0)) (aCons (cInt (3)) (aCons (cInt (15)) aNil)))) (cBin oMod (cCB oInt (aCons (cVar 0) aNil)) (cInt (3))))))
noncomputable def F__law_stream : Fn := mkFn 1 1 B__law_stream
noncomputable def B__law_text : Sf :=
    (sRet (cCB oTuple (aCons (cLc (iRg1 (cBin oMod (cCB oInt (aCons (cBin oIx (cVar 0) (cVar 1)) aNil)) (cInt (4)))) [2] (gNm 2) tYesF (cBin oMod (cCB oInt (aCons (cBin oAdd (cBin oIx (cVar 0) (cBin oAdd (cVar 1) (cInt (1)))) (cBin oMulI (cInt (31)) (cVar 2))) aNil)) (cInt (256)))) aNil)))
noncomputable def F__law_text : Fn := mkFn 2 3 B__law_text
noncomputable def B__law_given : Sf :=
    (sCons (sSetM 3 (cLst aNil))
    (sCons (sFor (iSeq (cSl (cVar 0) (sSome (cVar 1)) (sSome (cBin oAdd (cVar 1) (cVar 2))))) (gNm 4)
    (sCons (sSet 5 (cCall F__law_draws (aCons (cVar 4) (aCons (cInt (4)) aNil))))
    (sCons (sSet 6 (cCall F__law_stream (aCons (cBin oIx (cVar 5) (cInt (0))) aNil)))
    (sCons (sSet 7 (cInt (0)))
    (sCons (sIf (toB (cBin (oIs true) (cVar 6) cNon))
    (sSet 7 (cCB oLen (aCons (cLc (iSeq (cVar 3)) [8] (gNm 8) (toB (cBin oEq (cBin oIx (cVar 8) (cInt (1))) (cVar 6))) (cVar 8)) aNil)))
    sNil)
    (sExpr (cBM "list" oAppend (cVar 3) (aCons (cTup (aCons (cBin oAdd (cCB oLen (aCons (cVar 3) aNil)) (cInt (1))) (aCons (cVar 6) (aCons (cVar 7) (aCons (cCall F__law_text (aCons (cVar 5) (aCons (cInt (1)) aNil))) aNil))))) aNil))))))))
    (sRet (cVar 3))))
noncomputable def F__law_given : Fn := mkFn 3 9 B__law_given
noncomputable def B__law_same (F : Fn) : Sf :=
    (sCons (sIf (toB (cBin (oIs false) (cVar 1) cNon))
    (sRet (cBin (oIs false) (cVar 0) cNon))
    sNil)
    (sCons (sIf (toB (cBin (oIs false) (cVar 1) (cBl true)))
    (sRet (cBin (oIs false) (cVar 0) (cBl true)))
    sNil)
    (sCons (sIf (toB (cBin (oIs false) (cVar 1) (cBl false)))
    (sRet (cBin (oIs false) (cVar 0) (cBl false)))
    sNil)
    (sCons (sIf (toTr (cIsI "int" (cVar 1)))
    (sRet (cAnd (cIsI "int" (cVar 0)) (cAnd (cNot (cIsI "bool" (cVar 0))) (cBin oEq (cVar 0) (cVar 1)))))
    sNil)
    (sCons (sIf (toTr (cIsI "str" (cVar 1)))
    (sRet (cAnd (cIsI "str" (cVar 0)) (cBin oEq (cVar 0) (cVar 1))))
    sNil)
    (sCons (sIf (kAnd (toTr (cIsI "tuple" (cVar 1))) (kNot (toTr (cIsI "tuple" (cVar 0)))))
    (sRet (cBl false))
    sNil)
    (sCons (sIf (kAnd (toTr (cIsI "list" (cVar 1))) (kNot (toTr (cIsI "list" (cVar 0)))))
    (sRet (cBl false))
    sNil)
    (sCons (sIf (toB (cBin oNe (cCB oLen (aCons (cVar 0) aNil)) (cCB oLen (aCons (cVar 1) aNil))))
    (sRet (cBl false))
    sNil)
    (sCons (sFor (iRg1 (cCB oLen (aCons (cVar 1) aNil))) (gNm 2)
    (sIf (kNot (toTr (cCall (F) (aCons (cBin oIx (cVar 0) (cVar 2)) (aCons (cBin oIx (cVar 1) (cVar 2)) aNil)))))
    (sRet (cBl false))
    sNil))
    (sRet (cBl true)))))))))))
noncomputable def F__law_same : Nat → Fn
  | 0 => fun _ _ => none
  | n + 1 => mkFn 2 3 (B__law_same (F__law_same n))
noncomputable def B__law_cell : Sf :=
    (sCons (sIf (toB (cBin oLt (cVar 1) (cCB oLen (aCons (cVar 0) aNil))))
    (sRet (cCB oInt (aCons (cBin oIx (cVar 0) (cVar 1)) aNil)))
    sNil)
    (sRet (cInt (0))))
noncomputable def F__law_cell : Fn := mkFn 2 2 B__law_cell
noncomputable def B_of_stream : Sf :=
    (sRet (cLc (iSeq (cVar 0)) [2] (gNm 2) (toB (cBin oEq (cBin oIx (cVar 2) (cInt (1))) (cVar 1))) (cVar 2)))
noncomputable def F_of_stream : Fn := mkFn 2 3 B_of_stream
noncomputable def B_next_message : Sf :=
    (sCons (sSet 3 (cIf (toB (cBin (oIs false) (cVar 1) cNon)) (cInt (0)) (cCB oLen (aCons (cCall F_of_stream (aCons (cFld ["Association"] "given" (cVar 0)) (aCons (cVar 1) aNil))) aNil))))
    (sRet (cTup (aCons (cBin oAdd (cCB oLen (aCons (cFld ["Association"] "given" (cVar 0)) aNil)) (cInt (1))) (aCons (cVar 1) (aCons (cVar 3) (aCons (cCB oTuple (aCons (cVar 2) aNil)) aNil)))))))
noncomputable def F_next_message : Fn := mkFn 3 4 B_next_message
noncomputable def B_Association_has_tags : Sf :=
    (sRet (cAnd (cBin oEq (cFld ["Association"] "tag" (cVar 0)) (cVar 1)) (cBin oEq (cFld ["Association"] "peer" (cVar 0)) (cVar 2))))
noncomputable def F_Association_has_tags : Fn := mkFn 3 3 B_Association_has_tags
noncomputable def B_Association_all_acked : Sf :=
    (sRet (cBin oGe (cFld ["Association"] "acked" (cVar 0)) (cCB oLen (aCons (cFld ["Association"] "given" (cVar 0)) aNil))))
noncomputable def F_Association_all_acked : Fn := mkFn 1 1 B_Association_all_acked
noncomputable def B_Association_message : Sf :=
    (sRet (cBin oIx (cFld ["Association"] "given" (cVar 0)) (cBin oSub (cVar 1) (cInt (1)))))
noncomputable def F_Association_message : Fn := mkFn 2 2 B_Association_message
noncomputable def B_law : Sf :=
    (sCons (sSet 1 (cCall F__law_draws (aCons (cCall F__law_cell (aCons (cVar 0) (aCons (cInt (0)) aNil))) (aCons (cInt (4)) aNil))))
    (sCons (sSetM 2 (cLst (aCons (cBin oMod (cCB oInt (aCons (cBin oIx (cVar 1) (cInt (2))) aNil)) (cInt (256))) aNil)))
    (sCons (sSet 3 (cNew "Association" F_Association_init (aCons (cBin oIx (cVar 1) (cInt (0))) (aCons (cBin oIx (cVar 1) (cInt (1))) (aCons (cVar 2) aNil)))))
    (sCons (sExpr (cBM "list" oAppend (cVar 2) (aCons (cInt (7)) aNil)))
    (sCons (sSet 4 (cLst (aCons (cFld ["Association"] "given" (cVar 3)) (aCons (cFld ["Association"] "waiting" (cVar 3)) (aCons (cFld ["Association"] "delivered" (cVar 3)) (aCons (cFld ["Association"] "beyond" (cVar 3)) (aCons (cFld ["Association"] "arrived" (cVar 3)) aNil)))))))
    (sCons (sIf (kOr (kNot (toTr (cCall (F__law_same 8) (aCons (cVar 4) (aCons (cLst (aCons (cLst aNil) (aCons (cLst aNil) (aCons (cLst aNil) (aCons (cLst aNil) (aCons (cLst aNil) aNil)))))) aNil))))) (kNot (toTr (cCall (F__law_same 8) (aCons (cLst (aCons (cFld ["Association"] "sent" (cVar 3)) (aCons (cFld ["Association"] "acked" (cVar 3)) (aCons (cFld ["Association"] "up_to" (cVar 3)) aNil)))) (aCons (cLst (aCons (cInt (0)) (aCons (cInt (0)) (aCons (cInt (0)) aNil)))) aNil))))))
    (sRet (cBl false))
    sNil)
    (sCons (sSet 5 (cCall F__law_given (aCons (cVar 0) (aCons (cInt (1)) (aCons (cInt (40)) aNil)))))
    (sCons (sFor (iSeq (cVar 5)) (gNm 6)
    (sCons (sFor (iSeq (cLst (aCons cNon (aCons (cInt (0)) (aCons (cInt (3)) (aCons (cInt (15)) (aCons (cInt (7)) aNil))))))) (gNm 7)
    (sCons (sSet 9 (cCall F_next_message (aCons (cVar 3) (aCons (cVar 7) (aCons (cLst (aCons (cInt (1)) (aCons (cInt (2)) aNil))) aNil)))))
    (sCons (sSet 10 (cInt (0)))
    (sCons (sIf (toB (cBin (oIs true) (cVar 7) cNon))
    (sSet 10 (cCB oLen (aCons (cLc (iSeq (cFld ["Association"] "given" (cVar 3))) [11] (gNm 11) (toB (cBin oEq (cBin oIx (cVar 11) (cInt (1))) (cVar 7))) (cVar 11)) aNil)))
    sNil)
    (sIf (kNot (toTr (cCall (F__law_same 8) (aCons (cVar 9) (aCons (cTup (aCons (cBin oAdd (cCB oLen (aCons (cFld ["Association"] "given" (cVar 3)) aNil)) (cInt (1))) (aCons (cVar 7) (aCons (cVar 10) (aCons (cTup (aCons (cInt (1)) (aCons (cInt (2)) aNil))) aNil))))) aNil)))))
    (sRet (cBl false))
    sNil)))))
    (sCons (sSet 9 (cCall F_next_message (aCons (cVar 3) (aCons (cBin oIx (cVar 6) (cInt (1))) (aCons (cCB oList (aCons (cBin oIx (cVar 6) (cInt (3))) aNil)) aNil)))))
    (sCons (sIf (kOr (kNot (toTr (cCall (F__law_same 8) (aCons (cVar 9) (aCons (cVar 6) aNil))))) (toB (cBin oNe (cCB oLen (aCons (cFld ["Association"] "given" (cVar 3)) aNil)) (cBin oSub (cBin oIx (cVar 6) (cInt (0))) (cInt (1))))))
    (sRet (cBl false))
    sNil)
    (sCons (sExpr (cBM "list" oAppend (cFld ["Association"] "given" (cVar 3)) (aCons (cVar 9) aNil)))
    (sIf (kOr (kNot (toTr (cCall (F__law_same 8) (aCons (cMeth "Association" "message" F_Association_message (cVar 3) (aCons (cBin oIx (cVar 6) (cInt (0))) aNil)) (aCons (cVar 6) aNil))))) (kNot (toTr (cCall (F__law_same 8) (aCons (cMeth "Association" "message" F_Association_message (cVar 3) (aCons (cInt (1)) aNil)) (aCons (cBin oIx (cVar 5) (cInt (0))) aNil))))))
    (sRet (cBl false))
    sNil))))))
    (sCons (sFor (iSeq (cLst (aCons cNon (aCons (cInt (0)) (aCons (cInt (3)) (aCons (cInt (15)) (aCons (cInt (7)) aNil))))))) (gNm 7)
    (sIf (kNot (toTr (cCall (F__law_same 8) (aCons (cCall F_of_stream (aCons (cVar 5) (aCons (cVar 7) aNil))) (aCons (cLc (iSeq (cVar 5)) [6] (gNm 6) (toB (cBin oEq (cBin oIx (cVar 6) (cInt (1))) (cVar 7))) (cVar 6)) aNil)))))
    (sRet (cBl false))
    sNil))
    (sCons (sSet 8 (cLst (aCons (cMeth "Association" "has_tags" F_Association_has_tags (cVar 3) (aCons (cBin oIx (cVar 1) (cInt (0))) (aCons (cBin oIx (cVar 1) (cInt (1))) aNil))) (aCons (cMeth "Association" "has_tags" F_Association_has_tags (cVar 3) (aCons (cBin oAdd (cBin oIx (cVar 1) (cInt (1))) (cInt (1))) (aCons (cBin oIx (cVar 1) (cInt (1))) aNil))) (aCons (cMeth "Association" "has_tags" F_Association_has_tags (cVar 3) (aCons (cBin oIx (cVar 1) (cInt (0))) (aCons (cBin oAdd (cBin oIx (cVar 1) (cInt (1))) (cInt (1))) aNil))) aNil)))))
    (sCons (sSet 9 (cLst (aCons (cFld ["Association"] "tag" (cVar 3)) (aCons (cFld ["Association"] "peer" (cVar 3)) (aCons (cFld ["Association"] "paths" (cVar 3)) (aCons (cFld ["Association"] "closing" (cVar 3)) (aCons (cMeth "Association" "all_acked" F_Association_all_acked (cVar 3) aNil) aNil)))))))
    (sCons (sIf (kNot (toTr (cCall (F__law_same 8) (aCons (cVar 9) (aCons (cLst (aCons (cBin oIx (cVar 1) (cInt (0))) (aCons (cBin oIx (cVar 1) (cInt (1))) (aCons (cTup (aCons (cBin oMod (cCB oInt (aCons (cBin oIx (cVar 1) (cInt (2))) aNil)) (cInt (256))) aNil)) (aCons (cStr "no") (aCons (cBin oEq (cCB oLen (aCons (cVar 5) aNil)) (cInt (0))) aNil)))))) aNil)))))
    (sRet (cBl false))
    sNil)
    (sRet (cCall (F__law_same 8) (aCons (cVar 8) (aCons (cLst (aCons (cBl true) (aCons (cBin oEq (cBin oAdd (cBin oIx (cVar 1) (cInt (1))) (cInt (1))) (cBin oIx (cVar 1) (cInt (0)))) (aCons (cBl false) aNil)))) aNil))))))))))))))))
noncomputable def F_law : Fn := mkFn 1 12 B_law
end K48
namespace K48
open PySem PySem.Spec PyProof.Rows L2 CI
theorem draws_eq : F__law_draws = F_draws := rfl
theorem same_eq : ∀ n, F__law_same n = F_same n
  | 0 => rfl
  | n + 1 => by
    show mkFn 2 3 (B__law_same (F__law_same n)) = mkFn 2 3 (B_same (F_same n))
    rw [same_eq n]; rfl
/-- a message without its number and place -/
structure Rw where
  st : Option Int
  codes : List Int
def cnt (rs : List Rw) (s : Option Int) : Nat := if s = none then 0 else (rs.filter fun r => decide (r.st = s)).length
def rowOf (prev : List Rw) (r : Rw) : D := .tup [.int ((prev.length : Int) + 1), stD r.st, .int (cnt prev r.st), .tup (r.codes.map .int)]
def rowsA (prev : List Rw) : List Rw → List D
  | [] => []
  | r :: rs => rowOf prev r :: rowsA (prev ++ [r]) rs
def rowsD (rs : List Rw) : List D := rowsA [] rs
theorem rowsA_len : ∀ (rs prev : List Rw), (rowsA prev rs).length = rs.length
  | [], _ => rfl
  | r :: rs, prev => by simp [rowsA, rowsA_len rs]
@[simp] theorem rowsD_len {rs : List Rw} : (rowsD rs).length = rs.length := rowsA_len rs []
theorem rowsA_snoc : ∀ (rs prev : List Rw) (r : Rw), rowsA prev (rs ++ [r]) = rowsA prev rs ++ [rowOf (prev ++ rs) r]
  | [], prev, r => by simp [rowsA]
  | q :: rs, prev, r => by simp [rowsA, rowsA_snoc rs]
theorem rowsD_snoc (rs : List Rw) (r : Rw) : rowsD (rs ++ [r]) = rowsD rs ++ [rowOf rs r] := by unfold rowsD; rw [rowsA_snoc]; rfl
theorem rowsA_mem : ∀ {rs prev : List Rw} {d : D}, d ∈ rowsA prev rs → ∃ p r, d = rowOf p r ∧ r ∈ rs
  | [], _, _, h => by cases h
  | r :: rs, prev, d, h => by
    rcases List.mem_cons.mp h with e | e
    · exact ⟨prev, r, e, List.mem_cons_self⟩
    · obtain ⟨p, r', e1, e2⟩ := rowsA_mem e
      exact ⟨p, r', e1, List.mem_cons_of_mem _ e2⟩
/-- the stream of a row is s -/
def qs (s : Option Int) : D → Bool
  | .tup [_, .non, _, _] => decide (s = none)
  | .tup [_, .int i, _, _] => decide (some i = s)
  | _ => false
theorem qs_row {s : Option Int} {p : List Rw} {r : Rw} : qs s (rowOf p r) = decide (r.st = s) := by
  unfold rowOf
  cases hr : r.st with
  | none =>
    show decide (s = none) = decide (none = s)
    cases s <;> simp
  | some i => rfl
theorem rowsA_filter (s : Option Int) : ∀ (rs prev : List Rw), ((rowsA prev rs).filter (qs s)).length = (rs.filter fun r => decide (r.st = s)).length
  | [], _ => rfl
  | r :: rs, prev => by
    rw [rowsA, List.filter_cons, List.filter_cons, qs_row]
    split
    · simp [rowsA_filter s rs]
    · exact rowsA_filter s rs _
theorem ok_row {p : List Rw} {r : Rw} (h : r.codes.length < 100) : plD 4 (rowOf p r) = true := by
  have hs : plD 3 (stD r.st) = true := by cases r.st <;> rfl
  have ht : plD 3 (D.tup (r.codes.map .int)) = true := by
    rw [plD_tup, plD_ints, Bool.and_true]
    simp; omega
  unfold rowOf
  rw [plD_tup]
  simp only [List.all_cons, List.all_nil, hs, ht, plD_int]
  rfl
theorem nl_ints {n : Nat} {l : List Int} : nls n (l.map .int) = true := nls_ints
theorem nl_row {n : Nat} {p : List Rw} {r : Rw} : nl n (rowOf p r) = true := by
  unfold rowOf
  simp [nl, nls]
theorem nls_rows {n : Nat} {rs prev : List Rw} : nls n (rowsA prev rs) = true := nls_all fun d h => by
  obtain ⟨p, r, rfl, _⟩ := rowsA_mem h
  exact nl_row
theorem row_st {p : List Rw} {r : Rw} (M : Mem) : oIx (rowOf p r) (.int 1) M = some (.val (stD r.st)) := oIx_of (d := rowOf p r) (i := 1) rfl rfl
/-- the stream -/
theorem stream_eq (n : Int) : ∃ s : Option Int, ∀ M, F__law_stream [.int n] M = some (.val (stD s), M) := by
  unfold F__law_stream mkFn B__law_stream
  by_cases h : n % 4 = 0
  · exact ⟨none, fun M => by simp -implicitDefEqProofs [h, stD]⟩
  · have key : ∀ j : Nat, n % 3 = j → ∀ i, ([D.int 0, .int 3, .int 15] : List D)[j]? = some (.int i) → ∃ s : Option Int, ∀ M, (if ([D.int n].length = 1) then (match (sCons (sIf (toB (cBin oEq (cBin oMod (cCB oInt (aCons (cVar 0) aNil)) (cInt (4))) (cInt (0))))
    (sRet cNon)
    sNil)
    (sRet (cBin oIx (cLst (aCons (cInt (0)) (aCons (cInt (3)) (aCons (cInt (15)) aNil)))) (cBin oMod (cCB oInt (aCons (cVar 0) aNil)) (cInt (3)))))) ([D.int n].map some ++ List.replicate (1 - [D.int n].length) none) M with
  | some (.rt r, _, Me) => some (CI.finish M r Me)
  | some (.nx, _, Me) => some (CI.finish M (.val .non) Me)
  | _ => none) else none) = some (.val (stD s), M) := fun j hj i hi => ⟨some i, fun M => by
      have := fun M => oIx_of (M := M) (d := .lst [D.int 0, .int 3, .int 15]) rfl hi
      simp -implicitDefEqProofs [h, hj, this, stD]⟩
    have hx : n % 3 = 0 ∨ n % 3 = 1 ∨ n % 3 = 2 := by omega
    rcases hx with e | e | e
    · exact key 0 e 0 rfl
    · exact key 1 e 3 rfl
    · exact key 2 e 15 rfl
def tf (c : Int) : D → D
  | .int i => .int ((c + 31 * i) % 256)
  | d => d
theorem tf_int {c i : Int} : tf c (.int i) = .int ((c + 31 * i) % 256) := rfl
theorem text_eq (a b c d : Int) : ∃ codes : List Int, codes.length < 100 ∧ ∀ M, F__law_text [.lst [.int a, .int b, .int c, .int d], .int 1] M = some (.val (.tup (codes.map .int)), M) := by
  obtain ⟨j, hj, e⟩ : ∃ j : Nat, j < 4 ∧ b % 4 = j := ⟨(b % 4).toNat, by omega, by omega⟩
  refine ⟨(List.range j).map fun (i : Nat) => (c + 31 * (i : Int)) % 256, by simp; omega, fun M => ?_⟩
  have i1 : ∀ M, oIx (.lst [D.int a, .int b, .int c, .int d]) (.int 1) M = some (.val (.int b)) := fun M => oIx_of (M := M) (d := .lst [D.int a, .int b, .int c, .int d]) (i := 1) rfl rfl
  have i2 : ∀ M, oIx (.lst [D.int a, .int b, .int c, .int d]) (.int 2) M = some (.val (.int c)) := fun M => oIx_of (M := M) (d := .lst [D.int a, .int b, .int c, .int d]) (i := 2) rfl rfl
  have hrg : rgB (j : Int) = true := rgB_nat (by omega)
  have lc := fun M => cLc_pure (it := iRg1 (cBin oMod (cCB oInt (aCons (cBin oIx (cVar 0) (cVar 1)) aNil)) (cInt (4)))) (vs := [2]) (g := gNm 2) (tt := tYesF) (te := cBin oMod (cCB oInt (aCons (cBin oAdd (cBin oIx (cVar 0) (cBin oAdd (cVar 1) (cInt (1)))) (cBin oMulI (cInt (31)) (cVar 2))) aNil)) (cInt (256)))
    (ρ := [some (.lst [D.int a, .int b, .int c, .int d]), some (.int 1), none]) (M := M) (gk := none) (ds := rgD 0 j) (fun _ => true) (tf c) (by
      simp -implicitDefEqProofs [i1, e, hrg]) (by rw [guard_none]; trivial) (by rw [rgD_len]; omega) (by
      intro x hx acc
      unfold rgD at hx
      obtain ⟨i, _, rfl⟩ := List.mem_map.mp hx
      refine ⟨[some (.lst [D.int a, .int b, .int c, .int d]), some (.int 1), some (.int (0 + i))], rfl, rfl, fun _ => ⟨.val (.int ((c + 31 * (0 + i)) % 256)), ?_, rfl⟩⟩
      simp -implicitDefEqProofs [i2]) (by
      intro x hx _
      unfold rgD at hx
      obtain ⟨i, _, rfl⟩ := List.mem_map.mp hx
      simp [nl, tf_int])
  have hds : List.map (tf c) (rgD 0 j) = List.map D.int ((List.range j).map fun (i : Nat) => (c + 31 * (i : Int)) % 256) := by
    unfold rgD
    rw [List.map_map, List.map_map]
    refine List.map_congr_left fun i _ => ?_
    show tf c (.int (0 + i)) = _
    rw [tf_int, Int.zero_add]; rfl
  simp only [filter_true, hds] at lc
  have ot : ∀ M es, oTuple [.lst es] M = some (.val (.tup es)) := fun _ _ => rfl
  unfold F__law_text mkFn B__law_text
  simp -implicitDefEqProofs only [sRet_ap, cCB_ap, aCons_ap, List.length_cons, List.length_nil, List.map_cons, List.map_nil, List.replicate, List.cons_append, List.nil_append, if_true, lc, Option.bind_some, aNil_ap, Rz_d_new, ot, finish_same]
/-- [row for row in messages if row[1] == stream] -/
theorem lc_stream (sl : Nat) (f : Ef) (v : Nat) (ρ : Slots) (M : Mem) (L : D) (rs : List Rw) (st : Option Int) (hf : f ρ M = some (.val L, M)) (hL : asS M L = some (rowsD rs)) (hg : CI.guard (gkOf L) (rowsD rs) M) (hl : rs.length < 10000)
    (hv : slot ((wipeD ρ [sl]).set sl (some (.non))) v = some (stD st)) (hsv : v ≠ sl) (hs : sl < ρ.length) :
    cLc (iSeq f) [sl] (gNm sl) (toB (cBin oEq (cBin oIx (cVar sl) (cInt (1))) (cVar v))) (cVar sl) ρ M = some (.new ((rowsD rs).filter (qs st)), M) := by
  have q := cLc_pure (it := iSeq f) (vs := [sl]) (g := gNm sl) (tt := toB (cBin oEq (cBin oIx (cVar sl) (cInt (1))) (cVar v))) (te := cVar sl) (ρ := ρ) (M := M) (gk := gkOf L) (ds := rowsD rs) (qs st) id (by
      simp -implicitDefEqProofs [hf, hL]) hg (by rw [rowsD_len]; omega) (by
      intro d hd acc
      obtain ⟨p, r, rfl, _⟩ := rowsA_mem hd
      have e1 : slot ((wipeD ρ [sl]).set sl (some (rowOf p r))) sl = some (rowOf p r) := by
        unfold slot
        rw [List.getD_eq_getElem?_getD, List.getElem?_set_self (by simp; omega)]; rfl
      have e2 : slot ((wipeD ρ [sl]).set sl (some (rowOf p r))) v = some (stD st) := by
        unfold slot at hv ⊢
        rw [List.getD_eq_getElem?_getD, List.getElem?_set_ne (Ne.symm hsv)] at hv ⊢
        exact hv
      refine ⟨_, rfl, ?_, fun _ => ⟨.val (rowOf p r), ?_, rfl⟩⟩
      · rw [toB_ap, cBin_ap, cBin_ap, cVar_ap, e1]
        simp only [Option.bind_some, cVal_ap, Rz_d_val, row_st, cVar_ap, e2, oEq_st]
        rw [qs_row]
      · rw [cVar_ap, e1]; rfl) (by
      intro d hd _
      obtain ⟨p, r, rfl, _⟩ := rowsA_mem hd
      exact nl_row)
  rw [List.map_id] at q
  exact q
theorem ofs_eq (M : Mem) (L : D) (rs : List Rw) (st : Option Int) (hL : asS M L = some (rowsD rs)) (hg : CI.guard (gkOf L) (rowsD rs) M) (hl : rs.length < 10000) : F_of_stream [L, stD st] M = some (.new ((rowsD rs).filter (qs st)), M) := by
  have q := lc_stream 2 (cVar 0) 1 [some L, some (stD st), none] M L rs st rfl hL hg hl rfl (by decide) (by simp)
  unfold F_of_stream mkFn B_of_stream
  simp -implicitDefEqProofs only [sRet_ap, List.length_cons, List.length_nil, List.map_cons, List.map_nil, List.replicate, List.cons_append, List.nil_append, if_true, q, Option.bind_some, finish_same]
theorem len_fil (rs : List Rw) (st : Option Int) : ((rowsD rs).filter (qs st)).length = (rs.filter fun r => decide (r.st = st)).length := rowsA_filter st rs []
/-- the association -/
def obf (a b : Int) (ps : List D) (k : Nat) : List (Str × D) := [("tag", .int a), ("peer", .int b), ("paths", .tup ps), ("given", .loc k), ("sent", .int 0), ("acked", .int 0), ("beyond", .lst []), ("up_to", .int 0), ("arrived", .lst []), ("waiting", .lst []), ("delivered", .lst []), ("serial_in", .int 0), ("serial_out", .int 0), ("serial_acked", .int 0), ("closing", .str "no")]
def Mg (a b p : Int) (g : List D) : Mem := [.lst [.int p, .int 7], .ins "Association" (obf a b [.int p] 2), .lst g]
section
variable {a b p : Int} {g : List D}
theorem g1 : (Mg a b p g)[1]? = some (.ins "Association" (obf a b [.int p] 2)) := rfl
theorem g2 : (Mg a b p g)[2]? = some (.lst g) := rfl
theorem fld_of {ρ : Slots} {f : Ef} {n : Str} {d : D} (h : f ρ (Mg a b p g) = some (.val (.loc 1), Mg a b p g)) (hl : (obf a b [.int p] 2).lookup n = some d) : cFld ["Association"] n f ρ (Mg a b p g) = some (.val d, Mg a b p g) := by
  rw [cFld_ap, h]
  simp only [Option.bind_some, Rz_d_val, g1, hl]
  rfl
end
theorem next_eq (a b p : Int) (rs : List Rw) (st : Option Int) (codes : List D) (hl : rs.length < 10000) : F_next_message [.loc 1, stD st, .lst codes] (Mg a b p (rowsD rs)) =
    some (.val (.tup [.int ((rs.length : Int) + 1), stD st, .int (cnt rs st), .tup codes]), Mg a b p (rowsD rs)) := by
  have fg : ∀ x y : Option D, cFld ["Association"] "given" (cVar 0) [some (.loc 1), x, y, none] (Mg a b p (rowsD rs)) = some (.val (.loc 2), Mg a b p (rowsD rs)) := fun x y => fld_of rfl rfl
  have fg2 : ∀ x y z : Option D, cFld ["Association"] "given" (cVar 0) [some (.loc 1), x, y, z] (Mg a b p (rowsD rs)) = some (.val (.loc 2), Mg a b p (rowsD rs)) := fun x y z => fld_of rfl rfl
  have ofs := ofs_eq (Mg a b p (rowsD rs)) (.loc 2) rs st (asS_loc g2) (fun k e => by cases e; exact g2) hl
  have ln : oLen [.loc 2] (Mg a b p (rowsD rs)) = some (.val (.int (rowsD rs).length)) := oLen_loc g2
  have ot : ∀ M es, oTuple [.lst es] M = some (.val (.tup es)) := fun _ _ => rfl
  rw [rowsD_len] at ln
  unfold F_next_message mkFn B_next_message
  cases hst : st with
  | none =>
    rw [hst] at ofs
    simp -implicitDefEqProofs [-cFld_ap, stD, fg2, ln, ot, cnt]
  | some i =>
    rw [hst] at ofs
    have lf := len_fil rs (some i)
    have e : ∀ M, oLen [.lst ((rowsD rs).filter (qs (some i)))] M = some (.val (.int (cnt rs (some i)))) := fun M => by
      rw [oLen_lst, lf]; rfl
    have hst2 : stD (some i) = .int i := rfl
    rw [hst2] at ofs
    rw [hst2]
    simp -implicitDefEqProofs [-cFld_ap, -oLen_lst, fg2, ln, ot, ofs, e]
theorem cut_mem {xs : List D} {lo hi : Option Int} {d : D} (h : d ∈ cutD xs lo hi) : d ∈ xs := List.mem_of_mem_drop (List.mem_of_mem_take h)
theorem cut_len (xs : List D) (lo hi : Option Int) : (cutD xs lo hi).length ≤ xs.length := by
  unfold CI.cutD; rw [List.length_take, List.length_drop]; omega
noncomputable def gbody : Sf := (sCons (sSet 5 (cCall F__law_draws (aCons (cVar 4) (aCons (cInt (4)) aNil))))
    (sCons (sSet 6 (cCall F__law_stream (aCons (cBin oIx (cVar 5) (cInt (0))) aNil)))
    (sCons (sSet 7 (cInt (0)))
    (sCons (sIf (toB (cBin (oIs true) (cVar 6) cNon))
    (sSet 7 (cCB oLen (aCons (cLc (iSeq (cVar 3)) [8] (gNm 8) (toB (cBin oEq (cBin oIx (cVar 8) (cInt (1))) (cVar 6))) (cVar 8)) aNil)))
    sNil)
    (sExpr (cBM "list" oAppend (cVar 3) (aCons (cTup (aCons (cBin oAdd (cCB oLen (aCons (cVar 3) aNil)) (cInt (1))) (aCons (cVar 6) (aCons (cVar 7) (aCons (cCall F__law_text (aCons (cVar 5) (aCons (cInt (1)) aNil))) aNil))))) aNil)))))))
theorem gbody_ok (ns : List Int) (cell : Int) (M : Mem) (rs : List Rw) (hl : rs.length < 5000) (x5 x6 x7 x8 : Option D) : ∃ (r : Rw) (y5 y6 y7 y8 : Option D), r.codes.length < 100 ∧
    gbody [some (.scr ns), some (.int 1), some (.int 40), some (.loc M.length), some (.int cell), x5, x6, x7, x8] (M ++ [.lst (rowsD rs)]) =
      some (.nx, [some (.scr ns), some (.int 1), some (.int 40), some (.loc M.length), some (.int cell), y5, y6, y7, y8], M ++ [.lst (rowsD (rs ++ [r]))]) := by
  obtain ⟨a, b, c, d, _, _, _, _, hd⟩ := draws4 cell (M ++ [.lst (rowsD rs)])
  obtain ⟨st, hst⟩ := stream_eq a
  obtain ⟨codes, hc, ht⟩ := text_eq a b c d
  have hst := hst (M ++ [.lst (rowsD rs)])
  have ht := ht (M ++ [.lst (rowsD rs)])
  have hd' : F__law_draws [.int cell, .int 4] (M ++ [.lst (rowsD rs)]) = some (.new [.int a, .int b, .int c, .int d], M ++ [.lst (rowsD rs)]) := by rw [draws_eq]; exact hd
  have i0 : ∀ M, oIx (.lst [D.int a, .int b, .int c, .int d]) (.int 0) M = some (.val (.int a)) := fun M => oIx_of (M := M) (d := .lst [D.int a, .int b, .int c, .int d]) (i := 0) rfl rfl
  have ap : oAppend (.loc M.length) [rowOf rs ⟨st, codes⟩] (M ++ [.lst (rowsD rs)]) = some (.val .non, M ++ [.lst (rowsD (rs ++ [⟨st, codes⟩]))]) := by
    rw [oAppend_end (by rw [rowsD_len]; omega), rowsD_snoc]
  unfold rowOf at ap
  have ln : oLen [.loc M.length] (M ++ [.lst (rowsD rs)]) = some (.val (.int rs.length)) := by rw [oLen_end, rowsD_len]
  cases hs : st with
  | none =>
    subst hs
    refine ⟨⟨none, codes⟩, some (.lst [.int a, .int b, .int c, .int d]), some .non, some (.int 0), x8, hc, ?_⟩
    have hn : stD none = .non := rfl
    have hcn : ((cnt rs none : Nat) : Int) = 0 := rfl
    rw [hn] at hst
    simp only [hn, hcn] at ap
    unfold gbody
    simp -implicitDefEqProofs [-oLen_end, hd', i0, hst, ht, ap, ln]
  | some i =>
    subst hs
    refine ⟨⟨some i, codes⟩, some (.lst [.int a, .int b, .int c, .int d]), some (.int i), some (.int (cnt rs (some i))), x8, hc, ?_⟩
    have hn : stD (some i) = .int i := rfl
    rw [hn] at hst
    simp only [hn] at ap
    have lc := lc_stream 8 (cVar 3) 6 [some (.scr ns), some (.int 1), some (.int 40), some (.loc M.length), some (.int cell), some (.lst [.int a, .int b, .int c, .int d]), some (.int i), some (.int 0), x8] (M ++ [.lst (rowsD rs)]) (.loc M.length) rs (some i) rfl asS_end
      (fun k e => by cases e; exact get_end) (by omega) rfl (by decide) (by simp)
    have e : ∀ M, oLen [.lst ((rowsD rs).filter (qs (some i)))] M = some (.val (.int (cnt rs (some i)))) := fun M => by
      rw [oLen_lst, len_fil rs (some i)]; rfl
    unfold gbody
    simp -implicitDefEqProofs [-oLen_end, -oLen_lst, hd', i0, hst, ht, ap, ln, lc, e]
theorem given_eq (ns : List Int) (hl : ns.length ≤ 63) (M : Mem) : ∃ rs : List Rw, rs.length ≤ 63 ∧ (∀ r ∈ rs, r.codes.length < 100) ∧ F__law_given [.scr ns, .int 1, .int 40] M = some (.new (rowsD rs), M) := by
  obtain ⟨ρ', M', e, _, rs, y4, y5, y6, y7, y8, h1, h2, rfl, rfl⟩ := loop_inv (step := stpF none (cutD (ns.map .int) (some 1) (some 41)) (gNm 4) gbody)
    (fun ds ρ M' => (∀ d ∈ ds, ∃ i, d = D.int i) ∧ ∃ (rs : List Rw) (y4 y5 y6 y7 y8 : Option D), rs.length + ds.length ≤ 63 ∧ (∀ r ∈ rs, r.codes.length < 100) ∧
      ρ = [some (.scr ns), some (.int 1), some (.int 40), some (.loc M.length), y4, y5, y6, y7, y8] ∧ M' = M ++ [.lst (rowsD rs)]) (by
      rintro d ds ρ M' ⟨hd, rs, y4, y5, y6, y7, y8, h1, h2, rfl, rfl⟩
      obtain ⟨i, rfl⟩ := hd d List.mem_cons_self
      simp only [List.length_cons] at h1
      obtain ⟨r, z5, z6, z7, z8, hr, e⟩ := gbody_ok ns i M rs (by omega) y5 y6 y7 y8
      refine ⟨.nx, _, _, ?_, .inl rfl, fun d hd' => hd d (List.mem_cons_of_mem _ hd'), rs ++ [r], some (.int i), z5, z6, z7, z8, by simp; omega, fun q hq => ?_, rfl, rfl⟩
      · rw [stp_none]
        simp only [gNm_ap, Option.bind_some, List.set_cons_succ, List.set_cons_zero]
        exact e
      · rcases List.mem_append.mp hq with h | h
        · exact h2 q h
        · simp at h; rw [h]; exact hr) (cutD (ns.map .int) (some 1) (some 41)) [some (.scr ns), some (.int 1), some (.int 40), some (.loc M.length), none, none, none, none, none] (M ++ [.lst []])
    ⟨fun d hd => by obtain ⟨i, _, rfl⟩ := List.mem_map.mp (cut_mem hd); exact ⟨i, rfl⟩, [], none, none, none, none, none, by have := cut_len (ns.map .int) (some 1) (some 41); simp at this ⊢; omega, (fun _ h => by cases h), rfl, rfl⟩
  refine ⟨rs, by simpa using h1, h2, ?_⟩
  have sl : ∀ M, oSl (some 1) (some 41) (.scr ns) M = some (.new (cutD (ns.map .int) (some 1) (some 41))) := fun _ => rfl
  unfold gbody at e
  unfold F__law_given mkFn B__law_given
  have nn : ∀ n, nls n (rowsD rs) = true := fun n => nls_rows
  simp -implicitDefEqProofs [sl, gkOf, e, nn]
theorem same_refl (d : D) (M : Mem) (h : plD 8 d = true) : F__law_same 8 [d, d] M = some (.val (.bl true), M) := by
  rw [same_eq]
  exact same_ok 8 M _ _ (sm_refl 8 d h)
abbrev base (ns : List Int) (a b c d : Int) (E : D) (all : List Rw) (x6 x7 x8 x9 x10 x11 : Option D) : Slots :=
  [some (.scr ns), some (.lst [.int a, .int b, .int c, .int d]), some (.loc 0), some (.loc 1), some E, some (.lst (rowsD all)), x6, x7, x8, x9, x10, x11]
noncomputable def b5 : Sf := (sCons (sSet 9 (cCall F_next_message (aCons (cVar 3) (aCons (cVar 7) (aCons (cLst (aCons (cInt (1)) (aCons (cInt (2)) aNil))) aNil)))))
    (sCons (sSet 10 (cInt (0)))
    (sCons (sIf (toB (cBin (oIs true) (cVar 7) cNon))
    (sSet 10 (cCB oLen (aCons (cLc (iSeq (cFld ["Association"] "given" (cVar 3))) [11] (gNm 11) (toB (cBin oEq (cBin oIx (cVar 11) (cInt (1))) (cVar 7))) (cVar 11)) aNil)))
    sNil)
    (sIf (kNot (toTr (cCall (F__law_same 8) (aCons (cVar 9) (aCons (cTup (aCons (cBin oAdd (cCB oLen (aCons (cFld ["Association"] "given" (cVar 3)) aNil)) (cInt (1))) (aCons (cVar 7) (aCons (cVar 10) (aCons (cTup (aCons (cInt (1)) (aCons (cInt (2)) aNil))) aNil))))) aNil)))))
    (sRet (cBl false))
    sNil))))
theorem pl_told (n : Int) (st : Option Int) (k : Int) (codes : List Int) (h : codes.length < 100) : plD 8 (.tup [.int n, stD st, .int k, .tup (codes.map .int)]) = true := by
  have hs : plD 7 (stD st) = true := by cases st <;> rfl
  have ht : plD 7 (D.tup (codes.map .int)) = true := by
    rw [plD_tup, plD_ints, Bool.and_true]
    simp; omega
  rw [plD_tup]
  simp only [List.all_cons, List.all_nil, hs, ht, plD_int]
  rfl
theorem b5_ok (ns : List Int) (a b c d p : Int) (E : D) (all rs : List Rw) (hl : rs.length < 5000) (st : Option Int) (x6 x8 x9 x10 x11 : Option D) : ∃ y9 y10, b5 (base ns a b c d E all x6 (some (stD st)) x8 x9 x10 x11) (Mg a b p (rowsD rs)) =
    some (.nx, base ns a b c d E all x6 (some (stD st)) x8 y9 y10 x11, Mg a b p (rowsD rs)) := by
  have ne := next_eq a b p rs st [.int 1, .int 2] (by omega)
  have ln : oLen [.loc 2] (Mg a b p (rowsD rs)) = some (.val (.int (rowsD rs).length)) := oLen_loc g2
  rw [rowsD_len] at ln
  have sm := same_refl (.tup [.int ((rs.length : Int) + 1), stD st, .int (cnt rs st), .tup [.int 1, .int 2]]) (Mg a b p (rowsD rs)) (pl_told _ st _ [1, 2] (by simp))
  have fg : ∀ x6 x7 x8 x9 x10 x11 : Option D, cFld ["Association"] "given" (cVar 3) (base ns a b c d E all x6 x7 x8 x9 x10 x11) (Mg a b p (rowsD rs)) = some (.val (.loc 2), Mg a b p (rowsD rs)) := fun _ _ _ _ _ _ => fld_of rfl rfl
  cases hs : st with
  | none =>
    subst hs
    have hn : stD none = .non := rfl
    have hcn : ((cnt rs none : Nat) : Int) = 0 := rfl
    rw [hn] at ne sm
    rw [hcn] at ne sm
    refine ⟨some (.tup [.int ((rs.length : Int) + 1), .non, .int 0, .tup [.int 1, .int 2]]), some (.int 0), ?_⟩
    unfold b5
    simp -implicitDefEqProofs [-cFld_ap, hn, ne, fg, ln, sm]
  | some i =>
    subst hs
    have hn : stD (some i) = .int i := rfl
    rw [hn] at ne sm
    have lc := lc_stream 11 (cFld ["Association"] "given" (cVar 3)) 7 (base ns a b c d E all x6 (some (.int i)) x8 (some (.tup [.int ((rs.length : Int) + 1), .int i, .int (cnt rs (some i)), .tup [.int 1, .int 2]])) (some (.int 0)) x11) (Mg a b p (rowsD rs)) (.loc 2) rs (some i) (fg _ _ _ _ _ _) (asS_loc g2)
      (fun k e => by cases e; exact g2) (by omega) rfl (by decide) (by simp)
    have e : ∀ M, oLen [.lst ((rowsD rs).filter (qs (some i)))] M = some (.val (.int (cnt rs (some i)))) := fun M => by
      rw [oLen_lst, len_fil rs (some i)]; rfl
    refine ⟨some (.tup [.int ((rs.length : Int) + 1), .int i, .int (cnt rs (some i)), .tup [.int 1, .int 2]]), some (.int (cnt rs (some i))), ?_⟩
    unfold b5
    simp -implicitDefEqProofs [-cFld_ap, -oLen_lst, hn, ne, fg, ln, sm, lc, e]
theorem msg_eq (a b p : Int) (g : List D) (n : Nat) (x : D) (h : g[n]? = some x) : F_Association_message [.loc 1, .int ((n : Int) + 1)] (Mg a b p g) = some (.val x, Mg a b p g) := by
  have fg : ∀ x : Option D, cFld ["Association"] "given" (cVar 0) [some (.loc 1), x] (Mg a b p g) = some (.val (.loc 2), Mg a b p g) := fun x => fld_of rfl rfl
  have e : ((n : Int) + 1 - 1) = (n : Int) := by omega
  have ix : oIx (.loc 2) (.int (n : Int)) (Mg a b p g) = some (.val x) := oIx_of (d := .loc 2) (asS_loc g2) h
  unfold F_Association_message mkFn B_Association_message
  simp -implicitDefEqProofs [-cFld_ap, fg, e, ix]
noncomputable def rbody : Sf := (sCons (sFor (iSeq (cLst (aCons cNon (aCons (cInt (0)) (aCons (cInt (3)) (aCons (cInt (15)) (aCons (cInt (7)) aNil))))))) (gNm 7) b5)
    (sCons (sSet 9 (cCall F_next_message (aCons (cVar 3) (aCons (cBin oIx (cVar 6) (cInt (1))) (aCons (cCB oList (aCons (cBin oIx (cVar 6) (cInt (3))) aNil)) aNil)))))
    (sCons (sIf (kOr (kNot (toTr (cCall (F__law_same 8) (aCons (cVar 9) (aCons (cVar 6) aNil))))) (toB (cBin oNe (cCB oLen (aCons (cFld ["Association"] "given" (cVar 3)) aNil)) (cBin oSub (cBin oIx (cVar 6) (cInt (0))) (cInt (1))))))
    (sRet (cBl false))
    sNil)
    (sCons (sExpr (cBM "list" oAppend (cFld ["Association"] "given" (cVar 3)) (aCons (cVar 9) aNil)))
    (sIf (kOr (kNot (toTr (cCall (F__law_same 8) (aCons (cMeth "Association" "message" F_Association_message (cVar 3) (aCons (cBin oIx (cVar 6) (cInt (0))) aNil)) (aCons (cVar 6) aNil))))) (kNot (toTr (cCall (F__law_same 8) (aCons (cMeth "Association" "message" F_Association_message (cVar 3) (aCons (cInt (1)) aNil)) (aCons (cBin oIx (cVar 5) (cInt (0))) aNil))))))
    (sRet (cBl false))
    sNil)))))
theorem loop5 (ns : List Int) (a b c d p : Int) (E : D) (all rs : List Rw) (hl : rs.length < 5000) (x6 x7 x8 x9 x10 x11 : Option D) : ∃ y7 y9 y10, loopF (stpF none [D.non, .int 0, .int 3, .int 15, .int 7] (gNm 7) b5) [D.non, .int 0, .int 3, .int 15, .int 7] (base ns a b c d E all x6 x7 x8 x9 x10 x11) (Mg a b p (rowsD rs)) =
    some (.nx, base ns a b c d E all x6 y7 x8 y9 y10 x11, Mg a b p (rowsD rs)) := by
  obtain ⟨ρ', M', e, _, y7, y9, y10, rfl, rfl⟩ := loop_inv (step := stpF none [D.non, .int 0, .int 3, .int 15, .int 7] (gNm 7) b5)
    (fun ds ρ M' => (∀ d ∈ ds, ∃ s, d = stD s) ∧ ∃ y7 y9 y10, ρ = base ns a b c d E all x6 y7 x8 y9 y10 x11 ∧ M' = Mg a b p (rowsD rs)) (by
      rintro q ds ρ M' ⟨hd, y7, y9, y10, rfl, rfl⟩
      obtain ⟨s, rfl⟩ := hd q List.mem_cons_self
      obtain ⟨z9, z10, e⟩ := b5_ok ns a b c d p E all rs hl s x6 x8 y9 y10 x11
      refine ⟨.nx, _, _, ?_, .inl rfl, fun d hd' => hd d (List.mem_cons_of_mem _ hd'), some (stD s), z9, z10, rfl, rfl⟩
      rw [stp_none]
      simp only [gNm_ap, Option.bind_some, List.set_cons_succ, List.set_cons_zero]
      exact e) [D.non, .int 0, .int 3, .int 15, .int 7] (base ns a b c d E all x6 x7 x8 x9 x10 x11) (Mg a b p (rowsD rs))
    ⟨fun q hq => by
      simp at hq
      rcases hq with rfl | rfl | rfl | rfl | rfl
      · exact ⟨none, rfl⟩
      · exact ⟨some 0, rfl⟩
      · exact ⟨some 3, rfl⟩
      · exact ⟨some 15, rfl⟩
      · exact ⟨some 7, rfl⟩, x7, x9, x10, rfl, rfl⟩
  exact ⟨y7, y9, y10, e⟩
theorem rbody_ok (ns : List Int) (a b c d p : Int) (E : D) (all rs rest : List Rw) (r : Rw) (ha : all = rs ++ r :: rest) (hl : all.length < 5000) (hc : r.codes.length < 100) (hc' : ∀ r ∈ all, r.codes.length < 100) (x7 x8 x9 x10 x11 : Option D) : ∃ y7 y9 y10,
    rbody (base ns a b c d E all (some (rowOf rs r)) x7 x8 x9 x10 x11) (Mg a b p (rowsD rs)) = some (.nx, base ns a b c d E all (some (rowOf rs r)) y7 x8 y9 y10 x11, Mg a b p (rowsD (rs ++ [r]))) := by
  have hl' : rs.length < 5000 := by rw [ha] at hl; simp at hl; omega
  obtain ⟨y7, y9, y10, e5⟩ := loop5 ns a b c d p E all rs hl' (some (rowOf rs r)) x7 x8 x9 x10 x11
  have ne : F_next_message [.loc 1, stD r.st, .lst (r.codes.map .int)] (Mg a b p (rowsD rs)) = some (.val (rowOf rs r), Mg a b p (rowsD rs)) := next_eq a b p rs r.st (r.codes.map .int) (by omega)
  have ln : oLen [.loc 2] (Mg a b p (rowsD rs)) = some (.val (.int (rowsD rs).length)) := oLen_loc g2
  rw [rowsD_len] at ln
  have pl : plD 8 (rowOf rs r) = true := pl_told _ _ _ _ hc
  have sm := fun M => same_refl (rowOf rs r) M pl
  have fg : ∀ (g : List D) (x6 x7 x8 x9 x10 x11 : Option D), cFld ["Association"] "given" (cVar 3) (base ns a b c d E all x6 x7 x8 x9 x10 x11) (Mg a b p g) = some (.val (.loc 2), Mg a b p g) := fun _ _ _ _ _ _ _ => fld_of rfl rfl
  have ix0 : ∀ M, oIx (rowOf rs r) (.int 0) M = some (.val (.int ((rs.length : Int) + 1))) := fun M => oIx_of (d := rowOf rs r) (i := 0) rfl rfl
  have ix3 : ∀ M, oIx (rowOf rs r) (.int 3) M = some (.val (.tup (r.codes.map .int))) := fun M => oIx_of (d := rowOf rs r) (i := 3) rfl rfl
  have ol : ∀ M es, oList [.tup es] M = some (.new es) := fun _ _ => rfl
  have ap : oAppend (.loc 2) [rowOf rs r] (Mg a b p (rowsD rs)) = some (.val .non, Mg a b p (rowsD (rs ++ [r]))) := by
    rw [oAppend_loc g2 (by rw [rowsD_len]; omega), rowsD_snoc]; rfl
  have ty : tyOf (Mg a b p (rowsD rs)) (.loc 2) = some "list" := tyOf_loc g2
  have m1 : F_Association_message [.loc 1, .int ((rs.length : Int) + 1)] (Mg a b p (rowsD (rs ++ [r]))) = some (.val (rowOf rs r), Mg a b p (rowsD (rs ++ [r]))) := msg_eq a b p _ rs.length _ (by
    rw [rowsD_snoc, List.getElem?_append_right (by simp)]; simp)
  obtain ⟨x, xs, hx⟩ : ∃ x xs, all = x :: xs := by
    cases all with
    | nil => simp at ha
    | cons x xs => exact ⟨x, xs, rfl⟩
  have hx2 : ∃ ys, rs ++ [r] = x :: ys := by
    rw [hx] at ha
    cases rs with
    | nil => simp at ha; exact ⟨[], by rw [ha.1]; rfl⟩
    | cons q rs => simp at ha; exact ⟨rs ++ [r], by rw [ha.1]; rfl⟩
  obtain ⟨ys, hy⟩ := hx2
  have f1 : (rowsD (rs ++ [r]))[0]? = some (rowOf [] x) := by rw [hy]; rfl
  have f2 : (rowsD all)[0]? = some (rowOf [] x) := by rw [hx]; rfl
  have m0 : F_Association_message [.loc 1, .int 1] (Mg a b p (rowsD (rs ++ [r]))) = some (.val (rowOf [] x), Mg a b p (rowsD (rs ++ [r]))) := msg_eq a b p _ 0 _ f1
  have d0 : ∀ M, oIx (.lst (rowsD all)) (.int 0) M = some (.val (rowOf [] x)) := fun M => oIx_of (d := .lst (rowsD all)) (i := 0) rfl f2
  have sm0 := fun M => same_refl (rowOf [] x) M (pl_told _ _ _ _ (hc' x (by rw [hx]; simp)))
  have lk : List.lookup ("message" : Str) (obf a b [.int p] 2) = none := rfl
  have gg : ∀ g, (Mg a b p g)[1]? = some (.ins "Association" (obf a b [.int p] 2)) := fun _ => rfl
  refine ⟨y7, some (rowOf rs r), y10, ?_⟩
  unfold rbody
  have st1 : ∀ M, oIx (rowOf rs r) (.int 1) M = some (.val (stD r.st)) := row_st
  have arith : ((rs.length : Int) + 1 - 1) = (rs.length : Int) := by omega
  simp -implicitDefEqProofs [-cFld_ap, gkOf, e5, ne, ln, sm, fg, ix0, ix3, st1, ol, ap, ty, m1, m0, d0, sm0, lk, gg, arith]
theorem init_eq (a b p : Int) : F_Association_init [.loc 1, .int a, .int b, .loc 0] [.lst [.int p], .ins "Association" []] = some (.val .non, [.lst [.int p], .ins "Association" (obf a b [.int p] 2), .lst []]) := by
  have body : B_Association_init [some (.loc 1), some (.int a), some (.int b), some (.loc 0)] [.lst [.int p], .ins "Association" []] = some (.nx, [some (.loc 1), some (.int a), some (.int b), some (.loc 0)], [.lst [.int p], .ins "Association" (obf a b [.int p] 2), .lst []]) := rfl
  have fin : CI.finish [O.lst [.int p], .ins "Association" []] (.val .non) [.lst [.int p], .ins "Association" (obf a b [.int p] 2), .lst []] = (.val .non, [.lst [.int p], .ins "Association" (obf a b [.int p] 2), .lst []]) := by
    unfold CI.finish
    simp [obf]
  unfold F_Association_init mkFn
  simp only [List.map_cons, List.map_nil, List.length_cons, List.length_nil, Nat.reduceAdd, Nat.zero_add, Nat.sub_self, List.replicate_zero, List.append_nil, if_true, body, fin]
theorem cell_eq (ns : List Int) : ∃ i : Int, ∀ M, F__law_cell [.scr ns, .int 0] M = some (.val (.int i), M) := by
  unfold F__law_cell mkFn B__law_cell
  cases ns with
  | nil => exact ⟨0, fun M => by simp -implicitDefEqProofs⟩
  | cons x xs =>
    have ix : ∀ M, oIx (.scr (x :: xs)) (.int 0) M = some (.val (.int x)) := fun M => oIx_of (d := .scr (x :: xs)) (i := 0) rfl rfl
    have hp : (0 : Int) < (xs.length : Int) + 1 := by omega
    exact ⟨x, fun M => by simp -implicitDefEqProofs [ix, hp]⟩
noncomputable def sbody : Sf := (sIf (kNot (toTr (cCall (F__law_same 8) (aCons (cCall F_of_stream (aCons (cVar 5) (aCons (cVar 7) aNil))) (aCons (cLc (iSeq (cVar 5)) [6] (gNm 6) (toB (cBin oEq (cBin oIx (cVar 6) (cInt (1))) (cVar 7))) (cVar 6)) aNil)))))
    (sRet (cBl false))
    sNil)
theorem sbody_ok (ns : List Int) (a b c d : Int) (E : D) (all : List Rw) (hl : all.length < 5000) (hc : ∀ r ∈ all, r.codes.length < 100) (st : Option Int) (M : Mem) (x6 x8 x9 x10 x11 : Option D) :
    sbody (base ns a b c d E all x6 (some (stD st)) x8 x9 x10 x11) M = some (.nx, base ns a b c d E all x6 (some (stD st)) x8 x9 x10 x11, M) := by
  have lc := lc_stream 6 (cVar 5) 7 (base ns a b c d E all x6 (some (stD st)) x8 x9 x10 x11) M (.lst (rowsD all)) all st rfl rfl (fun k e => by cases e) (by omega) rfl (by decide) (by simp)
  have of := ofs_eq M (.lst (rowsD all)) all st rfl (fun k e => by cases e) (by omega)
  have pl : plD 8 (.lst ((rowsD all).filter (qs st))) = true := by
    rw [plD_lst, Bool.and_eq_true]
    refine ⟨decide_eq_true ?_, List.all_eq_true.mpr fun x hx => ?_⟩
    · have := List.length_filter_le (qs st) (rowsD all)
      rw [rowsD_len] at this; omega
    · obtain ⟨p, r, rfl, hr⟩ := rowsA_mem (List.mem_filter.mp hx).1
      exact plD_mono (plD_mono (plD_mono (ok_row (hc r hr))))
  have sm := same_refl _ M pl
  unfold sbody
  simp -implicitDefEqProofs [lc, of, sm]
theorem loopS (ns : List Int) (a b c d : Int) (E : D) (all : List Rw) (hl : all.length < 5000) (hc : ∀ r ∈ all, r.codes.length < 100) (M : Mem) (x6 x7 x8 x9 x10 x11 : Option D) : ∃ y7, loopF (stpF none [D.non, .int 0, .int 3, .int 15, .int 7] (gNm 7) sbody) [D.non, .int 0, .int 3, .int 15, .int 7] (base ns a b c d E all x6 x7 x8 x9 x10 x11) M =
    some (.nx, base ns a b c d E all x6 y7 x8 x9 x10 x11, M) := by
  obtain ⟨ρ', M', e, _, y7, rfl, rfl⟩ := loop_inv (step := stpF none [D.non, .int 0, .int 3, .int 15, .int 7] (gNm 7) sbody)
    (fun ds ρ M' => (∀ d ∈ ds, ∃ s, d = stD s) ∧ ∃ y7, ρ = base ns a b c d E all x6 y7 x8 x9 x10 x11 ∧ M' = M) (by
      rintro q ds ρ M' ⟨hd, y7, rfl, rfl⟩
      obtain ⟨s, rfl⟩ := hd q List.mem_cons_self
      refine ⟨.nx, _, _, ?_, .inl rfl, fun d hd' => hd d (List.mem_cons_of_mem _ hd'), some (stD s), rfl, rfl⟩
      rw [stp_none]
      simp only [gNm_ap, Option.bind_some, List.set_cons_succ, List.set_cons_zero]
      exact sbody_ok ns a b c d E all hl hc s M' x6 x8 x9 x10 x11) [D.non, .int 0, .int 3, .int 15, .int 7] (base ns a b c d E all x6 x7 x8 x9 x10 x11) M
    ⟨fun q hq => by
      simp at hq
      rcases hq with rfl | rfl | rfl | rfl | rfl
      · exact ⟨none, rfl⟩
      · exact ⟨some 0, rfl⟩
      · exact ⟨some 3, rfl⟩
      · exact ⟨some 15, rfl⟩
      · exact ⟨some 7, rfl⟩, x7, rfl, rfl⟩
  exact ⟨y7, e⟩
theorem loopR (ns : List Int) (a b c d p : Int) (E : D) (all : List Rw) (hl : all.length < 5000) (hc : ∀ r ∈ all, r.codes.length < 100) (x6 x7 x8 x9 x10 x11 : Option D) : ∃ y6 y7 y9 y10, loopF (stpF none (rowsD all) (gNm 6) rbody) (rowsD all) (base ns a b c d E all x6 x7 x8 x9 x10 x11) (Mg a b p []) =
    some (.nx, base ns a b c d E all y6 y7 x8 y9 y10 x11, Mg a b p (rowsD all)) := by
  obtain ⟨ρ', M', e, rs, rest, hd, ha, y6, y7, y9, y10, rfl, rfl⟩ := loop_inv (step := stpF none (rowsD all) (gNm 6) rbody)
    (fun ds ρ M' => ∃ rs rest, ds = rowsA rs rest ∧ all = rs ++ rest ∧ ∃ y6 y7 y9 y10, ρ = base ns a b c d E all y6 y7 x8 y9 y10 x11 ∧ M' = Mg a b p (rowsD rs)) (by
      rintro q ds ρ M' ⟨rs, rest, hd, ha, y6, y7, y9, y10, rfl, rfl⟩
      cases rest with
      | nil => cases hd
      | cons r rest =>
        rw [rowsA] at hd
        obtain ⟨rfl, rfl⟩ := List.cons.inj hd
        obtain ⟨z7, z9, z10, e⟩ := rbody_ok ns a b c d p E all rs rest r ha hl (hc r (by rw [ha]; simp)) hc y7 x8 y9 y10 x11
        refine ⟨.nx, _, _, ?_, .inl rfl, rs ++ [r], rest, rfl, by rw [ha]; simp, some (rowOf rs r), z7, z9, z10, rfl, rfl⟩
        rw [stp_none]
        simp only [gNm_ap, Option.bind_some, List.set_cons_succ, List.set_cons_zero]
        exact e) (rowsD all) (base ns a b c d E all x6 x7 x8 x9 x10 x11) (Mg a b p [])
    ⟨[], all, rfl, rfl, x6, x7, x9, x10, rfl, rfl⟩
  cases rest with
  | nil =>
    rw [List.append_nil] at ha
    subst ha
    exact ⟨y6, y7, y9, y10, e⟩
  | cons r rest => cases hd
theorem tags_eq (a b p x y : Int) (g : List D) : F_Association_has_tags [.loc 1, .int x, .int y] (Mg a b p g) = some (.val (.bl (decide (a = x) && decide (b = y))), Mg a b p g) := by
  have f1 : cFld ["Association"] "tag" (cVar 0) [some (.loc 1), some (.int x), some (.int y)] (Mg a b p g) = some (.val (.int a), Mg a b p g) := fld_of rfl rfl
  have f2 : cFld ["Association"] "peer" (cVar 0) [some (.loc 1), some (.int x), some (.int y)] (Mg a b p g) = some (.val (.int b), Mg a b p g) := fld_of rfl rfl
  unfold F_Association_has_tags mkFn B_Association_has_tags
  cases hh : decide (a = x) <;> simp -implicitDefEqProofs [-cFld_ap, f1, f2, hh]
theorem acked_eq (a b p : Int) (g : List D) : F_Association_all_acked [.loc 1] (Mg a b p g) = some (.val (.bl (decide ((g.length : Int) ≤ 0))), Mg a b p g) := by
  have f1 : cFld ["Association"] "acked" (cVar 0) [some (.loc 1)] (Mg a b p g) = some (.val (.int 0), Mg a b p g) := fld_of rfl rfl
  have f2 : cFld ["Association"] "given" (cVar 0) [some (.loc 1)] (Mg a b p g) = some (.val (.loc 2), Mg a b p g) := fld_of rfl rfl
  have ln : oLen [.loc 2] (Mg a b p g) = some (.val (.int g.length)) := oLen_loc g2
  unfold F_Association_all_acked mkFn B_Association_all_acked
  simp -implicitDefEqProofs [-cFld_ap, f1, f2, ln]
theorem fld3 {a b p : Int} {g : List D} {ρ : Slots} (n : Str) (d : D) (hl : (obf a b [.int p] 2).lookup n = some d) (h : slot ρ 3 = some (.loc 1)) : cFld ["Association"] n (cVar 3) ρ (Mg a b p g) = some (.val d, Mg a b p g) :=
  fld_of (by rw [cVar_ap, h]; rfl) hl
theorem law_true (ns : List Int) (hl : ns.length ≤ 63) : ∃ M, F_law [.scr ns] [] = some (.val (.bl true), M) := by
  obtain ⟨i, hcell⟩ := cell_eq ns
  have hcell := hcell []
  obtain ⟨a, b, c, d, _, _, _, _, hd⟩ := draws4 i []
  have hd : F__law_draws [.int i, .int 4] [] = some (.new [.int a, .int b, .int c, .int d], []) := by rw [draws_eq]; exact hd
  obtain ⟨p, hp⟩ : ∃ p : Int, p = c % 256 := ⟨_, rfl⟩
  have i0 : ∀ M, oIx (.lst [D.int a, .int b, .int c, .int d]) (.int 0) M = some (.val (.int a)) := fun M => oIx_of (M := M) (d := .lst [D.int a, .int b, .int c, .int d]) (i := 0) rfl rfl
  have i1 : ∀ M, oIx (.lst [D.int a, .int b, .int c, .int d]) (.int 1) M = some (.val (.int b)) := fun M => oIx_of (M := M) (d := .lst [D.int a, .int b, .int c, .int d]) (i := 1) rfl rfl
  have i2 : ∀ M, oIx (.lst [D.int a, .int b, .int c, .int d]) (.int 2) M = some (.val (.int c)) := fun M => oIx_of (M := M) (d := .lst [D.int a, .int b, .int c, .int d]) (i := 2) rfl rfl
  have hi := init_eq a b p
  have ap : oAppend (.loc 0) [.int 7] [.lst [.int p], .ins "Association" (obf a b [.int p] 2), .lst []] = some (.val .non, Mg a b p []) := rfl
  have ty : tyOf [.lst [.int p], .ins "Association" (obf a b [.int p] 2), .lst []] (.loc 0) = some "list" := rfl
  have s1 : F__law_same 8 [.lst [.loc 2, .lst [], .lst [], .lst [], .lst []], .lst [.lst [], .lst [], .lst [], .lst [], .lst []]] (Mg a b p []) = some (.val (.bl true), Mg a b p []) := by
    rw [same_eq]
    refine same_ok 8 _ _ _ (sm_list (n := 7) rfl rfl (by simp) rfl fun k x y hx hy => ?_)
    match k with
    | 0 => cases hx; cases hy; exact sm_list (n := 6) (sh_loc g2) rfl (by simp) rfl (fun i x y h => by simp at h)
    | 1 => cases hx; cases hy; exact sm_refl 7 _ rfl
    | 2 => cases hx; cases hy; exact sm_refl 7 _ rfl
    | 3 => cases hx; cases hy; exact sm_refl 7 _ rfl
    | 4 => cases hx; cases hy; exact sm_refl 7 _ rfl
    | k + 5 => simp at hx
  have s2 := same_refl (.lst [.int 0, .int 0, .int 0]) (Mg a b p []) rfl
  obtain ⟨all, hal, hac, hg⟩ := given_eq ns hl (Mg a b p [])
  obtain ⟨y6, y7, y9, y10, eR⟩ := loopR ns a b c d p (.lst [.loc 2, .lst [], .lst [], .lst [], .lst []]) all (by omega) hac none none none none none none
  obtain ⟨z7, eS⟩ := loopS ns a b c d (.lst [.loc 2, .lst [], .lst [], .lst [], .lst []]) all (by omega) hac (Mg a b p (rowsD all)) y6 y7 none y9 y10 none
  have t1 := tags_eq a b p a b (rowsD all)
  have t2 := tags_eq a b p (b + 1) b (rowsD all)
  have t3 := tags_eq a b p a (b + 1) (rowsD all)
  have ak := acked_eq a b p (rowsD all)
  rw [rowsD_len] at ak
  obtain ⟨z, hz⟩ : ∃ z : Bool, z = decide ((all.length : Int) ≤ 0) := ⟨_, rfl⟩
  have hz2 : decide ((all.length : Int) = 0) = z := by rw [hz]; simp only [decide_eq_decide]; omega
  have hz3 : decide (all = []) = z := by rw [hz]; cases all <;> simp
  rw [← hz] at ak
  obtain ⟨u, hu⟩ : ∃ u : Bool, u = decide (a = b + 1) := ⟨_, rfl⟩
  have hu2 : decide (b + 1 = a) = u := by rw [hu]; simp only [decide_eq_decide]; omega
  have e1 : (decide (a = a) && decide (b = b)) = true := by simp
  have e2 : (decide (a = b + 1) && decide (b = b)) = u := by rw [← hu]; simp
  have e3 : (decide (a = a) && decide (b = b + 1)) = false := by
    have : decide (b = b + 1) = false := decide_eq_false (by omega)
    rw [this]; simp
  rw [e1] at t1
  rw [e2] at t2
  rw [e3] at t3
  have s3 := same_refl (.lst [.int a, .int b, .tup [.int p], .str "no", .bl z]) (Mg a b p (rowsD all)) rfl
  have s4 := same_refl (.lst [.bl true, .bl u, .bl false]) (Mg a b p (rowsD all)) rfl
  have lkt : List.lookup ("has_tags" : Str) (obf a b [.int p] 2) = none := rfl
  have lka : List.lookup ("all_acked" : Str) (obf a b [.int p] 2) = none := rfl
  have gg : ∀ g, (Mg a b p g)[1]? = some (.ins "Association" (obf a b [.int p] 2)) := fun _ => rfl
  have fG := fun (g : List D) (ρ : Slots) (h : slot ρ 3 = some (.loc 1)) => fld3 (a := a) (b := b) (p := p) (g := g) (ρ := ρ) "given" (.loc 2) rfl h
  have fW := fun (g : List D) (ρ : Slots) (h : slot ρ 3 = some (.loc 1)) => fld3 (a := a) (b := b) (p := p) (g := g) (ρ := ρ) "waiting" (.lst []) rfl h
  have fD := fun (g : List D) (ρ : Slots) (h : slot ρ 3 = some (.loc 1)) => fld3 (a := a) (b := b) (p := p) (g := g) (ρ := ρ) "delivered" (.lst []) rfl h
  have fB := fun (g : List D) (ρ : Slots) (h : slot ρ 3 = some (.loc 1)) => fld3 (a := a) (b := b) (p := p) (g := g) (ρ := ρ) "beyond" (.lst []) rfl h
  have fA := fun (g : List D) (ρ : Slots) (h : slot ρ 3 = some (.loc 1)) => fld3 (a := a) (b := b) (p := p) (g := g) (ρ := ρ) "arrived" (.lst []) rfl h
  have fS := fun (g : List D) (ρ : Slots) (h : slot ρ 3 = some (.loc 1)) => fld3 (a := a) (b := b) (p := p) (g := g) (ρ := ρ) "sent" (.int 0) rfl h
  have fK := fun (g : List D) (ρ : Slots) (h : slot ρ 3 = some (.loc 1)) => fld3 (a := a) (b := b) (p := p) (g := g) (ρ := ρ) "acked" (.int 0) rfl h
  have fU := fun (g : List D) (ρ : Slots) (h : slot ρ 3 = some (.loc 1)) => fld3 (a := a) (b := b) (p := p) (g := g) (ρ := ρ) "up_to" (.int 0) rfl h
  have fT := fun (g : List D) (ρ : Slots) (h : slot ρ 3 = some (.loc 1)) => fld3 (a := a) (b := b) (p := p) (g := g) (ρ := ρ) "tag" (.int a) rfl h
  have fP := fun (g : List D) (ρ : Slots) (h : slot ρ 3 = some (.loc 1)) => fld3 (a := a) (b := b) (p := p) (g := g) (ρ := ρ) "peer" (.int b) rfl h
  have fQ := fun (g : List D) (ρ : Slots) (h : slot ρ 3 = some (.loc 1)) => fld3 (a := a) (b := b) (p := p) (g := g) (ρ := ρ) "paths" (.tup [.int p]) rfl h
  have fC := fun (g : List D) (ρ : Slots) (h : slot ρ 3 = some (.loc 1)) => fld3 (a := a) (b := b) (p := p) (g := g) (ρ := ρ) "closing" (.str "no") rfl h
  have fin : ∀ M', (CI.finish [] (.val (.bl true)) M').1 = .val (.bl true) := fun M' => by
    unfold CI.finish; simp [nl]; split <;> rfl
  refine ⟨(CI.finish [] (.val (.bl true)) (Mg a b p (rowsD all))).2, ?_⟩
  unfold rbody b5 at eR
  unfold sbody at eS
  unfold F_law mkFn B_law
  simp -implicitDefEqProofs [-cFld_ap, hcell, hd, i0, i1, i2, ← hp, hi, ap, ty, s1, s2, hg, gkOf, eR, eS, t1, t2, t3, ak, hz2, hz3, hu2, s3, s4, lkt, lka, gg, fG, fW, fD, fB, fA, fS, fK, fU, fT, fP, fQ, fC]
  have hf := fin (Mg a b p (rowsD all))
  revert hf
  generalize CI.finish [] (.val (.bl true)) (Mg a b p (rowsD all)) = q
  intro hf
  cases q
  cases hf
  rfl
end K48

namespace K48
open PySem PySem.Spec PyProof.Rows L2 CI
def top (i : Nat) : Stmt := PySem.Challenge.pw_fardesk_k48_association_messages.main.body.getD i (.Pass ⟨0, 0, 0, 0⟩)
abbrev s_Association_init : Stmt := inClass (top 2) 0
def d_Association_init : He.DefD := ⟨("Association", some "__init__"), "__init__", "Association.__init__", defArgs s_Association_init, defBody s_Association_init, defScope s_Association_init, [], []⟩
abbrev s_Association_message : Stmt := inClass (top 2) 1
def d_Association_message : He.DefD := ⟨("Association", some "message"), "message", "Association.message", defArgs s_Association_message, defBody s_Association_message, defScope s_Association_message, [], []⟩
abbrev s_Association_has_tags : Stmt := inClass (top 2) 2
def d_Association_has_tags : He.DefD := ⟨("Association", some "has_tags"), "has_tags", "Association.has_tags", defArgs s_Association_has_tags, defBody s_Association_has_tags, defScope s_Association_has_tags, [], []⟩
abbrev s_Association_all_acked : Stmt := inClass (top 2) 3
def d_Association_all_acked : He.DefD := ⟨("Association", some "all_acked"), "all_acked", "Association.all_acked", defArgs s_Association_all_acked, defBody s_Association_all_acked, defScope s_Association_all_acked, [], []⟩
abbrev s_of_stream : Stmt := top 3
def d_of_stream : He.DefD := ⟨("of_stream", none), "of_stream", "of_stream", defArgs s_of_stream, defBody s_of_stream, defScope s_of_stream, [], []⟩
abbrev s_next_message : Stmt := top 4
def d_next_message : He.DefD := ⟨("next_message", none), "next_message", "next_message", defArgs s_next_message, defBody s_next_message, defScope s_next_message, [], []⟩
abbrev s__law_cell : Stmt := top 6
def d__law_cell : He.DefD := ⟨("_law_cell", none), "_law_cell", "_law_cell", defArgs s__law_cell, defBody s__law_cell, defScope s__law_cell, [], []⟩
abbrev s__law_draws : Stmt := top 7
def d__law_draws : He.DefD := ⟨("_law_draws", none), "_law_draws", "_law_draws", defArgs s__law_draws, defBody s__law_draws, defScope s__law_draws, [], []⟩
abbrev s__law_same : Stmt := top 8
def d__law_same : He.DefD := ⟨("_law_same", none), "_law_same", "_law_same", defArgs s__law_same, defBody s__law_same, defScope s__law_same, [], []⟩
abbrev s__law_text : Stmt := top 9
def d__law_text : He.DefD := ⟨("_law_text", none), "_law_text", "_law_text", defArgs s__law_text, defBody s__law_text, defScope s__law_text, [], []⟩
abbrev s__law_stream : Stmt := top 10
def d__law_stream : He.DefD := ⟨("_law_stream", none), "_law_stream", "_law_stream", defArgs s__law_stream, defBody s__law_stream, defScope s__law_stream, [], []⟩
abbrev s__law_given : Stmt := top 11
def d__law_given : He.DefD := ⟨("_law_given", none), "_law_given", "_law_given", defArgs s__law_given, defBody s__law_given, defScope s__law_given, [], []⟩
abbrev s_law : Stmt := top 12
def d_law : He.DefD := ⟨("law", none), "law", "law", defArgs s_law, defBody s_law, defScope s_law, [], []⟩
def fn : List He.DefD := [d_Association_init, d_Association_message, d_Association_has_tags, d_Association_all_acked, d_of_stream, d_next_message, d__law_cell, d__law_draws, d__law_same, d__law_text, d__law_stream, d__law_given, d_law]
def fa : List He.Fa := ([.cls "Association", .mkr "Association", .meth "Association" "message", .meth "Association" "has_tags", .meth "Association" "all_acked", .meth "Association" "as_row", .noat "Association" "acked", .noat "Association" "arrived", .noat "Association" "beyond", .noat "Association" "closing", .noat "Association" "delivered", .noat "Association" "given", .noat "Association" "paths", .noat "Association" "peer", .noat "Association" "sent", .noat "Association" "serial_acked", .noat "Association" "serial_in", .noat "Association" "serial_out", .noat "Association" "tag", .noat "Association" "up_to", .noat "Association" "waiting", .glo "_wall", .glo "of_stream", .glo "next_message", .glo "_law_cell", .glo "_law_draws", .glo "_law_same", .glo "_law_text", .glo "_law_stream", .glo "_law_given"] : List He.Fa) ++ ([.glo "law", .glo "Association", .free "len", .free "int", .free "tuple", .free "list", .free "str", .free "range", .free "isinstance", .free "bool"] : List He.Fa)
theorem sc__law_draws : FnScope ["_law_cell_here", "_law_many", "_law_rows", "_law_rest", "_law_state", "_law_k"] ["_law_cell_here", "_law_many"] (defScope s__law_draws) := ⟨rfl, rfl, rfl, by decide +kernel, rfl, by decide +kernel, by decide +kernel⟩
theorem ok__law_draws {P : Program} {w : World} {K : PySem.W.Frag} {h : Heap} {mg : Str → Option Value} {base : Heap} (KX : K.In h) (G : h.Ns mainGlobals mg) (c : He.SaysD fa fn K) {fd : FuncData} (FD : FunD K "_law_draws" "_law_draws" (defArgs s__law_draws) (defBody s__law_draws) (defScope s__law_draws) [] [] (He.fAd K ("_law_draws", none)) fd) : FnOk P w K mg base CX0 1 (He.fAd K ("_law_draws", none)) fd ["_law_cell_here", "_law_many"] (spF K F__law_draws) := by
  unfold F__law_draws
  exact fn_ok FD sc__law_draws fun cdv A outer s H E hr => by
    unfold B__law_draws
    exact (cb_cons (cs_setM (ps_set (i := 2) sc__law_draws.nd rfl (by first | exact Or.inl rfl | exact Or.inr rfl) (ce_lst ca_nil)))
    (cb_cons (cs_set (ps_set (i := 3) sc__law_draws.nd rfl (by first | exact Or.inl rfl | exact Or.inr rfl) (ce_callTy ok_int (by rfl) (He.free_ok KX G (c.fact 33 rfl)) (by decide +kernel) (ca_cons (ce_var (pv 0)) ca_nil))))
    (cb_cons (cs_if (ct_cmp ok_ge (ce_var (pv 3)) (ce_bin ok_pow ce_int ce_int) (nomark _))
    (cb_one (cs_for PassesOwn.never rfl (ci_rg1 (by rfl) (He.free_ok KX G (c.fact 37 rfl)) (ce_var (pv 1))) (cg_of (pg_name (i := 5) sc__law_draws.nd rfl (by first | exact Or.inl rfl | exact Or.inr rfl)))
    (cb_one (cs_if (ct_cmp ok_gt (ce_var (pv 3)) ce_int (nomark _))
    (cb_cons (cs_expr (ce_bm PySem.F.plainAttrs_list PySem.F.slot_list_append PySem.F.type_list_append ok_append (ce_var (pv 2)) (ca_cons (ce_bin ok_mod (ce_callTy ok_int (by rfl) (He.free_ok KX G (c.fact 33 rfl)) (by decide +kernel) (ca_cons (ce_var (pv 3)) ca_nil)) ce_int) ca_nil)))
    (cb_one (cs_set (ps_set (i := 3) sc__law_draws.nd rfl (by first | exact Or.inl rfl | exact Or.inr rfl) (ce_bin ok_div (ce_var (pv 3)) ce_int)))))
    cb_nil))))
    cb_nil)
    (cb_cons (cs_set (ps_set (i := 4) sc__law_draws.nd rfl (by first | exact Or.inl rfl | exact Or.inr rfl) (ce_bin ok_mod (ce_callTy ok_int (by rfl) (He.free_ok KX G (c.fact 33 rfl)) (by decide +kernel) (ca_cons (ce_bin ok_add (ce_bin ok_mulI (ce_callTy ok_int (by rfl) (He.free_ok KX G (c.fact 33 rfl)) (by decide +kernel) (ca_cons (ce_var (pv 0)) ca_nil)) ce_int) ce_int) ca_nil)) ce_int)))
    (cb_cons (cs_for PassesOwn.never rfl (ci_rg1 (by rfl) (He.free_ok KX G (c.fact 37 rfl)) (ce_var (pv 1))) (cg_of (pg_name (i := 5) sc__law_draws.nd rfl (by first | exact Or.inl rfl | exact Or.inr rfl)))
    (cb_cons (cs_set (ps_set (i := 4) sc__law_draws.nd rfl (by first | exact Or.inl rfl | exact Or.inr rfl) (ce_bin ok_mod (ce_callTy ok_int (by rfl) (He.free_ok KX G (c.fact 33 rfl)) (by decide +kernel) (ca_cons (ce_bin ok_add (ce_bin ok_add (ce_bin ok_mulI (ce_var (pv 4)) ce_int) (ce_bin ok_mulI (ce_var (pv 5)) ce_int)) ce_int) ca_nil)) ce_int)))
    (cb_one (cs_if (ct_cmp ok_lt (ce_callB ok_len (by rfl) (He.free_ok KX G (c.fact 32 rfl)) (by decide +kernel) (ca_cons (ce_var (pv 2)) ca_nil)) (ce_var (pv 1)) (nomark _))
    (cb_one (cs_expr (ce_bm PySem.F.plainAttrs_list PySem.F.slot_list_append PySem.F.type_list_append ok_append (ce_var (pv 2)) (ca_cons (ce_bin ok_mod (ce_callTy ok_int (by rfl) (He.free_ok KX G (c.fact 33 rfl)) (by decide +kernel) (ca_cons (ce_bin ok_mod (ce_callTy ok_int (by rfl) (He.free_ok KX G (c.fact 33 rfl)) (by decide +kernel) (ca_cons (ce_bin ok_add (ce_bin ok_mulI (ce_var (pv 4)) ce_int) ce_int) ca_nil)) ce_int) ca_nil)) ce_int) ca_nil))))
    cb_nil))))
    (cb_one (cs_ret (ce_var (pv 2)))))))))
theorem sc_Association_init : FnScope ["self", "tag", "peer", "paths"] ["self", "tag", "peer", "paths"] (defScope s_Association_init) := ⟨rfl, rfl, rfl, by decide +kernel, rfl, by decide +kernel, by decide +kernel⟩
theorem ok_Association_init {P : Program} {w : World} {K : PySem.W.Frag} {h : Heap} {mg : Str → Option Value} {base : Heap} (KX : K.In h) (G : h.Ns mainGlobals mg) (c : He.SaysD fa fn K) {fd : FuncData} (FD : FunD K "__init__" "Association.__init__" (defArgs s_Association_init) (defBody s_Association_init) (defScope s_Association_init) [] [] (He.fAd K ("Association", some "__init__")) fd) : FnOk P w K mg base CX0 1 (He.fAd K ("Association", some "__init__")) fd ["self", "tag", "peer", "paths"] (spF K F_Association_init) := by
  unfold F_Association_init
  exact fn_ok FD sc_Association_init fun cdv A outer s H E hr => by
    unfold B_Association_init
    exact (cb_cons (cs_fld (ce_var (pv 0)) (ce_var (pv 1)) (by
      intro c0 hc0
      simp only [List.mem_cons, List.not_mem_nil, or_false] at hc0
      subst hc0; exact ⟨He.cls_ok (c.fact 0 rfl), He.noat_ok (c.fact 18 rfl)⟩))
    (cb_cons (cs_fld (ce_var (pv 0)) (ce_var (pv 2)) (by
      intro c0 hc0
      simp only [List.mem_cons, List.not_mem_nil, or_false] at hc0
      subst hc0; exact ⟨He.cls_ok (c.fact 0 rfl), He.noat_ok (c.fact 13 rfl)⟩))
    (cb_cons (cs_fld (ce_var (pv 0)) (ce_callTy ok_tuple (by rfl) (He.free_ok KX G (c.fact 34 rfl)) (by decide +kernel) (ca_cons (ce_var (pv 3)) ca_nil)) (by
      intro c0 hc0
      simp only [List.mem_cons, List.not_mem_nil, or_false] at hc0
      subst hc0; exact ⟨He.cls_ok (c.fact 0 rfl), He.noat_ok (c.fact 12 rfl)⟩))
    (cb_cons (cs_fldM (ce_var (pv 0)) (ce_lst ca_nil) (by
      intro c0 hc0
      simp only [List.mem_cons, List.not_mem_nil, or_false] at hc0
      subst hc0; exact ⟨He.cls_ok (c.fact 0 rfl), He.noat_ok (c.fact 11 rfl)⟩))
    (cb_cons (cs_fld (ce_var (pv 0)) ce_int (by
      intro c0 hc0
      simp only [List.mem_cons, List.not_mem_nil, or_false] at hc0
      subst hc0; exact ⟨He.cls_ok (c.fact 0 rfl), He.noat_ok (c.fact 14 rfl)⟩))
    (cb_cons (cs_fld (ce_var (pv 0)) ce_int (by
      intro c0 hc0
      simp only [List.mem_cons, List.not_mem_nil, or_false] at hc0
      subst hc0; exact ⟨He.cls_ok (c.fact 0 rfl), He.noat_ok (c.fact 6 rfl)⟩))
    (cb_cons (cs_fld (ce_var (pv 0)) (ce_lst ca_nil) (by
      intro c0 hc0
      simp only [List.mem_cons, List.not_mem_nil, or_false] at hc0
      subst hc0; exact ⟨He.cls_ok (c.fact 0 rfl), He.noat_ok (c.fact 8 rfl)⟩))
    (cb_cons (cs_fld (ce_var (pv 0)) ce_int (by
      intro c0 hc0
      simp only [List.mem_cons, List.not_mem_nil, or_false] at hc0
      subst hc0; exact ⟨He.cls_ok (c.fact 0 rfl), He.noat_ok (c.fact 19 rfl)⟩))
    (cb_cons (cs_fld (ce_var (pv 0)) (ce_lst ca_nil) (by
      intro c0 hc0
      simp only [List.mem_cons, List.not_mem_nil, or_false] at hc0
      subst hc0; exact ⟨He.cls_ok (c.fact 0 rfl), He.noat_ok (c.fact 7 rfl)⟩))
    (cb_cons (cs_fld (ce_var (pv 0)) (ce_lst ca_nil) (by
      intro c0 hc0
      simp only [List.mem_cons, List.not_mem_nil, or_false] at hc0
      subst hc0; exact ⟨He.cls_ok (c.fact 0 rfl), He.noat_ok (c.fact 20 rfl)⟩))
    (cb_cons (cs_fld (ce_var (pv 0)) (ce_lst ca_nil) (by
      intro c0 hc0
      simp only [List.mem_cons, List.not_mem_nil, or_false] at hc0
      subst hc0; exact ⟨He.cls_ok (c.fact 0 rfl), He.noat_ok (c.fact 10 rfl)⟩))
    (cb_cons (cs_fld (ce_var (pv 0)) ce_int (by
      intro c0 hc0
      simp only [List.mem_cons, List.not_mem_nil, or_false] at hc0
      subst hc0; exact ⟨He.cls_ok (c.fact 0 rfl), He.noat_ok (c.fact 16 rfl)⟩))
    (cb_cons (cs_fld (ce_var (pv 0)) ce_int (by
      intro c0 hc0
      simp only [List.mem_cons, List.not_mem_nil, or_false] at hc0
      subst hc0; exact ⟨He.cls_ok (c.fact 0 rfl), He.noat_ok (c.fact 17 rfl)⟩))
    (cb_cons (cs_fld (ce_var (pv 0)) ce_int (by
      intro c0 hc0
      simp only [List.mem_cons, List.not_mem_nil, or_false] at hc0
      subst hc0; exact ⟨He.cls_ok (c.fact 0 rfl), He.noat_ok (c.fact 15 rfl)⟩))
    (cb_one (cs_fld (ce_var (pv 0)) ce_str (by
      intro c0 hc0
      simp only [List.mem_cons, List.not_mem_nil, or_false] at hc0
      subst hc0; exact ⟨He.cls_ok (c.fact 0 rfl), He.noat_ok (c.fact 9 rfl)⟩)))))))))))))))))
theorem sc__law_stream : FnScope ["_law_n"] ["_law_n"] (defScope s__law_stream) := ⟨rfl, rfl, rfl, by decide +kernel, rfl, by decide +kernel, by decide +kernel⟩
theorem ok__law_stream {P : Program} {w : World} {K : PySem.W.Frag} {h : Heap} {mg : Str → Option Value} {base : Heap} (KX : K.In h) (G : h.Ns mainGlobals mg) (c : He.SaysD fa fn K) {fd : FuncData} (FD : FunD K "_law_stream" "_law_stream" (defArgs s__law_stream) (defBody s__law_stream) (defScope s__law_stream) [] [] (He.fAd K ("_law_stream", none)) fd) : FnOk P w K mg base CX0 1 (He.fAd K ("_law_stream", none)) fd ["_law_n"] (spF K F__law_stream) := by
  unfold F__law_stream
  exact fn_ok FD sc__law_stream fun cdv A outer s H E hr => by
    unfold B__law_stream
    exact (cb_cons (cs_if (ct_cmp (ok_eq hr.units) (ce_bin ok_mod (ce_callTy ok_int (by rfl) (He.free_ok KX G (c.fact 33 rfl)) (by decide +kernel) (ca_cons (ce_var (pv 0)) ca_nil)) ce_int) ce_int (nomark _))
    (cb_one (cs_ret ce_non))
    cb_nil)
    (cb_one (cs_ret (ce_ix (ce_lst (ca_cons ce_int (ca_cons ce_int (ca_cons ce_int ca_nil)))) (ce_bin ok_mod (ce_callTy ok_int (by rfl) (He.free_ok KX G (c.fact 33 rfl)) (by decide +kernel) (ca_cons (ce_var (pv 0)) ca_nil)) ce_int) (fun _ _ => rfl)))))
theorem sc__law_text : FnScope ["_law_draws_here", "_law_start", "_law_k"] ["_law_draws_here", "_law_start"] (defScope s__law_text) := ⟨rfl, rfl, rfl, by decide +kernel, rfl, by decide +kernel, by decide +kernel⟩
theorem ok__law_text {P : Program} {w : World} {K : PySem.W.Frag} {h : Heap} {mg : Str → Option Value} {base : Heap} (KX : K.In h) (G : h.Ns mainGlobals mg) (c : He.SaysD fa fn K) {fd : FuncData} (FD : FunD K "_law_text" "_law_text" (defArgs s__law_text) (defBody s__law_text) (defScope s__law_text) [] [] (He.fAd K ("_law_text", none)) fd) : FnOk P w K mg base CX0 1 (He.fAd K ("_law_text", none)) fd ["_law_draws_here", "_law_start"] (spF K F__law_text) := by
  unfold F__law_text
  exact fn_ok FD sc__law_text fun cdv A outer s H E hr => by
    unfold B__law_text
    exact (cb_one (cs_ret (ce_callTy ok_tuple (by rfl) (He.free_ok KX G (c.fact 34 rfl)) (by decide +kernel) (ca_cons (ce_lc (own := [("_law_k", 2)]) rfl sc__law_text.nd (ci_rg1 (by rfl) (He.free_ok KX G (c.fact 37 rfl)) (ce_bin ok_mod (ce_callTy ok_int (by rfl) (He.free_ok KX G (c.fact 33 rfl)) (by decide +kernel) (ca_cons (ce_ix (ce_var (pv 0)) (ce_var (pv 1)) (fun _ _ => rfl)) ca_nil)) ce_int)) (blkOk_by (own := [("_law_k", 2)]) (N := ["_law_draws_here", "_law_start", "_law_k"]) (sc := defScope s__law_text) (by decide +kernel)) (fun _ _ _ _ _ => (cgw_of (pg_name (i := 2) sc__law_text.nd rfl (by first | exact Or.inl rfl | exact Or.inr rfl)) (by decide))) (fun _ _ _ _ _ => cts_nil) (fun _ _ _ _ _ => (ce_bin ok_mod (ce_callTy ok_int (by rfl) (He.free_ok KX G (c.fact 33 rfl)) (by decide +kernel) (ca_cons (ce_bin ok_add (ce_ix (ce_var (pv 0)) (ce_bin ok_add (ce_var (pv 1)) ce_int) (fun _ _ => rfl)) (ce_bin ok_mulI ce_int (ce_var (pv 2)))) ca_nil)) ce_int))) ca_nil))))
theorem sc__law_given : FnScope ["_law_script", "_law_start", "_law_most", "_law_rows", "_law_cell_here", "_law_draws_here", "_law_stream_here", "_law_place", "_law_row"] ["_law_script", "_law_start", "_law_most"] (defScope s__law_given) := ⟨rfl, rfl, rfl, by decide +kernel, rfl, by decide +kernel, by decide +kernel⟩
theorem ok__law_given {P : Program} {w : World} {K : PySem.W.Frag} {h : Heap} {mg : Str → Option Value} {base : Heap} (KX : K.In h) (G : h.Ns mainGlobals mg) (c : He.SaysD fa fn K) {fd : FuncData} (FD : FunD K "_law_given" "_law_given" (defArgs s__law_given) (defBody s__law_given) (defScope s__law_given) [] [] (He.fAd K ("_law_given", none)) fd) : FnOk P w K mg base CX0 2 (He.fAd K ("_law_given", none)) fd ["_law_script", "_law_start", "_law_most"] (spF K F__law_given) := by
  obtain ⟨fd__law_draws, FD__law_draws⟩ := c.def_ 7 (d := d__law_draws) rfl
  have G__law_draws := ok__law_draws (P := P) (w := w) (base := base) KX G c FD__law_draws
  have b__law_draws : Binds K fd__law_draws ["_law_cell_here", "_law_many"] [] := FD__law_draws.bindsN fun _ _ _ _ _ _ us hl => match us, hl with | [_, _], _ => rfl
  have kp__law_draws := FD__law_draws.kp
  obtain ⟨fd__law_stream, FD__law_stream⟩ := c.def_ 10 (d := d__law_stream) rfl
  have G__law_stream := ok__law_stream (P := P) (w := w) (base := base) KX G c FD__law_stream
  have b__law_stream : Binds K fd__law_stream ["_law_n"] [] := FD__law_stream.bindsN fun _ _ _ _ _ _ us hl => match us, hl with | [_], _ => rfl
  have kp__law_stream := FD__law_stream.kp
  obtain ⟨fd__law_text, FD__law_text⟩ := c.def_ 9 (d := d__law_text) rfl
  have G__law_text := ok__law_text (P := P) (w := w) (base := base) KX G c FD__law_text
  have b__law_text : Binds K fd__law_text ["_law_draws_here", "_law_start"] [] := FD__law_text.bindsN fun _ _ _ _ _ _ us hl => match us, hl with | [_, _], _ => rfl
  have kp__law_text := FD__law_text.kp
  unfold F__law_given
  exact fn_ok FD sc__law_given fun cdv A outer s H E hr => by
    unfold B__law_given
    exact (cb_cons (cs_setM (ps_set (i := 3) sc__law_given.nd rfl (by first | exact Or.inl rfl | exact Or.inr rfl) (ce_lst ca_nil)))
    (cb_cons (cs_for PassesOwn.never rfl (ci_seq (ce_sl (ce_var (pv 0)) (co_some (ce_var (pv 1))) (co_some (ce_bin ok_add (ce_var (pv 1)) (ce_var (pv 2)))))) (cg_of (pg_name (i := 4) sc__law_given.nd rfl (by first | exact Or.inl rfl | exact Or.inr rfl)))
    (cb_cons (cs_set (ps_set (i := 5) sc__law_given.nd rfl (by first | exact Or.inl rfl | exact Or.inr rfl) (ce_call G__law_draws hr (by rfl) (He.glo_ok KX G (c.fact 25 rfl)) kp__law_draws b__law_draws (ca_cons (ce_var (pv 4)) (ca_cons ce_int ca_nil)))))
    (cb_cons (cs_set (ps_set (i := 6) sc__law_given.nd rfl (by first | exact Or.inl rfl | exact Or.inr rfl) (ce_call G__law_stream hr (by rfl) (He.glo_ok KX G (c.fact 28 rfl)) kp__law_stream b__law_stream (ca_cons (ce_ix (ce_var (pv 5)) ce_int (fun _ _ => rfl)) ca_nil))))
    (cb_cons (cs_set (ps_set (i := 7) sc__law_given.nd rfl (by first | exact Or.inl rfl | exact Or.inr rfl) ce_int))
    (cb_cons (cs_if (ct_cmp ok_isnot (ce_var (pv 6)) ce_non (nomark _))
    (cb_one (cs_set (ps_set (i := 7) sc__law_given.nd rfl (by first | exact Or.inl rfl | exact Or.inr rfl) (ce_callB ok_len (by rfl) (He.free_ok KX G (c.fact 32 rfl)) (by decide +kernel) (ca_cons (ce_lc (own := [("_law_row", 8)]) rfl sc__law_given.nd (ci_seq (ce_var (pv 3))) (blkOk_by (own := [("_law_row", 8)]) (N := ["_law_script", "_law_start", "_law_most", "_law_rows", "_law_cell_here", "_law_draws_here", "_law_stream_here", "_law_place", "_law_row"]) (sc := defScope s__law_given) (by decide +kernel)) (fun _ _ _ _ _ => (cgw_of (pg_name (i := 8) sc__law_given.nd rfl (by first | exact Or.inl rfl | exact Or.inr rfl)) (by decide))) (fun _ _ _ _ _ => (cts_one (ct_cmp (ok_eq hr.units) (ce_ix (ce_var (pv 8)) ce_int (fun _ _ => rfl)) (ce_var (pv 6)) (nomark _)))) (fun _ _ _ _ _ => (ce_var (pv 8)))) ca_nil)))))
    cb_nil)
    (cb_one (cs_expr (ce_bm PySem.F.plainAttrs_list PySem.F.slot_list_append PySem.F.type_list_append ok_append (ce_var (pv 3)) (ca_cons (ce_tup (ca_cons (ce_bin ok_add (ce_callB ok_len (by rfl) (He.free_ok KX G (c.fact 32 rfl)) (by decide +kernel) (ca_cons (ce_var (pv 3)) ca_nil)) ce_int) (ca_cons (ce_var (pv 6)) (ca_cons (ce_var (pv 7)) (ca_cons (ce_call G__law_text hr (by rfl) (He.glo_ok KX G (c.fact 27 rfl)) kp__law_text b__law_text (ca_cons (ce_var (pv 5)) (ca_cons ce_int ca_nil))) ca_nil))))) ca_nil)))))))))
    (cb_one (cs_ret (ce_var (pv 3))))))
theorem sc__law_same : FnScope ["_law_told", "_law_due", "_law_k"] ["_law_told", "_law_due"] (defScope s__law_same) := ⟨rfl, rfl, rfl, by decide +kernel, rfl, by decide +kernel, by decide +kernel⟩
theorem ok__law_same {P : Program} {w : World} {K : PySem.W.Frag} {h : Heap} {mg : Str → Option Value} {base : Heap} (KX : K.In h) (G : h.Ns mainGlobals mg) (c : He.SaysD fa fn K) {fd : FuncData} (FD : FunD K "_law_same" "_law_same" (defArgs s__law_same) (defBody s__law_same) (defScope s__law_same) [] [] (He.fAd K ("_law_same", none)) fd) : ∀ n, FnOk P w K mg base CX0 (n + 1) (He.fAd K ("_law_same", none)) fd ["_law_told", "_law_due"] (spF K (F__law_same n))
  | 0 => ⟨fun vs H Q E ⟨_, _, _, _, _, _, _, h, _⟩ => (nomatch h), fun A outer s H args us vs Q E _ _ _ _ ⟨_, _, _, _, _, _, _, h, _⟩ => (nomatch h)⟩
  | n + 1 => by
    have GS := ok__law_same (P := P) (w := w) (base := base) KX G c FD n
    have bS : Binds K fd ["_law_told", "_law_due"] [] := FD.bindsN fun _ _ _ _ _ _ us hl => match us, hl with | [_, _], _ => rfl
    have kp__law_same := FD.kp
    have e : n + 1 + 1 = (n + 1) + 1 := by omega
    rw [e]
    unfold F__law_same
    exact fn_ok FD sc__law_same fun cdv A outer s H E hr => by
      unfold B__law_same
      exact (cb_cons (cs_if (ct_cmp ok_is (ce_var (pv 1)) ce_non (nomark _))
      (cb_one (cs_ret (ce_cmp ok_is (ce_var (pv 0)) ce_non (nomark _))))
      cb_nil)
      (cb_cons (cs_if (ct_cmp ok_is (ce_var (pv 1)) ce_bl (nomark _))
      (cb_one (cs_ret (ce_cmp ok_is (ce_var (pv 0)) ce_bl (nomark _))))
      cb_nil)
      (cb_cons (cs_if (ct_cmp ok_is (ce_var (pv 1)) ce_bl (nomark _))
      (cb_one (cs_ret (ce_cmp ok_is (ce_var (pv 0)) ce_bl (nomark _))))
      cb_nil)
      (cb_cons (cs_if (ct_truth (ce_isi (by rfl) (He.free_ok KX G (c.fact 38 rfl)) (ce_var (pv 1)) (pe_bltn (by rfl) (He.free_ok KX G (c.fact 33 rfl)) (by decide +kernel) rfl)) (fun _ => rfl))
      (cb_one (cs_ret (ce_and (ce_isi (by rfl) (He.free_ok KX G (c.fact 38 rfl)) (ce_var (pv 0)) (pe_bltn (by rfl) (He.free_ok KX G (c.fact 33 rfl)) (by decide +kernel) rfl)) (ce_and (ce_not (ce_isi (by rfl) (He.free_ok KX G (c.fact 38 rfl)) (ce_var (pv 0)) (pe_bltn (by rfl) (He.free_ok KX G (c.fact 39 rfl)) (by decide +kernel) rfl))) (ce_one (ce_cmp (ok_eq hr.units) (ce_var (pv 0)) (ce_var (pv 1)) (nomark _)))))))
      cb_nil)
      (cb_cons (cs_if (ct_truth (ce_isi (by rfl) (He.free_ok KX G (c.fact 38 rfl)) (ce_var (pv 1)) (pe_bltn (by rfl) (He.free_ok KX G (c.fact 36 rfl)) (by decide +kernel) rfl)) (fun _ => rfl))
      (cb_one (cs_ret (ce_and (ce_isi (by rfl) (He.free_ok KX G (c.fact 38 rfl)) (ce_var (pv 0)) (pe_bltn (by rfl) (He.free_ok KX G (c.fact 36 rfl)) (by decide +kernel) rfl)) (ce_one (ce_cmp (ok_eq hr.units) (ce_var (pv 0)) (ce_var (pv 1)) (nomark _))))))
      cb_nil)
      (cb_cons (cs_if (ct_w (cw_and (ct_truth (ce_isi (by rfl) (He.free_ok KX G (c.fact 38 rfl)) (ce_var (pv 1)) (pe_bltn (by rfl) (He.free_ok KX G (c.fact 34 rfl)) (by decide +kernel) rfl)) (fun _ => rfl)) (cw_and1 (ct_not (ct_truth (ce_isi (by rfl) (He.free_ok KX G (c.fact 38 rfl)) (ce_var (pv 0)) (pe_bltn (by rfl) (He.free_ok KX G (c.fact 34 rfl)) (by decide +kernel) rfl)) (fun _ => rfl))))))
      (cb_one (cs_ret ce_bl))
      cb_nil)
      (cb_cons (cs_if (ct_w (cw_and (ct_truth (ce_isi (by rfl) (He.free_ok KX G (c.fact 38 rfl)) (ce_var (pv 1)) (pe_bltn (by rfl) (He.free_ok KX G (c.fact 35 rfl)) (by decide +kernel) rfl)) (fun _ => rfl)) (cw_and1 (ct_not (ct_truth (ce_isi (by rfl) (He.free_ok KX G (c.fact 38 rfl)) (ce_var (pv 0)) (pe_bltn (by rfl) (He.free_ok KX G (c.fact 35 rfl)) (by decide +kernel) rfl)) (fun _ => rfl))))))
      (cb_one (cs_ret ce_bl))
      cb_nil)
      (cb_cons (cs_if (ct_cmp (ok_ne hr.units) (ce_callB ok_len (by rfl) (He.free_ok KX G (c.fact 32 rfl)) (by decide +kernel) (ca_cons (ce_var (pv 0)) ca_nil)) (ce_callB ok_len (by rfl) (He.free_ok KX G (c.fact 32 rfl)) (by decide +kernel) (ca_cons (ce_var (pv 1)) ca_nil)) (nomark _))
      (cb_one (cs_ret ce_bl))
      cb_nil)
      (cb_cons (cs_for PassesOwn.never rfl (ci_rg1 (by rfl) (He.free_ok KX G (c.fact 37 rfl)) (ce_callB ok_len (by rfl) (He.free_ok KX G (c.fact 32 rfl)) (by decide +kernel) (ca_cons (ce_var (pv 1)) ca_nil))) (cg_of (pg_name (i := 2) sc__law_same.nd rfl (by first | exact Or.inl rfl | exact Or.inr rfl)))
      (cb_one (cs_if (ct_not (ct_truth (ce_call GS hr (by rfl) (He.glo_ok KX G (c.fact 26 rfl)) kp__law_same bS (ca_cons (ce_ix (ce_var (pv 0)) (ce_var (pv 2)) (fun _ _ => rfl)) (ca_cons (ce_ix (ce_var (pv 1)) (ce_var (pv 2)) (fun _ _ => rfl)) ca_nil))) (fun _ => rfl)))
      (cb_one (cs_ret ce_bl))
      cb_nil)))
      (cb_one (cs_ret ce_bl)))))))))))
theorem sc__law_cell : FnScope ["_law_script", "_law_k"] ["_law_script", "_law_k"] (defScope s__law_cell) := ⟨rfl, rfl, rfl, by decide +kernel, rfl, by decide +kernel, by decide +kernel⟩
theorem ok__law_cell {P : Program} {w : World} {K : PySem.W.Frag} {h : Heap} {mg : Str → Option Value} {base : Heap} (KX : K.In h) (G : h.Ns mainGlobals mg) (c : He.SaysD fa fn K) {fd : FuncData} (FD : FunD K "_law_cell" "_law_cell" (defArgs s__law_cell) (defBody s__law_cell) (defScope s__law_cell) [] [] (He.fAd K ("_law_cell", none)) fd) : FnOk P w K mg base CX0 1 (He.fAd K ("_law_cell", none)) fd ["_law_script", "_law_k"] (spF K F__law_cell) := by
  unfold F__law_cell
  exact fn_ok FD sc__law_cell fun cdv A outer s H E hr => by
    unfold B__law_cell
    exact (cb_cons (cs_if (ct_cmp ok_lt (ce_var (pv 1)) (ce_callB ok_len (by rfl) (He.free_ok KX G (c.fact 32 rfl)) (by decide +kernel) (ca_cons (ce_var (pv 0)) ca_nil)) (nomark _))
    (cb_one (cs_ret (ce_callTy ok_int (by rfl) (He.free_ok KX G (c.fact 33 rfl)) (by decide +kernel) (ca_cons (ce_ix (ce_var (pv 0)) (ce_var (pv 1)) (fun _ _ => rfl)) ca_nil))))
    cb_nil)
    (cb_one (cs_ret ce_int)))
theorem sc_of_stream : FnScope ["messages", "stream", "row"] ["messages", "stream"] (defScope s_of_stream) := ⟨rfl, rfl, rfl, by decide +kernel, rfl, by decide +kernel, by decide +kernel⟩
theorem ok_of_stream {P : Program} {w : World} {K : PySem.W.Frag} {h : Heap} {mg : Str → Option Value} {base : Heap} (KX : K.In h) (G : h.Ns mainGlobals mg) (c : He.SaysD fa fn K) {fd : FuncData} (FD : FunD K "of_stream" "of_stream" (defArgs s_of_stream) (defBody s_of_stream) (defScope s_of_stream) [] [] (He.fAd K ("of_stream", none)) fd) : FnOk P w K mg base CX0 1 (He.fAd K ("of_stream", none)) fd ["messages", "stream"] (spF K F_of_stream) := by
  unfold F_of_stream
  exact fn_ok FD sc_of_stream fun cdv A outer s H E hr => by
    unfold B_of_stream
    exact (cb_one (cs_ret (ce_lc (own := [("row", 2)]) rfl sc_of_stream.nd (ci_seq (ce_var (pv 0))) (blkOk_by (own := [("row", 2)]) (N := ["messages", "stream", "row"]) (sc := defScope s_of_stream) (by decide +kernel)) (fun _ _ _ _ _ => (cgw_of (pg_name (i := 2) sc_of_stream.nd rfl (by first | exact Or.inl rfl | exact Or.inr rfl)) (by decide))) (fun _ _ _ _ _ => (cts_one (ct_cmp (ok_eq hr.units) (ce_ix (ce_var (pv 2)) ce_int (fun _ _ => rfl)) (ce_var (pv 1)) (nomark _)))) (fun _ _ _ _ _ => (ce_var (pv 2))))))
theorem sc_next_message : FnScope ["association", "stream", "codes", "place"] ["association", "stream", "codes"] (defScope s_next_message) := ⟨rfl, rfl, rfl, by decide +kernel, rfl, by decide +kernel, by decide +kernel⟩
theorem ok_next_message {P : Program} {w : World} {K : PySem.W.Frag} {h : Heap} {mg : Str → Option Value} {base : Heap} (KX : K.In h) (G : h.Ns mainGlobals mg) (c : He.SaysD fa fn K) {fd : FuncData} (FD : FunD K "next_message" "next_message" (defArgs s_next_message) (defBody s_next_message) (defScope s_next_message) [] [] (He.fAd K ("next_message", none)) fd) : FnOk P w K mg base CX0 2 (He.fAd K ("next_message", none)) fd ["association", "stream", "codes"] (spF K F_next_message) := by
  obtain ⟨fd_of_stream, FD_of_stream⟩ := c.def_ 4 (d := d_of_stream) rfl
  have G_of_stream := ok_of_stream (P := P) (w := w) (base := base) KX G c FD_of_stream
  have b_of_stream : Binds K fd_of_stream ["messages", "stream"] [] := FD_of_stream.bindsN fun _ _ _ _ _ _ us hl => match us, hl with | [_, _], _ => rfl
  have kp_of_stream := FD_of_stream.kp
  unfold F_next_message
  exact fn_ok FD sc_next_message fun cdv A outer s H E hr => by
    unfold B_next_message
    exact (cb_cons (cs_set (ps_set (i := 3) sc_next_message.nd rfl (by first | exact Or.inl rfl | exact Or.inr rfl) (ce_if (ct_cmp ok_is (ce_var (pv 1)) ce_non (nomark _)) ce_int (ce_callB ok_len (by rfl) (He.free_ok KX G (c.fact 32 rfl)) (by decide +kernel) (ca_cons (ce_call G_of_stream hr (by rfl) (He.glo_ok KX G (c.fact 22 rfl)) kp_of_stream b_of_stream (ca_cons (ce_fld (ce_var (pv 0)) (by
      intro c0 hc0
      simp only [List.mem_cons, List.not_mem_nil, or_false] at hc0
      subst hc0; exact ⟨He.cls_ok (c.fact 0 rfl), He.noat_ok (c.fact 11 rfl)⟩)) (ca_cons (ce_var (pv 1)) ca_nil))) ca_nil)))))
    (cb_one (cs_ret (ce_tup (ca_cons (ce_bin ok_add (ce_callB ok_len (by rfl) (He.free_ok KX G (c.fact 32 rfl)) (by decide +kernel) (ca_cons (ce_fld (ce_var (pv 0)) (by
      intro c0 hc0
      simp only [List.mem_cons, List.not_mem_nil, or_false] at hc0
      subst hc0; exact ⟨He.cls_ok (c.fact 0 rfl), He.noat_ok (c.fact 11 rfl)⟩)) ca_nil)) ce_int) (ca_cons (ce_var (pv 1)) (ca_cons (ce_var (pv 3)) (ca_cons (ce_callTy ok_tuple (by rfl) (He.free_ok KX G (c.fact 34 rfl)) (by decide +kernel) (ca_cons (ce_var (pv 2)) ca_nil)) ca_nil))))))))
theorem sc_Association_has_tags : FnScope ["self", "tag", "peer"] ["self", "tag", "peer"] (defScope s_Association_has_tags) := ⟨rfl, rfl, rfl, by decide +kernel, rfl, by decide +kernel, by decide +kernel⟩
theorem ok_Association_has_tags {P : Program} {w : World} {K : PySem.W.Frag} {h : Heap} {mg : Str → Option Value} {base : Heap} (KX : K.In h) (G : h.Ns mainGlobals mg) (c : He.SaysD fa fn K) {fd : FuncData} (FD : FunD K "has_tags" "Association.has_tags" (defArgs s_Association_has_tags) (defBody s_Association_has_tags) (defScope s_Association_has_tags) [] [] (He.fAd K ("Association", some "has_tags")) fd) : FnOk P w K mg base CX0 1 (He.fAd K ("Association", some "has_tags")) fd ["self", "tag", "peer"] (spF K F_Association_has_tags) := by
  unfold F_Association_has_tags
  exact fn_ok FD sc_Association_has_tags fun cdv A outer s H E hr => by
    unfold B_Association_has_tags
    exact (cb_one (cs_ret (ce_and (ce_cmp (ok_eq hr.units) (ce_fld (ce_var (pv 0)) (by
      intro c0 hc0
      simp only [List.mem_cons, List.not_mem_nil, or_false] at hc0
      subst hc0; exact ⟨He.cls_ok (c.fact 0 rfl), He.noat_ok (c.fact 18 rfl)⟩)) (ce_var (pv 1)) (nomark _)) (ce_one (ce_cmp (ok_eq hr.units) (ce_fld (ce_var (pv 0)) (by
      intro c0 hc0
      simp only [List.mem_cons, List.not_mem_nil, or_false] at hc0
      subst hc0; exact ⟨He.cls_ok (c.fact 0 rfl), He.noat_ok (c.fact 13 rfl)⟩)) (ce_var (pv 2)) (nomark _))))))
theorem sc_Association_all_acked : FnScope ["self"] ["self"] (defScope s_Association_all_acked) := ⟨rfl, rfl, rfl, by decide +kernel, rfl, by decide +kernel, by decide +kernel⟩
theorem ok_Association_all_acked {P : Program} {w : World} {K : PySem.W.Frag} {h : Heap} {mg : Str → Option Value} {base : Heap} (KX : K.In h) (G : h.Ns mainGlobals mg) (c : He.SaysD fa fn K) {fd : FuncData} (FD : FunD K "all_acked" "Association.all_acked" (defArgs s_Association_all_acked) (defBody s_Association_all_acked) (defScope s_Association_all_acked) [] [] (He.fAd K ("Association", some "all_acked")) fd) : FnOk P w K mg base CX0 1 (He.fAd K ("Association", some "all_acked")) fd ["self"] (spF K F_Association_all_acked) := by
  unfold F_Association_all_acked
  exact fn_ok FD sc_Association_all_acked fun cdv A outer s H E hr => by
    unfold B_Association_all_acked
    exact (cb_one (cs_ret (ce_cmp ok_ge (ce_fld (ce_var (pv 0)) (by
      intro c0 hc0
      simp only [List.mem_cons, List.not_mem_nil, or_false] at hc0
      subst hc0; exact ⟨He.cls_ok (c.fact 0 rfl), He.noat_ok (c.fact 6 rfl)⟩)) (ce_callB ok_len (by rfl) (He.free_ok KX G (c.fact 32 rfl)) (by decide +kernel) (ca_cons (ce_fld (ce_var (pv 0)) (by
      intro c0 hc0
      simp only [List.mem_cons, List.not_mem_nil, or_false] at hc0
      subst hc0; exact ⟨He.cls_ok (c.fact 0 rfl), He.noat_ok (c.fact 11 rfl)⟩)) ca_nil)) (nomark _))))
theorem sc_Association_message : FnScope ["self", "number"] ["self", "number"] (defScope s_Association_message) := ⟨rfl, rfl, rfl, by decide +kernel, rfl, by decide +kernel, by decide +kernel⟩
theorem ok_Association_message {P : Program} {w : World} {K : PySem.W.Frag} {h : Heap} {mg : Str → Option Value} {base : Heap} (KX : K.In h) (G : h.Ns mainGlobals mg) (c : He.SaysD fa fn K) {fd : FuncData} (FD : FunD K "message" "Association.message" (defArgs s_Association_message) (defBody s_Association_message) (defScope s_Association_message) [] [] (He.fAd K ("Association", some "message")) fd) : FnOk P w K mg base CX0 1 (He.fAd K ("Association", some "message")) fd ["self", "number"] (spF K F_Association_message) := by
  unfold F_Association_message
  exact fn_ok FD sc_Association_message fun cdv A outer s H E hr => by
    unfold B_Association_message
    exact (cb_one (cs_ret (ce_ix (ce_fld (ce_var (pv 0)) (by
      intro c0 hc0
      simp only [List.mem_cons, List.not_mem_nil, or_false] at hc0
      subst hc0; exact ⟨He.cls_ok (c.fact 0 rfl), He.noat_ok (c.fact 11 rfl)⟩)) (ce_bin ok_sub (ce_var (pv 1)) ce_int) (fun _ _ => rfl))))
theorem sc_law : FnScope ["_law_script", "_law_draws_here", "_law_paths", "_law_own", "_law_empty", "_law_due", "_law_row", "_law_stream_here", "_law_tags", "_law_told", "_law_place", "_law_other"] ["_law_script"] (defScope s_law) := ⟨rfl, rfl, rfl, by decide +kernel, rfl, by decide +kernel, by decide +kernel⟩
theorem ok_law {P : Program} {w : World} {K : PySem.W.Frag} {h : Heap} {mg : Str → Option Value} {base : Heap} (KX : K.In h) (G : h.Ns mainGlobals mg) (c : He.SaysD fa fn K) {fd : FuncData} (FD : FunD K "law" "law" (defArgs s_law) (defBody s_law) (defScope s_law) [] [] (He.fAd K ("law", none)) fd) : FnOk P w K mg base CX0 10 (He.fAd K ("law", none)) fd ["_law_script"] (spF K F_law) := by
  obtain ⟨fd__law_draws, FD__law_draws⟩ := c.def_ 7 (d := d__law_draws) rfl
  have G__law_draws := ok__law_draws (P := P) (w := w) (base := base) KX G c FD__law_draws
  have b__law_draws : Binds K fd__law_draws ["_law_cell_here", "_law_many"] [] := FD__law_draws.bindsN fun _ _ _ _ _ _ us hl => match us, hl with | [_, _], _ => rfl
  have kp__law_draws := FD__law_draws.kp
  obtain ⟨fd_Association_init, FD_Association_init⟩ := c.def_ 0 (d := d_Association_init) rfl
  have G_Association_init := ok_Association_init (P := P) (w := w) (base := base) KX G c FD_Association_init
  have b_Association_init : Binds K fd_Association_init ["self", "tag", "peer", "paths"] [] := FD_Association_init.bindsN fun _ _ _ _ _ _ us hl => match us, hl with | [_, _, _, _], _ => rfl
  have kp_Association_init := FD_Association_init.kp
  obtain ⟨fd__law_given, FD__law_given⟩ := c.def_ 11 (d := d__law_given) rfl
  have G__law_given := ok__law_given (P := P) (w := w) (base := base) KX G c FD__law_given
  have b__law_given : Binds K fd__law_given ["_law_script", "_law_start", "_law_most"] [] := FD__law_given.bindsN fun _ _ _ _ _ _ us hl => match us, hl with | [_, _, _], _ => rfl
  have kp__law_given := FD__law_given.kp
  obtain ⟨fd__law_same, FD__law_same⟩ := c.def_ 8 (d := d__law_same) rfl
  have G__law_same := ok__law_same (P := P) (w := w) (base := base) KX G c FD__law_same 8
  have b__law_same : Binds K fd__law_same ["_law_told", "_law_due"] [] := FD__law_same.bindsN fun _ _ _ _ _ _ us hl => match us, hl with | [_, _], _ => rfl
  have kp__law_same := FD__law_same.kp
  obtain ⟨fd__law_cell, FD__law_cell⟩ := c.def_ 6 (d := d__law_cell) rfl
  have G__law_cell := ok__law_cell (P := P) (w := w) (base := base) KX G c FD__law_cell
  have b__law_cell : Binds K fd__law_cell ["_law_script", "_law_k"] [] := FD__law_cell.bindsN fun _ _ _ _ _ _ us hl => match us, hl with | [_, _], _ => rfl
  have kp__law_cell := FD__law_cell.kp
  obtain ⟨fd_next_message, FD_next_message⟩ := c.def_ 5 (d := d_next_message) rfl
  have G_next_message := ok_next_message (P := P) (w := w) (base := base) KX G c FD_next_message
  have b_next_message : Binds K fd_next_message ["association", "stream", "codes"] [] := FD_next_message.bindsN fun _ _ _ _ _ _ us hl => match us, hl with | [_, _, _], _ => rfl
  have kp_next_message := FD_next_message.kp
  obtain ⟨fd_Association_has_tags, FD_Association_has_tags⟩ := c.def_ 2 (d := d_Association_has_tags) rfl
  have G_Association_has_tags := ok_Association_has_tags (P := P) (w := w) (base := base) KX G c FD_Association_has_tags
  have b_Association_has_tags : Binds K fd_Association_has_tags ["self", "tag", "peer"] [] := FD_Association_has_tags.bindsN fun _ _ _ _ _ _ us hl => match us, hl with | [_, _, _], _ => rfl
  have kp_Association_has_tags := FD_Association_has_tags.kp
  obtain ⟨fd_Association_all_acked, FD_Association_all_acked⟩ := c.def_ 3 (d := d_Association_all_acked) rfl
  have G_Association_all_acked := ok_Association_all_acked (P := P) (w := w) (base := base) KX G c FD_Association_all_acked
  have b_Association_all_acked : Binds K fd_Association_all_acked ["self"] [] := FD_Association_all_acked.bindsN fun _ _ _ _ _ _ us hl => match us, hl with | [_], _ => rfl
  have kp_Association_all_acked := FD_Association_all_acked.kp
  obtain ⟨fd_of_stream, FD_of_stream⟩ := c.def_ 4 (d := d_of_stream) rfl
  have G_of_stream := ok_of_stream (P := P) (w := w) (base := base) KX G c FD_of_stream
  have b_of_stream : Binds K fd_of_stream ["messages", "stream"] [] := FD_of_stream.bindsN fun _ _ _ _ _ _ us hl => match us, hl with | [_, _], _ => rfl
  have kp_of_stream := FD_of_stream.kp
  obtain ⟨fd_Association_message, FD_Association_message⟩ := c.def_ 1 (d := d_Association_message) rfl
  have G_Association_message := ok_Association_message (P := P) (w := w) (base := base) KX G c FD_Association_message
  have b_Association_message : Binds K fd_Association_message ["self", "number"] [] := FD_Association_message.bindsN fun _ _ _ _ _ _ us hl => match us, hl with | [_, _], _ => rfl
  have kp_Association_message := FD_Association_message.kp
  unfold F_law
  exact fn_ok FD sc_law fun cdv A outer s H E hr => by
    unfold B_law
    exact (cb_cons (cs_set (ps_set (i := 1) sc_law.nd rfl (by first | exact Or.inl rfl | exact Or.inr rfl) (ce_call G__law_draws (hr.mono (by decide)) (by rfl) (He.glo_ok KX G (c.fact 25 rfl)) kp__law_draws b__law_draws (ca_cons (ce_call G__law_cell (hr.mono (by decide)) (by rfl) (He.glo_ok KX G (c.fact 24 rfl)) kp__law_cell b__law_cell (ca_cons (ce_var (pv 0)) (ca_cons ce_int ca_nil))) (ca_cons ce_int ca_nil)))))
    (cb_cons (cs_setM (ps_set (i := 2) sc_law.nd rfl (by first | exact Or.inl rfl | exact Or.inr rfl) (ce_lst (ca_cons (ce_bin ok_mod (ce_callTy ok_int (by rfl) (He.free_ok KX G (c.fact 33 rfl)) (by decide +kernel) (ca_cons (ce_ix (ce_var (pv 1)) ce_int (fun _ _ => rfl)) ca_nil)) ce_int) ca_nil))))
    (cb_cons (cs_set (ps_set (i := 3) sc_law.nd rfl (by first | exact Or.inl rfl | exact Or.inr rfl) (ce_new (He.mkr_ok (c.fact 1 rfl)) G_Association_init (hr.mono (by decide)) (by rfl) (He.glo_ok KX G (c.fact 31 rfl)) b_Association_init (ca_cons (ce_ix (ce_var (pv 1)) ce_int (fun _ _ => rfl)) (ca_cons (ce_ix (ce_var (pv 1)) ce_int (fun _ _ => rfl)) (ca_cons (ce_var (pv 2)) ca_nil))))))
    (cb_cons (cs_expr (ce_bm PySem.F.plainAttrs_list PySem.F.slot_list_append PySem.F.type_list_append ok_append (ce_var (pv 2)) (ca_cons ce_int ca_nil)))
    (cb_cons (cs_set (ps_set (i := 4) sc_law.nd rfl (by first | exact Or.inl rfl | exact Or.inr rfl) (ce_lst (ca_cons (ce_fld (ce_var (pv 3)) (by
      intro c0 hc0
      simp only [List.mem_cons, List.not_mem_nil, or_false] at hc0
      subst hc0; exact ⟨He.cls_ok (c.fact 0 rfl), He.noat_ok (c.fact 11 rfl)⟩)) (ca_cons (ce_fld (ce_var (pv 3)) (by
      intro c0 hc0
      simp only [List.mem_cons, List.not_mem_nil, or_false] at hc0
      subst hc0; exact ⟨He.cls_ok (c.fact 0 rfl), He.noat_ok (c.fact 20 rfl)⟩)) (ca_cons (ce_fld (ce_var (pv 3)) (by
      intro c0 hc0
      simp only [List.mem_cons, List.not_mem_nil, or_false] at hc0
      subst hc0; exact ⟨He.cls_ok (c.fact 0 rfl), He.noat_ok (c.fact 10 rfl)⟩)) (ca_cons (ce_fld (ce_var (pv 3)) (by
      intro c0 hc0
      simp only [List.mem_cons, List.not_mem_nil, or_false] at hc0
      subst hc0; exact ⟨He.cls_ok (c.fact 0 rfl), He.noat_ok (c.fact 8 rfl)⟩)) (ca_cons (ce_fld (ce_var (pv 3)) (by
      intro c0 hc0
      simp only [List.mem_cons, List.not_mem_nil, or_false] at hc0
      subst hc0; exact ⟨He.cls_ok (c.fact 0 rfl), He.noat_ok (c.fact 7 rfl)⟩)) ca_nil))))))))
    (cb_cons (cs_if (ct_w (cw_or (ct_not (ct_truth (ce_call G__law_same hr (by rfl) (He.glo_ok KX G (c.fact 26 rfl)) kp__law_same b__law_same (ca_cons (ce_var (pv 4)) (ca_cons (ce_lst (ca_cons (ce_lst ca_nil) (ca_cons (ce_lst ca_nil) (ca_cons (ce_lst ca_nil) (ca_cons (ce_lst ca_nil) (ca_cons (ce_lst ca_nil) ca_nil)))))) ca_nil))) (fun _ => rfl))) (cw_or1 (ct_not (ct_truth (ce_call G__law_same hr (by rfl) (He.glo_ok KX G (c.fact 26 rfl)) kp__law_same b__law_same (ca_cons (ce_lst (ca_cons (ce_fld (ce_var (pv 3)) (by
      intro c0 hc0
      simp only [List.mem_cons, List.not_mem_nil, or_false] at hc0
      subst hc0; exact ⟨He.cls_ok (c.fact 0 rfl), He.noat_ok (c.fact 14 rfl)⟩)) (ca_cons (ce_fld (ce_var (pv 3)) (by
      intro c0 hc0
      simp only [List.mem_cons, List.not_mem_nil, or_false] at hc0
      subst hc0; exact ⟨He.cls_ok (c.fact 0 rfl), He.noat_ok (c.fact 6 rfl)⟩)) (ca_cons (ce_fld (ce_var (pv 3)) (by
      intro c0 hc0
      simp only [List.mem_cons, List.not_mem_nil, or_false] at hc0
      subst hc0; exact ⟨He.cls_ok (c.fact 0 rfl), He.noat_ok (c.fact 19 rfl)⟩)) ca_nil)))) (ca_cons (ce_lst (ca_cons ce_int (ca_cons ce_int (ca_cons ce_int ca_nil)))) ca_nil))) (fun _ => rfl))))))
    (cb_one (cs_ret ce_bl))
    cb_nil)
    (cb_cons (cs_set (ps_set (i := 5) sc_law.nd rfl (by first | exact Or.inl rfl | exact Or.inr rfl) (ce_call G__law_given (hr.mono (by decide)) (by rfl) (He.glo_ok KX G (c.fact 29 rfl)) kp__law_given b__law_given (ca_cons (ce_var (pv 0)) (ca_cons ce_int (ca_cons ce_int ca_nil))))))
    (cb_cons (cs_for PassesOwn.never rfl (ci_seq (ce_var (pv 5))) (cg_of (pg_name (i := 6) sc_law.nd rfl (by first | exact Or.inl rfl | exact Or.inr rfl)))
    (cb_cons (cs_for PassesOwn.never rfl (ci_seq (ce_lst (ca_cons ce_non (ca_cons ce_int (ca_cons ce_int (ca_cons ce_int (ca_cons ce_int ca_nil))))))) (cg_of (pg_name (i := 7) sc_law.nd rfl (by first | exact Or.inl rfl | exact Or.inr rfl)))
    (cb_cons (cs_set (ps_set (i := 9) sc_law.nd rfl (by first | exact Or.inl rfl | exact Or.inr rfl) (ce_call G_next_message (hr.mono (by decide)) (by rfl) (He.glo_ok KX G (c.fact 23 rfl)) kp_next_message b_next_message (ca_cons (ce_var (pv 3)) (ca_cons (ce_var (pv 7)) (ca_cons (ce_lst (ca_cons ce_int (ca_cons ce_int ca_nil))) ca_nil))))))
    (cb_cons (cs_set (ps_set (i := 10) sc_law.nd rfl (by first | exact Or.inl rfl | exact Or.inr rfl) ce_int))
    (cb_cons (cs_if (ct_cmp ok_isnot (ce_var (pv 7)) ce_non (nomark _))
    (cb_one (cs_set (ps_set (i := 10) sc_law.nd rfl (by first | exact Or.inl rfl | exact Or.inr rfl) (ce_callB ok_len (by rfl) (He.free_ok KX G (c.fact 32 rfl)) (by decide +kernel) (ca_cons (ce_lc (own := [("_law_other", 11)]) rfl sc_law.nd (ci_seq (ce_fld (ce_var (pv 3)) (by
      intro c0 hc0
      simp only [List.mem_cons, List.not_mem_nil, or_false] at hc0
      subst hc0; exact ⟨He.cls_ok (c.fact 0 rfl), He.noat_ok (c.fact 11 rfl)⟩))) (blkOk_by (own := [("_law_other", 11)]) (N := ["_law_script", "_law_draws_here", "_law_paths", "_law_own", "_law_empty", "_law_due", "_law_row", "_law_stream_here", "_law_tags", "_law_told", "_law_place", "_law_other"]) (sc := defScope s_law) (by decide +kernel)) (fun _ _ _ _ _ => (cgw_of (pg_name (i := 11) sc_law.nd rfl (by first | exact Or.inl rfl | exact Or.inr rfl)) (by decide))) (fun _ _ _ _ _ => (cts_one (ct_cmp (ok_eq hr.units) (ce_ix (ce_var (pv 11)) ce_int (fun _ _ => rfl)) (ce_var (pv 7)) (nomark _)))) (fun _ _ _ _ _ => (ce_var (pv 11)))) ca_nil)))))
    cb_nil)
    (cb_one (cs_if (ct_not (ct_truth (ce_call G__law_same hr (by rfl) (He.glo_ok KX G (c.fact 26 rfl)) kp__law_same b__law_same (ca_cons (ce_var (pv 9)) (ca_cons (ce_tup (ca_cons (ce_bin ok_add (ce_callB ok_len (by rfl) (He.free_ok KX G (c.fact 32 rfl)) (by decide +kernel) (ca_cons (ce_fld (ce_var (pv 3)) (by
      intro c0 hc0
      simp only [List.mem_cons, List.not_mem_nil, or_false] at hc0
      subst hc0; exact ⟨He.cls_ok (c.fact 0 rfl), He.noat_ok (c.fact 11 rfl)⟩)) ca_nil)) ce_int) (ca_cons (ce_var (pv 7)) (ca_cons (ce_var (pv 10)) (ca_cons (ce_tup (ca_cons ce_int (ca_cons ce_int ca_nil))) ca_nil))))) ca_nil))) (fun _ => rfl)))
    (cb_one (cs_ret ce_bl))
    cb_nil))))))
    (cb_cons (cs_set (ps_set (i := 9) sc_law.nd rfl (by first | exact Or.inl rfl | exact Or.inr rfl) (ce_call G_next_message (hr.mono (by decide)) (by rfl) (He.glo_ok KX G (c.fact 23 rfl)) kp_next_message b_next_message (ca_cons (ce_var (pv 3)) (ca_cons (ce_ix (ce_var (pv 6)) ce_int (fun _ _ => rfl)) (ca_cons (ce_callTy ok_list (by rfl) (He.free_ok KX G (c.fact 35 rfl)) (by decide +kernel) (ca_cons (ce_ix (ce_var (pv 6)) ce_int (fun _ _ => rfl)) ca_nil)) ca_nil))))))
    (cb_cons (cs_if (ct_w (cw_or (ct_not (ct_truth (ce_call G__law_same hr (by rfl) (He.glo_ok KX G (c.fact 26 rfl)) kp__law_same b__law_same (ca_cons (ce_var (pv 9)) (ca_cons (ce_var (pv 6)) ca_nil))) (fun _ => rfl))) (cw_or1 (ct_cmp (ok_ne hr.units) (ce_callB ok_len (by rfl) (He.free_ok KX G (c.fact 32 rfl)) (by decide +kernel) (ca_cons (ce_fld (ce_var (pv 3)) (by
      intro c0 hc0
      simp only [List.mem_cons, List.not_mem_nil, or_false] at hc0
      subst hc0; exact ⟨He.cls_ok (c.fact 0 rfl), He.noat_ok (c.fact 11 rfl)⟩)) ca_nil)) (ce_bin ok_sub (ce_ix (ce_var (pv 6)) ce_int (fun _ _ => rfl)) ce_int) (nomark _)))))
    (cb_one (cs_ret ce_bl))
    cb_nil)
    (cb_cons (cs_expr (ce_bm PySem.F.plainAttrs_list PySem.F.slot_list_append PySem.F.type_list_append ok_append (ce_fld (ce_var (pv 3)) (by
      intro c0 hc0
      simp only [List.mem_cons, List.not_mem_nil, or_false] at hc0
      subst hc0; exact ⟨He.cls_ok (c.fact 0 rfl), He.noat_ok (c.fact 11 rfl)⟩)) (ca_cons (ce_var (pv 9)) ca_nil)))
    (cb_one (cs_if (ct_w (cw_or (ct_not (ct_truth (ce_call G__law_same hr (by rfl) (He.glo_ok KX G (c.fact 26 rfl)) kp__law_same b__law_same (ca_cons (ce_meth (ce_var (pv 3)) (He.cls_ok (c.fact 0 rfl)) (He.meth_ok (c.fact 2 rfl)) G_Association_message (hr.mono (by decide)) b_Association_message (ca_cons (ce_ix (ce_var (pv 6)) ce_int (fun _ _ => rfl)) ca_nil)) (ca_cons (ce_var (pv 6)) ca_nil))) (fun _ => rfl))) (cw_or1 (ct_not (ct_truth (ce_call G__law_same hr (by rfl) (He.glo_ok KX G (c.fact 26 rfl)) kp__law_same b__law_same (ca_cons (ce_meth (ce_var (pv 3)) (He.cls_ok (c.fact 0 rfl)) (He.meth_ok (c.fact 2 rfl)) G_Association_message (hr.mono (by decide)) b_Association_message (ca_cons ce_int ca_nil)) (ca_cons (ce_ix (ce_var (pv 5)) ce_int (fun _ _ => rfl)) ca_nil))) (fun _ => rfl))))))
    (cb_one (cs_ret ce_bl))
    cb_nil)))))))
    (cb_cons (cs_for PassesOwn.never rfl (ci_seq (ce_lst (ca_cons ce_non (ca_cons ce_int (ca_cons ce_int (ca_cons ce_int (ca_cons ce_int ca_nil))))))) (cg_of (pg_name (i := 7) sc_law.nd rfl (by first | exact Or.inl rfl | exact Or.inr rfl)))
    (cb_one (cs_if (ct_not (ct_truth (ce_call G__law_same hr (by rfl) (He.glo_ok KX G (c.fact 26 rfl)) kp__law_same b__law_same (ca_cons (ce_call G_of_stream (hr.mono (by decide)) (by rfl) (He.glo_ok KX G (c.fact 22 rfl)) kp_of_stream b_of_stream (ca_cons (ce_var (pv 5)) (ca_cons (ce_var (pv 7)) ca_nil))) (ca_cons (ce_lc (own := [("_law_row", 6)]) rfl sc_law.nd (ci_seq (ce_var (pv 5))) (blkOk_by (own := [("_law_row", 6)]) (N := ["_law_script", "_law_draws_here", "_law_paths", "_law_own", "_law_empty", "_law_due", "_law_row", "_law_stream_here", "_law_tags", "_law_told", "_law_place", "_law_other"]) (sc := defScope s_law) (by decide +kernel)) (fun _ _ _ _ _ => (cgw_of (pg_name (i := 6) sc_law.nd rfl (by first | exact Or.inl rfl | exact Or.inr rfl)) (by decide))) (fun _ _ _ _ _ => (cts_one (ct_cmp (ok_eq hr.units) (ce_ix (ce_var (pv 6)) ce_int (fun _ _ => rfl)) (ce_var (pv 7)) (nomark _)))) (fun _ _ _ _ _ => (ce_var (pv 6)))) ca_nil))) (fun _ => rfl)))
    (cb_one (cs_ret ce_bl))
    cb_nil)))
    (cb_cons (cs_set (ps_set (i := 8) sc_law.nd rfl (by first | exact Or.inl rfl | exact Or.inr rfl) (ce_lst (ca_cons (ce_meth (ce_var (pv 3)) (He.cls_ok (c.fact 0 rfl)) (He.meth_ok (c.fact 3 rfl)) G_Association_has_tags (hr.mono (by decide)) b_Association_has_tags (ca_cons (ce_ix (ce_var (pv 1)) ce_int (fun _ _ => rfl)) (ca_cons (ce_ix (ce_var (pv 1)) ce_int (fun _ _ => rfl)) ca_nil))) (ca_cons (ce_meth (ce_var (pv 3)) (He.cls_ok (c.fact 0 rfl)) (He.meth_ok (c.fact 3 rfl)) G_Association_has_tags (hr.mono (by decide)) b_Association_has_tags (ca_cons (ce_bin ok_add (ce_ix (ce_var (pv 1)) ce_int (fun _ _ => rfl)) ce_int) (ca_cons (ce_ix (ce_var (pv 1)) ce_int (fun _ _ => rfl)) ca_nil))) (ca_cons (ce_meth (ce_var (pv 3)) (He.cls_ok (c.fact 0 rfl)) (He.meth_ok (c.fact 3 rfl)) G_Association_has_tags (hr.mono (by decide)) b_Association_has_tags (ca_cons (ce_ix (ce_var (pv 1)) ce_int (fun _ _ => rfl)) (ca_cons (ce_bin ok_add (ce_ix (ce_var (pv 1)) ce_int (fun _ _ => rfl)) ce_int) ca_nil))) ca_nil))))))
    (cb_cons (cs_set (ps_set (i := 9) sc_law.nd rfl (by first | exact Or.inl rfl | exact Or.inr rfl) (ce_lst (ca_cons (ce_fld (ce_var (pv 3)) (by
      intro c0 hc0
      simp only [List.mem_cons, List.not_mem_nil, or_false] at hc0
      subst hc0; exact ⟨He.cls_ok (c.fact 0 rfl), He.noat_ok (c.fact 18 rfl)⟩)) (ca_cons (ce_fld (ce_var (pv 3)) (by
      intro c0 hc0
      simp only [List.mem_cons, List.not_mem_nil, or_false] at hc0
      subst hc0; exact ⟨He.cls_ok (c.fact 0 rfl), He.noat_ok (c.fact 13 rfl)⟩)) (ca_cons (ce_fld (ce_var (pv 3)) (by
      intro c0 hc0
      simp only [List.mem_cons, List.not_mem_nil, or_false] at hc0
      subst hc0; exact ⟨He.cls_ok (c.fact 0 rfl), He.noat_ok (c.fact 12 rfl)⟩)) (ca_cons (ce_fld (ce_var (pv 3)) (by
      intro c0 hc0
      simp only [List.mem_cons, List.not_mem_nil, or_false] at hc0
      subst hc0; exact ⟨He.cls_ok (c.fact 0 rfl), He.noat_ok (c.fact 9 rfl)⟩)) (ca_cons (ce_meth0 (ce_var (pv 3)) (He.cls_ok (c.fact 0 rfl)) (He.meth_ok (c.fact 4 rfl)) G_Association_all_acked (hr.mono (by decide)) b_Association_all_acked) ca_nil))))))))
    (cb_cons (cs_if (ct_not (ct_truth (ce_call G__law_same hr (by rfl) (He.glo_ok KX G (c.fact 26 rfl)) kp__law_same b__law_same (ca_cons (ce_var (pv 9)) (ca_cons (ce_lst (ca_cons (ce_ix (ce_var (pv 1)) ce_int (fun _ _ => rfl)) (ca_cons (ce_ix (ce_var (pv 1)) ce_int (fun _ _ => rfl)) (ca_cons (ce_tup (ca_cons (ce_bin ok_mod (ce_callTy ok_int (by rfl) (He.free_ok KX G (c.fact 33 rfl)) (by decide +kernel) (ca_cons (ce_ix (ce_var (pv 1)) ce_int (fun _ _ => rfl)) ca_nil)) ce_int) ca_nil)) (ca_cons ce_str (ca_cons (ce_cmp (ok_eq hr.units) (ce_callB ok_len (by rfl) (He.free_ok KX G (c.fact 32 rfl)) (by decide +kernel) (ca_cons (ce_var (pv 5)) ca_nil)) ce_int (nomark _)) ca_nil)))))) ca_nil))) (fun _ => rfl)))
    (cb_one (cs_ret ce_bl))
    cb_nil)
    (cb_one (cs_ret (ce_call G__law_same hr (by rfl) (He.glo_ok KX G (c.fact 26 rfl)) kp__law_same b__law_same (ca_cons (ce_var (pv 8)) (ca_cons (ce_lst (ca_cons ce_bl (ca_cons (ce_cmp (ok_eq hr.units) (ce_bin ok_add (ce_ix (ce_var (pv 1)) ce_int (fun _ _ => rfl)) ce_int) (ce_ix (ce_var (pv 1)) ce_int (fun _ _ => rfl)) (nomark _)) (ca_cons ce_bl ca_nil)))) ca_nil)))))))))))))))))
abbrev R : PySem.W.OpenRow := PySem.W.OpenLaw.row PySem.Challenge.rw_fardesk_k48_association_messages
abbrev hk : PySem.W.Hook := He.hookD 4 fa fn
def ob (s : PySem.W.SharedT) : He.AlD := He.obsDG 4 fa fn (HandSHeadRun.getT s)
theorem ob_eq (s : PySem.W.SharedT) : ob s = hk.obs s.abs := He.obsDG_eq (HandSHeadRun.getT_eq s)
def loose : List Str := (["_wall", "Association", "of_stream", "next_message", "_law_cell", "_law_draws", "_law_same", "_law_text", "_law_stream", "_law_given"] : List PySem.Str)
theorem run (w : World) : HandSHeadRun.RunEq R (PySem.W.view R.prog [12]) hk ob 20000 loose w := by
  intro os
  kernel_rfl
theorem facts {P : Program} {w : World} {K : PySem.W.Frag} {h : Heap} {mg : Str → Option Value} {f : Addr} (X : K.In h) (G : h.Ns mainGlobals mg) (hfa : mg ("law" : Str) = some (.ref f)) (c : He.SaysD fa fn K) :
    ∃ fd : FuncData, (∀ (s : Shared) (v : Value), BindsTo s fd ⟨[v], []⟩ [("_law_script", v)]) ∧ ∀ base : Heap, K.In base → base.Ns mainGlobals mg → FnOk P w K mg base CX0 10 f fd ["_law_script"] (spF K F_law) := by
  obtain ⟨fd, FD⟩ := c.def_ 12 (d := d_law) rfl
  have e := hfa.symm.trans (He.glo_ok X G (c.fact 30 rfl))
  cases e
  have b := FunD.bindsA (ps := ["_law_script"]) FD fun _ _ _ _ _ _ us hl => match us, hl with | [_], _ => rfl
  exact ⟨fd, fun s v => b s [v] rfl, fun base _ _ => ok_law X G c FD⟩
end K48
open PySem PySem.W PySem.Calls PyProof.Rows
theorem PySem.Challenge.cw_fardesk_k48_association_messages_holds : PySem.Challenge.rw_fardesk_k48_association_messages.Holds := by
  w_on; o_law
  refine HandSHeadRun.head_any (r := OpenLaw.row PySem.Challenge.rw_fardesk_k48_association_messages) (q := view (OpenLaw.row PySem.Challenge.rw_fardesk_k48_association_messages).prog [12]) (H := K48.hk) (ob := K48.ob) (M := 20000) (loose := K48.loose) (d := HandSHeadRun.topDef (OpenLaw.row PySem.Challenge.rw_fardesk_k48_association_messages).prog 12) (kwd := []) K48.ob_eq
    (by kernel_rfl) (fun s => by kernel_rfl) K48.run (by kernel_rfl) (by kernel_rfl) (by kernel_rfl) (by rfl) (by first | assumption | decide +kernel) (by decide +kernel) ⟨rfl, rfl, rfl, rfl, rfl, by decide +kernel⟩ ?hw ?hc
  case hw => w_witness2
  case hc =>
    refine L2.walk_ofE (l := PySem.Challenge.rw_fardesk_k48_association_messages) (n := 63) (k := 10) (x := "_law_script") (CX := L2.CX0) rfl (by decide) (by kernel_rfl) ⟨rfl, by decide, by decide⟩ ?F (fun _ _ _ _ z => z)
    intro w mg fa h Y G hmg0
    obtain ⟨K, KX, c⟩ := Y
    have hmg : mg ("law" : PySem.Str) = some (.ref fa) := by
      have e : (HandSHeadRun.topDef (OpenLaw.row PySem.Challenge.rw_fardesk_k48_association_messages).prog 12).name = ("law" : PySem.Str) := by kernel_rfl
      rw [← e]
      exact hmg0
    obtain ⟨fd, hb, hF⟩ := K48.facts (P := (PySem.Challenge.rw_fardesk_k48_association_messages).prog) (w := w) KX G hmg c
    exact ⟨K, fd, _, KX, hb, CI.law_sp K48.law_true, hF⟩
