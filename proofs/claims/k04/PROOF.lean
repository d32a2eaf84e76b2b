import PyProof.Rows.All
import Wide.All
import OpenK.AllK
import Wide.FinOn
import KE.KStateDown
import Lean
import HandS.ForMost
import HandS.WordsExc
import HandS.Defaults
import HandS.Head0
import HandS.Head1
import HandS.Head2
import HandS.HeadEnd
import HandS.HeadHook1
import HandS.HeadHook2
import HandS.TupAny
import HandS.Style
import HandS.Conv
import HandS.IsInst
import HandS.SortInts
import HandS.Star
import HandS.TupMul
import PySem.Challenge.RW_fardesk_k04_terminal_scan_states
set_option Elab.async false
set_option linter.all false
set_option maxRecDepth 100000
set_option maxHeartbeats 0

/-! Ci1: values as trees, objects by numbers, what represents them -/
namespace CI
open PySem PySem.Spec PyProof.Rows L2

inductive D where
  | non | bl (b : Bool) | int (i : Int) | str (x : Str) | tup (ds : List D) | lst (ds : List D) | scr (ns : List Int) | loc (k : Nat)
inductive O where
  | lst (ds : List D) | ins (c : Str) (fs : List (Str × D)) | dct (kvs : List (Key × D))
abbrev Mem := List O
abbrev Slots := List (Option D)
/-- a result: a value, or a list that nobody else holds -/
inductive Rz where
  | val (d : D) | new (ds : List D)
def Rz.d : Rz → D
  | .val d => d
  | .new ds => .lst ds

/-- a list that never changes: frozen, or of the written part -/
def SqS (K : PySem.W.Frag) (H : Hp) (a : Addr) (xs : List V) : Prop := (∃ o, H a = some (.frz o (.lst xs))) ∨
  ∃ (o : Obj) (its : Array Value) (n : Nat), K.lookup a = some o ∧ o.cls = .type "list" ∧ o.dict = none ∧ o.data = .seq its n ∧ its.size ≤ sizeLine ∧ Vals xs its.toList
theorem SqS.l {K : PySem.W.Frag} {H : Hp} {a : Addr} {xs : List V} (h : SqS K H a xs) : SqL K H a xs := h.elim (fun h => .inl (.inr h)) .inr
mutual
def Rl (K : PySem.W.Frag) (H : Hp) (m : List Addr) : D → V → Prop
  | .non, v => v = .non
  | .bl b, v => v = .bl b
  | .int i, v => v = .int i
  | .str x, v => v = .str x
  | .tup ds, v => ∃ a vs, v = .ref a ∧ SqT K H a vs ∧ Rls K H m ds vs
  | .lst ds, v => ∃ a vs, v = .ref a ∧ a ∉ m ∧ H a = some (.lst vs) ∧ Rls K H m ds vs
  | .scr ns, v => ∃ a, v = .ref a ∧ SqS K H a (ns.map V.int)
  | .loc k, v => ∃ a, v = .ref a ∧ m[k]? = some a
def Rls (K : PySem.W.Frag) (H : Hp) (m : List Addr) : List D → List V → Prop
  | [], vs => vs = []
  | d :: ds, vs => ∃ v r, vs = v :: r ∧ Rl K H m d v ∧ Rls K H m ds r
end
def Rfs (K : PySem.W.Frag) (H : Hp) (m : List Addr) : List (Str × D) → List (Str × V) → Prop
  | [], gs => gs = []
  | (f, d) :: fs, gs => ∃ v r, gs = (f, v) :: r ∧ Rl K H m d v ∧ Rfs K H m fs r
def Rks (K : PySem.W.Frag) (H : Hp) (m : List Addr) : List (Key × D) → List (Key × V) → Prop
  | [], gs => gs = []
  | (f, d) :: fs, gs => ∃ v r, gs = (f, v) :: r ∧ Rl K H m d v ∧ Rks K H m fs r
def Ro (K : PySem.W.Frag) (H : Hp) (m : List Addr) (a : Addr) : O → Prop
  | .lst ds => ∃ vs, H a = some (.lst vs) ∧ Rls K H m ds vs
  | .ins c fs => ∃ dx gs, H a = some (.ins (He.ga K c) dx gs) ∧ Rfs K H m fs gs
  | .dct kvs => ∃ gs, H a = some (.dK gs) ∧ Rks K H m kvs gs

structure Ext (H : Hp) (m : List Addr) (H' : Hp) (m' : List Addr) : Prop where
  tup : ∀ a xs, H a = some (.tup xs) → H' a = some (.tup xs)
  frz : ∀ a o u, H a = some (.frz o u) → H' a = some (.frz o u)
  lst : ∀ a xs, a ∉ m → H a = some (.lst xs) → H' a = some (.lst xs)
  trk : ∀ a, H' a = none → H a = none
  pre : ∃ l, m' = m ++ l ∧ ∀ a ∈ l, H a = none
structure Wd (K : PySem.W.Frag) (H : Hp) (m : List Addr) (M : Mem) : Prop where
  len : m.length = M.length
  nd : m.Nodup
  at_ : ∀ (k : Nat) (a : Addr) (o : O), m[k]? = some a → M[k]? = some o → Ro K H m a o
def Rs (K : PySem.W.Frag) (H : Hp) (m : List Addr) (ρ : Slots) (σ : L2.St) : Prop :=
  ρ.length = σ.length ∧ ∀ (i : Nat) (d : D), ρ[i]? = some (some d) → ∃ v, σ[i]? = some (some v) ∧ Rl K H m d v

section
variable {K : PySem.W.Frag} {H H1 H2 H' : Hp} {m m1 m2 m' : List Addr} {M M1 : Mem} {a p : Addr}
theorem Ext.refl : Ext H m H m := ⟨fun _ _ h => h, fun _ _ _ h => h, fun _ _ _ h => h, fun _ h => h, [], by simp, fun _ h => nomatch h⟩
theorem Ext.notin (e : Ext H m H1 m1) {o : HO} (h : H a = some o) (n : a ∉ m) : a ∉ m1 := by
  obtain ⟨l, rfl, hl⟩ := e.pre
  intro q
  rcases List.mem_append.mp q with q | q
  · exact n q
  · rw [hl a q] at h; cases h
theorem Ext.trans (e : Ext H m H1 m1) (e' : Ext H1 m1 H2 m2) : Ext H m H2 m2 := by
  refine ⟨fun a xs h => e'.tup a xs (e.tup a xs h), fun a o u h => e'.frz a o u (e.frz a o u h), fun a xs n h => e'.lst a xs (e.notin h n) (e.lst a xs n h), fun a h => e.trk a (e'.trk a h), ?_⟩
  obtain ⟨l, rfl, hl⟩ := e.pre
  obtain ⟨l', rfl, hl'⟩ := e'.pre
  exact ⟨l ++ l', by rw [List.append_assoc], fun a q => (List.mem_append.mp q).elim (hl a) fun q => e.trk a (hl' a q)⟩
/-- a new object -/
theorem Ext.new {o : HO} (n : H p = none) : Ext H m (upd H p o) m := by
  have ne : ∀ a u, H a = some u → a ≠ p := fun a u h => ne_of_none h n
  refine ⟨fun a xs h => by rw [upd_ne (ne a _ h)]; exact h, fun a o u h => by rw [upd_ne (ne a _ h)]; exact h, fun a xs _ h => by rw [upd_ne (ne a _ h)]; exact h, fun a h => ?_, [], by simp, fun _ h => nomatch h⟩
  by_cases q : a = p
  · rw [q]; exact n
  · rw [upd_ne q] at h; exact h
/-- an own object is changed -/
theorem Ext.set {o u : HO} (h : H p = some u) (hm : p ∈ m) (nt : ∀ xs, u ≠ .tup xs) (nf : ∀ o u', u ≠ .frz o u') : Ext H m (upd H p o) m := by
  refine ⟨fun a xs q => ?_, fun a o u' q => ?_, fun a xs n q => ?_, fun a q => ?_, [], by simp, fun _ h => nomatch h⟩
  · rw [upd_ne (fun z => by subst z; rw [h] at q; cases q; exact nt xs rfl)]; exact q
  · rw [upd_ne (fun z => by subst z; rw [h] at q; cases q; exact nf _ _ rfl)]; exact q
  · rw [upd_ne (fun z => n (by rw [z]; exact hm))]; exact q
  · by_cases z : a = p
    · rw [z, upd_same] at q; cases q
    · rw [upd_ne z] at q; exact q
theorem Ext.get (e : Ext H m H1 m1) {k : Nat} (h : m[k]? = some a) : m1[k]? = some a := by
  obtain ⟨l, rfl, _⟩ := e.pre
  obtain ⟨h1, _⟩ := List.getElem?_eq_some_iff.mp h
  rw [List.getElem?_append_left h1]; exact h
theorem sqT_ext (e : Ext H m H1 m1) {vs : List V} (h : SqT K H a vs) : SqT K H1 a vs := by
  rcases h with (h | ⟨o, h⟩) | h
  · exact .inl (.inl (e.tup _ _ h))
  · exact .inl (.inr ⟨o, e.frz _ _ _ h⟩)
  · exact .inr h
mutual
theorem Rl.ext (e : Ext H m H1 m1) : ∀ {d : D} {v : V}, Rl K H m d v → Rl K H1 m1 d v
  | .non, _, h => h
  | .bl _, _, h => h
  | .int _, _, h => h
  | .str _, _, h => h
  | .tup ds, _, h => by
    rw [Rl] at h ⊢
    obtain ⟨a, vs, r, s, t⟩ := h
    exact ⟨a, vs, r, sqT_ext e s, Rls.ext e t⟩
  | .lst ds, _, h => by
    rw [Rl] at h ⊢
    obtain ⟨a, vs, r, n, s, t⟩ := h
    exact ⟨a, vs, r, e.notin s n, e.lst _ _ n s, Rls.ext e t⟩
  | .scr ns, _, h => by
    rw [Rl] at h ⊢
    obtain ⟨a, r, s⟩ := h
    exact ⟨a, r, s.imp (fun ⟨o, s⟩ => ⟨o, e.frz _ _ _ s⟩) id⟩
  | .loc k, _, h => by
    rw [Rl] at h ⊢
    obtain ⟨a, r, s⟩ := h
    exact ⟨a, r, e.get s⟩
theorem Rls.ext (e : Ext H m H1 m1) : ∀ {ds : List D} {vs : List V}, Rls K H m ds vs → Rls K H1 m1 ds vs
  | [], _, h => by rw [Rls] at h ⊢; exact h
  | d :: ds, _, h => by
    rw [Rls] at h ⊢
    obtain ⟨v, r, q, h1, h2⟩ := h
    exact ⟨v, r, q, Rl.ext e h1, Rls.ext e h2⟩
end
theorem Rfs.ext (e : Ext H m H1 m1) : ∀ {fs : List (Str × D)} {gs : List (Str × V)}, Rfs K H m fs gs → Rfs K H1 m1 fs gs
  | [], _, h => h
  | (f, d) :: fs, _, h => by
    obtain ⟨v, r, q, h1, h2⟩ := h
    exact ⟨v, r, q, Rl.ext e h1, Rfs.ext e h2⟩
theorem Rks.ext (e : Ext H m H1 m1) : ∀ {fs : List (Key × D)} {gs : List (Key × V)}, Rks K H m fs gs → Rks K H1 m1 fs gs
  | [], _, h => h
  | (f, d) :: fs, _, h => by
    obtain ⟨v, r, q, h1, h2⟩ := h
    exact ⟨v, r, q, Rl.ext e h1, Rks.ext e h2⟩
theorem Ro.ext (e : Ext H m H1 m1) {o : O} (hs : H1 a = H a) (h : Ro K H m a o) : Ro K H1 m1 a o := by
  cases o with
  | lst ds => obtain ⟨vs, h1, h2⟩ := h; exact ⟨vs, hs.trans h1, h2.ext e⟩
  | ins c fs => obtain ⟨dx, gs, h1, h2⟩ := h; exact ⟨dx, gs, hs.trans h1, h2.ext e⟩
  | dct kvs => obtain ⟨gs, h1, h2⟩ := h; exact ⟨gs, hs.trans h1, h2.ext e⟩
theorem Ro.there {o : O} (h : Ro K H m a o) : ∃ u, H a = some u ∧ (∀ xs, u ≠ .tup xs) ∧ ∀ o' u', u ≠ .frz o' u' := by
  cases o with
  | lst ds => obtain ⟨vs, h1, h2⟩ := h; exact ⟨_, h1, (by intro _ z; cases z), (by intro _ _ z; cases z)⟩
  | ins c fs => obtain ⟨dx, gs, h1, h2⟩ := h; exact ⟨_, h1, (by intro _ z; cases z), (by intro _ _ z; cases z)⟩
  | dct kvs => obtain ⟨gs, h1, h2⟩ := h; exact ⟨_, h1, (by intro _ z; cases z), (by intro _ _ z; cases z)⟩
theorem Wd.there (w : Wd K H m M) (h : a ∈ m) : ∃ u, H a = some u ∧ (∀ xs, u ≠ .tup xs) ∧ ∀ o' u', u ≠ .frz o' u' := by
  obtain ⟨k, hk, e⟩ := List.mem_iff_getElem.mp h
  have h2 : k < M.length := by rw [← w.len]; exact hk
  exact (w.at_ k a M[k] (by rw [List.getElem?_eq_getElem hk, e]) (List.getElem?_eq_getElem h2)).there
theorem Wd.fresh (w : Wd K H m M) (n : H p = none) : p ∉ m := fun h => by
  obtain ⟨u, q, _⟩ := w.there h
  rw [n] at q; cases q
theorem Wd.same (w : Wd K H m M) (e : Ext H m H1 m) (hs : ∀ a ∈ m, H1 a = H a) : Wd K H1 m M :=
  ⟨w.len, w.nd, fun k a o h1 h2 => (w.at_ k a o h1 h2).ext e (hs a (List.mem_of_getElem? h1))⟩
theorem Wd.new {o : HO} (w : Wd K H m M) (n : H p = none) : Wd K (upd H p o) m M :=
  w.same (.new n) fun a h => upd_ne fun z => w.fresh n (z ▸ h)
theorem nodup_at {m : List Addr} (nd : m.Nodup) {i j : Nat} (a : m[i]? = some p) (b : m[j]? = some p) : i = j := by
  obtain ⟨h1, e1⟩ := List.getElem?_eq_some_iff.mp a
  obtain ⟨h2, e2⟩ := List.getElem?_eq_some_iff.mp b
  exact (List.getElem_inj nd).mp (e1.trans e2.symm)
/-- the object k is changed -/
theorem Wd.set {k : Nat} {o : O} {u : HO} (w : Wd K H m M) (hk : m[k]? = some p) (h : Ro K (upd H p u) m p o) : Wd K (upd H p u) m (M.set k o) := by
  obtain ⟨v, hv, nt, nf⟩ := w.there (List.mem_of_getElem? hk)
  have e : Ext H m (upd H p u) m := .set hv (List.mem_of_getElem? hk) nt nf
  refine ⟨by rw [List.length_set]; exact w.len, w.nd, fun j a o' h1 h2 => ?_⟩
  by_cases q : j = k
  · subst q
    rw [hk] at h1; cases h1
    obtain ⟨z, _⟩ := List.getElem?_eq_some_iff.mp h2
    rw [List.length_set] at z
    rw [List.getElem?_set_self z] at h2
    cases h2; exact h
  · rw [List.getElem?_set_ne (Ne.symm q)] at h2
    exact (w.at_ j a o' h1 h2).ext e (upd_ne fun z => q (nodup_at w.nd (z ▸ h1) hk))
theorem Wd.ext_set {k : Nat} {u : HO} (w : Wd K H m M) (hk : m[k]? = some p) : Ext H m (upd H p u) m := by
  obtain ⟨v, hv, nt, nf⟩ := w.there (List.mem_of_getElem? hk)
  exact .set hv (List.mem_of_getElem? hk) nt nf
theorem Wd.get (w : Wd K H m M) {k : Nat} {o : O} (h : M[k]? = some o) : ∃ a, m[k]? = some a ∧ Ro K H m a o := by
  obtain ⟨h1, _⟩ := List.getElem?_eq_some_iff.mp h
  have h2 : k < m.length := by rw [w.len]; exact h1
  exact ⟨m[k], List.getElem?_eq_getElem h2, w.at_ k _ o (List.getElem?_eq_getElem h2) h⟩
/-- a new own object -/
theorem Wd.push {o : O} {u : HO} (w : Wd K H m M) (n : H p = none) (h : Ro K (upd H p u) (m ++ [p]) p o) : Wd K (upd H p u) (m ++ [p]) (M ++ [o]) ∧ Ext H m (upd H p u) (m ++ [p]) := by
  have hp := w.fresh n
  have e1 : Ext H m (upd H p u) m := .new n
  have e : Ext H m (upd H p u) (m ++ [p]) := ⟨e1.tup, e1.frz, e1.lst, e1.trk, [p], rfl, fun a q => by simp at q; rw [q]; exact n⟩
  refine ⟨⟨by simp [w.len], ?_, fun k a o' h1 h2 => ?_⟩, e⟩
  · rw [List.nodup_append]
    exact ⟨w.nd, by simp, fun a ha b hb z => by simp at hb; subst hb; exact hp (z ▸ ha)⟩
  · by_cases q : k < m.length
    · rw [List.getElem?_append_left q] at h1
      rw [List.getElem?_append_left (by rw [← w.len]; exact q)] at h2
      exact (w.at_ k a o' h1 h2).ext e (upd_ne fun z => hp (z ▸ List.mem_of_getElem? h1))
    · have hk : k = m.length := by
        obtain ⟨z, _⟩ := List.getElem?_eq_some_iff.mp h1
        simp at z; omega
      subst hk
      rw [List.getElem?_append_right (Nat.le_refl _)] at h1
      rw [w.len, List.getElem?_append_right (Nat.le_refl _)] at h2
      simp at h1 h2
      subst h1 h2
      exact h
theorem Rs.ext (e : Ext H m H1 m1) {ρ : Slots} {σ : L2.St} (h : Rs K H m ρ σ) : Rs K H1 m1 ρ σ :=
  ⟨h.1, fun i d q => let ⟨v, a, b⟩ := h.2 i d q; ⟨v, a, b.ext e⟩⟩
theorem Rs.set {ρ : Slots} {σ : L2.St} {d : D} {v : V} (h : Rs K H m ρ σ) (r : Rl K H m d v) (i : Nat) : Rs K H m (ρ.set i (some d)) (σ.set i (some v)) := by
  refine ⟨by simp [h.1], fun j e q => ?_⟩
  by_cases z : j = i
  · subst z
    obtain ⟨z, _⟩ := List.getElem?_eq_some_iff.mp q
    rw [List.length_set] at z
    rw [List.getElem?_set_self z] at q
    cases q
    exact ⟨v, List.getElem?_set_self (by rw [← h.1]; exact z), r⟩
  · rw [List.getElem?_set_ne (Ne.symm z)] at q
    rw [List.getElem?_set_ne (Ne.symm z)]
    exact h.2 j e q
theorem Rls.length : ∀ {ds : List D} {vs : List V}, Rls K H m ds vs → ds.length = vs.length
  | [], _, h => by rw [Rls] at h; subst h; rfl
  | d :: ds, _, h => by
    rw [Rls] at h
    obtain ⟨v, r, rfl, _, h2⟩ := h
    simp [h2.length]
theorem Rls.get : ∀ {ds : List D} {vs : List V}, Rls K H m ds vs → ∀ {i : Nat} {d : D}, ds[i]? = some d → ∃ v, vs[i]? = some v ∧ Rl K H m d v
  | [], _, h, i, d, q => by simp at q
  | e :: ds, _, h, i, d, q => by
    rw [Rls] at h
    obtain ⟨v, r, rfl, h1, h2⟩ := h
    cases i with
    | zero => simp at q; subst q; exact ⟨v, rfl, h1⟩
    | succ i => simpa using Rls.get h2 (i := i) (d := d) (by simpa using q)
theorem Rls.getR : ∀ {ds : List D} {vs : List V}, Rls K H m ds vs → ∀ {i : Nat} {v : V}, vs[i]? = some v → ∃ d, ds[i]? = some d ∧ Rl K H m d v
  | [], _, h, i, d, q => by rw [Rls] at h; subst h; simp at q
  | e :: ds, _, h, i, d, q => by
    rw [Rls] at h
    obtain ⟨v, r, rfl, h1, h2⟩ := h
    cases i with
    | zero => simp at q; subst q; exact ⟨e, rfl, h1⟩
    | succ i => simpa using Rls.getR h2 (i := i) (v := d) (by simpa using q)
theorem Rls.append : ∀ {ds es : List D} {vs ws : List V}, Rls K H m ds vs → Rls K H m es ws → Rls K H m (ds ++ es) (vs ++ ws)
  | [], _, _, _, h, g => by rw [Rls] at h; subst h; exact g
  | d :: ds, _, _, _, h, g => by
    rw [Rls] at h
    obtain ⟨v, r, rfl, h1, h2⟩ := h
    show Rls K H m (d :: (ds ++ _)) (v :: (r ++ _))
    rw [Rls]
    exact ⟨v, _, rfl, h1, h2.append g⟩
theorem Rls.take : ∀ {ds : List D} {vs : List V} (n : Nat), Rls K H m ds vs → Rls K H m (ds.take n) (vs.take n)
  | _, _, 0, _ => by simp [Rls]
  | [], _, n + 1, h => by rw [Rls] at h; subst h; simp [Rls]
  | d :: ds, _, n + 1, h => by
    rw [Rls] at h
    obtain ⟨v, r, rfl, h1, h2⟩ := h
    show Rls K H m (d :: ds.take n) (v :: r.take n)
    rw [Rls]
    exact ⟨v, _, rfl, h1, h2.take n⟩
theorem Rls.drop : ∀ {ds : List D} {vs : List V} (n : Nat), Rls K H m ds vs → Rls K H m (ds.drop n) (vs.drop n)
  | _, _, 0, h => by simpa using h
  | [], _, n + 1, h => by rw [Rls] at h; subst h; simp [Rls]
  | d :: ds, _, n + 1, h => by
    rw [Rls] at h
    obtain ⟨v, r, rfl, h1, h2⟩ := h
    exact h2.drop n
theorem Rls.one {d : D} {vs : List V} (h : Rls K H m [d] vs) : ∃ v, vs = [v] ∧ Rl K H m d v := by
  rw [Rls] at h
  obtain ⟨v, r, rfl, h1, h2⟩ := h
  rw [Rls] at h2
  subst h2
  exact ⟨v, rfl, h1⟩
theorem Rls.two {d e : D} {vs : List V} (h : Rls K H m [d, e] vs) : ∃ v w, vs = [v, w] ∧ Rl K H m d v ∧ Rl K H m e w := by
  rw [Rls] at h
  obtain ⟨v, r, rfl, h1, h2⟩ := h
  obtain ⟨w, rfl, h3⟩ := h2.one
  exact ⟨v, w, rfl, h1, h3⟩
theorem Rls.ints : ∀ {ns : List Int}, Rls K H m (ns.map D.int) (ns.map V.int)
  | [] => by simp [Rls]
  | n :: ns => by
    show Rls K H m (D.int n :: ns.map D.int) (V.int n :: ns.map V.int)
    rw [Rls]
    exact ⟨_, _, rfl, by rw [Rl], Rls.ints⟩
theorem Rls.set : ∀ {ds : List D} {vs : List V} {d : D} {v : V} (i : Nat), Rls K H m ds vs → Rl K H m d v → Rls K H m (ds.set i d) (vs.set i v)
  | [], _, _, _, _, h, _ => by rw [Rls] at h; subst h; simp [Rls]
  | e :: ds, _, d, v, 0, h, g => by
    rw [Rls] at h
    obtain ⟨w, r, rfl, h1, h2⟩ := h
    show Rls K H m (d :: ds) (v :: r)
    rw [Rls]
    exact ⟨_, _, rfl, g, h2⟩
  | e :: ds, _, d, v, i + 1, h, g => by
    rw [Rls] at h
    obtain ⟨w, r, rfl, h1, h2⟩ := h
    show Rls K H m (e :: ds.set i d) (w :: r.set i v)
    rw [Rls]
    exact ⟨_, _, rfl, h1, h2.set i g⟩
theorem Rls.eraseIdx : ∀ {ds : List D} {vs : List V} (i : Nat), Rls K H m ds vs → Rls K H m (ds.eraseIdx i) (vs.eraseIdx i)
  | [], _, _, h => by rw [Rls] at h; subst h; simp [Rls]
  | e :: ds, _, 0, h => by
    rw [Rls] at h
    obtain ⟨w, r, rfl, h1, h2⟩ := h
    exact h2
  | e :: ds, _, i + 1, h => by
    rw [Rls] at h
    obtain ⟨w, r, rfl, h1, h2⟩ := h
    show Rls K H m (e :: ds.eraseIdx i) (w :: r.eraseIdx i)
    rw [Rls]
    exact ⟨_, _, rfl, h1, h2.eraseIdx i⟩
theorem Rfs.lookup {f : Str} {d : D} : ∀ {fs : List (Str × D)} {gs : List (Str × V)}, Rfs K H m fs gs → fs.lookup f = some d → ∃ v, gs.lookup f = some v ∧ Rl K H m d v
  | [], _, h, q => by simp at q
  | (g, e) :: fs, _, h, q => by
    obtain ⟨v, r, rfl, h1, h2⟩ := h
    rw [List.lookup_cons] at q ⊢
    by_cases z : f == g
    · simp [z] at q ⊢; subst q; exact h1
    · simp [z] at q ⊢; exact h2.lookup q
theorem Rfs.lookup_none {f : Str} : ∀ {fs : List (Str × D)} {gs : List (Str × V)}, Rfs K H m fs gs → fs.lookup f = none → gs.lookup f = none
  | [], _, h, q => by cases h; simp
  | (g, e) :: fs, _, h, q => by
    obtain ⟨v, r, rfl, h1, h2⟩ := h
    rw [List.lookup_cons] at q ⊢
    by_cases z : f == g
    · rw [z] at q; cases q
    · rw [show (f == g) = false from by simpa using z] at q ⊢; exact h2.lookup_none q
theorem Rfs.length : ∀ {fs : List (Str × D)} {gs : List (Str × V)}, Rfs K H m fs gs → fs.length = gs.length
  | [], _, h => by cases h; rfl
  | (g, e) :: fs, _, h => by
    obtain ⟨v, r, rfl, h1, h2⟩ := h
    simp [h2.length]
end
end CI

/-! Ci2: readings of expressions -/
namespace CI
open PySem PySem.Spec PyProof.Rows L2

abbrev Ef := Slots → Mem → Option (Rz × Mem)
abbrev Tf := Slots → Mem → Option (Bool × Mem)
abbrev Af := Slots → Mem → Option (List D × Mem)

def Post (K : PySem.W.Frag) (H : Hp) (m : List Addr) (r : Rz) (M' : Mem) (Q : VK) : Prop := ∀ H1 m1, Ext H m H1 m1 → Wd K H1 m1 M' → match r with
  | .val d => ∀ v, Rl K H1 m1 d v → Q v H1
  | .new ds => ∀ vs a, Rls K H1 m1 ds vs → H1 a = none → Q (.ref a) (upd H1 a (.lst vs))
def tE (K : PySem.W.Frag) (f : Ef) : TE := fun σ H Q => ∃ ρ M m r M', Rs K H m ρ σ ∧ Wd K H m M ∧ f ρ M = some (r, M') ∧ Post K H m r M' Q
def tT (K : PySem.W.Frag) (f : Tf) : TT := fun σ H Q => ∃ ρ M m b M', Rs K H m ρ σ ∧ Wd K H m M ∧ f ρ M = some (b, M') ∧ ∀ H1 m1, Ext H m H1 m1 → Wd K H1 m1 M' → Q b H1
def tA (K : PySem.W.Frag) (f : Af) : TA := fun σ H Q => ∃ ρ M m ds M', Rs K H m ρ σ ∧ Wd K H m M ∧ f ρ M = some (ds, M') ∧ ∀ H1 m1 vs, Ext H m H1 m1 → Wd K H1 m1 M' → Rls K H1 m1 ds vs → Q vs H1
abbrev CEx (X : Cx) (e : Expr) (f : Ef) : Prop := PE X e (tE X.K f)
abbrev CTx (X : Cx) (e : Expr) (f : Tf) : Prop := PT X e (tT X.K f)
abbrev CWx (X : Cx) (e : Expr) (f : Tf) : Prop := PW X e (tT X.K f)
abbrev CAx (X : Cx) (es : List Expr) (f : Af) : Prop := PA X es (tA X.K f)

theorem PE.imp {X : Cx} {e : Expr} {t t' : TE} (h : PE X e t) (i : ∀ σ H Q, t' σ H Q → t σ H Q) : PE X e t' := ⟨fun pins s σ H Q I q => h.run pins s σ H Q I (i σ H Q q)⟩
theorem PT.imp {X : Cx} {e : Expr} {t t' : TT} (h : PT X e t) (i : ∀ σ H Q, t' σ H Q → t σ H Q) : PT X e t' := ⟨fun pins s σ H Q I q => h.run pins s σ H Q I (i σ H Q q)⟩
theorem PW.imp {X : Cx} {e : Expr} {t t' : TT} (h : PW X e t) (i : ∀ σ H Q, t' σ H Q → t σ H Q) : PW X e t' := ⟨fun w pins s σ H Q I q => h.run w pins s σ H Q I (i σ H Q q)⟩
theorem PA.imp {X : Cx} {es : List Expr} {t t' : TA} (h : PA X es t) (i : ∀ σ H Q, t' σ H Q → t σ H Q) : PA X es t' := ⟨fun p pins s σ H Q I q => h.run p pins s σ H Q I (i σ H Q q)⟩
theorem PE.or {X : Cx} {e : Expr} {t t' : TE} (h : PE X e t) (h' : PE X e t') : PE X e (fun σ H Q => t σ H Q ∨ t' σ H Q) :=
  ⟨fun pins s σ H Q I q => q.elim (h.run pins s σ H Q I) (h'.run pins s σ H Q I)⟩

section
variable {K : PySem.W.Frag} {H H1 H2 : Hp} {m m1 m2 : List Addr} {M M1 M2 : Mem} {Q : VK} {r : Rz}
theorem Post.use (P : ∀ H1 m1 v, Ext H m H1 m1 → Wd K H1 m1 M1 → Rl K H1 m1 r.d v → Q v H1) : Post K H m r M1 Q := by
  intro H1 m1 e w
  cases r with
  | val d => exact fun v r => P H1 m1 v e w r
  | new ds =>
    intro vs a r n
    have e2 : Ext H1 m1 (upd H1 a (.lst vs)) m1 := .new n
    refine P _ m1 _ (e.trans e2) (w.new n) ?_
    show Rl K _ m1 (.lst ds) _
    rw [Rl]
    exact ⟨a, vs, rfl, w.fresh n, upd_same, r.ext e2⟩
theorem Post.ext (P : Post K H m r M1 Q) (e : Ext H m H2 m2) : Post K H2 m2 r M1 Q := fun H1 m1 e1 w => P H1 m1 (e.trans e1) w
theorem Post.val {d : D} {v : V} (P : Post K H m (.val d) M1 Q) (w : Wd K H m M1) (r : Rl K H m d v) : Q v H := P H m .refl w v r
theorem Post.new {ds : List D} {vs : List V} (P : Post K H m (.new ds) M1 Q) (w : Wd K H m M1) (r : Rls K H m ds vs) : ∀ p, H p = none → Q (.ref p) (upd H p (.lst vs)) :=
  fun p n => P H m .refl w vs p r n
theorem Post.tup {ds : List D} {vs : List V} (P : Post K H m (.val (.tup ds)) M1 Q) (w : Wd K H m M1) (r : Rls K H m ds vs) : ∀ p, H p = none → Q (.ref p) (upd H p (.tup vs)) :=
  fun p n => P _ m (.new n) (w.new n) _ (by rw [Rl]; exact ⟨p, vs, rfl, .of upd_same, r.ext (.new n)⟩)
theorem bindE {f : Ef} {ρ : Slots} {σ : L2.St} (rs : Rs K H m ρ σ) (w : Wd K H m M) (h : f ρ M = some (r, M1))
    (P : ∀ H1 m1 v, Ext H m H1 m1 → Wd K H1 m1 M1 → Rs K H1 m1 ρ σ → Rl K H1 m1 r.d v → Q v H1) : tE K f σ H Q :=
  ⟨ρ, M, m, r, M1, rs, w, h, Post.use fun H1 m1 v e w' r' => P H1 m1 v e w' (rs.ext e) r'⟩
theorem bindT {f : Tf} {ρ : Slots} {σ : L2.St} {b : Bool} {Q : Bool → Hp → Prop} (rs : Rs K H m ρ σ) (w : Wd K H m M) (h : f ρ M = some (b, M1))
    (P : ∀ H1 m1, Ext H m H1 m1 → Wd K H1 m1 M1 → Rs K H1 m1 ρ σ → Q b H1) : tT K f σ H Q :=
  ⟨ρ, M, m, b, M1, rs, w, h, fun H1 m1 e w' => P H1 m1 e w' (rs.ext e)⟩
theorem bindA {f : Af} {ρ : Slots} {σ : L2.St} {ds : List D} {Q : List V → Hp → Prop} (rs : Rs K H m ρ σ) (w : Wd K H m M) (h : f ρ M = some (ds, M1))
    (P : ∀ H1 m1 vs, Ext H m H1 m1 → Wd K H1 m1 M1 → Rs K H1 m1 ρ σ → Rls K H1 m1 ds vs → Q vs H1) : tA K f σ H Q :=
  ⟨ρ, M, m, ds, M1, rs, w, h, fun H1 m1 vs e w' r' => P H1 m1 vs e w' (rs.ext e) r'⟩
end

/-! ### names and constants -/
def slot (ρ : Slots) (i : Nat) : Option D := ρ.getD i none
def cVar (i : Nat) : Ef := fun ρ M => (slot ρ i).bind fun d => some (.val d, M)
def cVal (d : D) : Ef := fun _ M => some (.val d, M)
abbrev cInt (i : Int) : Ef := cVal (.int i)
abbrev cBl (b : Bool) : Ef := cVal (.bl b)
abbrev cNon : Ef := cVal .non
abbrev cStr (x : Str) : Ef := cVal (.str x)
theorem slot_some {ρ : Slots} {i : Nat} {d : D} (h : slot ρ i = some d) : ρ[i]? = some (some d) := by
  unfold slot at h
  rw [List.getD_eq_getElem?_getD] at h
  cases q : ρ[i]? with
  | none => rw [q] at h; cases h
  | some o => rw [q] at h; simp at h; rw [h]
section
variable {X : Cx}
theorem ce_var {e : Expr} {i : Nat} (h : PE X e (tVar i)) : CEx X e (cVar i) := PE.imp h fun σ H Q ⟨ρ, M, m, r, M', rs, w, hf, P⟩ => by
  unfold cVar at hf
  cases q : slot ρ i with
  | none => rw [q] at hf; cases hf
  | some d =>
    rw [q] at hf
    cases hf
    obtain ⟨v, h1, h2⟩ := rs.2 i d (slot_some q)
    exact ⟨v, h1, P.val w h2⟩
theorem ce_val {e : Expr} {d : D} {v : V} (h : PE X e (tC v)) (hr : ∀ H m, Rl X.K H m d v) : CEx X e (cVal d) := PE.imp h fun σ H Q ⟨ρ, M, m, r, M', rs, w, hf, P⟩ => by
  cases hf
  exact P.val w (hr H m)
theorem ce_int {i : Int} {j pos} : CEx X (.Constant (.int i) j pos) (cInt i) := ce_val pe_int fun _ _ => by rw [Rl]
theorem ce_bl {b : Bool} {j pos} : CEx X (.Constant (.bool b) j pos) (cBl b) := ce_val pe_bl fun _ _ => by rw [Rl]
theorem ce_non {j pos} : CEx X (.Constant .none j pos) cNon := ce_val pe_non fun _ _ => by rw [Rl]
theorem ce_str {x : Str} {j pos} : CEx X (.Constant (.str x) j pos) (cStr x) := ce_val pe_str fun _ _ => by rw [Rl]
end

/-! ### operators -/
def Bop := D → D → Mem → Option Rz
def OpOk (X : Cx) (f : Value → Value → Sem Value) (o : Bop) : Prop := ∃ r : R2, OpR X f r ∧
  ∀ H m M d e x y z Q, Wd X.K H m M → Rl X.K H m d x → Rl X.K H m e y → o d e M = some z → Post X.K H m z M Q → r x y H Q
def cBin (o : Bop) (fa fb : Ef) : Ef := fun ρ M => (fa ρ M).bind fun p => (fb ρ p.2).bind fun q => (o p.1.d q.1.d q.2).bind fun r => some (r, q.2)
theorem bin_of {X : Cx} {o : Bop} {fa fb : Ef} {r : R2} (ho : ∀ H m M d e x y z Q, Wd X.K H m M → Rl X.K H m d x → Rl X.K H m e y → o d e M = some z → Post X.K H m z M Q → r x y H Q)
    {σ : L2.St} {H : Hp} {Q : VK} (h : tE X.K (cBin o fa fb) σ H Q) : tOp r (tE X.K fa) (tE X.K fb) σ H Q := by
  obtain ⟨ρ, M, m, z, M', rs, w, hf, P⟩ := h
  unfold cBin at hf
  cases ea : fa ρ M with
  | none => rw [ea] at hf; cases hf
  | some p =>
    rw [ea] at hf
    cases eb : fb ρ p.2 with
    | none => simp [eb] at hf
    | some q =>
      cases ec : o p.1.d q.1.d q.2 with
      | none => simp [eb, ec] at hf
      | some z' =>
        simp [eb, ec] at hf
        obtain ⟨rfl, rfl⟩ := hf
        refine bindE rs w ea fun H1 m1 v e1 w1 rs1 r1 => ?_
        refine bindE rs1 w1 eb fun H2 m2 u e2 w2 rs2 r2 => ?_
        exact ho H2 m2 q.2 _ _ v u _ Q w2 (r1.ext e2) r2 ec (P.ext (e1.trans e2))
section
variable {X : Cx} {a b c : Expr} {fa fb fc : Ef} {pos : Pos} {o o' : Bop}
theorem ce_bin {op : Operator} (ho : OpOk X (binaryOp op) o) (ha : CEx X a fa) (hb : CEx X b fb) : CEx X (.BinOp a op b pos) (cBin o fa fb) := by
  obtain ⟨r, h1, h2⟩ := ho
  exact PE.imp (pe_op h1 ha hb) fun σ H Q h => bin_of h2 h
theorem ce_cmp {op : CmpOp} (ho : OpOk X (compareOp op) o) (ha : CEx X a fa) (hb : CEx X b fb) (hm : behindInMarks op b = false) : CEx X (.Compare a [op] [b] pos) (cBin o fa fb) := by
  obtain ⟨r, h1, h2⟩ := ho
  exact PE.imp (pe_cmpR h1 ha hb hm) fun σ H Q h => bin_of h2 h
/-- a value that must be a bool, as a test -/
def toB (f : Ef) : Tf := fun ρ M => (f ρ M).bind fun p => match p.1.d with
  | .bl b => some (b, p.2)
  | _ => none
theorem tst_of {f : Ef} {σ : L2.St} {H : Hp} {Q : Bool → Hp → Prop} (h : tT X.K (toB f) σ H Q) : tE X.K f σ H fun x H' => ∃ k, x = .bl k ∧ Q k H' := by
  obtain ⟨ρ, M, m, z, M', rs, w, hf, P⟩ := h
  unfold toB at hf
  cases ea : f ρ M with
  | none => rw [ea] at hf; cases hf
  | some p =>
    rw [ea] at hf
    simp only [Option.bind_some] at hf
    refine bindE rs w ea fun H1 m1 v e1 w1 rs1 r1 => ?_
    split at hf
    · rename_i b hb
      cases hf
      rw [hb, Rl] at r1
      exact ⟨_, r1, P H1 m1 e1 w1⟩
    · cases hf
theorem ct_cmp {op : CmpOp} (ho : OpOk X (compareOp op) o) (ha : CEx X a fa) (hb : CEx X b fb) (hm : behindInMarks op b = false) : CTx X (.Compare a [op] [b] pos) (toB (cBin o fa fb)) := by
  obtain ⟨r, h1, h2⟩ := ho
  exact PT.imp (pt_cmpR h1 ha hb hm) fun σ H Q h => bin_of h2 (tst_of h)
/-- a op b op' c -/
def cChain (o o' : Bop) (fa fb fc : Ef) : Ef := fun ρ M => (fa ρ M).bind fun p => (fb ρ p.2).bind fun q => (o p.1.d q.1.d q.2).bind fun r => match r with
  | .val (.bl true) => (fc ρ q.2).bind fun s => (o' q.1.d s.1.d s.2).bind fun z => some (z, s.2)
  | .val (.bl false) => some (.val (.bl false), q.2)
  | _ => none
theorem chain_of {r r' : R2} (ho : ∀ H m M d e x y z Q, Wd X.K H m M → Rl X.K H m d x → Rl X.K H m e y → o d e M = some z → Post X.K H m z M Q → r x y H Q)
    (ho' : ∀ H m M d e x y z Q, Wd X.K H m M → Rl X.K H m d x → Rl X.K H m e y → o' d e M = some z → Post X.K H m z M Q → r' x y H Q)
    {σ : L2.St} {H : Hp} {Q : VK} (h : tE X.K (cChain o o' fa fb fc) σ H Q) : tChain r r' (tE X.K fa) (tE X.K fb) (tE X.K fc) σ H Q := by
  obtain ⟨ρ, M, m, z, M', rs, w, hf, P⟩ := h
  unfold cChain at hf
  cases ea : fa ρ M with
  | none => rw [ea] at hf; cases hf
  | some p =>
    rw [ea] at hf
    cases eb : fb ρ p.2 with
    | none => simp [eb] at hf
    | some q =>
      cases ec : o p.1.d q.1.d q.2 with
      | none => simp [eb, ec] at hf
      | some z' =>
        simp only [Option.bind_some, eb, ec] at hf
        refine bindE rs w ea fun H1 m1 v e1 w1 rs1 r1 => ?_
        refine bindE rs1 w1 eb fun H2 m2 u e2 w2 rs2 r2 => ?_
        refine ho H2 m2 q.2 _ _ v u _ _ w2 (r1.ext e2) r2 ec ?_
        split at hf
        · refine Post.use fun H3 m3 t e3 w3 r3 => ?_
          rw [show (Rz.val (D.bl true)).d = .bl true from rfl, Rl] at r3
          refine ⟨true, r3, ?_⟩
          rw [if_pos rfl]
          cases es : fc ρ q.2 with
          | none => simp [es] at hf
          | some s =>
            cases et : o' q.1.d s.1.d s.2 with
            | none => simp [es, et] at hf
            | some z2 =>
              simp [es, et] at hf
              obtain ⟨rfl, rfl⟩ := hf
              refine bindE (rs2.ext e3) w3 es fun H4 m4 t' e4 w4 rs4 r4 => ?_
              exact ho' H4 m4 s.2 _ _ u t' _ Q w4 (r2.ext (e3.trans e4)) r4 et (P.ext (((e1.trans e2).trans e3).trans e4))
        · refine Post.use fun H3 m3 t e3 w3 r3 => ?_
          rw [show (Rz.val (D.bl false)).d = .bl false from rfl, Rl] at r3
          refine ⟨false, r3, ?_⟩
          rw [if_neg Bool.false_ne_true]
          cases hf
          exact P.ext ((e1.trans e2).trans e3) |>.val w3 (by rw [Rl])
        · cases hf
theorem ce_chain {op op' : CmpOp} (ho : OpOk X (compareOp op) o) (ho' : OpOk X (compareOp op') o') (ha : CEx X a fa) (hb : CEx X b fb) (hc : CEx X c fc)
    (hm : lastMarks [op, op'] [b, c] = false := by with_unfolding_all rfl) : CEx X (.Compare a [op, op'] [b, c] pos) (cChain o o' fa fb fc) := by
  obtain ⟨r, h1, h2⟩ := ho
  obtain ⟨r', h1', h2'⟩ := ho'
  exact PE.imp (pe_chain h1 h1' ha hb hc hm) fun σ H Q h => chain_of h2 h2' h
theorem ct_chain {op op' : CmpOp} (ho : OpOk X (compareOp op) o) (ho' : OpOk X (compareOp op') o') (ha : CEx X a fa) (hb : CEx X b fb) (hc : CEx X c fc)
    (hm : lastMarks [op, op'] [b, c] = false := by with_unfolding_all rfl) : CTx X (.Compare a [op, op'] [b, c] pos) (toB (cChain o o' fa fb fc)) := by
  obtain ⟨r, h1, h2⟩ := ho
  obtain ⟨r', h1', h2'⟩ := ho'
  exact PT.imp (pt_chain h1 h1' ha hb hc hm) fun σ H Q h => chain_of h2 h2' (tst_of h)
end

/-! ### and, or, not, if else -/
section
variable {X : Cx} {a b c : Expr} {rest : List Expr} {fa fb : Ef} {ta tb : Tf} {pos : Pos}
def kAnd (ta tb : Tf) : Tf := fun ρ M => (ta ρ M).bind fun p => if p.1 = true then tb ρ p.2 else some (false, p.2)
def kOr (ta tb : Tf) : Tf := fun ρ M => (ta ρ M).bind fun p => if p.1 = true then some (true, p.2) else tb ρ p.2
def kNot (ta : Tf) : Tf := fun ρ M => (ta ρ M).bind fun p => some (!p.1, p.2)
theorem cw_and1 (ha : CTx X a ta) : CWx X (.BoolOp .And [a] pos) ta := pw_and1 ha
theorem cw_or1 (ha : CTx X a ta) : CWx X (.BoolOp .Or [a] pos) ta := pw_or1 ha
theorem cw_and (ha : CTx X a ta) (hb : CWx X (.BoolOp .And (b :: rest) pos) tb) : CWx X (.BoolOp .And (a :: b :: rest) pos) (kAnd ta tb) := PW.imp (pw_and ha hb) fun σ H Q h => by
  obtain ⟨ρ, M, m, z, M', rs, w, hf, P⟩ := h
  unfold kAnd at hf
  cases ea : ta ρ M with
  | none => rw [ea] at hf; cases hf
  | some p =>
    rw [ea] at hf
    simp only [Option.bind_some] at hf
    refine bindT rs w ea fun H1 m1 e1 w1 rs1 => ?_
    split at hf
    · rename_i e; rw [if_pos e]
      exact ⟨ρ, p.2, m1, z, M', rs1, w1, hf, fun H2 m2 e2 w2 => P H2 m2 (e1.trans e2) w2⟩
    · rename_i e; rw [if_neg e]
      cases hf
      exact P H1 m1 e1 w1
theorem cw_or (ha : CTx X a ta) (hb : CWx X (.BoolOp .Or (b :: rest) pos) tb) : CWx X (.BoolOp .Or (a :: b :: rest) pos) (kOr ta tb) := PW.imp (pw_or ha hb) fun σ H Q h => by
  obtain ⟨ρ, M, m, z, M', rs, w, hf, P⟩ := h
  unfold kOr at hf
  cases ea : ta ρ M with
  | none => rw [ea] at hf; cases hf
  | some p =>
    rw [ea] at hf
    simp only [Option.bind_some] at hf
    refine bindT rs w ea fun H1 m1 e1 w1 rs1 => ?_
    split at hf
    · rename_i e; rw [if_pos e]
      cases hf
      exact P H1 m1 e1 w1
    · rename_i e; rw [if_neg e]
      exact ⟨ρ, p.2, m1, z, M', rs1, w1, hf, fun H2 m2 e2 w2 => P H2 m2 (e1.trans e2) w2⟩
theorem ct_w (h : CWx X a ta) : CTx X a ta := h.pt
theorem ct_not (ha : CTx X a ta) : CTx X (.UnaryOp .Not a pos) (kNot ta) := PT.imp (pt_not ha) fun σ H Q h => by
  obtain ⟨ρ, M, m, z, M', rs, w, hf, P⟩ := h
  unfold kNot at hf
  cases ea : ta ρ M with
  | none => rw [ea] at hf; cases hf
  | some p =>
    rw [ea] at hf
    cases hf
    exact bindT rs w ea fun H1 m1 e1 w1 rs1 => P H1 m1 e1 w1
/-- .. as values -/
def cAnd (fa fb : Ef) : Ef := fun ρ M => (fa ρ M).bind fun p => match p.1.d with
  | .bl true => fb ρ p.2
  | .bl false => some (.val (.bl false), p.2)
  | _ => none
def cOr (fa fb : Ef) : Ef := fun ρ M => (fa ρ M).bind fun p => match p.1.d with
  | .bl true => some (.val (.bl true), p.2)
  | .bl false => fb ρ p.2
  | _ => none
def cNot (fa : Ef) : Ef := fun ρ M => (fa ρ M).bind fun p => match p.1.d with
  | .bl b => some (.val (.bl (!b)), p.2)
  | _ => none
theorem ce_one {op} (h : CEx X a fa) : CEx X (.BoolOp op [a] pos) fa := pe_one h
theorem ce_and (ha : CEx X a fa) (hb : CEx X (.BoolOp .And (b :: rest) pos) fb) : CEx X (.BoolOp .And (a :: b :: rest) pos) (cAnd fa fb) := PE.imp (pe_and ha hb) fun σ H Q h => by
  obtain ⟨ρ, M, m, z, M', rs, w, hf, P⟩ := h
  unfold cAnd at hf
  cases ea : fa ρ M with
  | none => rw [ea] at hf; cases hf
  | some p =>
    rw [ea] at hf
    simp only [Option.bind_some] at hf
    refine bindE rs w ea fun H1 m1 v e1 w1 rs1 r1 => ?_
    split at hf
    · rename_i e; rw [e, Rl] at r1
      refine ⟨true, r1, ?_⟩; rw [if_pos rfl]
      exact ⟨ρ, p.2, m1, z, M', rs1, w1, hf, P.ext e1⟩
    · rename_i e; rw [e, Rl] at r1
      refine ⟨false, r1, ?_⟩; rw [if_neg Bool.false_ne_true]
      cases hf
      exact (P.ext e1).val w1 (by rw [Rl])
    · cases hf
theorem ce_or (ha : CEx X a fa) (hb : CEx X (.BoolOp .Or (b :: rest) pos) fb) : CEx X (.BoolOp .Or (a :: b :: rest) pos) (cOr fa fb) := PE.imp (pe_or ha hb) fun σ H Q h => by
  obtain ⟨ρ, M, m, z, M', rs, w, hf, P⟩ := h
  unfold cOr at hf
  cases ea : fa ρ M with
  | none => rw [ea] at hf; cases hf
  | some p =>
    rw [ea] at hf
    simp only [Option.bind_some] at hf
    refine bindE rs w ea fun H1 m1 v e1 w1 rs1 r1 => ?_
    split at hf
    · rename_i e; rw [e, Rl] at r1
      refine ⟨true, r1, ?_⟩; rw [if_pos rfl]
      cases hf
      exact (P.ext e1).val w1 (by rw [Rl])
    · rename_i e; rw [e, Rl] at r1
      refine ⟨false, r1, ?_⟩; rw [if_neg Bool.false_ne_true]
      exact ⟨ρ, p.2, m1, z, M', rs1, w1, hf, P.ext e1⟩
    · cases hf
theorem ce_not (ha : CEx X a fa) : CEx X (.UnaryOp .Not a pos) (cNot fa) := PE.imp (pe_not ha) fun σ H Q h => by
  obtain ⟨ρ, M, m, z, M', rs, w, hf, P⟩ := h
  unfold cNot at hf
  cases ea : fa ρ M with
  | none => rw [ea] at hf; cases hf
  | some p =>
    rw [ea] at hf
    simp only [Option.bind_some] at hf
    refine bindE rs w ea fun H1 m1 v e1 w1 rs1 r1 => ?_
    split at hf
    · rename_i b e; rw [e, Rl] at r1
      cases hf
      exact ⟨b, r1, (P.ext e1).val w1 (by rw [Rl])⟩
    · cases hf
def cIf (t : Tf) (fa fb : Ef) : Ef := fun ρ M => (t ρ M).bind fun p => if p.1 = true then fa ρ p.2 else fb ρ p.2
theorem ce_if (hc : CTx X c ta) (ha : CEx X a fa) (hb : CEx X b fb) : CEx X (.IfExp c a b pos) (cIf ta fa fb) := PE.imp (pe_ifExp hc ha hb) fun σ H Q h => by
  obtain ⟨ρ, M, m, z, M', rs, w, hf, P⟩ := h
  unfold cIf at hf
  cases ea : ta ρ M with
  | none => rw [ea] at hf; cases hf
  | some p =>
    rw [ea] at hf
    simp only [Option.bind_some] at hf
    refine bindT rs w ea fun H1 m1 e1 w1 rs1 => ?_
    split at hf
    · rename_i e; rw [if_pos e]; exact ⟨ρ, p.2, m1, z, M', rs1, w1, hf, P.ext e1⟩
    · rename_i e; rw [if_neg e]; exact ⟨ρ, p.2, m1, z, M', rs1, w1, hf, P.ext e1⟩
end

/-! ### argument lists, displays -/
section
variable {X : Cx} {e : Expr} {es : List Expr} {f : Ef} {g : Af} {pos : Pos}
def aNil : Af := fun _ M => some ([], M)
def aCons (f : Ef) (g : Af) : Af := fun ρ M => (f ρ M).bind fun p => (g ρ p.2).bind fun q => some (p.1.d :: q.1, q.2)
theorem ca_nil : CAx X [] aNil := PA.imp pa_nil fun σ H Q ⟨ρ, M, m, ds, M', rs, w, hf, P⟩ => by
  cases hf
  exact P H m [] .refl w (by rw [Rls])
theorem ca_cons (ha : CEx X e f) (hr : CAx X es g) (hs : starEach (e :: es) X.env = (false, eval e X.env) :: starEach es X.env := by rfl) : CAx X (e :: es) (aCons f g) := PA.imp (pa_cons ha hr hs) fun σ H Q ⟨ρ, M, m, ds, M', rs, w, hf, P⟩ => by
  unfold aCons at hf
  cases ea : f ρ M with
  | none => rw [ea] at hf; cases hf
  | some p =>
    cases eb : g ρ p.2 with
    | none => simp [ea, eb] at hf
    | some q =>
      simp [ea, eb] at hf
      obtain ⟨rfl, rfl⟩ := hf
      refine bindE rs w ea fun H1 m1 v e1 w1 rs1 r1 => ?_
      refine bindA rs1 w1 eb fun H2 m2 vs e2 w2 rs2 r2 => ?_
      exact P H2 m2 _ (e1.trans e2) w2 (by rw [Rls]; exact ⟨_, _, rfl, r1.ext e2, r2⟩)
def cTup (g : Af) : Ef := fun ρ M => (g ρ M).bind fun p => if p.1.length ≤ sizeLine then some (.val (.tup p.1), p.2) else none
def cLst (g : Af) : Ef := fun ρ M => (g ρ M).bind fun p => if p.1.length ≤ sizeLine then some (.new p.1, p.2) else none
theorem ce_tup {x1} (h : CAx X es g) : CEx X (.Tuple es x1 pos) (cTup g) := PE.imp (pe_tup h) fun σ H Q ⟨ρ, M, m, z, M', rs, w, hf, P⟩ => by
  unfold cTup at hf
  cases ea : g ρ M with
  | none => rw [ea] at hf; cases hf
  | some p =>
    rw [ea] at hf
    simp only [Option.bind_some] at hf
    split at hf
    · cases hf
      refine bindA rs w ea fun H1 m1 vs e1 w1 rs1 r1 => ⟨by rw [← r1.length]; assumption, (P.ext e1).tup w1 r1⟩
    · cases hf
theorem ce_lst (h : CAx X es g) : CEx X (.List es pos) (cLst g) := PE.imp (pe_lst h) fun σ H Q ⟨ρ, M, m, z, M', rs, w, hf, P⟩ => by
  unfold cLst at hf
  cases ea : g ρ M with
  | none => rw [ea] at hf; cases hf
  | some p =>
    rw [ea] at hf
    simp only [Option.bind_some] at hf
    split at hf
    · cases hf
      refine bindA rs w ea fun H1 m1 vs e1 w1 rs1 r1 => ⟨by rw [← r1.length]; assumption, (P.ext e1).new w1 r1⟩
    · cases hf
end
end CI

/-! Ci3: operators by values, subscripts, slices, calls, attributes -/
namespace CI
open PySem PySem.Spec PyProof.Rows L2

/-! ### sequences -/
/-- a list that can be read; that can be written; a tuple -/
def asL (M : Mem) : D → Option (List D)
  | .lst ds => some ds
  | .scr ns => some (ns.map .int)
  | .loc k => match M[k]? with
    | some (.lst ds) => some ds
    | _ => none
  | _ => none
def asW (M : Mem) : D → Option (List D)
  | .lst ds => some ds
  | .loc k => match M[k]? with
    | some (.lst ds) => some ds
    | _ => none
  | _ => none
def asT : D → Option (List D)
  | .tup ds => some ds
  | _ => none
/-- any sequence -/
def asS (M : Mem) (d : D) : Option (List D) := match d with
  | .tup ds => some ds
  | d => asL M d
section
variable {K : PySem.W.Frag} {H : Hp} {m : List Addr} {M : Mem} {d : D} {ds : List D} {x : V}
theorem asW_ok (w : Wd K H m M) (r : Rl K H m d x) (h : asW M d = some ds) : ∃ a vs, x = .ref a ∧ H a = some (.lst vs) ∧ Rls K H m ds vs := by
  cases d with
  | lst es => cases h; rw [Rl] at r; obtain ⟨a, vs, r1, _, r2, r3⟩ := r; exact ⟨a, vs, r1, r2, r3⟩
  | loc k =>
    rw [Rl] at r
    obtain ⟨a, rfl, ha⟩ := r
    unfold asW at h
    simp only at h
    split at h
    · rename_i es hk
      cases h
      obtain ⟨b, hb, vs, h1, h2⟩ := w.get hk
      rw [ha] at hb; cases hb
      exact ⟨a, vs, rfl, h1, h2⟩
    · cases h
  | _ => cases h
theorem asL_ok (w : Wd K H m M) (r : Rl K H m d x) (h : asL M d = some ds) : ∃ a vs, x = .ref a ∧ SqL K H a vs ∧ Rls K H m ds vs := by
  cases d with
  | lst es => obtain ⟨a, vs, h1, h2, h3⟩ := asW_ok w r (d := .lst es) h; exact ⟨a, vs, h1, .of h2, h3⟩
  | loc k => obtain ⟨a, vs, h1, h2, h3⟩ := asW_ok w r (d := .loc k) h; exact ⟨a, vs, h1, .of h2, h3⟩
  | scr ns =>
    cases h
    rw [Rl] at r
    obtain ⟨a, rfl, ha⟩ := r
    exact ⟨a, _, rfl, ha.l, .ints⟩
  | _ => cases h
theorem asT_ok (r : Rl K H m d x) (h : asT d = some ds) : ∃ a vs, x = .ref a ∧ SqT K H a vs ∧ Rls K H m ds vs := by
  cases d with
  | tup es => cases h; rw [Rl] at r; exact r
  | _ => cases h
theorem asS_ok (w : Wd K H m M) (r : Rl K H m d x) (h : asS M d = some ds) : ∃ a vs, x = .ref a ∧ (SqL K H a vs ∨ SqT K H a vs) ∧ Rls K H m ds vs := by
  cases d with
  | tup es => obtain ⟨a, vs, h1, h2, h3⟩ := asT_ok r (d := .tup es) h; exact ⟨a, vs, h1, .inr h2, h3⟩
  | lst es => obtain ⟨a, vs, h1, h2, h3⟩ := asL_ok w r (d := .lst es) h; exact ⟨a, vs, h1, .inl h2, h3⟩
  | loc k => obtain ⟨a, vs, h1, h2, h3⟩ := asL_ok w r (d := .loc k) h; exact ⟨a, vs, h1, .inl h2, h3⟩
  | scr k => obtain ⟨a, vs, h1, h2, h3⟩ := asL_ok w r (d := .scr k) h; exact ⟨a, vs, h1, .inl h2, h3⟩
  | _ => cases h
end

/-! ### int operators -/
section
variable {X : Cx}
def oI (g : Int → Int → D) : Bop := fun d e _ => match d, e with
  | .int i, .int j => some (.val (g i j))
  | _, _ => none
def oIc (C : Int → Int → Bool) (g : Int → Int → D) : Bop := fun d e _ => match d, e with
  | .int i, .int j => if C i j = true then some (.val (g i j)) else none
  | _, _ => none
theorem opOk_I {f : Value → Value → Sem Value} {g : Int → Int → D} {gv : Int → Int → V} (h : OpR X f (rI0 gv)) (hg : ∀ i j H m, Rl X.K H m (g i j) (gv i j)) : OpOk X f (oI g) :=
  ⟨_, h, fun H m M d e x y z Q w rd re ho P => by
    unfold oI at ho
    split at ho
    · rename_i i j
      cases ho
      rw [Rl] at rd re
      exact ⟨i, j, rd, re, P.val w (hg i j H m)⟩
    · cases ho⟩
theorem opOk_Ic {f : Value → Value → Sem Value} {C : Int → Int → Prop} {Cb : Int → Int → Bool} {g : Int → Int → D} {gv : Int → Int → V} (h : OpR X f (rI C gv)) (hg : ∀ i j H m, Rl X.K H m (g i j) (gv i j)) (hc : ∀ i j, Cb i j = true → C i j) : OpOk X f (oIc Cb g) :=
  ⟨_, h, fun H m M d e x y z Q w rd re ho P => by
    unfold oIc at ho
    split at ho
    · rename_i i j
      split at ho
      · rename_i hcb
        cases ho
        rw [Rl] at rd re
        exact ⟨i, j, rd, re, hc i j hcb, P.val w (hg i j H m)⟩
      · cases ho
    · cases ho⟩
theorem OpOk.or {f : Value → Value → Sem Value} {o o' : Bop} (h : OpOk X f o) (h' : OpOk X f o') : OpOk X f (fun d e M => (o d e M).orElse fun _ => o' d e M) := by
  obtain ⟨r, h1, h2⟩ := h
  obtain ⟨r', h1', h2'⟩ := h'
  refine ⟨_, h1.or h1', fun H m M d e x y z Q w rd re ho P => ?_⟩
  cases q : o d e M with
  | some z' => simp [q] at ho; subst ho; exact .inl (h2 H m M d e x y z' Q w rd re q P)
  | none => simp [q] at ho; exact .inr (h2' H m M d e x y z Q w rd re ho P)
def sm64 (i : Int) : Bool := decide (-(2 ^ 64) < i) && decide (i < 2 ^ 64)
def bMul (i j : Int) : Bool := sm64 i || sm64 j
def bDiv (_ j : Int) : Bool := decide (0 < j) && decide (j < 1073741824)
def bMod (_ j : Int) : Bool := decide (0 < j)
def bPow (i j : Int) : Bool := decide (0 ≤ j) && decide (j ≤ 1000000) && decide (i.natAbs < 2 ^ 64)
theorem rl_int {K : PySem.W.Frag} {H : Hp} {m : List Addr} {i : Int} : Rl K H m (.int i) (.int i) := by rw [Rl]
theorem rl_bl {K : PySem.W.Frag} {H : Hp} {m : List Addr} {i : Bool} : Rl K H m (.bl i) (.bl i) := by rw [Rl]
theorem rl_str {K : PySem.W.Frag} {H : Hp} {m : List Addr} {i : Str} : Rl K H m (.str i) (.str i) := by rw [Rl]
theorem rl_non {K : PySem.W.Frag} {H : Hp} {m : List Addr} : Rl K H m .non .non := by rw [Rl]
def oSub : Bop := oI fun i j => .int (i - j)
theorem ok_sub : OpOk X (binaryOp .Sub) oSub := opOk_I op_sub fun _ _ _ _ => rl_int
def oMulI : Bop := oIc bMul fun i j => .int (i * j)
theorem ok_mulI : OpOk X (binaryOp .Mult) oMulI := opOk_Ic op_mul (fun _ _ _ _ => rl_int) fun i j h => by
  unfold bMul sm64 at h
  simp only [Bool.or_eq_true, Bool.and_eq_true, decide_eq_true_eq] at h
  exact h
def oDiv : Bop := oIc bDiv fun i j => .int (i / j)
theorem ok_div : OpOk X (binaryOp .FloorDiv) oDiv := opOk_Ic op_fdiv (fun _ _ _ _ => rl_int) fun i j h => by
  unfold bDiv at h
  simp only [Bool.and_eq_true, decide_eq_true_eq] at h
  exact h
def oMod : Bop := oIc bMod fun i j => .int (i % j)
theorem ok_mod : OpOk X (binaryOp .Mod) oMod := opOk_Ic op_mod (fun _ _ _ _ => rl_int) fun i j h => by
  unfold bMod at h
  simpa using h
def oPow : Bop := oIc bPow fun i j => .int (i ^ j.toNat)
theorem ok_pow : OpOk X (binaryOp .Pow) oPow := opOk_Ic op_pow (fun _ _ _ _ => rl_int) fun i j h => by
  unfold bPow at h
  simp only [Bool.and_eq_true, decide_eq_true_eq] at h
  exact ⟨h.1.1, h.1.2, h.2⟩
def oLt : Bop := oI fun i j => .bl (decide (i < j))
theorem ok_lt : OpOk X (compareOp .Lt) oLt := opOk_I op_lt fun _ _ _ _ => rl_bl
def oLe : Bop := oI fun i j => .bl (decide (i ≤ j))
theorem ok_le : OpOk X (compareOp .LtE) oLe := opOk_I op_le fun _ _ _ _ => rl_bl
def oGt : Bop := oI fun i j => .bl (decide (j < i))
theorem ok_gt : OpOk X (compareOp .Gt) oGt := opOk_I op_gt fun _ _ _ _ => rl_bl
def oGe : Bop := oI fun i j => .bl (decide (j ≤ i))
theorem ok_ge : OpOk X (compareOp .GtE) oGe := opOk_I op_ge fun _ _ _ _ => rl_bl
/-! ### + -/
def oAdd : Bop := fun d e M => match d, e with
  | .int i, .int j => some (.val (.int (i + j)))
  | .str i, .str j => if i.length + j.length ≤ sizeLine then some (.val (.str (i ++ j))) else none
  | .tup xs, .tup ys => if xs.length + ys.length ≤ sizeLine then some (.val (.tup (xs ++ ys))) else none
  | d, e => match asW M d, asW M e with
    | some xs, some ys => if xs.length + ys.length ≤ sizeLine then some (.new (xs ++ ys)) else none
    | _, _ => none
theorem rls_nil {K : PySem.W.Frag} {H : Hp} {m : List Addr} {vs : List V} (h : Rls K H m [] vs) : vs = [] := by rw [Rls] at h; exact h
theorem rls_of_nil {K : PySem.W.Frag} {H : Hp} {m : List Addr} {ds : List D} (h : Rls K H m ds []) : ds = [] := by
  have := h.length
  exact List.eq_nil_of_length_eq_zero (by simpa using this)
theorem ok_add : OpOk X (binaryOp .Add) oAdd := by
  refine ⟨_, op_add.or (op_add_str.or (op_catA.or op_cat)), fun H m M d e x y z Q w rd re ho P => ?_⟩
  unfold oAdd at ho
  split at ho
  · rename_i i j
    cases ho
    rw [Rl] at rd re
    exact .inl ⟨i, j, rd, re, P.val w rl_int⟩
  · rename_i i j
    rw [Rl] at rd re
    split at ho
    · rename_i hl
      cases ho
      exact .inr (.inl ⟨i, j, rd, re, hl, P.val w rl_str⟩)
    · cases ho
  · rename_i xs ys
    split at ho
    · rename_i hl
      cases ho
      rw [Rl] at rd re
      obtain ⟨a, vs, rfl, hv, r1⟩ := rd
      obtain ⟨b, ws, rfl, hw, r2⟩ := re
      refine .inr (.inr (.inl ⟨a, b, vs, ws, rfl, rfl, hv, hw, by rw [← r1.length, ← r2.length]; exact hl, fun q => ?_, fun _ q => ?_, fun _ _ => P.tup w (r1.append r2)⟩))
      · subst q
        have := rls_of_nil r1; subst this
        exact P.val w (by rw [Rl]; exact ⟨b, ws, rfl, hw, r2⟩)
      · subst q
        have := rls_of_nil r2; subst this
        exact P.val w (by rw [Rl]; exact ⟨a, vs, rfl, hv, by simpa using r1⟩)
    · cases ho
  · split at ho
    · rename_i xs ys h1 h2
      split at ho
      · rename_i hl
        cases ho
        obtain ⟨a, vs, rfl, hv, r1⟩ := asW_ok w rd h1
        obtain ⟨b, ws, rfl, hw, r2⟩ := asW_ok w re h2
        exact .inr (.inr (.inr ⟨a, b, vs, ws, rfl, rfl, hv, hw, by rw [← r1.length, ← r2.length]; exact hl, P.new w (r1.append r2)⟩))
      · cases ho
    · cases ho

/-! ### is -/
def isBl (b : Bool) : D → Bool
  | .bl a => decide (a = b)
  | _ => false
def isNon : D → Bool
  | .non => true
  | _ => false
def oIs (neg : Bool) : Bop := fun d e _ => match e with
  | .non => some (.val (.bl (neg != isNon d)))
  | .bl b => some (.val (.bl (neg != isBl b d)))
  | _ => none
theorem plain_of {x : V} {v : Value} {b : Bool} (r : RelV x v) : plainIs v (.bool b) = true := by
  cases x with
  | non => cases r; rfl
  | bl _ => cases r; rfl
  | int _ => obtain ⟨t, rfl⟩ := r; rfl
  | str _ => obtain ⟨t, rfl⟩ := r; rfl
  | byt _ => obtain ⟨t, rfl⟩ := r; rfl
  | flt _ => obtain ⟨t, rfl⟩ := r; rfl
  | ref _ => cases r; rfl
  | ty _ => cases r; rfl
theorem beq_bl {x : V} {v : Value} {b : Bool} (r : RelV x v) : (v == Value.bool b) = decide (x = V.bl b) := by
  cases x with
  | non => cases r; rfl
  | bl a =>
    cases r
    by_cases e : a = b
    · subst e; simp
    · simp [e]
  | int _ => obtain ⟨t, rfl⟩ := r; rfl
  | str _ => obtain ⟨t, rfl⟩ := r; rfl
  | byt _ => obtain ⟨t, rfl⟩ := r; rfl
  | flt _ => obtain ⟨t, rfl⟩ := r; rfl
  | ref _ => cases r; rfl
  | ty _ => cases r; rfl
theorem op_isB : OpR X (compareOp .Is) (fun x y H Q => ∃ b, y = .bl b ∧ Q (.bl (decide (x = .bl b))) H) := by
  intro pins s σ H x y v u Q I rx ry h
  obtain ⟨b, rfl, q⟩ := h
  cases (show u = Value.bool b from ry)
  exact wpAny_is_plain (plain_of rx) ⟨.bl _, H, I, by rw [beq_bl rx]; rfl, q⟩
theorem op_notB : OpR X (compareOp .IsNot) (fun x y H Q => ∃ b, y = .bl b ∧ Q (.bl (!decide (x = .bl b))) H) := by
  intro pins s σ H x y v u Q I rx ry h
  obtain ⟨b, rfl, q⟩ := h
  cases (show u = Value.bool b from ry)
  exact wpAny_isNot_plain (plain_of rx) ⟨.bl _, H, I, by rw [beq_bl rx]; rfl, q⟩
theorem isNon_ok {K : PySem.W.Frag} {H : Hp} {m : List Addr} {d : D} {x : V} (rd : Rl K H m d x) : decide (x = V.non) = isNon d := by
  cases d <;> rw [Rl] at rd
  · simp [rd, isNon]
  all_goals first | (simp [rd, isNon]; done) | (obtain ⟨_, _, rfl, _⟩ := rd; simp [isNon]; done) | (obtain ⟨_, rfl, _⟩ := rd; simp [isNon]; done)
theorem isBl_ok {K : PySem.W.Frag} {H : Hp} {m : List Addr} {d : D} {x : V} {b : Bool} (rd : Rl K H m d x) : decide (x = V.bl b) = isBl b d := by
  cases d <;> rw [Rl] at rd
  all_goals first | (simp [rd, isBl]; done) | (obtain ⟨_, _, rfl, _⟩ := rd; simp [isBl]; done) | (obtain ⟨_, rfl, _⟩ := rd; simp [isBl]; done)
theorem ok_is : OpOk X (compareOp .Is) (oIs false) := by
  refine ⟨_, op_isN.or op_isB, fun H m M d e x y z Q w rd re ho P => ?_⟩
  unfold oIs at ho
  split at ho
  · cases ho
    rw [Rl] at re
    refine .inl ⟨re, ?_⟩
    rw [isNon_ok rd]
    exact P.val w (by rw [Rl]; cases isNon d <;> rfl)
  · rename_i b
    cases ho
    rw [Rl] at re
    refine .inr ⟨b, re, ?_⟩
    rw [isBl_ok rd]
    exact P.val w (by rw [Rl]; cases isBl b d <;> rfl)
  · cases ho
theorem ok_isnot : OpOk X (compareOp .IsNot) (oIs true) := by
  refine ⟨_, op_notN.or op_notB, fun H m M d e x y z Q w rd re ho P => ?_⟩
  unfold oIs at ho
  split at ho
  · cases ho
    rw [Rl] at re
    refine .inl ⟨re, ?_⟩
    rw [isNon_ok rd]
    exact P.val w (by rw [Rl]; cases isNon d <;> rfl)
  · rename_i b
    cases ho
    rw [Rl] at re
    refine .inr ⟨b, re, ?_⟩
    rw [isBl_ok rd]
    exact P.val w (by rw [Rl]; cases isBl b d <;> rfl)
  · cases ho

/-! ### == -/
mutual
def py0 : D → Option PyData
  | .non => some .none
  | .bl b => some (.bool b)
  | .int i => some (.int i)
  | .str x => some (.str x)
  | .tup ds => (py0s ds).map .tuple
  | .lst ds => (py0s ds).map .list
  | .scr ns => some (.list (ns.map .int))
  | .loc _ => none
def py0s : List D → Option (List PyData)
  | [] => some []
  | d :: ds => (py0 d).bind fun p => (py0s ds).bind fun ps => some (p :: ps)
end
def py (M : Mem) (d : D) : Option PyData := match d with
  | .loc k => match M[k]? with
    | some (.lst ds) => (py0s ds).map .list
    | _ => none
  | d => py0 d
section
variable {K : PySem.W.Frag} {H : Hp} {m : List Addr} {M : Mem}
mutual
theorem py0_ok : ∀ {d : D} {x : V} {p : PyData}, Rl K H m d x → py0 d = some p → Dp K H x p
  | .non, _, _, r, h => by rw [Rl] at r; subst r; cases h; exact .non
  | .bl b, _, _, r, h => by rw [Rl] at r; subst r; cases h; exact .bl b
  | .int b, _, _, r, h => by rw [Rl] at r; subst r; cases h; exact .int b
  | .str b, _, _, r, h => by rw [Rl] at r; subst r; cases h; exact .str b
  | .tup ds, _, p, r, h => by
    rw [Rl] at r
    obtain ⟨a, vs, rfl, h1, h2⟩ := r
    rw [py0] at h
    cases q : py0s ds with
    | none => rw [q] at h; cases h
    | some ps => rw [q] at h; cases h; exact .tup h1 (py0s_ok h2 q)
  | .lst ds, _, p, r, h => by
    rw [Rl] at r
    obtain ⟨a, vs, rfl, _, h1, h2⟩ := r
    rw [py0] at h
    cases q : py0s ds with
    | none => rw [q] at h; cases h
    | some ps => rw [q] at h; cases h; exact .lst (.of h1) (py0s_ok h2 q)
  | .scr ns, _, p, r, h => by
    rw [Rl] at r
    obtain ⟨a, rfl, h1⟩ := r
    rw [py0] at h
    cases h
    refine .lst h1.l ?_
    induction ns with
    | nil => exact .nil
    | cons n ns ih => exact .cons (.int n) (by
        clear h1 ih
        induction ns with
        | nil => exact .nil
        | cons n ns ih => exact .cons (.int n) ih)
  | .loc _, _, _, _, h => by cases h
theorem py0s_ok : ∀ {ds : List D} {vs : List V} {ps : List PyData}, Rls K H m ds vs → py0s ds = some ps → DpAll K H vs ps
  | [], _, _, r, h => by rw [Rls] at r; subst r; cases h; exact .nil
  | d :: ds, _, ps, r, h => by
    rw [Rls] at r
    obtain ⟨v, r', rfl, h1, h2⟩ := r
    rw [py0s] at h
    cases q : py0 d with
    | none => rw [q] at h; cases h
    | some p =>
      cases q2 : py0s ds with
      | none => rw [q, q2] at h; cases h
      | some ps2 => rw [q, q2] at h; cases h; exact .cons (py0_ok h1 q) (py0s_ok h2 q2)
end
theorem py_ok {d : D} {x : V} {p : PyData} (w : Wd K H m M) (r : Rl K H m d x) (h : py M d = some p) : Dp K H x p := by
  cases d with
  | loc k =>
    rw [Rl] at r
    obtain ⟨a, rfl, ha⟩ := r
    unfold py at h
    simp only at h
    split at h
    · rename_i ds hk
      cases q : py0s ds with
      | none => rw [q] at h; cases h
      | some ps =>
        rw [q] at h; cases h
        obtain ⟨b, hb, vs, h1, h2⟩ := w.get hk
        rw [ha] at hb; cases hb
        exact .lst (.of h1) (py0s_ok h2 q)
    · cases h
  | _ => exact py0_ok r h
end
def eqB (M : Mem) (d e : D) : Option Bool := match d, e with
  | .int i, .int j => some (decide (i = j))
  | .str i, .str j => some (decide (i = j))
  | .bl i, .bl j => some (decide (i = j))
  | d, e => match py M d, py M e with
    | some a, some b => if SeqAt.shaped a = true ∧ SeqAt.shaped b = true then some (PyData.eqv a b) else none
    | _, _ => none
def oEq : Bop := fun d e M => (eqB M d e).bind fun b => some (.val (.bl b))
def oNe : Bop := fun d e M => (eqB M d e).bind fun b => some (.val (.bl (!b)))
theorem eq_of {H : Hp} {m : List Addr} {M : Mem} {d e : D} {x y : V} {b : Bool} {K : PySem.W.Frag} (w : Wd K H m M) (rd : Rl K H m d x) (re : Rl K H m e y) (h : eqB M d e = some b) :
    (scal x y = true ∧ b = decide (x = y)) ∨ ∃ p q, Dp K H x p ∧ Dp K H y q ∧ SeqAt.shaped p = true ∧ SeqAt.shaped q = true ∧ b = PyData.eqv p q := by
  unfold eqB at h
  split at h
  · rw [Rl] at rd re; subst rd re; cases h; exact .inl ⟨rfl, by simp⟩
  · rw [Rl] at rd re; subst rd re; cases h; exact .inl ⟨rfl, by simp⟩
  · rw [Rl] at rd re; subst rd re; cases h; exact .inl ⟨rfl, by simp⟩
  · split at h
    · rename_i p q h1 h2
      split at h
      · rename_i hs
        cases h
        exact .inr ⟨p, q, py_ok w rd h1, py_ok w re h2, hs.1, hs.2, rfl⟩
      · cases h
    · cases h
theorem ok_eq (hu : X.A.units + 64 < cLine) : OpOk X (compareOp .Eq) oEq := by
  refine ⟨_, op_eq.or (op_eqD hu), fun H m M d e x y z Q w rd re ho P => ?_⟩
  unfold oEq at ho
  cases q : eqB M d e with
  | none => rw [q] at ho; cases ho
  | some b =>
    rw [q] at ho; cases ho
    rcases eq_of w rd re q with ⟨h1, rfl⟩ | ⟨p, p', h1, h2, h3, h4, rfl⟩
    · exact .inl ⟨h1, P.val w rl_bl⟩
    · exact .inr ⟨p, p', h1, h2, h3, h4, P.val w rl_bl⟩
theorem ok_ne (hu : X.A.units + 64 < cLine) : OpOk X (compareOp .NotEq) oNe := by
  refine ⟨_, op_ne.or (op_neD hu), fun H m M d e x y z Q w rd re ho P => ?_⟩
  unfold oNe at ho
  cases q : eqB M d e with
  | none => rw [q] at ho; cases ho
  | some b =>
    rw [q] at ho; cases ho
    rcases eq_of w rd re q with ⟨h1, rfl⟩ | ⟨p, p', h1, h2, h3, h4, rfl⟩
    · exact .inl ⟨h1, P.val w rl_bl⟩
    · exact .inr ⟨p, p', h1, h2, h3, h4, P.val w rl_bl⟩

/-! ### in -/
def fl : D → Bool
  | .non => true | .bl _ => true | .int _ => true | .str _ => true | _ => false
def eqF : D → D → Bool
  | .non, .non => true
  | .bl a, .bl b => a == b
  | .bl a, .int b => (if a then 1 else 0) == b
  | .int a, .bl b => a == (if b then 1 else 0)
  | .int a, .int b => a == b
  | .str a, .str b => a == b
  | _, _ => false
def inD (d : D) (ds : List D) : Bool := ds.any fun e => eqF e d
def oIn (neg : Bool) : Bop := fun d e M => (asS M e).bind fun ds => if fl d = true ∧ ds.all fl = true then some (.val (.bl (if neg then !inD d ds else inD d ds))) else none
theorem fl_ok {K : PySem.W.Frag} {H : Hp} {m : List Addr} {d : D} {x : V} (r : Rl K H m d x) (h : fl d = true) : flatV x = true := by
  cases d <;> first | (rw [Rl] at r; subst r; rfl) | cases h
theorem eqF_ok {K : PySem.W.Frag} {H : Hp} {m : List Addr} {d e : D} {x y : V} (r : Rl K H m d x) (r' : Rl K H m e y) (h : fl d = true) (h' : fl e = true) : eqF d e = eqV x y := by
  cases d <;> first | (cases h; done) | (cases e <;> first | (cases h'; done) | (rw [Rl] at r; rw [Rl] at r'; subst r r'; rfl))
theorem fls_ok {K : PySem.W.Frag} {H : Hp} {m : List Addr} : ∀ {ds : List D} {vs : List V}, Rls K H m ds vs → ds.all fl = true → vs.all flatV = true
  | [], _, r, _ => by rw [Rls] at r; subst r; rfl
  | d :: ds, _, r, h => by
    rw [Rls] at r
    obtain ⟨v, s, rfl, h1, h2⟩ := r
    rw [List.all_cons, Bool.and_eq_true] at h ⊢
    exact ⟨fl_ok h1 h.1, fls_ok h2 h.2⟩
theorem inD_ok {K : PySem.W.Frag} {H : Hp} {m : List Addr} {d : D} {x : V} (r : Rl K H m d x) (h : fl d = true) : ∀ {ds : List D} {vs : List V}, Rls K H m ds vs → ds.all fl = true → inD d ds = inV x vs
  | [], _, r, _ => by rw [Rls] at r; subst r; rfl
  | e :: ds, _, r', h' => by
    rw [Rls] at r'
    obtain ⟨v, s, rfl, h1, h2⟩ := r'
    rw [List.all_cons, Bool.and_eq_true] at h'
    show (eqF e d || inD d ds) = (eqV v x || inV x s)
    rw [eqF_ok h1 r h'.1 h, inD_ok r h h2 h'.2]
theorem in_of {neg : Bool} {H : Hp} {m : List Addr} {M : Mem} {d e : D} {x y : V} {z : Rz} {Q : VK} {K : PySem.W.Frag} (w : Wd K H m M) (rd : Rl K H m d x) (re : Rl K H m e y) (ho : oIn neg d e M = some z) (P : Post K H m z M Q) : rIn K neg x y H Q := by
  unfold oIn at ho
  cases q : asS M e with
  | none => rw [q] at ho; cases ho
  | some ds =>
    rw [q] at ho
    simp only [Option.bind_some] at ho
    split at ho
    · rename_i hh
      cases ho
      obtain ⟨a, vs, rfl, hs, hr⟩ := asS_ok w re q
      refine ⟨a, vs, rfl, hs, fl_ok rd hh.1, fls_ok hr hh.2, ?_⟩
      rw [← inD_ok rd hh.1 hr hh.2]
      exact P.val w rl_bl
    · cases ho
theorem ok_in : OpOk X (compareOp .In) (oIn false) := ⟨_, op_in_seq, fun H m M d e x y z Q w rd re ho P => in_of w rd re ho P⟩
theorem ok_notin : OpOk X (compareOp .NotIn) (oIn true) := ⟨_, op_notIn_seq, fun H m M d e x y z Q w rd re ho P => in_of w rd re ho P⟩
end
end CI

/-! Ci4: subscripts, slices, calls, attributes, methods -/
namespace CI
open PySem PySem.Spec PyProof.Rows L2

section
variable {K : PySem.W.Frag} {H : Hp} {m : List Addr} {M : Mem}
theorem Rls.atI {ds : List D} {vs : List V} (h : Rls K H m ds vs) {i : Int} {d : D} (q : L2.atI ds i = some d) : ∃ v, L2.atI vs i = some v ∧ Rl K H m d v := by
  unfold L2.atI at q ⊢
  rw [← h.length]
  cases e : ixN ds.length i with
  | none => rw [e] at q; cases q
  | some j =>
    rw [e] at q
    exact h.get (i := j) q
def cutD (xs : List D) (lo hi : Option Int) : List D := (xs.drop (HT.sIx xs.length 0 lo)).take (HT.sIx xs.length xs.length hi - HT.sIx xs.length 0 lo)
theorem Rls.cut {ds : List D} {vs : List V} (h : Rls K H m ds vs) (lo hi : Option Int) : Rls K H m (cutD ds lo hi) (cutV vs lo hi) := by
  unfold cutD cutV
  rw [← h.length]
  exact (h.drop _).take _
end

/-! ### subscripts -/
def oIx : Bop := fun d e M => match e with
  | .int i => match d with
    | .str z => if z.length ≤ sizeLine then (L2.atI z.cps.toList i).bind fun c => some (.val (.str ⟨#[c]⟩)) else none
    | d => (asS M d).bind fun ds => (L2.atI ds i).bind fun x => some (.val x)
  | _ => none
section
variable {X : Cx} {a b : Expr} {fa fb : Ef} {pos : Pos}
theorem ce_ix (ha : CEx X a fa) (hb : CEx X b fb) (hs : PlainIx b) : CEx X (.Subscript a b pos) (cBin oIx fa fb) := PE.imp (pe_ix ix_seq ha hb hs) fun σ H Q h => by
  refine bin_of (fun H m M d e x y z Q w rd re ho P => ?_) h
  unfold oIx at ho
  split at ho
  · rename_i i
    rw [Rl] at re; subst re
    split at ho
    · rename_i s
      rw [Rl] at rd; subst rd
      split at ho
      · rename_i hz
        cases q : L2.atI s.cps.toList i with
        | none => rw [q] at ho; cases ho
        | some c => rw [q] at ho; cases ho; exact .inr (.inr ⟨s, i, c, rfl, rfl, hz, q, P.val w rl_str⟩)
      · cases ho
    · cases q : asS M d with
      | none => rw [q] at ho; cases ho
      | some ds =>
        rw [q] at ho
        simp only [Option.bind_some] at ho
        cases q2 : L2.atI ds i with
        | none => rw [q2] at ho; cases ho
        | some c =>
          rw [q2] at ho; cases ho
          obtain ⟨p, vs, rfl, hs, hr⟩ := asS_ok w rd q
          obtain ⟨v, hv, rv⟩ := hr.atI q2
          rcases hs with hs | hs
          · exact .inl ⟨p, vs, i, v, rfl, rfl, hs, hv, P.val w rv⟩
          · exact .inr (.inl ⟨p, vs, i, v, rfl, rfl, hs, hv, P.val w rv⟩)
  · cases ho
end

/-! ### slices -/
abbrev Of := Slots → Mem → Option (Option Int × Mem)
def tO (K : PySem.W.Frag) (f : Of) : TO := fun σ H Q => ∃ ρ M m o M', Rs K H m ρ σ ∧ Wd K H m M ∧ f ρ M = some (o, M') ∧ ∀ H1 m1, Ext H m H1 m1 → Wd K H1 m1 M' → Q o H1
abbrev COx (X : Cx) (e : Option Expr) (f : Of) : Prop := PO X e (tO X.K f)
theorem PO.imp {X : Cx} {e : Option Expr} {t t' : TO} (h : PO X e t) (i : ∀ σ H Q, t' σ H Q → t σ H Q) : PO X e t' := ⟨fun pins s σ H Q I q => h.run pins s σ H Q I (i σ H Q q)⟩
def sNone : Of := fun _ M => some (none, M)
def sSome (f : Ef) : Of := fun ρ M => (f ρ M).bind fun p => match p.1.d with
  | .int i => some (some i, p.2)
  | _ => none
def oSl (lo hi : Option Int) (d : D) (M : Mem) : Option Rz := match d with
  | .tup ds => some (.val (.tup (cutD ds lo hi)))
  | .str z => if z.length ≤ sizeLine then some (.val (.str (cutS z lo hi))) else none
  | d => (asL M d).bind fun ds => some (.new (cutD ds lo hi))
def cSl (f : Ef) (l h : Of) : Ef := fun ρ M => (f ρ M).bind fun p => (l ρ p.2).bind fun q => (h ρ q.2).bind fun r => (oSl q.1 r.1 p.1.d r.2).bind fun z => some (z, r.2)
section
variable {X : Cx} {e : Expr} {lo hi : Option Expr} {f : Ef} {l h : Of} {pos p2 : Pos}
theorem co_none : COx X none sNone := PO.imp po_none fun σ H Q ⟨ρ, M, m, o, M', rs, w, hf, P⟩ => by cases hf; exact P H m .refl w
theorem co_some (he : CEx X e f) : COx X (some e) (sSome f) := PO.imp (po_some he) fun σ H Q ⟨ρ, M, m, o, M', rs, w, hf, P⟩ => by
  unfold sSome at hf
  cases ea : f ρ M with
  | none => rw [ea] at hf; cases hf
  | some p =>
    rw [ea] at hf
    simp only [Option.bind_some] at hf
    refine bindE rs w ea fun H1 m1 v e1 w1 rs1 r1 => ?_
    split at hf
    · rename_i i hi
      cases hf
      rw [hi, Rl] at r1
      exact ⟨i, r1, P H1 m1 e1 w1⟩
    · cases hf
theorem ce_sl (he : CEx X e f) (hl : COx X lo l) (hh : COx X hi h) : CEx X (.Subscript e (.Slice lo hi none p2) pos) (cSl f l h) := PE.imp (pe_slice (sl_tupA.or (sl_str.or sl_list)) he hl hh) fun σ H Q hq => by
  obtain ⟨ρ, M, m, z, M', rs, w, hf, P⟩ := hq
  unfold cSl at hf
  cases ea : f ρ M with
  | none => rw [ea] at hf; cases hf
  | some p =>
    cases el : l ρ p.2 with
    | none => simp [ea, el] at hf
    | some q =>
      cases eh : h ρ q.2 with
      | none => simp [ea, el, eh] at hf
      | some r =>
        cases ez : oSl q.1 r.1 p.1.d r.2 with
        | none => simp [ea, el, eh, ez] at hf
        | some z' =>
          simp [ea, el, eh, ez] at hf
          obtain ⟨rfl, rfl⟩ := hf
          refine bindE rs w ea fun H1 m1 v e1 w1 rs1 r1 => ?_
          refine ⟨ρ, p.2, m1, q.1, q.2, rs1, w1, el, fun H2 m2 e2 w2 => ?_⟩
          refine ⟨ρ, q.2, m2, r.1, r.2, rs1.ext e2, w2, eh, fun H3 m3 e3 w3 => ?_⟩
          have r3 := r1.ext (e2.trans e3)
          have P3 := P.ext ((e1.trans e2).trans e3)
          unfold oSl at ez
          split at ez
          · rename_i ds hd
            cases ez
            rw [hd, Rl] at r3
            obtain ⟨a, vs, rfl, hs, hr⟩ := r3
            refine .inl ⟨a, vs, rfl, hs, fun hw => ?_, fun _ => P3.tup w3 (hr.cut _ _)⟩
            refine P3.val w3 ?_
            rw [Rl]
            refine ⟨a, vs, rfl, hs, ?_⟩
            have e : cutD ds q.1 r.1 = ds := by
              unfold cutD
              rw [hr.length, hw.1, hw.2]
              rw [List.drop_zero, Nat.sub_zero, ← hr.length, List.take_length]
            rw [e]; exact hr
          · rename_i s hd
            split at ez
            · rename_i hz
              cases ez
              rw [hd, Rl] at r3; subst r3
              exact .inr (.inl ⟨s, rfl, hz, P3.val w3 rl_str⟩)
            · cases ez
          · cases eq : asL r.2 p.1.d with
            | none => simp [eq] at ez
            | some ds =>
              simp [eq] at ez
              subst ez
              obtain ⟨a, vs, rfl, hs, hr⟩ := asL_ok w3 r3 eq
              exact .inr (.inr ⟨a, vs, rfl, hs, P3.new w3 (hr.cut _ _)⟩)
end

/-! ### built-in calls -/
def Cop := List D → Mem → Option Rz
def ClOk (X : Cx) (f : Value) (o : Cop) : Prop := ∃ r, CallR X f r ∧ ∀ H m M ds xs z Q, Wd X.K H m M → Rls X.K H m ds xs → o ds M = some z → Post X.K H m z M Q → r xs H Q
def cCB (o : Cop) (g : Af) : Ef := fun ρ M => (g ρ M).bind fun p => (o p.1 p.2).bind fun r => some (r, p.2)
section
variable {X : Cx} {e : Expr} {es : List Expr} {g : Af} {o : Cop} {x : Str} {id T : String} {p pos : Pos}
theorem cb_of {r : List V → Hp → VK → Prop} (ho : ∀ H m M ds xs z Q, Wd X.K H m M → Rls X.K H m ds xs → o ds M = some z → Post X.K H m z M Q → r xs H Q) {σ : L2.St} {H : Hp} {Q : VK}
    (h : tE X.K (cCB o g) σ H Q) : tCB r (tA X.K g) σ H Q := by
  obtain ⟨ρ, M, m, z, M', rs, w, hf, P⟩ := h
  unfold cCB at hf
  cases ea : g ρ M with
  | none => rw [ea] at hf; cases hf
  | some p =>
    cases eb : o p.1 p.2 with
    | none => simp [ea, eb] at hf
    | some q =>
      simp [ea, eb] at hf
      obtain ⟨rfl, rfl⟩ := hf
      exact bindA rs w ea fun H1 m1 vs e1 w1 rs1 r1 => ho H1 m1 p.2 _ _ _ Q w1 r1 eb (P.ext e1)
theorem ce_callB (hc : ClOk X (.builtin id) o) (hg : Gl X x) (hm : X.mg x = none) (hv : bootBuiltins x = some (.builtin id)) (ha : CAx X (e :: es) g) (hn : x ≠ "__name__" := by decide) (hdb : (x == ("__debug__" : Str)) = false := by decide)
    (he : starEach (e :: es) X.env = (false, eval e X.env) :: starEach es X.env := by rfl) (hpl : (backTo pos (starEach es X.env)).any (·.1) = false := by rfl) : CEx X (.Call (.Name x p) (e :: es) [] pos) (cCB o g) := by
  obtain ⟨r, h1, h2⟩ := hc
  exact PE.imp (pe_callB h1 hg hm hv ha hn hdb he hpl) fun σ H Q h => cb_of h2 h
theorem ce_callTy (hc : ClOk X (.type T) o) (hg : Gl X x) (hm : X.mg x = none) (hv : bootBuiltins x = some (.type T)) (ha : CAx X (e :: es) g) (hn : x ≠ "__name__" := by decide) (hdb : (x == ("__debug__" : Str)) = false := by decide)
    (he : starEach (e :: es) X.env = (false, eval e X.env) :: starEach es X.env := by rfl) (hpl : (backTo pos (starEach es X.env)).any (·.1) = false := by rfl) : CEx X (.Call (.Name x p) (e :: es) [] pos) (cCB o g) := by
  obtain ⟨r, h1, h2⟩ := hc
  exact PE.imp (pe_callTy h1 hg hm hv ha hn hdb he hpl) fun σ H Q h => cb_of h2 h
def oLen : Cop := fun ds M => match ds with
  | [.str z] => if z.length ≤ sizeLine then some (.val (.int z.length)) else none
  | [d] => (asS M d).bind fun es => some (.val (.int es.length))
  | _ => none
theorem ok_len : ClOk X (.builtin "len") oLen := by
  refine ⟨_, call_len, fun H m M ds xs z Q w rd ho P => ?_⟩
  unfold oLen at ho
  split at ho
  · rename_i s
    split at ho
    · rename_i hz
      cases ho
      obtain ⟨v, rfl, r⟩ := rd.one
      rw [Rl] at r; subst r
      exact ⟨_, _, rfl, ⟨hz, rfl⟩, P.val w rl_int⟩
    · cases ho
  · rename_i d _
    obtain ⟨v, rfl, r⟩ := rd.one
    cases q : asS M d with
    | none => rw [q] at ho; cases ho
    | some es =>
      rw [q] at ho; cases ho
      obtain ⟨a, vs, rfl, hs, hr⟩ := asS_ok w r q
      refine ⟨_, vs.length, rfl, ?_, by rw [← hr.length]; exact P.val w rl_int⟩
      exact hs.elim (fun hs => .inl ⟨vs, hs, rfl⟩) fun hs => .inr ⟨vs, hs, rfl⟩
  · cases ho
def oInt : Cop := fun ds _ => match ds with
  | [.int i] => some (.val (.int i))
  | [.bl b] => some (.val (.int (if b then 1 else 0)))
  | _ => none
theorem ok_int : ClOk X (.type "int") oInt := by
  refine ⟨_, call_int1, fun H m M ds xs z Q w rd ho P => ?_⟩
  unfold oInt at ho
  split at ho
  · obtain ⟨v, rfl, r⟩ := rd.one
    rw [Rl] at r; subst r; cases ho
    exact .inl ⟨_, rfl, P.val w rl_int⟩
  · obtain ⟨v, rfl, r⟩ := rd.one
    rw [Rl] at r; subst r; cases ho
    exact .inr ⟨_, rfl, P.val w rl_int⟩
  · cases ho
def oTuple : Cop := fun ds M => match ds with
  | [d] => (asS M d).bind fun es => some (.val (.tup es))
  | _ => none
theorem ok_tuple : ClOk X (.type "tuple") oTuple := by
  refine ⟨_, call_tuple_of, fun H m M ds xs z Q w rd ho P => ?_⟩
  unfold oTuple at ho
  split at ho
  · rename_i d
    obtain ⟨v, rfl, r⟩ := rd.one
    cases q : asS M d with
    | none => rw [q] at ho; cases ho
    | some es =>
      rw [q] at ho; cases ho
      obtain ⟨a, vs, rfl, hs, hr⟩ := asS_ok w r q
      refine ⟨a, vs, rfl, ?_⟩
      rcases hs with hs | hs
      · exact .inl ⟨hs, P.tup w hr⟩
      · exact .inr ⟨hs, P.val w (by rw [Rl]; exact ⟨a, vs, rfl, hs, hr⟩)⟩
  · cases ho
def oList : Cop := fun ds M => match ds with
  | [d] => (asS M d).bind fun es => some (.new es)
  | _ => none
theorem ok_list : ClOk X (.type "list") oList := by
  refine ⟨_, call_list_of, fun H m M ds xs z Q w rd ho P => ?_⟩
  unfold oList at ho
  split at ho
  · rename_i d
    obtain ⟨v, rfl, r⟩ := rd.one
    cases q : asS M d with
    | none => rw [q] at ho; cases ho
    | some es =>
      rw [q] at ho; cases ho
      obtain ⟨a, vs, rfl, hs, hr⟩ := asS_ok w r q
      exact ⟨a, vs, rfl, hs, P.new w hr⟩
  · cases ho
def oMax2 : Cop := fun ds _ => match ds with
  | [.int i, .int j] => some (.val (.int (if j > i then j else i)))
  | _ => none
def oMin2 : Cop := fun ds _ => match ds with
  | [.int i, .int j] => some (.val (.int (if j < i then j else i)))
  | _ => none
theorem ok_max2 (hc : X.calm = true) : ClOk X (.builtin "max") oMax2 := by
  refine ⟨_, call_max2 hc, fun H m M ds xs z Q w rd ho P => ?_⟩
  unfold oMax2 at ho
  split at ho
  · obtain ⟨v, u, rfl, r, r'⟩ := rd.two
    rw [Rl] at r; rw [Rl] at r'; subst r r'; cases ho
    exact ⟨_, _, rfl, P.val w rl_int⟩
  · cases ho
theorem ok_min2 (hc : X.calm = true) : ClOk X (.builtin "min") oMin2 := by
  refine ⟨_, call_min2 hc, fun H m M ds xs z Q w rd ho P => ?_⟩
  unfold oMin2 at ho
  split at ho
  · obtain ⟨v, u, rfl, r, r'⟩ := rd.two
    rw [Rl] at r; rw [Rl] at r'; subst r r'; cases ho
    exact ⟨_, _, rfl, P.val w rl_int⟩
  · cases ho
def oStr : Cop := fun ds _ => match ds with
  | [.int i] => if i.natAbs.log2 < 1920 then some (.val (.str (toString i))) else none
  | _ => none
theorem ok_str : ClOk X (.type "str") oStr := by
  refine ⟨_, call_str_int, fun H m M ds xs z Q w rd ho P => ?_⟩
  unfold oStr at ho
  split at ho
  · obtain ⟨v, rfl, r⟩ := rd.one
    rw [Rl] at r; subst r
    split at ho
    · rename_i hz
      cases ho
      exact ⟨_, rfl, hz, P.val w rl_str⟩
    · cases ho
  · cases ho
def oOrd : Cop := fun ds _ => match ds with
  | [.str x] => if x.length = 1 then some (.val (.int (x.cps.getD 0 0 : Nat))) else none
  | _ => none
theorem ok_ord : ClOk X (.builtin "ord") oOrd := by
  refine ⟨_, call_ord, fun H m M ds xs z Q w rd ho P => ?_⟩
  unfold oOrd at ho
  split at ho
  · obtain ⟨v, rfl, r⟩ := rd.one
    rw [Rl] at r; subst r
    split at ho
    · rename_i hz
      cases ho
      exact ⟨_, rfl, hz, P.val w rl_int⟩
    · cases ho
  · cases ho
/-! sorted of ints -/
def sIns (a : Int) : List Int → List Int
  | [] => [a]
  | b :: l => if a ≤ b then a :: b :: l else b :: sIns a l
def isort (l : List Int) : List Int := l.foldr sIns []
theorem sIns_perm (a : Int) : ∀ l, (sIns a l).Perm (a :: l)
  | [] => .refl _
  | b :: l => by
    unfold sIns
    split
    · exact .refl _
    · exact ((sIns_perm a l).cons b).trans (.swap a b l)
theorem isort_perm : ∀ l, (isort l).Perm l
  | [] => .refl _
  | a :: l => (sIns_perm a (isort l)).trans ((isort_perm l).cons a)
theorem sIns_pw (a : Int) : ∀ l : List Int, l.Pairwise (· ≤ ·) → (sIns a l).Pairwise (· ≤ ·)
  | [], _ => by simp [sIns]
  | b :: l, h => by
    unfold sIns
    rw [List.pairwise_cons] at h
    split
    · rename_i hab
      rw [List.pairwise_cons, List.pairwise_cons]
      refine ⟨fun x hx => ?_, h.1, h.2⟩
      rcases List.mem_cons.mp hx with e | e
      · rw [e]; exact hab
      · exact Int.le_trans hab (h.1 x e)
    · rename_i hab
      rw [List.pairwise_cons]
      refine ⟨fun x hx => ?_, sIns_pw a l h.2⟩
      rcases List.mem_cons.mp ((sIns_perm a l).mem_iff.mp hx) with e | e
      · omega
      · exact h.1 x e
theorem isort_pw : ∀ l : List Int, (isort l).Pairwise (· ≤ ·)
  | [] => .nil
  | a :: l => sIns_pw a _ (isort_pw l)
theorem sorted_one : ∀ {l l' : List Int}, l.Perm l' → l.Pairwise (· ≤ ·) → l'.Pairwise (· ≤ ·) → l = l'
  | [], l', p, _, _ => by rw [List.nil_perm.mp p]
  | a :: l, [], p, _, _ => by simp at p
  | a :: l, b :: l', p, h, h' => by
    rw [List.pairwise_cons] at h h'
    have e : a = b := by
      have h1 : a ∈ b :: l' := p.mem_iff.mp List.mem_cons_self
      have h2 : b ∈ a :: l := p.mem_iff.mpr List.mem_cons_self
      rcases List.mem_cons.mp h1 with e | e
      · exact e
      · rcases List.mem_cons.mp h2 with e' | e'
        · exact e'.symm
        · have := h'.1 a e; have := h.1 b e'; omega
    subst e
    rw [sorted_one (List.Perm.cons_inv p) h.2 h'.2]
def intsD : List D → Option (List Int)
  | [] => some []
  | .int i :: ds => (intsD ds).bind fun is => some (i :: is)
  | _ => none
theorem intsD_eq : ∀ {ds : List D} {is : List Int}, intsD ds = some is → ds = is.map .int
  | [], _, h => by cases h; rfl
  | d :: ds, is, h => by
    cases d with
    | int i =>
      rw [intsD] at h
      cases q : intsD ds with
      | none => rw [q] at h; cases h
      | some js => rw [q] at h; cases h; rw [intsD_eq q]; rfl
    | _ => simp [intsD] at h
theorem intsD_map : ∀ is : List Int, intsD (is.map .int) = some is
  | [] => rfl
  | i :: is => by simp [intsD, intsD_map is]
theorem rls_ints {K : PySem.W.Frag} {H : Hp} {m : List Addr} : ∀ {is : List Int} {vs : List V}, Rls K H m (is.map .int) vs → vs = is.map V.int
  | [], _, h => rls_nil h
  | i :: is, _, h => by
    rw [List.map_cons, Rls] at h
    obtain ⟨v, r, rfl, h1, h2⟩ := h
    rw [Rl] at h1
    rw [h1, rls_ints h2]; rfl
def oSorted : Cop := fun ds M => match ds with
  | [d] => (asL M d).bind fun es => (intsD es).bind fun is => some (.new ((isort is).map .int))
  | _ => none
theorem ok_sorted : ClOk X (.builtin "sorted") oSorted := by
  refine ⟨_, cr_sortedI, fun H m M ds xs z Q w rd ho P => ?_⟩
  unfold oSorted at ho
  split at ho
  · rename_i d
    obtain ⟨v, rfl, r⟩ := rd.one
    cases q : asL M d with
    | none => rw [q] at ho; cases ho
    | some es =>
      cases q2 : intsD es with
      | none => simp [q, q2] at ho
      | some is =>
        simp [q, q2] at ho
        subst ho
        obtain ⟨a, vs, rfl, hs, hr⟩ := asL_ok w r q
        rw [intsD_eq q2] at hr
        have e := rls_ints hr
        subst e
        refine ⟨a, is, rfl, hs, fun ns' p hp hw hn => ?_⟩
        rw [sorted_one (hp.trans (isort_perm is).symm) hw (isort_pw is)]
        exact P.new w .ints p hn
  · cases ho

/-! ### isinstance -/
def tyOf (M : Mem) : D → Option String
  | .non => some "NoneType" | .bl _ => some "bool" | .int _ => some "int" | .str _ => some "str" | .tup _ => some "tuple" | .lst _ => some "list" | .scr _ => some "list"
  | .loc k => match M[k]? with
    | some (.lst _) => some "list"
    | some (.dct _) => some "dict"
    | _ => none
def cIsI (n : String) (f : Ef) : Ef := fun ρ M => (f ρ M).bind fun p => (tyOf p.2 p.1.d).bind fun t => (kitB t n).bind fun b => some (.val (.bl b), p.2)
theorem tyOf_ok {K : PySem.W.Frag} {H : Hp} {m : List Addr} {M : Mem} {d : D} {x : V} {t : String} (w : Wd K H m M) (r : Rl K H m d x) (h : tyOf M d = some t) : TyX K H x (.type t) := by
  cases d with
  | non => rw [Rl] at r; subst r; cases h; exact .base .non
  | bl b => rw [Rl] at r; subst r; cases h; exact .base (.bl b)
  | int b => rw [Rl] at r; subst r; cases h; exact .base (.int b)
  | str b => rw [Rl] at r; subst r; cases h; exact .base (.str b)
  | tup ds =>
    rw [Rl] at r
    obtain ⟨a, vs, rfl, hs, _⟩ := r
    cases h
    rcases hs with (hs | ⟨o, hs⟩) | ⟨o, its, n, hk, hc, _⟩
    · exact .base (.tup hs)
    · exact .fTuple hs
    · exact .kTuple hk hc
  | lst ds =>
    rw [Rl] at r
    obtain ⟨a, vs, rfl, _, hs, _⟩ := r
    cases h
    exact .base (.lst hs)
  | scr ns =>
    rw [Rl] at r
    obtain ⟨a, rfl, hs⟩ := r
    cases h
    rcases hs with ⟨o, hs⟩ | ⟨o, its, n, hk, hc, _⟩
    · exact .base (.frz hs)
    · exact .kList hk hc
  | loc k =>
    rw [Rl] at r
    obtain ⟨a, rfl, ha⟩ := r
    unfold tyOf at h
    simp only at h
    split at h
    · rename_i ds hk
      cases h
      obtain ⟨b, hb, vs, h1, h2⟩ := w.get hk
      rw [ha] at hb; cases hb
      exact .base (.lst h1)
    · rename_i ds hk
      cases h
      obtain ⟨b, hb, vs, h1, h2⟩ := w.get hk
      rw [ha] at hb; cases hb
      exact .base (.dK h1)
    · cases h
theorem ce_isi {b : Expr} {n : String} {f : Ef} (hg : Gl X "isinstance") (hm : X.mg "isinstance" = none) (ha : CEx X e f) (hb : PE X b (tC (.ty n)))
    (he : starEach [e, b] X.env = (false, eval e X.env) :: starEach [b] X.env := by rfl) (he2 : starEach [b] X.env = (false, eval b X.env) :: starEach [] X.env := by rfl) (hpl : (backTo pos (starEach [b] X.env)).any (·.1) = false := by rfl) :
    CEx X (.Call (.Name "isinstance" p) [e, b] [] pos) (cIsI n f) :=
  PE.imp (pe_callB call_isi hg hm (by decide +kernel) (pa_cons ha (pa_cons hb pa_nil he2) he) (by decide) (by decide) he hpl) fun σ H Q h => by
    obtain ⟨ρ, M, m, z, M', rs, w, hf, P⟩ := h
    unfold cIsI at hf
    cases ea : f ρ M with
    | none => rw [ea] at hf; cases hf
    | some p =>
      cases eb : tyOf p.2 p.1.d with
      | none => simp [ea, eb] at hf
      | some t =>
        cases ec : kitB t n with
        | none => simp [ea, eb, ec] at hf
        | some k =>
          simp [ea, eb, ec] at hf
          obtain ⟨rfl, rfl⟩ := hf
          refine bindE rs w ea fun H1 m1 v e1 w1 rs1 r1 => ?_
          exact ⟨v, .ty n, _, _, k, rfl, .ty n, tyOf_ok w1 r1 eb, kit_ty ec, (P.ext e1).val w1 rl_bl⟩
/-! ### truth -/
def trD (M : Mem) (d : D) : Option Bool := match d with
  | .non => some false
  | .bl b => some b
  | .int i => some (i != 0)
  | .str y => if y.length ≤ sizeLine then some ((y.length : Int) != 0) else none
  | d => (asS M d).bind fun ds => some (!ds.isEmpty)
def toTr (f : Ef) : Tf := fun ρ M => (f ρ M).bind fun p => (trD p.2 p.1.d).bind fun b => some (b, p.2)
theorem ct_truth {f : Ef} (ha : CEx X e f) (he : ∀ whole, isTrue e X.env whole = (do let v ← whole; standAt e.pos; holding [v] (truthy v))) : CTx X e (toTr f) := PT.imp (pt_truth ha he) fun σ H Q h => by
  obtain ⟨ρ, M, m, z, M', rs, w, hf, P⟩ := h
  unfold toTr at hf
  cases ea : f ρ M with
  | none => rw [ea] at hf; cases hf
  | some p =>
    cases eb : trD p.2 p.1.d with
    | none => simp [ea, eb] at hf
    | some b =>
      simp [ea, eb] at hf
      obtain ⟨rfl, rfl⟩ := hf
      refine bindE rs w ea fun H1 m1 v e1 w1 rs1 r1 => ⟨b, ?_, P H1 m1 e1 w1⟩
      unfold trD at eb
      split at eb
      · rename_i hd; rw [hd, Rl] at r1; subst r1; cases eb; rfl
      · rename_i hd; rw [hd, Rl] at r1; subst r1; cases eb; rfl
      · rename_i hd; rw [hd, Rl] at r1; subst r1; cases eb; rfl
      · rename_i hd
        rw [hd, Rl] at r1; subst r1
        split at eb
        · rename_i hz; cases eb; exact ⟨hz, rfl⟩
        · cases eb
      · cases q : asS p.2 p.1.d with
        | none => simp [q] at eb
        | some ds =>
          simp only [q, Option.bind_some, Option.some.injEq] at eb
          subst eb
          obtain ⟨a, vs, rfl, hs, hr⟩ := asS_ok w1 r1 q
          have e : ds.isEmpty = vs.isEmpty := by
            have := hr.length
            cases ds <;> cases vs <;> simp_all
          rcases hs with hs | hs
          · exact .inl ⟨vs, hs, by rw [e]⟩
          · exact .inr (.inl ⟨vs, hs, by rw [e]⟩)
end
end CI

/-! Ci5: calls of defs, attributes, methods, statements, loops -/
namespace CI
open PySem PySem.Spec PyProof.Rows L2

/-! ### what a def means -/
def Fn := List D → Mem → Option (Rz × Mem)
def spF (K : PySem.W.Frag) (F : Fn) : Sp := fun vs H Q _ => ∃ ds M m r M', Rls K H m ds vs ∧ Wd K H m M ∧ F ds M = some (r, M') ∧ Post K H m r M' Q
def cCall (F : Fn) (g : Af) : Ef := fun ρ M => (g ρ M).bind fun p => F p.1 p.2
def cNew (c : Str) (F : Fn) (g : Af) : Ef := fun ρ M => (g ρ M).bind fun p => (F (.loc p.2.length :: p.1) (p.2 ++ [.ins c []])).bind fun q => match q.1 with
  | .val .non => some (.val (.loc p.2.length), q.2)
  | _ => none
def cMeth (c m : Str) (F : Fn) (f : Ef) (g : Af) : Ef := fun ρ M => (f ρ M).bind fun p => match p.1.d with
  | .loc k => match p.2[k]? with
    | some (.ins c' fs) => if c' = c ∧ fs.lookup m = none then (g ρ p.2).bind fun q => F (.loc k :: q.1) q.2 else none
    | _ => none
  | _ => none
def cFld (cs : List Str) (f : Str) (fo : Ef) : Ef := fun ρ M => (fo ρ M).bind fun p => match p.1.d with
  | .loc k => match p.2[k]? with
    | some (.ins c fs) => if c ∈ cs then (fs.lookup f).bind fun d => some (.val d, p.2) else none
    | _ => none
  | _ => none
section
variable {X : Cx} {k : Nat} {f : Addr} {fd : FuncData} {ps : List Str} {x m c : Str} {p pos apos : Pos} {e o : Expr} {es : List Expr} {G : Fn} {fo : Ef} {g : Af}
theorem call_of {σ : L2.St} {H : Hp} {Q : VK} {E : XK} (h : tE X.K (cCall G g) σ H Q) : tCall (spF X.K G) [] E (tA X.K g) σ H Q := by
  obtain ⟨ρ, M, m, z, M', rs, w, hf, P⟩ := h
  unfold cCall at hf
  cases ea : g ρ M with
  | none => rw [ea] at hf; cases hf
  | some p =>
    rw [ea] at hf
    exact bindA rs w ea fun H1 m1 vs e1 w1 rs1 r1 => ⟨p.1, p.2, m1, z, M', by rw [List.append_nil]; exact r1, w1, hf, P.ext e1⟩
theorem ce_call (F : FnOk X.prog X.w X.K X.mg X.base CX0 k f fd ps (spF X.K G)) (hr : Room k X.A) (hg : Gl X x) (hm : X.mg x = some (.ref f)) (hk : PySem.W.keepIn X.K (.ref f) = true) (hb : Binds X.K fd ps [])
    (ha : CAx X (e :: es) g) (hdb : (x == ("__debug__" : Str)) = false := by decide) (he : starEach (e :: es) X.env = (false, eval e X.env) :: starEach es X.env := by rfl) (hpl : (backTo pos (starEach es X.env)).any (·.1) = false := by rfl) :
    CEx X (.Call (.Name x p) (e :: es) [] pos) (cCall G g) := PE.imp (pe_call F hr hg hm hk hb .nil pass0 ha hdb he hpl) fun _ _ _ h => call_of h
theorem ce_call0 (F : FnOk X.prog X.w X.K X.mg X.base CX0 k f fd ps (spF X.K G)) (hr : Room k X.A) (hg : Gl X x) (hm : X.mg x = some (.ref f)) (hk : PySem.W.keepIn X.K (.ref f) = true) (hb : Binds X.K fd ps [])
    (hdb : (x == ("__debug__" : Str)) = false := by decide) : CEx X (.Call (.Name x p) [] [] pos) (cCall G aNil) :=
  PE.imp (pe_call0 F hr hg hm hk hb .nil pass0 hdb) fun σ H Q ⟨ρ, M, m, z, M', rs, w, hf, P⟩ => ⟨[], M, m, z, M', by rw [Rls]; rfl, w, hf, P⟩
theorem new_of {σ : L2.St} {H : Hp} {Q : VK} {E : XK} (h : tE X.K (cNew c G g) σ H Q) : tMake (He.ga X.K c) (spF X.K G) [] E (tA X.K g) σ H Q := by
  obtain ⟨ρ, M, m, z, M', rs, w, hf, P⟩ := h
  unfold cNew at hf
  cases ea : g ρ M with
  | none => rw [ea] at hf; cases hf
  | some p =>
    rw [ea] at hf
    simp only [Option.bind_some] at hf
    cases eb : G (.loc p.2.length :: p.1) (p.2 ++ [.ins c []]) with
    | none => rw [eb] at hf; cases hf
    | some q =>
      rw [eb] at hf
      simp only [Option.bind_some] at hf
      refine bindA rs w ea fun H1 m1 vs e1 w1 rs1 r1 => fun x dx nx ndx ne => ?_
      have e2 : Ext H1 m1 (upd H1 dx (.own x)) m1 := .new ndx
      have w2 : Wd X.K (upd H1 dx (.own x)) m1 p.2 := w1.new ndx
      have nx2 : upd H1 dx (.own x) x = none := by rw [upd_ne (Ne.symm ne)]; exact nx
      obtain ⟨w3, e3⟩ := w2.push (o := .ins c []) (u := .ins (He.ga X.K c) dx []) nx2 ⟨dx, [], upd_same, rfl⟩
      split at hf
      · rename_i hq
        cases hf
        refine ⟨.loc p.2.length :: p.1, _, m1 ++ [x], q.1, q.2, ?_, w3, eb, Post.use fun H4 m4 v e4 w4 r4 => ?_⟩
        · rw [Rls]
          refine ⟨_, _, rfl, ?_, by rw [List.append_nil]; exact r1.ext (e2.trans e3)⟩
          rw [Rl]
          exact ⟨x, rfl, by rw [← w1.len, List.getElem?_append_right (Nat.le_refl _)]; simp⟩
        · rw [hq] at r4
          rw [show (Rz.val D.non).d = .non from rfl, Rl] at r4
          refine ⟨r4, (P.ext (((e1.trans e2).trans e3).trans e4)).val w4 ?_⟩
          rw [Rl]
          exact ⟨x, rfl, e4.get (by rw [← w1.len, List.getElem?_append_right (Nat.le_refl _)]; simp)⟩
      · cases hf
theorem ce_new (Mk' : Mk X.K (He.ga X.K c) f) (F : FnOk X.prog X.w X.K X.mg X.base CX0 k f fd ps (spF X.K G)) (hr : Room (k + 1) X.A) (hg : Gl X x) (hm : X.mg x = some (.ref (He.ga X.K c))) (hb : Binds X.K fd ps [])
    (ha : CAx X (e :: es) g) (hdb : (x == ("__debug__" : Str)) = false := by decide) (he : starEach (e :: es) X.env = (false, eval e X.env) :: starEach es X.env := by rfl) (hpl : (backTo pos (starEach es X.env)).any (·.1) = false := by rfl) :
    CEx X (.Call (.Name x p) (e :: es) [] pos) (cNew c G g) := PE.imp (pe_make Mk' F hr hg hm hb .nil pass0 ha hdb he hpl) fun _ _ _ h => new_of h
theorem ce_new0 (Mk' : Mk X.K (He.ga X.K c) f) (F : FnOk X.prog X.w X.K X.mg X.base CX0 k f fd ps (spF X.K G)) (hr : Room (k + 1) X.A) (hg : Gl X x) (hm : X.mg x = some (.ref (He.ga X.K c))) (hb : Binds X.K fd ps [])
    (hdb : (x == ("__debug__" : Str)) = false := by decide) : CEx X (.Call (.Name x p) [] [] pos) (cNew c G aNil) :=
  PE.imp (pe_make0 Mk' F hr hg hm hb .nil pass0 hdb) fun σ H Q h => by
    have h2 := new_of (E := E0) h
    obtain ⟨ρ, M, m, ds, M', rs, w, hf, P⟩ := h2
    cases hf
    exact P H m [] .refl w (by rw [Rls])
theorem meth_of {σ : L2.St} {H : Hp} {Q : VK} {E : XK} (h : tE X.K (cMeth c m G fo g) σ H Q) : tMeth (He.ga X.K c) m (spF X.K G) [] E (tE X.K fo) (tA X.K g) σ H Q := by
  obtain ⟨ρ, M, mm, z, M', rs, w, hf, P⟩ := h
  unfold cMeth at hf
  cases ea : fo ρ M with
  | none => rw [ea] at hf; cases hf
  | some p =>
    rw [ea] at hf
    simp only [Option.bind_some] at hf
    refine bindE rs w ea fun H1 m1 v e1 w1 rs1 r1 => ?_
    split at hf
    · rename_i k hk
      rw [hk, Rl] at r1
      obtain ⟨a, rfl, ha⟩ := r1
      split at hf
      · rename_i c' fs hfs
        split at hf
        · rename_i hc
          obtain ⟨rfl, hl⟩ := hc
          obtain ⟨b, hb, dx, gs, h1, h2⟩ := w1.get hfs
          rw [ha] at hb; cases hb
          refine ⟨a, dx, gs, rfl, h1, h2.lookup_none hl, ?_⟩
          cases eg : g ρ p.2 with
          | none => rw [eg] at hf; cases hf
          | some q =>
            rw [eg] at hf
            simp only [Option.bind_some] at hf
            refine bindA rs1 w1 eg fun H2 m2 vs e2 w2 rs2 r2 => ⟨.loc k :: q.1, q.2, m2, z, M', ?_, w2, hf, P.ext (e1.trans e2)⟩
            rw [Rls]
            refine ⟨_, _, rfl, ?_, by rw [List.append_nil]; exact r2⟩
            rw [Rl]
            exact ⟨a, rfl, e2.get ha⟩
        · cases hf
      · cases hf
    · cases hf
theorem ce_meth {pl : Sem Bool} (he : CEx X o fo) (c' : Cls X.K (He.ga X.K c)) (hm : Meth X.K (He.ga X.K c) m f) (F : FnOk X.prog X.w X.K X.mg X.base CX0 k f fd ps (spF X.K G)) (hr : Room k X.A) (hb : Binds X.K fd ps []) (ha : CAx X (e :: es) g)
    (hst : starEach (e :: es) X.env = (false, eval e X.env) :: starEach es X.env := by rfl) (hpl : (backTo pos (starEach es X.env)).any (·.1) = false := by rfl)
    (ht : eval (.Call (.Attribute o m apos) (e :: es) [] pos) X.env = (do
      let ov ← eval o X.env
      standAt apos.atName
      let (f, first) ← holding [ov] (getMethod ov m pl)
      callWith pos f first (backTo pos (starEach (e :: es) X.env)) (backToKw pos (keywordEach [] X.env))) := by rfl) :
    CEx X (.Call (.Attribute o m apos) (e :: es) [] pos) (cMeth c m G fo g) := PE.imp (pe_meth he c' hm F hr hb .nil pass0 ha hst hpl ht) fun _ _ _ h => meth_of h
theorem ce_meth0 {pl : Sem Bool} (he : CEx X o fo) (c' : Cls X.K (He.ga X.K c)) (hm : Meth X.K (He.ga X.K c) m f) (F : FnOk X.prog X.w X.K X.mg X.base CX0 k f fd ps (spF X.K G)) (hr : Room k X.A) (hb : Binds X.K fd ps [])
    (ht : eval (.Call (.Attribute o m apos) [] [] pos) X.env = (do
      let ov ← eval o X.env
      standAt apos.atName
      let (f, first) ← holding [ov] (getMethod ov m pl)
      callWith pos f first (backTo pos (starEach [] X.env)) (backToKw pos (keywordEach [] X.env))) := by rfl) :
    CEx X (.Call (.Attribute o m apos) [] [] pos) (cMeth c m G fo aNil) := PE.imp (pe_meth0 he c' hm F hr hb .nil pass0 ht) fun σ H Q h => by
  have h2 := meth_of (E := E0) h
  obtain ⟨ρ, M, mm, z, M', rs, w, hf, P⟩ := h2
  refine ⟨ρ, M, mm, z, M', rs, w, hf, fun H1 m1 e1 w1 => ?_⟩
  have P1 := P H1 m1 e1 w1
  cases z with
  | val d =>
    intro v rv
    obtain ⟨a, dx, fs, h1, h2, h3, ρ', M2, m2, ds, M3, _, w2, hf2, P2⟩ := P1 v rv
    cases hf2
    exact ⟨a, dx, fs, h1, h2, h3, P2 H1 m2 [] .refl w2 (by rw [Rls])⟩
  | new ds =>
    intro vs a rv n
    obtain ⟨a', dx, fs, h1, h2, h3, ρ', M2, m2, ds2, M3, _, w2, hf2, P2⟩ := P1 vs a rv n
    cases hf2
    exact ⟨a', dx, fs, h1, h2, h3, P2 _ m2 [] .refl w2 (by rw [Rls])⟩
theorem ce_fld {cs : List Str} {n : Str} (he : CEx X e fo) (hcs : ∀ c ∈ cs, Cls X.K (He.ga X.K c) ∧ NoAttr X.K (He.ga X.K c) n) (hb : attributeBase e n X.env (eval e X.env) = eval e X.env := by rfl) : CEx X (.Attribute e n pos) (cFld cs n fo) :=
  PE.imp (pe_fld he hb) fun σ H Q h => by
    obtain ⟨ρ, M, mm, z, M', rs, w, hf, P⟩ := h
    unfold cFld at hf
    cases ea : fo ρ M with
    | none => rw [ea] at hf; cases hf
    | some p =>
      rw [ea] at hf
      simp only [Option.bind_some] at hf
      refine bindE rs w ea fun H1 m1 v e1 w1 rs1 r1 => ?_
      split at hf
      · rename_i k hk
        rw [hk, Rl] at r1
        obtain ⟨a, rfl, ha⟩ := r1
        split at hf
        · rename_i c fs hfs
          split at hf
          · rename_i hc
            obtain ⟨b, hb, dx, gs, h1, h2⟩ := w1.get hfs
            rw [ha] at hb; cases hb
            cases q : fs.lookup n with
            | none => rw [q] at hf; cases hf
            | some d =>
              rw [q] at hf
              cases hf
              obtain ⟨v, hv, rv⟩ := h2.lookup q
              exact ⟨a, _, dx, gs, v, rfl, h1, (hcs c hc).1, (hcs c hc).2, hv, (P.ext e1).val w1 rv⟩
          · cases hf
        · cases hf
      · cases hf
end

/-! ### methods of lists -/
def Mop := D → List D → Mem → Option (Rz × Mem)
def MtOk (X : Cx) (T id : String) (o : Mop) : Prop := ∃ r, MtR X id r ∧ ∀ H m M d ds x xs z M' Q, Wd X.K H m M → Rl X.K H m d x → Rls X.K H m ds xs → o d ds M = some (z, M') → Post X.K H m z M' Q → r x xs H Q
def cBM (T : String) (o : Mop) (f : Ef) (g : Af) : Ef := fun ρ M => (f ρ M).bind fun p => if tyOf p.2 p.1.d = some T then (g ρ p.2).bind fun q => o p.1.d q.1 q.2 else none
section
variable {X : Cx} {o e : Expr} {es : List Expr} {fo : Ef} {g : Af} {name : Str} {apos cpos : Pos} {id : String} {op : Mop}
theorem tyV_list {K : PySem.W.Frag} {H : Hp} {m : List Addr} {M : Mem} {d : D} {x : V} (w : Wd K H m M) (r : Rl K H m d x) (h : tyOf M d = some "list") : tyV K "list" x H := by
  cases d with
  | lst ds => rw [Rl] at r; obtain ⟨a, vs, rfl, _, h1, _⟩ := r; exact .inl ⟨rfl, vs, .of h1⟩
  | scr ns => rw [Rl] at r; obtain ⟨a, rfl, h1⟩ := r; exact .inl ⟨rfl, _, h1.l⟩
  | loc k =>
    rw [Rl] at r
    obtain ⟨a, rfl, ha⟩ := r
    unfold tyOf at h
    simp only at h
    split at h
    · rename_i ds hk
      obtain ⟨b, hb, vs, h1, h2⟩ := w.get hk
      rw [ha] at hb; cases hb
      exact .inl ⟨rfl, vs, .of h1⟩
    · exact absurd (Option.some.inj h) (by decide)
    · cases h
  | non => exact absurd (Option.some.inj h) (by decide)
  | bl b => exact absurd (Option.some.inj h) (by decide)
  | int b => exact absurd (Option.some.inj h) (by decide)
  | str b => exact absurd (Option.some.inj h) (by decide)
  | tup b => exact absurd (Option.some.inj h) (by decide)
theorem bm_of {r : V → List V → Hp → VK → Prop} (ho : ∀ H m M d ds x xs z M' Q, Wd X.K H m M → Rl X.K H m d x → Rls X.K H m ds xs → op d ds M = some (z, M') → Post X.K H m z M' Q → r x xs H Q) {σ : L2.St} {H : Hp} {Q : VK}
    (h : tE X.K (cBM "list" op fo g) σ H Q) : tBM X.K "list" r (tE X.K fo) (tA X.K g) σ H Q := by
  obtain ⟨ρ, M, mm, z, M', rs, w, hf, P⟩ := h
  unfold cBM at hf
  cases ea : fo ρ M with
  | none => rw [ea] at hf; cases hf
  | some p =>
    rw [ea] at hf
    simp only [Option.bind_some] at hf
    refine bindE rs w ea fun H1 m1 v e1 w1 rs1 r1 => ?_
    split at hf
    · rename_i ht
      refine ⟨tyV_list w1 r1 ht, ?_⟩
      cases eg : g ρ p.2 with
      | none => rw [eg] at hf; cases hf
      | some q =>
        rw [eg] at hf
        simp only [Option.bind_some] at hf
        exact bindA rs1 w1 eg fun H2 m2 vs e2 w2 rs2 r2 => ho H2 m2 q.2 _ _ _ _ _ _ Q w2 (r1.ext e2) r2 hf (P.ext (e1.trans e2))
    · cases hf
theorem ce_bm (pa : PlainAttrs "list") (slot : Slot "list" name id) (hty : typeOf (.builtin id) = pure (.type "method_descriptor")) (hm : MtOk X "list" id op) (ho : CEx X o fo) (ha : CAx X (e :: es) g)
    (hbase : attributeBase o name X.env (eval o X.env) = eval o X.env := by rfl)
    (hfew : ((backTo cpos (starEach (e :: es) X.env)).all (fun x => !x.1) && (backToKw cpos (keywordEach [] X.env)).all (fun x => x.1.isSome)
      && decide ((e :: es).length + ([] : List Keyword).length + (if ([] : List Keyword).isEmpty then 0 else 1) < 30)) = true := by rfl)
    (hline : (apos.endLine == cpos.line) = true := by rfl) (hs : starEach (e :: es) X.env = (false, eval e X.env) :: starEach es X.env := by rfl) (hplain : (backTo cpos (starEach es X.env)).any (·.1) = false := by rfl) :
    CEx X (.Call (.Attribute o name apos) (e :: es) [] cpos) (cBM "list" op fo g) := by
  obtain ⟨r, h1, h2⟩ := hm
  exact PE.imp (pe_bm pa slot hty h1 ho ha hbase hfew hline hs hplain) fun _ _ _ h => bm_of h2 h
theorem ce_bm0 (pa : PlainAttrs "list") (slot : Slot "list" name id) (hty : typeOf (.builtin id) = pure (.type "method_descriptor")) (hm : MtOk X "list" id op) (ho : CEx X o fo)
    (hbase : attributeBase o name X.env (eval o X.env) = eval o X.env := by rfl) (hline : (apos.endLine == cpos.line) = true := by rfl) :
    CEx X (.Call (.Attribute o name apos) [] [] cpos) (cBM "list" op fo aNil) := by
  obtain ⟨r, h1, h2⟩ := hm
  refine PE.imp (pe_bm0 pa slot hty h1 ho hbase hline) fun σ H Q h => ?_
  obtain ⟨ρ, M, mm, z, M', rs, w, hf, P⟩ := h
  unfold cBM at hf
  cases ea : fo ρ M with
  | none => rw [ea] at hf; cases hf
  | some p =>
    rw [ea] at hf
    simp only [Option.bind_some] at hf
    refine bindE rs w ea fun H1 m1 v e1 w1 rs1 r1 => ?_
    split at hf
    · rename_i ht
      refine ⟨tyV_list w1 r1 ht, ?_⟩
      simp only [aNil, Option.bind_some] at hf
      exact h2 H1 m1 p.2 _ [] _ [] _ _ Q w1 r1 (by rw [Rls]) hf (P.ext e1)
    · cases hf
/-- the object k is changed: what follows -/
theorem Post.set {K : PySem.W.Frag} {H : Hp} {m : List Addr} {M : Mem} {k : Nat} {a : Addr} {ob : O} {u : HO} {z : D} {v : V} {Q : VK} (w : Wd K H m M) (hk : m[k]? = some a) (P : Post K H m (.val z) (M.set k ob) Q)
    (ho : Ro K (upd H a u) m a ob) (hz : Rl K (upd H a u) m z v) : Q v (upd H a u) := P _ m (w.ext_set hk) (w.set hk ho) v hz
def oAppend : Mop := fun d ds M => match d, ds with
  | .loc k, [x] => match M[k]? with
    | some (.lst es) => if es.length < sizeLine then some (.val .non, M.set k (.lst (es ++ [x]))) else none
    | _ => none
  | _, _ => none
theorem ok_append : MtOk X "list" "list.append" oAppend := by
  refine ⟨_, mt_append, fun H m M d ds x xs z M' Q w rd rds ho P => ?_⟩
  unfold oAppend at ho
  split at ho
  · rename_i k y
    split at ho
    · rename_i es hk
      split at ho
      · rename_i hz
        cases ho
        rw [Rl] at rd
        obtain ⟨a, rfl, ha⟩ := rd
        obtain ⟨b, hb, vs, h1, h2⟩ := w.get hk
        rw [ha] at hb; cases hb
        obtain ⟨v, rfl, rv⟩ := rds.one
        have e := w.ext_set (K := X.K) (u := .lst (vs ++ [v])) ha
        refine ⟨a, vs, v, rfl, rfl, h1, by rw [← h2.length]; exact hz, P.set w ha ⟨_, upd_same, ?_⟩ rl_non⟩
        exact (h2.ext e).append (by rw [Rls]; exact ⟨_, _, rfl, rv.ext e, by rw [Rls]⟩)
      · cases ho
    · cases ho
  · cases ho
end

/-! ### statements -/
inductive Fl where
  | nx | bk | ct | rt (r : Rz)
abbrev Sf := Slots → Mem → Option (Fl × Slots × Mem)
def PostN (K : PySem.W.Frag) (H : Hp) (m : List Addr) (ρ' : Slots) (M' : Mem) (N : L2.St → Hp → Prop) : Prop := ∀ H1 m1 σ1, Ext H m H1 m1 → Wd K H1 m1 M' → Rs K H1 m1 ρ' σ1 → N σ1 H1
def PostS (K : PySem.W.Frag) (H : Hp) (m : List Addr) (fl : Fl) (ρ' : Slots) (M' : Mem) (Dn : Ends) : Prop := match fl with
  | .nx => PostN K H m ρ' M' Dn.nx
  | .bk => PostN K H m ρ' M' Dn.bk
  | .ct => PostN K H m ρ' M' Dn.ct
  | .rt r => Post K H m r M' Dn.rt
def tS (K : PySem.W.Frag) (f : Sf) : TS := fun Dn σ H => ∃ ρ M m fl ρ' M', Rs K H m ρ σ ∧ Wd K H m M ∧ f ρ M = some (fl, ρ', M') ∧ PostS K H m fl ρ' M' Dn
abbrev CSx (X : Cx) (st : Stmt) (f : Sf) : Prop := PS X st (tS X.K f)
abbrev CBx (X : Cx) (st : List Stmt) (f : Sf) : Prop := PSs X st (tS X.K f)
theorem PS.imp {X : Cx} {e : Stmt} {t t' : TS} (h : PS X e t) (i : ∀ Dn σ H, t' Dn σ H → t Dn σ H) : PS X e t' := ⟨fun pins s σ H Q I q => h.run pins s σ H Q I (i Q σ H q)⟩
theorem PSs.imp {X : Cx} {e : List Stmt} {t t' : TS} (h : PSs X e t) (i : ∀ Dn σ H, t' Dn σ H → t Dn σ H) : PSs X e t' := ⟨fun pins s σ H Q I q => h.run pins s σ H Q I (i Q σ H q)⟩
section
variable {K : PySem.W.Frag} {H H1 : Hp} {m m1 : List Addr} {ρ' : Slots} {M' : Mem} {fl : Fl} {Dn : Ends}
theorem PostN.ext {N : L2.St → Hp → Prop} (P : PostN K H m ρ' M' N) (e : Ext H m H1 m1) : PostN K H1 m1 ρ' M' N := fun H2 m2 σ2 e2 w r => P H2 m2 σ2 (e.trans e2) w r
theorem PostS.ext (P : PostS K H m fl ρ' M' Dn) (e : Ext H m H1 m1) : PostS K H1 m1 fl ρ' M' Dn := by
  cases fl with
  | nx => exact PostN.ext P e
  | bk => exact PostN.ext P e
  | ct => exact PostN.ext P e
  | rt r => exact Post.ext P e
end
section
variable {X : Cx} {st : Stmt} {rest : List Stmt} {f g : Sf} {fe fo : Ef} {ft : Tf} {e : Expr} {pos : Pos}
def sNil : Sf := fun ρ M => some (.nx, ρ, M)
def sCons (f g : Sf) : Sf := fun ρ M => (f ρ M).bind fun p => match p.1 with
  | .nx => g p.2.1 p.2.2
  | fl => some (fl, p.2.1, p.2.2)
theorem nx_of {Dn : Ends} {σ : L2.St} {H : Hp} (h : tS X.K sNil Dn σ H) : Dn.nx σ H := by
  obtain ⟨ρ, M, m, fl, ρ', M', rs, w, hf, P⟩ := h
  cases hf
  exact P H m σ .refl w rs
theorem cb_nil : CBx X [] sNil := PSs.imp pss_nil fun _ _ _ h => nx_of h
theorem cb_cons (h1 : CSx X st f) (h2 : CBx X rest g) : CBx X (st :: rest) (sCons f g) := PSs.imp (pss_cons h1 h2) fun Dn σ H h => by
  obtain ⟨ρ, M, m, fl, ρ', M', rs, w, hf, P⟩ := h
  unfold sCons at hf
  cases ea : f ρ M with
  | none => rw [ea] at hf; cases hf
  | some p =>
    obtain ⟨fl1, ρ1, M1⟩ := p
    rw [ea] at hf
    simp only [Option.bind_some] at hf
    refine ⟨ρ, M, m, fl1, ρ1, M1, rs, w, ea, ?_⟩
    cases fl1 with
    | nx => exact fun H1 m1 σ1 e1 w1 r1 => ⟨ρ1, M1, m1, fl, ρ', M', r1, w1, hf, P.ext e1⟩
    | bk => cases hf; exact P
    | ct => cases hf; exact P
    | rt r => cases hf; exact P
theorem cb_one (h1 : CSx X st f) : CBx X [st] f := pss_one h1
theorem cs_pass : CSx X (.Pass pos) sNil := PS.imp ps_pass fun _ _ _ h => nx_of h
theorem cs_doc {x : Str} {j pos'} : CSx X (.Expr (.Constant (.str x) j pos') pos) sNil := PS.imp ps_doc fun _ _ _ h => nx_of h
def sBreak : Sf := fun ρ M => some (.bk, ρ, M)
def sCont : Sf := fun ρ M => some (.ct, ρ, M)
theorem cs_break : CSx X (.Break pos) sBreak := PS.imp ps_break fun Dn σ H h => by
  obtain ⟨ρ, M, m, fl, ρ', M', rs, w, hf, P⟩ := h
  cases hf
  exact P H m σ .refl w rs
theorem cs_continue : CSx X (.Continue pos) sCont := PS.imp ps_continue fun Dn σ H h => by
  obtain ⟨ρ, M, m, fl, ρ', M', rs, w, hf, P⟩ := h
  cases hf
  exact P H m σ .refl w rs
def sExpr (f : Ef) : Sf := fun ρ M => (f ρ M).bind fun p => some (.nx, ρ, p.2)
theorem cs_expr (he : CEx X e fe) (hs : swapsWith e none pos.line X.env = pure false := by rfl) : CSx X (.Expr e pos) (sExpr fe) := PS.imp (ps_expr he hs) fun Dn σ H h => by
  obtain ⟨ρ, M, m, fl, ρ', M', rs, w, hf, P⟩ := h
  unfold sExpr at hf
  cases ea : fe ρ M with
  | none => rw [ea] at hf; cases hf
  | some p =>
    rw [ea] at hf
    cases hf
    exact bindE rs w ea fun H1 m1 v e1 w1 rs1 r1 => P H1 m1 σ e1 w1 rs1
def sRet (f : Ef) : Sf := fun ρ M => (f ρ M).bind fun p => some (.rt p.1, ρ, p.2)
theorem cs_ret (he : CEx X e fe) : CSx X (.Return (some e) pos) (sRet fe) := PS.imp (ps_ret he) fun Dn σ H h => by
  obtain ⟨ρ, M, m, fl, ρ', M', rs, w, hf, P⟩ := h
  unfold sRet at hf
  cases ea : fe ρ M with
  | none => rw [ea] at hf; cases hf
  | some p =>
    rw [ea] at hf
    cases hf
    exact ⟨ρ, M, m, p.1, p.2, rs, w, ea, P⟩
def sRetN : Sf := fun ρ M => some (.rt (.val .non), ρ, M)
theorem cs_retN : CSx X (.Return none pos) sRetN := PS.imp ps_retN fun Dn σ H h => by
  obtain ⟨ρ, M, m, fl, ρ', M', rs, w, hf, P⟩ := h
  cases hf
  exact Post.val P w rl_non
def sIf (t : Tf) (f g : Sf) : Sf := fun ρ M => (t ρ M).bind fun p => if p.1 = true then f ρ p.2 else g ρ p.2
theorem cs_if {c : Expr} {a b : List Stmt} (hc : CTx X c ft) (ha : CBx X a f) (hb : CBx X b g) : CSx X (.If c a b pos) (sIf ft f g) := PS.imp (ps_if hc ha hb) fun Dn σ H h => by
  obtain ⟨ρ, M, m, fl, ρ', M', rs, w, hf, P⟩ := h
  unfold sIf at hf
  cases ea : ft ρ M with
  | none => rw [ea] at hf; cases hf
  | some p =>
    rw [ea] at hf
    simp only [Option.bind_some] at hf
    refine bindT rs w ea fun H1 m1 e1 w1 rs1 => ?_
    split at hf
    · rename_i e; rw [if_pos e]; exact ⟨ρ, p.2, m1, fl, ρ', M', rs1, w1, hf, P.ext e1⟩
    · rename_i e; rw [if_neg e]; exact ⟨ρ, p.2, m1, fl, ρ', M', rs1, w1, hf, P.ext e1⟩
/-- code that is never reached -/
def sNever : Sf := fun _ _ => none
theorem cs_never : CSx X st sNever := PS.imp ps_never fun Dn σ H h => by
  obtain ⟨ρ, M, m, fl, ρ', M', rs, w, hf, P⟩ := h
  cases hf
theorem cb_never {sts : List Stmt} : CBx X sts sNever := PSs.imp pss_never fun Dn σ H h => by
  obtain ⟨ρ, M, m, fl, ρ', M', rs, w, hf, P⟩ := h
  cases hf
/-- name = value -/
def sSet (i : Nat) (f : Ef) : Sf := fun ρ M => (f ρ M).bind fun p => some (.nx, ρ.set i (some p.1.d), p.2)
theorem cs_set {i : Nat} (h : PS X st (tAsg (tE X.K fe) (gName i))) : CSx X st (sSet i fe) := PS.imp h fun Dn σ H h => by
  obtain ⟨ρ, M, m, fl, ρ', M', rs, w, hf, P⟩ := h
  unfold sSet at hf
  cases ea : fe ρ M with
  | none => rw [ea] at hf; cases hf
  | some p =>
    rw [ea] at hf
    cases hf
    exact bindE rs w ea fun H1 m1 v e1 w1 rs1 r1 => P H1 m1 _ e1 w1 (rs1.set r1 i)
/-- name = value, a new list becomes an object of our own -/
def sSetM (i : Nat) (f : Ef) : Sf := fun ρ M => (f ρ M).bind fun p => match p.1 with
  | .new ds => some (.nx, ρ.set i (some (.loc p.2.length)), p.2 ++ [.lst ds])
  | .val d => some (.nx, ρ.set i (some d), p.2)
theorem cs_setM {i : Nat} (h : PS X st (tAsg (tE X.K fe) (gName i))) : CSx X st (sSetM i fe) := PS.imp h fun Dn σ H h => by
  obtain ⟨ρ, M, m, fl, ρ', M', rs, w, hf, P⟩ := h
  unfold sSetM at hf
  cases ea : fe ρ M with
  | none => rw [ea] at hf; cases hf
  | some p =>
    obtain ⟨r, M1⟩ := p
    rw [ea] at hf
    simp only [Option.bind_some] at hf
    refine ⟨ρ, M, m, r, M1, rs, w, ea, fun H1 m1 e1 w1 => ?_⟩
    cases r with
    | val d =>
      cases hf
      exact fun v r1 => P H1 m1 _ e1 w1 ((rs.ext e1).set r1 i)
    | new ds =>
      cases hf
      intro vs a r1 n
      obtain ⟨w2, e2⟩ := w1.push (o := .lst ds) (u := .lst vs) n (by
        refine ⟨vs, upd_same, ?_⟩
        have e1 : Ext H1 m1 (upd H1 a (.lst vs)) m1 := .new n
        exact r1.ext ⟨e1.tup, e1.frz, e1.lst, e1.trk, [a], rfl, fun b q => by simp at q; rw [q]; exact n⟩)
      refine P _ _ _ (e1.trans e2) w2 (((rs.ext e1).ext e2).set ?_ i)
      rw [Rl]
      exact ⟨a, rfl, by rw [← w1.len, List.getElem?_append_right (Nat.le_refl _)]; simp⟩
end

/-! ### fields stored -/
def putD (f : Str) (v : D) : List (Str × D) → List (Str × D)
  | [] => [(f, v)]
  | (g, x) :: r => if g = f then (g, v) :: r else (g, x) :: putD f v r
theorem Rfs.put {K : PySem.W.Frag} {H : Hp} {m : List Addr} {f : Str} {d : D} {v : V} (r : Rl K H m d v) : ∀ {fs : List (Str × D)} {gs : List (Str × V)}, Rfs K H m fs gs → Rfs K H m (putD f d fs) (putF f v gs)
  | [], _, h => by cases h; exact ⟨v, [], rfl, r, rfl⟩
  | (g, x) :: fs, _, h => by
    obtain ⟨u, s, rfl, h1, h2⟩ := h
    unfold putD putF
    split
    · exact ⟨v, s, rfl, r, h2⟩
    · exact ⟨u, _, rfl, h1, Rfs.put r h2⟩
def stFld (cs : List Str) (f : Str) (fo : Ef) (d : D) (ρ : Slots) (M : Mem) : Option (Fl × Slots × Mem) := (fo ρ M).bind fun q => match q.1.d with
  | .loc k => match q.2[k]? with
    | some (.ins c fs) => if c ∈ cs ∧ fs.length < 1000 then some (.nx, ρ, q.2.set k (.ins c (putD f d fs))) else none
    | _ => none
  | _ => none
def sFldS (cs : List Str) (f : Str) (fo fv : Ef) : Sf := fun ρ M => (fv ρ M).bind fun p => stFld cs f fo p.1.d ρ p.2
def sFldM (cs : List Str) (f : Str) (fo fv : Ef) : Sf := fun ρ M => (fv ρ M).bind fun p => match p.1 with
  | .new ds => stFld cs f fo (.loc p.2.length) ρ (p.2 ++ [.lst ds])
  | .val d => stFld cs f fo d ρ p.2
section
variable {X : Cx} {st : Stmt} {fe fo fv : Ef} {o value : Expr} {n : Str} {pos pos' : Pos} {cs : List Str}
theorem fld_of {ρ ρ' : Slots} {M M' : Mem} {fl : Fl} {d : D} {y : V} {H H0 : Hp} {m m0 : List Addr} {σ : L2.St} {Dn : Ends} (hcs : ∀ c ∈ cs, Cls X.K (He.ga X.K c) ∧ NoAttr X.K (He.ga X.K c) n) (e : Ext H0 m0 H m) (rs : Rs X.K H m ρ σ) (w : Wd X.K H m M) (r : Rl X.K H m d y)
    (hf : stFld cs n fo d ρ M = some (fl, ρ', M')) (P : PostS X.K H0 m0 fl ρ' M' Dn) :
    tE X.K fo σ H fun x H2 => ∃ a C dx fs, x = .ref a ∧ H2 a = some (.ins C dx fs) ∧ Cls X.K C ∧ NoAttr X.K C n ∧ fs.length < 1000 ∧ Dn.nx σ (upd H2 a (.ins C dx (putF n y fs))) := by
  unfold stFld at hf
  cases ea : fo ρ M with
  | none => rw [ea] at hf; cases hf
  | some q =>
    rw [ea] at hf
    simp only [Option.bind_some] at hf
    refine bindE rs w ea fun H1 m1 v e1 w1 rs1 r1 => ?_
    split at hf
    · rename_i k hk
      rw [hk, Rl] at r1
      obtain ⟨a, rfl, ha⟩ := r1
      split at hf
      · rename_i c fs hfs
        split at hf
        · rename_i hc
          cases hf
          obtain ⟨b, hb, dx, gs, h1, h2⟩ := w1.get hfs
          rw [ha] at hb; cases hb
          have e2 := w1.ext_set (u := .ins (He.ga X.K c) dx (putF n y gs)) ha
          refine ⟨a, _, dx, gs, rfl, h1, (hcs c hc.1).1, (hcs c hc.1).2, by rw [← h2.length]; exact hc.2, ?_⟩
          exact P _ m1 σ ((e.trans e1).trans e2) (w1.set ha ⟨dx, _, upd_same, Rfs.put ((r.ext e1).ext e2) (h2.ext e2)⟩) (rs1.ext e2)
        · cases hf
      · cases hf
    · cases hf
theorem cs_fld (ha : CEx X o fo) (hv : CEx X value fv) (hcs : ∀ c ∈ cs, Cls X.K (He.ga X.K c) ∧ NoAttr X.K (He.ga X.K c) n) (hs : swapsWith value (some (.Attribute o n pos')) pos.line X.env = pure false := by rfl) : CSx X (.Assign [.Attribute o n pos'] value pos) (sFldS cs n fo fv) :=
  PS.imp (ps_fld ha hv hs) fun Dn σ H h => by
    obtain ⟨ρ, M, m, fl, ρ', M', rs, w, hf, P⟩ := h
    unfold sFldS at hf
    cases ea : fv ρ M with
    | none => rw [ea] at hf; cases hf
    | some p =>
      rw [ea] at hf
      exact bindE rs w ea fun H1 m1 v e1 w1 rs1 r1 => fld_of hcs e1 rs1 w1 r1 hf P
theorem cs_fldM (ha : CEx X o fo) (hv : CEx X value fv) (hcs : ∀ c ∈ cs, Cls X.K (He.ga X.K c) ∧ NoAttr X.K (He.ga X.K c) n) (hs : swapsWith value (some (.Attribute o n pos')) pos.line X.env = pure false := by rfl) : CSx X (.Assign [.Attribute o n pos'] value pos) (sFldM cs n fo fv) :=
  PS.imp (ps_fld ha hv hs) fun Dn σ H h => by
    obtain ⟨ρ, M, m, fl, ρ', M', rs, w, hf, P⟩ := h
    unfold sFldM at hf
    cases ea : fv ρ M with
    | none => rw [ea] at hf; cases hf
    | some p =>
      obtain ⟨r, M1⟩ := p
      rw [ea] at hf
      simp only [Option.bind_some] at hf
      refine ⟨ρ, M, m, r, M1, rs, w, ea, fun H1 m1 e1 w1 => ?_⟩
      cases r with
      | val d => exact fun v r1 => fld_of hcs e1 (rs.ext e1) w1 r1 hf P
      | new ds =>
        intro vs a r1 nn
        obtain ⟨w2, e2⟩ := w1.push (o := .lst ds) (u := .lst vs) nn (by
          refine ⟨vs, upd_same, ?_⟩
          have e1 : Ext H1 m1 (upd H1 a (.lst vs)) m1 := .new nn
          exact r1.ext ⟨e1.tup, e1.frz, e1.lst, e1.trk, [a], rfl, fun b q => by simp at q; rw [q]; exact nn⟩)
        refine fld_of hcs (e1.trans e2) ((rs.ext e1).ext e2) w2 ?_ hf P
        rw [Rl]
        exact ⟨a, rfl, by rw [← w1.len, List.getElem?_append_right (Nat.le_refl _)]; simp⟩
end
end CI

/-! Ci6: targets, loops, defs -/
namespace CI
open PySem PySem.Spec PyProof.Rows L2

/-! ### targets -/
abbrev Gf := D → Slots → Mem → Option (Slots × Mem)
abbrev GsF := List D → Slots → Mem → Option (Slots × Mem)
def tG (K : PySem.W.Frag) (g : Gf) : TG := fun v σ H Q => ∃ d ρ M m ρ' M', Rl K H m d v ∧ Rs K H m ρ σ ∧ Wd K H m M ∧ g d ρ M = some (ρ', M') ∧ PostN K H m ρ' M' Q
def tGs (K : PySem.W.Frag) (g : GsF) : TGs := fun vs σ H Q => ∃ ds ρ M m ρ' M', Rls K H m ds vs ∧ Rs K H m ρ σ ∧ Wd K H m M ∧ g ds ρ M = some (ρ', M') ∧ PostN K H m ρ' M' Q
theorem PG.imp {X : Cx} {e : Expr} {t t' : TG} (h : PG X e t) (i : ∀ v σ H Q, t' v σ H Q → t v σ H Q) : PG X e t' := ⟨fun pins s σ H v u Q I r q => h.run pins s σ H v u Q I r (i v σ H Q q)⟩
theorem PGs.imp {X : Cx} {e : List Expr} {t t' : TGs} (h : PGs X e t) (i : ∀ v σ H Q, t' v σ H Q → t v σ H Q) : PGs X e t' := ⟨fun pins s σ H v u Q I r q => h.run pins s σ H v u Q I r (i v σ H Q q)⟩
abbrev CGx (X : Cx) (e : Expr) (g : Gf) : Prop := PG X e (tG X.K g)
abbrev CGsx (X : Cx) (es : List Expr) (g : GsF) : Prop := PGs X es (tGs X.K g)
def gNm (i : Nat) : Gf := fun d ρ M => some (ρ.set i (some d), M)
def gsNil : GsF := fun ds ρ M => match ds with
  | [] => some (ρ, M)
  | _ => none
def gsCons (g : Gf) (gs : GsF) : GsF := fun ds ρ M => match ds with
  | d :: ds => (g d ρ M).bind fun p => gs ds p.1 p.2
  | [] => none
def gTp (n : Nat) (gs : GsF) : Gf := fun d ρ M => match d with
  | .tup ds => if ds.length = n then gs ds ρ M else none
  | _ => none
section
variable {X : Cx} {e tg : Expr} {es : List Expr} {g : Gf} {gs : GsF} {pos : Pos} {fe : Ef} {st : Stmt}
theorem cg_of {i : Nat} (h : PG X e (gName i)) : CGx X e (gNm i) := PG.imp h fun v σ H Q ⟨d, ρ, M, m, ρ', M', r, rs, w, hf, P⟩ => by
  cases hf
  exact P H m _ .refl w (rs.set r i)
theorem cgs_nil : CGsx X [] gsNil := PGs.imp pgs_nil fun vs σ H Q ⟨ds, ρ, M, m, ρ', M', r, rs, w, hf, P⟩ => by
  unfold gsNil at hf
  split at hf
  · cases hf
    exact ⟨rls_nil r, P H m _ .refl w rs⟩
  · cases hf
theorem cgs_cons (h1 : CGx X e g) (h2 : CGsx X es gs) (hs : (assignEach (e :: es) X.env).map (·.2) = assign e X.env :: (assignEach es X.env).map (·.2) := by rfl) : CGsx X (e :: es) (gsCons g gs) :=
  PGs.imp (pgs_cons h1 h2 hs) fun vs σ H Q ⟨ds, ρ, M, m, ρ', M', r, rs, w, hf, P⟩ => by
    unfold gsCons at hf
    split at hf
    · rename_i d ds
      rw [Rls] at r
      obtain ⟨v, vr, rfl, r1, r2⟩ := r
      cases ea : g d ρ M with
      | none => rw [ea] at hf; cases hf
      | some p =>
        rw [ea] at hf
        simp only [Option.bind_some] at hf
        refine ⟨v, vr, rfl, d, ρ, M, m, p.1, p.2, r1, rs, w, ea, fun H1 m1 σ1 e1 w1 rs1 => ?_⟩
        exact ⟨ds, p.1, p.2, m1, ρ', M', r2.ext e1, rs1, w1, hf, P.ext e1⟩
    · cases hf
theorem cg_tup {k n : Nat} (hc : X.calm = true) (h : CGsx X es gs) (hn : (assignEach es X.env).length = n := by rfl) (hst : (assignEach es X.env).findIdx? (·.1) = none := by rfl) : CGx X (.Tuple es k pos) (gTp n gs) :=
  PG.imp (pg_tup hc h hn hst) fun v σ H Q ⟨d, ρ, M, m, ρ', M', r, rs, w, hf, P⟩ => by
    unfold gTp at hf
    split at hf
    · rename_i ds
      split at hf
      · rename_i hl
        rw [Rl] at r
        obtain ⟨a, vs, rfl, h1, h2⟩ := r
        exact ⟨a, vs, rfl, h1, by rw [← h2.length]; exact hl, ds, ρ, M, m, ρ', M', h2, rs, w, hf, P⟩
      · cases hf
    · cases hf
def sAsg (g : Gf) (f : Ef) : Sf := fun ρ M => (f ρ M).bind fun p => (g p.1.d ρ p.2).bind fun q => some (.nx, q.1, q.2)
theorem cs_asg (h : PS X st (tAsg (tE X.K fe) (tG X.K g))) : CSx X st (sAsg g fe) := PS.imp h fun Dn σ H h => by
  obtain ⟨ρ, M, m, fl, ρ', M', rs, w, hf, P⟩ := h
  unfold sAsg at hf
  cases ea : fe ρ M with
  | none => rw [ea] at hf; cases hf
  | some p =>
    cases eg : g p.1.d ρ p.2 with
    | none => simp [ea, eg] at hf
    | some q =>
      simp [ea, eg] at hf
      obtain ⟨rfl, rfl, rfl⟩ := hf
      exact bindE rs w ea fun H1 m1 v e1 w1 rs1 r1 => ⟨p.1.d, ρ, p.2, m1, q.1, q.2, r1, rs1, w1, eg, PostN.ext P e1⟩
end
/-- xs[i] = v as a target -/
def gIx (fo fi : Ef) : Gf := fun d ρ M => (fo ρ M).bind fun p => (fi ρ p.2).bind fun q => match p.1.d, q.1.d with
  | .loc k, .int i => match q.2[k]? with
    | some (.lst es) => (ixN es.length i).bind fun j => some (ρ, q.2.set k (.lst (es.set j d)))
    | _ => none
  | _, _ => none
theorem cg_ix {X : Cx} {o i : Expr} {fo fi : Ef} {pos : Pos} (ho : CEx X o fo) (hi : CEx X i fi) (ha : ∀ v, assign (.Subscript o i pos) X.env v = (do
      let ov ← holding [v] (eval o X.env)
      let iv ← holding [v, ov] (eval i X.env)
      standAt pos
      holding [v, ov, iv] (setItem ov iv v)
      release [v, ov, iv] []) := by intro _; rfl) : CGx X (.Subscript o i pos) (gIx fo fi) :=
  PG.imp (pg_sub ho hi set_list ha) fun v σ H Q ⟨d, ρ, M, m, ρ', M', r, rs, w, hf, P⟩ => by
    unfold gIx at hf
    cases ea : fo ρ M with
    | none => rw [ea] at hf; cases hf
    | some p =>
      cases ei : fi ρ p.2 with
      | none => simp [ea, ei] at hf
      | some q =>
        simp only [ea, ei, Option.bind_some] at hf
        refine bindE rs w ea fun H1 m1 v1 e1 w1 rs1 r1 => bindE rs1 w1 ei fun H2 m2 v2 e2 w2 rs2 r2 => ?_
        split at hf
        · rename_i k i hk hi
          split at hf
          · rename_i es hes
            cases ej : ixN es.length i with
            | none => rw [ej] at hf; cases hf
            | some j =>
              rw [ej] at hf
              cases hf
              have r1' := r1.ext e2
              rw [hk, Rl] at r1'
              rw [hi, Rl] at r2
              obtain ⟨a, rfl, ha⟩ := r1'
              subst r2
              obtain ⟨b, hb, vs, h1, h2⟩ := w2.get hes
              rw [ha] at hb; cases hb
              have e3 := w2.ext_set (u := .lst (vs.set j v)) ha
              refine ⟨a, vs, i, j, rfl, rfl, h1, by rw [← h2.length]; exact ej, ?_⟩
              exact P _ m2 _ ((e1.trans e2).trans e3) (w2.set ha ⟨_, upd_same, (h2.ext e3).set j (((r.ext e1).ext e2).ext e3)⟩) ((rs2).ext e3)
          · cases hf
        · cases hf

/-! ### what is walked -/
abbrev If := Slots → Mem → Option (List D × Option Nat × Mem)
def GdOk (K : PySem.W.Frag) (gk : Option Nat) (ds : List D) (H : Hp) (m : List Addr) : Prop := ∀ k, gk = some k → ∃ a vs, m[k]? = some a ∧ H a = some (.lst vs) ∧ Rls K H m ds vs
structure Yl (K : PySem.W.Frag) (H0 : Hp) (m0 : List Addr) (J : It) (ds : List D) (gk : Option Nat) : Prop where
  go : ∀ i H m, i < ds.length → Ext H0 m0 H m → GdOk K gk ds H m → J.go i H
  yld : ∀ i d H m M x H', ds[i]? = some d → Ext H0 m0 H m → GdOk K gk ds H m → Wd K H m M → J.yld i H x H' → Ext H m H' m ∧ Wd K H' m M ∧ Rl K H' m d x
  stop : ∀ H m, Ext H0 m0 H m → GdOk K gk ds H m → J.stop ds.length H
def tI (K : PySem.W.Frag) (f : If) : TI := fun σ H R => ∃ ρ M m ds gk M', Rs K H m ρ σ ∧ Wd K H m M ∧ f ρ M = some (ds, gk, M') ∧
  ∀ H1 m1 J, Ext H m H1 m1 → Wd K H1 m1 M' → GdOk K gk ds H1 m1 → Yl K H1 m1 J ds gk → R J H1
theorem PI.imp {X : Cx} {tg e : Expr} {t t' : TI} (h : PI X tg e t) (i : ∀ σ H R, t' σ H R → t σ H R) : PI X tg e t' := ⟨fun pins s σ H R I q => h.run pins s σ H R I (i σ H R q)⟩
theorem PI.or {X : Cx} {tg e : Expr} {t t' : TI} (h : PI X tg e t) (h' : PI X tg e t') : PI X tg e (fun σ H R => t σ H R ∨ t' σ H R) := ⟨fun pins s σ H R I q => q.elim (h.run pins s σ H R I) (h'.run pins s σ H R I)⟩
abbrev CIx (X : Cx) (tg e : Expr) (f : If) : Prop := PI X tg e (tI X.K f)
def gkOf : D → Option Nat
  | .loc k => some k
  | _ => none
def iSeq (f : Ef) : If := fun ρ M => (f ρ M).bind fun p => (asS p.2 p.1.d).bind fun ds => some (ds, gkOf p.1.d, p.2)
theorem gd_none {K : PySem.W.Frag} {ds : List D} {H : Hp} {m : List Addr} : GdOk K none ds H m := fun k e => by cases e

section
variable {K : PySem.W.Frag} {H : Hp} {m : List Addr} {M : Mem} {a : Addr} {ds : List D} {vs : List V}
theorem yl_tup (h : SqT K H a vs) (r : Rls K H m ds vs) : Yl K H m (Itt K a) ds none where
  go := fun i H1 m1 hi e _ => by
    have hl := r.length
    exact ⟨vs, vs[i], sqT_ext e h, List.getElem?_eq_getElem (by omega)⟩
  yld := fun i d H1 m1 M1 x H' q e _ w y => by
    obtain ⟨rfl, y⟩ := y
    obtain ⟨v, h1, h2⟩ := (r.ext e).get q
    have := y vs (sqT_ext e h)
    rw [h1] at this; cases this
    exact ⟨.refl, w, h2⟩
  stop := fun H1 m1 e _ => ⟨vs, sqT_ext e h, by rw [r.length]; exact Nat.le_refl _⟩
theorem yl_sq (h : ∀ H1 m1, Ext H m H1 m1 → SqL K H1 a vs) (r : Rls K H m ds vs) : Yl K H m (Itl K a) ds none where
  go := fun i H1 m1 hi e _ => by
    have hl := r.length
    exact ⟨vs, vs[i], h _ _ e, List.getElem?_eq_getElem (by omega)⟩
  yld := fun i d H1 m1 M1 x H' q e _ w y => by
    obtain ⟨rfl, y⟩ := y
    obtain ⟨v, h1, h2⟩ := (r.ext e).get q
    have := y vs (h _ _ e)
    rw [h1] at this; cases this
    exact ⟨.refl, w, h2⟩
  stop := fun H1 m1 e _ => ⟨vs, h _ _ e, by rw [r.length]; exact Nat.le_refl _⟩
theorem yl_loc {k : Nat} (h : m[k]? = some a) : Yl K H m (Itl K a) ds (some k) where
  go := fun i H1 m1 hi e g => by
    obtain ⟨b, vs, h1, h2, h3⟩ := g k rfl
    rw [e.get h] at h1; cases h1
    have hl := h3.length
    exact ⟨vs, vs[i], .of h2, List.getElem?_eq_getElem (by omega)⟩
  yld := fun i d H1 m1 M1 x H' q e g w y => by
    obtain ⟨rfl, y⟩ := y
    obtain ⟨b, vs, h1, h2, h3⟩ := g k rfl
    rw [e.get h] at h1; cases h1
    obtain ⟨v, h4, h5⟩ := h3.get q
    have := y vs (.of h2)
    rw [h4] at this; cases this
    exact ⟨.refl, w, h5⟩
  stop := fun H1 m1 e g => by
    obtain ⟨b, vs, h1, h2, h3⟩ := g k rfl
    rw [e.get h] at h1; cases h1
    exact ⟨vs, .of h2, by rw [h3.length]; exact Nat.le_refl _⟩
def rgD (lo : Int) (n : Nat) : List D := (List.range n).map fun (i : Nat) => D.int (lo + i)
theorem rgD_len {lo : Int} {n : Nat} : (rgD lo n).length = n := by unfold rgD; simp
theorem rgD_get {lo : Int} {n i : Nat} {d : D} (h : (rgD lo n)[i]? = some d) : i < n ∧ d = .int (lo + i) := by
  unfold rgD at h
  rw [List.getElem?_map] at h
  cases q : (List.range n)[i]? with
  | none => rw [q] at h; cases h
  | some j =>
    rw [q] at h
    cases h
    obtain ⟨h1, h2⟩ := List.getElem?_eq_some_iff.mp q
    simp at h1 h2
    exact ⟨h1, by rw [h2]⟩
theorem yl_rng {lo : Int} {n : Nat} : Yl K H m (Itr lo n) (rgD lo n) none where
  go := fun i H1 m1 hi e _ => by rw [rgD_len] at hi; exact hi
  yld := fun i d H1 m1 M1 x H' q e _ w y => by
    obtain ⟨rfl, rfl⟩ := y
    obtain ⟨_, rfl⟩ := rgD_get q
    exact ⟨.refl, w, by rw [Rl]⟩
  stop := fun H1 m1 e _ => by rw [rgD_len]; exact Nat.le_refl _
end
section
variable {X : Cx} {tg e a b : Expr} {f fa fb : Ef} {p pos : Pos}
theorem ci_seq (h : CEx X e f) : CIx X tg e (iSeq f) := PI.imp (PI.or (pi_list h) (pi_tup h)) fun σ H R ⟨ρ, M, m, ds, gk, M', rs, w, hf, P⟩ => by
  unfold iSeq at hf
  cases ea : f ρ M with
  | none => rw [ea] at hf; cases hf
  | some q =>
    obtain ⟨r, M1⟩ := q
    rw [ea] at hf
    simp only [Option.bind_some] at hf
    cases es : asS M1 r.d with
    | none => rw [es] at hf; cases hf
    | some ds' =>
      rw [es] at hf
      cases hf
      cases er : r.d with
      | tup es' =>
        refine .inr (bindE rs w ea fun H1 m1 v e1 w1 rs1 r1 => ?_)
        rw [er] at r1 es
        cases es
        rw [Rl] at r1
        obtain ⟨a, vs, rfl, h1, h2⟩ := r1
        rw [er] at P
        exact ⟨a, rfl, ⟨vs, h1⟩, P H1 m1 _ e1 w1 gd_none (yl_tup h1 h2)⟩
      | lst es' =>
        refine .inl (bindE rs w ea fun H1 m1 v e1 w1 rs1 r1 => ?_)
        rw [er] at r1 es
        cases es
        rw [Rl] at r1
        obtain ⟨a, vs, rfl, hn, h1, h2⟩ := r1
        rw [er] at P
        exact ⟨a, rfl, ⟨vs, .of h1⟩, P H1 m1 _ e1 w1 gd_none (yl_sq (fun H2 m2 e2 => .of (e2.lst _ _ hn h1)) h2)⟩
      | scr ns =>
        refine .inl (bindE rs w ea fun H1 m1 v e1 w1 rs1 r1 => ?_)
        rw [er] at r1 es
        cases es
        rw [Rl] at r1
        obtain ⟨a, rfl, h1⟩ := r1
        rw [er] at P
        exact ⟨a, rfl, ⟨_, h1.l⟩, P H1 m1 _ e1 w1 gd_none (yl_sq (fun H2 m2 e2 => (SqS.l (h1.imp (fun ⟨o, s⟩ => ⟨o, e2.frz _ _ _ s⟩) id))) .ints)⟩
      | loc k =>
        refine .inl (bindE rs w ea fun H1 m1 v e1 w1 rs1 r1 => ?_)
        rw [er] at r1 es
        have r2 := r1
        rw [Rl] at r1
        obtain ⟨a, rfl, ha⟩ := r1
        obtain ⟨b, vs, hb, h1, h2⟩ := asW_ok (d := .loc k) (ds := ds) w1 r2 es
        cases hb
        rw [er] at P
        exact ⟨a, rfl, ⟨vs, .of h1⟩, P H1 m1 _ e1 w1 (fun k' hk => by cases hk; exact ⟨a, vs, ha, h1, h2⟩) (yl_loc ha)⟩
      | _ => rw [er] at es; cases es
def rgB (i : Int) : Bool := decide (-(2 ^ 62) ≤ i) && decide (i < 2 ^ 62)
def iRg1 (fa : Ef) : If := fun ρ M => (fa ρ M).bind fun p => match p.1.d with
  | .int j => if rgB j = true then some (rgD 0 j.toNat, none, p.2) else none
  | _ => none
def iRg2 (fa fb : Ef) : If := fun ρ M => (fa ρ M).bind fun p => (fb ρ p.2).bind fun q => match p.1.d, q.1.d with
  | .int i, .int j => if rgB i = true ∧ rgB j = true then some (rgD i (j - i).toNat, none, q.2) else none
  | _, _ => none
theorem rgB_ok {i : Int} (h : rgB i = true) : -(2 ^ 62) ≤ i ∧ i < 2 ^ 62 := by
  unfold rgB at h
  simpa [Bool.and_eq_true] using h
theorem ci_rg1 (hg : Gl X "range") (hm : X.mg "range" = none) (ha : CEx X a fa) (hs : starEach [a] X.env = [(false, eval a X.env)] := by rfl) (hs' : starEach [a] X.env = (false, eval a X.env) :: starEach [] X.env := by rfl) : CIx X tg (.Call (.Name "range" p) [a] [] pos) (iRg1 fa) :=
  PI.imp (pi_range1 hg hm (pa_cons ha pa_nil hs') hs) fun σ H R ⟨ρ, M, m, ds, gk, M', rs, w, hf, P⟩ => by
    unfold iRg1 at hf
    cases ea : fa ρ M with
    | none => rw [ea] at hf; cases hf
    | some q =>
      rw [ea] at hf
      simp only [Option.bind_some] at hf
      refine bindE rs w ea fun H1 m1 v e1 w1 rs1 r1 => ?_
      split at hf
      · rename_i j hj
        split at hf
        · rename_i hb
          cases hf
          rw [hj, Rl] at r1; subst r1
          exact ⟨j, rfl, (rgB_ok hb).1, (rgB_ok hb).2, P H1 m1 _ e1 w1 gd_none yl_rng⟩
        · cases hf
      · cases hf
theorem ci_rg2 (hg : Gl X "range") (hm : X.mg "range" = none) (ha : CEx X a fa) (hb : CEx X b fb) (hs : starEach [a, b] X.env = [(false, eval a X.env), (false, eval b X.env)] := by rfl) (hs2 : starEach [b] X.env = [(false, eval b X.env)] := by rfl)
    (hs' : starEach [a, b] X.env = (false, eval a X.env) :: starEach [b] X.env := by rfl) (hs2' : starEach [b] X.env = (false, eval b X.env) :: starEach [] X.env := by rfl) : CIx X tg (.Call (.Name "range" p) [a, b] [] pos) (iRg2 fa fb) :=
  PI.imp (pi_range2 hg hm (pa_cons ha (pa_cons hb pa_nil hs2') hs') hs hs2) fun σ H R ⟨ρ, M, m, ds, gk, M', rs, w, hf, P⟩ => by
    unfold iRg2 at hf
    cases ea : fa ρ M with
    | none => rw [ea] at hf; cases hf
    | some q =>
      cases eb : fb ρ q.2 with
      | none => simp [ea, eb] at hf
      | some q2 =>
        simp only [ea, eb, Option.bind_some] at hf
        refine bindE rs w ea fun H1 m1 v e1 w1 rs1 r1 => bindE rs1 w1 eb fun H2 m2 v2 e2 w2 rs2 r2 => ?_
        split at hf
        · rename_i i j hi hj
          split at hf
          · rename_i hb
            cases hf
            rw [hi, Rl] at r1; subst r1
            rw [hj, Rl] at r2; subst r2
            exact ⟨i, j, rfl, ⟨(rgB_ok hb.1).1, (rgB_ok hb.1).2, (rgB_ok hb.2).1, (rgB_ok hb.2).2⟩, P H2 m2 _ (e1.trans e2) w2 gd_none yl_rng⟩
          · cases hf
        · cases hf
end

/-! ### for -/
def guard (gk : Option Nat) (ds : List D) (M : Mem) : Prop := ∀ k, gk = some k → M[k]? = some (.lst ds)
abbrev Stp := D → Slots → Mem → Option (Fl × Slots × Mem)
def loopF (step : Stp) : List D → Slots → Mem → Option (Fl × Slots × Mem)
  | [], ρ, M => some (.nx, ρ, M)
  | d :: ds, ρ, M => (step d ρ M).bind fun p => match p.1 with
    | .nx => loopF step ds p.2.1 p.2.2
    | .ct => loopF step ds p.2.1 p.2.2
    | .bk => some (.nx, p.2.1, p.2.2)
    | .rt r => some (.rt r, p.2.1, p.2.2)
open Classical in
noncomputable def stpF (gk : Option Nat) (ds : List D) (g : Gf) (body : Sf) : Stp := fun d ρ M => (g d ρ M).bind fun p => (body p.1 p.2).bind fun q => if guard gk ds q.2.2 then some q else none
noncomputable def sFor (it : If) (g : Gf) (body : Sf) : Sf := fun ρ M => (it ρ M).bind fun p => loopF (stpF p.2.1 p.1 g body) p.1 ρ p.2.2
theorem gd_of {K : PySem.W.Frag} {H : Hp} {m : List Addr} {M : Mem} {gk : Option Nat} {ds : List D} (w : Wd K H m M) (h : guard gk ds M) : GdOk K gk ds H m := fun k e => by
  obtain ⟨a, h1, vs, h2, h3⟩ := w.get (h k e)
  exact ⟨a, vs, h1, h2, h3⟩
section
variable {X : Cx} {tg iter : Expr} {body : List Stmt} {it : If} {g : Gf} {fb : Sf} {pos : Pos}
theorem cs_for (hp : PassesOwn (model X.prog X.w) X.A X.env X.xe) (hc : X.calm = true) (hi : CIx X tg iter it) (hg : CGx X tg g) (hb : CBx X body fb)
    (hs : ∀ x, foldedSetIterable iter X.env x = pure x := by intro _; rfl) : CSx X (.For tg iter body [] pos) (sFor it g fb) := PS.imp (ps_for hp hc hi hg hb hs) fun Dn σ H h => by
  obtain ⟨ρ, M, m, fl, ρ', M', rs, w, hf, P⟩ := h
  unfold sFor at hf
  cases ea : it ρ M with
  | none => rw [ea] at hf; cases hf
  | some p =>
    obtain ⟨ds, gk, M1⟩ := p
    rw [ea] at hf
    simp only [Option.bind_some] at hf
    refine ⟨ρ, M, m, ds, gk, M1, rs, w, ea, fun H1 m1 J e1 w1 gd1 Y => ?_⟩
    refine ⟨fun i n σ H => n = ds.length - i ∧ i ≤ ds.length ∧ ∃ ρ2 M2 m2, Ext H1 m1 H m2 ∧ Rs X.K H m2 ρ2 σ ∧ Wd X.K H m2 M2 ∧ GdOk X.K gk ds H m2 ∧ loopF (stpF gk ds g fb) (ds.drop i) ρ2 M2 = some (fl, ρ', M'),
      ⟨ds.length, by simp, Nat.zero_le _, ρ, M1, m1, .refl, rs.ext e1, w1, gd1, by simpa using hf⟩, ?_⟩
    rintro i n σ H ⟨rfl, hle, ρ2, M2, m2, e2, rs2, w2, gd2, hl⟩
    by_cases hlt : i < ds.length
    · refine .inr ⟨Y.go i H m2 hlt e2 gd2, ?_⟩
      have hd : ds.drop i = ds[i] :: ds.drop (i + 1) := List.drop_eq_getElem_cons hlt
      rw [hd] at hl
      unfold loopF at hl
      cases es : stpF gk ds g fb ds[i] ρ2 M2 with
      | none => rw [es] at hl; cases hl
      | some q =>
        obtain ⟨fl1, ρ3, M3⟩ := q
        rw [es] at hl
        simp only [Option.bind_some] at hl
        refine ⟨fun σ' H' => ∃ m3, Ext H m2 H' m3 ∧ Rs X.K H' m3 ρ3 σ' ∧ Wd X.K H' m3 M3 ∧ GdOk X.K gk ds H' m3 ∧ loopF (stpF gk ds g fb) (ds.drop (i + 1)) ρ3 M3 = some (fl, ρ', M'),
          fun σ' H' ⟨m3, e3, rs3, w3, gd3, hl3⟩ => ⟨ds.length - (i + 1), by omega, rfl, hlt, ρ3, M3, m3, e2.trans e3, rs3, w3, gd3, hl3⟩, fun x H' y => ?_⟩
        obtain ⟨e3, w3, r3⟩ := Y.yld i ds[i] H m2 M2 x H' (List.getElem?_eq_getElem hlt) e2 gd2 w2 y
        unfold stpF at es
        cases eg : g ds[i] ρ2 M2 with
        | none => rw [eg] at es; cases es
        | some q =>
          rw [eg] at es
          simp only [Option.bind_some] at es
          cases eb : fb q.1 q.2 with
          | none => rw [eb] at es; cases es
          | some q2 =>
            rw [eb] at es
            simp only [Option.bind_some] at es
            split at es
            · rename_i hgd
              cases es
              refine ⟨ds[i], ρ2, M2, m2, q.1, q.2, r3, rs2.ext e3, w3, eg, fun H4 m4 σ4 e4 w4 rs4 => ?_⟩
              refine ⟨q.1, q.2, m4, fl1, ρ3, M3, rs4, w4, eb, ?_⟩
              have eT : Ext H m2 H4 m4 := e3.trans e4
              have PT := P.ext ((e1.trans e2).trans eT)
              cases fl1 with
              | nx => exact fun H5 m5 σ5 e5 w5 rs5 => ⟨m5, eT.trans e5, rs5, w5, gd_of w5 hgd, hl⟩
              | ct => exact fun H5 m5 σ5 e5 w5 rs5 => ⟨m5, eT.trans e5, rs5, w5, gd_of w5 hgd, hl⟩
              | bk =>
                simp only [Option.some.injEq, Prod.mk.injEq] at hl
                obtain ⟨rfl, rfl, rfl⟩ := hl
                exact PT
              | rt r =>
                simp only [Option.some.injEq, Prod.mk.injEq] at hl
                obtain ⟨rfl, rfl, rfl⟩ := hl
                exact PT
            · cases es
    · have e : i = ds.length := by omega
      subst e
      rw [List.drop_length] at hl
      cases hl
      exact .inl ⟨Y.stop H m2 e2 gd2, P H m2 σ (e1.trans e2) w2 rs2⟩
end

/-! ### while -/
def whF (t : Tf) (body : Sf) : Nat → Slots → Mem → Option (Fl × Slots × Mem)
  | 0, _, _ => none
  | n + 1, ρ, M => (t ρ M).bind fun p => if p.1 = true then (body ρ p.2).bind fun q => (match q.1 with
      | .nx => whF t body n q.2.1 q.2.2
      | .ct => whF t body n q.2.1 q.2.2
      | .bk => some (.nx, q.2.1, q.2.2)
      | .rt r => some (.rt r, q.2.1, q.2.2)) else some (.nx, ρ, p.2)
def sWhile (n : Nat) (t : Tf) (body : Sf) : Sf := whF t body n
section
variable {X : Cx} {c : Expr} {body : List Stmt} {t : Tf} {fb : Sf} {pos : Pos}
theorem cs_while {n : Nat} (hp : PassesOwn (model X.prog X.w) X.A X.env X.xe) (hc : CTx X c t) (hb : CBx X body fb) : CSx X (.While c body [] pos) (sWhile n t fb) := PS.imp (ps_while hp hc hb) fun Dn σ H h => by
  obtain ⟨ρ, M, m, fl, ρ', M', rs, w, hf, P⟩ := h
  refine ⟨fun n σ H1 => ∃ ρ2 M2 m2, Ext H m H1 m2 ∧ Rs X.K H1 m2 ρ2 σ ∧ Wd X.K H1 m2 M2 ∧ whF t fb n ρ2 M2 = some (fl, ρ', M'), ⟨n, ρ, M, m, .refl, rs, w, hf⟩, ?_⟩
  rintro n σ H1 ⟨ρ2, M2, m2, e2, rs2, w2, hl⟩
  cases n with
  | zero => cases hl
  | succ n =>
    unfold whF at hl
    cases et : t ρ2 M2 with
    | none => rw [et] at hl; cases hl
    | some p =>
      rw [et] at hl
      simp only [Option.bind_some] at hl
      refine bindT rs2 w2 et fun H3 m3 e3 w3 rs3 => ?_
      split at hl
      · rename_i hb1
        rw [if_pos hb1]
        cases eb : fb ρ2 p.2 with
        | none => rw [eb] at hl; cases hl
        | some q =>
          obtain ⟨fl1, ρ3, M3⟩ := q
          rw [eb] at hl
          simp only [Option.bind_some] at hl
          refine ⟨fun σ' H' => ∃ m4, Ext H3 m3 H' m4 ∧ Rs X.K H' m4 ρ3 σ' ∧ Wd X.K H' m4 M3 ∧ whF t fb n ρ3 M3 = some (fl, ρ', M'),
            fun σ' H' ⟨m4, e4, rs4, w4, hl4⟩ => ⟨n, Nat.lt_succ_self _, ρ3, M3, m4, (e2.trans e3).trans e4, rs4, w4, hl4⟩, ρ2, p.2, m3, fl1, ρ3, M3, rs3, w3, eb, ?_⟩
          have PT := P.ext (e2.trans e3)
          cases fl1 with
          | nx => exact fun H5 m5 σ5 e5 w5 rs5 => ⟨m5, e5, rs5, w5, hl⟩
          | ct => exact fun H5 m5 σ5 e5 w5 rs5 => ⟨m5, e5, rs5, w5, hl⟩
          | bk =>
            simp only [Option.some.injEq, Prod.mk.injEq] at hl
            obtain ⟨rfl, rfl, rfl⟩ := hl
            exact PT
          | rt r =>
            simp only [Option.some.injEq, Prod.mk.injEq] at hl
            obtain ⟨rfl, rfl, rfl⟩ := hl
            exact PT
      · rename_i hb1
        rw [if_neg hb1]
        cases hl
        exact P H3 m3 σ (e2.trans e3) w3 rs3
end

/-! ### a def -/
mutual
def nl (n : Nat) : D → Bool
  | .loc k => decide (k < n)
  | .tup ds => nls n ds
  | .lst ds => nls n ds
  | _ => true
def nls (n : Nat) : List D → Bool
  | [] => true
  | d :: ds => nl n d && nls n ds
end
section
variable {K : PySem.W.Frag} {H : Hp} {m l : List Addr} {a : Addr}
mutual
theorem Rl.cut : ∀ {d : D} {v : V}, Rl K H (m ++ l) d v → nl m.length d = true → Rl K H m d v
  | .non, _, h, _ => by rw [Rl] at h ⊢; exact h
  | .bl _, _, h, _ => by rw [Rl] at h ⊢; exact h
  | .int _, _, h, _ => by rw [Rl] at h ⊢; exact h
  | .str _, _, h, _ => by rw [Rl] at h ⊢; exact h
  | .scr _, _, h, _ => by rw [Rl] at h ⊢; exact h
  | .tup ds, _, h, n => by
    rw [Rl] at h ⊢
    rw [nl] at n
    obtain ⟨a, vs, r, s, t⟩ := h
    exact ⟨a, vs, r, s, Rls.cut' t n⟩
  | .lst ds, _, h, n => by
    rw [Rl] at h ⊢
    rw [nl] at n
    obtain ⟨a, vs, r, z, s, t⟩ := h
    exact ⟨a, vs, r, fun q => z (List.mem_append_left _ q), s, Rls.cut' t n⟩
  | .loc k, _, h, n => by
    rw [Rl] at h ⊢
    rw [nl] at n
    obtain ⟨a, r, s⟩ := h
    exact ⟨a, r, by rw [List.getElem?_append_left (of_decide_eq_true n)] at s; exact s⟩
theorem Rls.cut' : ∀ {ds : List D} {vs : List V}, Rls K H (m ++ l) ds vs → nls m.length ds = true → Rls K H m ds vs
  | [], _, h, _ => by rw [Rls] at h ⊢; exact h
  | d :: ds, _, h, n => by
    rw [Rls] at h ⊢
    rw [nls, Bool.and_eq_true] at n
    obtain ⟨v, r, q, h1, h2⟩ := h
    exact ⟨v, r, q, Rl.cut h1 n.1, Rls.cut' h2 n.2⟩
end
/-- the heap without a -/
def del (H : Hp) (a : Addr) : Hp := fun b => if b = a then none else H b
theorem del_ne {b : Addr} (h : b ≠ a) : del H a b = H b := if_neg h
theorem del_same : del H a a = none := if_pos rfl
theorem upd_del {o : HO} (h : H a = some o) : upd (del H a) a o = H := by
  funext b
  by_cases q : b = a
  · rw [q, upd_same, h]
  · rw [upd_ne q, del_ne q]
mutual
theorem Rl.del {ws : List V} (ha : H a = some (.lst ws)) (hm : a ∈ l) : ∀ {d : D} {v : V}, Rl K H (m ++ l) d v → nl m.length d = true → Rl K (del H a) m d v
  | .non, _, h, _ => by rw [Rl] at h ⊢; exact h
  | .bl _, _, h, _ => by rw [Rl] at h ⊢; exact h
  | .int _, _, h, _ => by rw [Rl] at h ⊢; exact h
  | .str _, _, h, _ => by rw [Rl] at h ⊢; exact h
  | .scr _, _, h, _ => by
    rw [Rl] at h ⊢
    obtain ⟨b, r, s⟩ := h
    exact ⟨b, r, s.imp (fun ⟨o, s⟩ => ⟨o, by rw [del_ne (fun z => by rw [z, ha] at s; cases s)]; exact s⟩) id⟩
  | .tup ds, _, h, n => by
    rw [Rl] at h ⊢
    rw [nl] at n
    obtain ⟨b, vs, r, s, t⟩ := h
    refine ⟨b, vs, r, ?_, Rls.del ha hm t n⟩
    rcases s with (s | ⟨o, s⟩) | s
    · exact .inl (.inl (by rw [del_ne (fun z => by rw [z, ha] at s; cases s)]; exact s))
    · exact .inl (.inr ⟨o, by rw [del_ne (fun z => by rw [z, ha] at s; cases s)]; exact s⟩)
    · exact .inr s
  | .lst ds, _, h, n => by
    rw [Rl] at h ⊢
    rw [nl] at n
    obtain ⟨b, vs, r, z, s, t⟩ := h
    exact ⟨b, vs, r, fun q => z (List.mem_append_left _ q), by rw [del_ne (fun q => z (List.mem_append_right _ (by rw [q]; exact hm)))]; exact s, Rls.del ha hm t n⟩
  | .loc k, _, h, n => by
    rw [Rl] at h ⊢
    rw [nl] at n
    obtain ⟨b, r, s⟩ := h
    exact ⟨b, r, by rw [List.getElem?_append_left (of_decide_eq_true n)] at s; exact s⟩
theorem Rls.del {ws : List V} (ha : H a = some (.lst ws)) (hm : a ∈ l) : ∀ {ds : List D} {vs : List V}, Rls K H (m ++ l) ds vs → nls m.length ds = true → Rls K (del H a) m ds vs
  | [], _, h, _ => by rw [Rls] at h ⊢; exact h
  | d :: ds, _, h, n => by
    rw [Rls] at h ⊢
    rw [nls, Bool.and_eq_true] at n
    obtain ⟨v, r, q, h1, h2⟩ := h
    exact ⟨v, r, q, Rl.del ha hm h1 n.1, Rls.del ha hm h2 n.2⟩
end
end
end CI

/-! Ci7: a def as a function, comprehensions -/
namespace CI
open PySem PySem.Spec PyProof.Rows L2

def nlF (n : Nat) : List (Str × D) → Bool
  | [] => true
  | (_, d) :: fs => nl n d && nlF n fs
def nlK (n : Nat) : List (Key × D) → Bool
  | [] => true
  | (_, d) :: fs => nl n d && nlK n fs
def nlO (n : Nat) : O → Bool
  | .lst ds => nls n ds
  | .ins _ fs => nlF n fs
  | .dct kvs => nlK n kvs
def nlM (n : Nat) : Mem → Bool
  | [] => true
  | o :: M => nlO n o && nlM n M
section
variable {K : PySem.W.Frag} {H H0 : Hp} {m l : List Addr} {M Me : Mem} {a b : Addr}
mutual
theorem Rl.nl : ∀ {d : D} {v : V}, Rl K H m d v → CI.nl m.length d = true
  | .non, _, _ => rfl
  | .bl _, _, _ => rfl
  | .int _, _, _ => rfl
  | .str _, _, _ => rfl
  | .scr _, _, _ => rfl
  | .tup ds, _, h => by
    rw [Rl] at h
    obtain ⟨a, vs, r, s, t⟩ := h
    rw [CI.nl]; exact Rls.nl t
  | .lst ds, _, h => by
    rw [Rl] at h
    obtain ⟨a, vs, r, _, s, t⟩ := h
    rw [CI.nl]; exact Rls.nl t
  | .loc k, _, h => by
    rw [Rl] at h
    obtain ⟨a, r, s⟩ := h
    rw [CI.nl]
    exact decide_eq_true (List.getElem?_eq_some_iff.mp s).1
theorem Rls.nl : ∀ {ds : List D} {vs : List V}, Rls K H m ds vs → nls m.length ds = true
  | [], _, _ => rfl
  | d :: ds, _, h => by
    rw [Rls] at h
    obtain ⟨v, r, q, h1, h2⟩ := h
    rw [nls, Rl.nl h1, Rls.nl h2]; rfl
end
theorem Rfs.nl : ∀ {fs : List (Str × D)} {gs : List (Str × V)}, Rfs K H m fs gs → nlF m.length fs = true
  | [], _, _ => rfl
  | (f, d) :: fs, _, h => by
    obtain ⟨v, r, q, h1, h2⟩ := h
    rw [nlF, h1.nl, Rfs.nl h2]; rfl
theorem Rks.nl : ∀ {fs : List (Key × D)} {gs : List (Key × V)}, Rks K H m fs gs → nlK m.length fs = true
  | [], _, _ => rfl
  | (f, d) :: fs, _, h => by
    obtain ⟨v, r, q, h1, h2⟩ := h
    rw [nlK, h1.nl, Rks.nl h2]; rfl
theorem Ro.nl {o : O} (h : Ro K H m a o) : nlO m.length o = true := by
  cases o with
  | lst ds => obtain ⟨vs, _, h⟩ := h; exact h.nl
  | ins c fs => obtain ⟨dx, gs, _, h⟩ := h; exact h.nl
  | dct kvs => obtain ⟨gs, _, h⟩ := h; exact h.nl
theorem Wd.nl (w : Wd K H m M) : ∀ o ∈ M, nlO m.length o = true := fun o ho => by
  obtain ⟨k, hk, e⟩ := List.mem_iff_getElem.mp ho
  obtain ⟨a, _, r⟩ := w.get (k := k) (by rw [List.getElem?_eq_getElem hk, e])
  exact r.nl
theorem nlM_ok {n : Nat} : ∀ {M : Mem}, nlM n M = true → ∀ o ∈ M, nlO n o = true
  | [], _, o, h => nomatch h
  | p :: M, h, o, ho => by
    rw [nlM, Bool.and_eq_true] at h
    rcases List.mem_cons.mp ho with e | e
    · rw [e]; exact h.1
    · exact nlM_ok h.2 o e
theorem Rfs.cut : ∀ {fs : List (Str × D)} {gs : List (Str × V)}, Rfs K H (m ++ l) fs gs → nlF m.length fs = true → Rfs K H m fs gs
  | [], _, h, _ => h
  | (f, d) :: fs, _, h, n => by
    obtain ⟨v, r, q, h1, h2⟩ := h
    rw [nlF, Bool.and_eq_true] at n
    exact ⟨v, r, q, h1.cut n.1, Rfs.cut h2 n.2⟩
theorem Rks.cut : ∀ {fs : List (Key × D)} {gs : List (Key × V)}, Rks K H (m ++ l) fs gs → nlK m.length fs = true → Rks K H m fs gs
  | [], _, h, _ => h
  | (f, d) :: fs, _, h, n => by
    obtain ⟨v, r, q, h1, h2⟩ := h
    rw [nlK, Bool.and_eq_true] at n
    exact ⟨v, r, q, h1.cut n.1, Rks.cut h2 n.2⟩
theorem Rfs.del {ws : List V} (ha : H a = some (.lst ws)) (hm : a ∈ l) : ∀ {fs : List (Str × D)} {gs : List (Str × V)}, Rfs K H (m ++ l) fs gs → nlF m.length fs = true → Rfs K (CI.del H a) m fs gs
  | [], _, h, _ => h
  | (f, d) :: fs, _, h, n => by
    obtain ⟨v, r, q, h1, h2⟩ := h
    rw [nlF, Bool.and_eq_true] at n
    exact ⟨v, r, q, h1.del ha hm n.1, Rfs.del ha hm h2 n.2⟩
theorem Rks.del {ws : List V} (ha : H a = some (.lst ws)) (hm : a ∈ l) : ∀ {fs : List (Key × D)} {gs : List (Key × V)}, Rks K H (m ++ l) fs gs → nlK m.length fs = true → Rks K (CI.del H a) m fs gs
  | [], _, h, _ => h
  | (f, d) :: fs, _, h, n => by
    obtain ⟨v, r, q, h1, h2⟩ := h
    rw [nlK, Bool.and_eq_true] at n
    exact ⟨v, r, q, h1.del ha hm n.1, Rks.del ha hm h2 n.2⟩
theorem Ro.cut {o : O} (h : Ro K H (m ++ l) b o) (n : nlO m.length o = true) : Ro K H m b o := by
  cases o with
  | lst ds => obtain ⟨vs, h1, h2⟩ := h; exact ⟨vs, h1, Rls.cut' h2 n⟩
  | ins c fs => obtain ⟨dx, gs, h1, h2⟩ := h; exact ⟨dx, gs, h1, h2.cut n⟩
  | dct kvs => obtain ⟨gs, h1, h2⟩ := h; exact ⟨gs, h1, h2.cut n⟩
theorem Ro.del {o : O} {ws : List V} (ha : H a = some (.lst ws)) (hm : a ∈ l) (hb : b ≠ a) (h : Ro K H (m ++ l) b o) (n : nlO m.length o = true) : Ro K (CI.del H a) m b o := by
  cases o with
  | lst ds => obtain ⟨vs, h1, h2⟩ := h; exact ⟨vs, by rw [del_ne hb]; exact h1, Rls.del ha hm h2 n⟩
  | ins c fs => obtain ⟨dx, gs, h1, h2⟩ := h; exact ⟨dx, gs, by rw [del_ne hb]; exact h1, h2.del ha hm n⟩
  | dct kvs => obtain ⟨gs, h1, h2⟩ := h; exact ⟨gs, by rw [del_ne hb]; exact h1, h2.del ha hm n⟩
theorem Ext.back (e : Ext H0 m H (m ++ l)) : Ext H0 m H m := ⟨e.tup, e.frz, e.lst, e.trk, [], by simp, fun _ h => nomatch h⟩
theorem Ext.fresh (e : Ext H0 m H (m ++ l)) (h : a ∈ l) : H0 a = none := by
  obtain ⟨l', q, hl⟩ := e.pre
  rw [List.append_cancel_left q] at h
  exact hl a h
theorem Ext.del {ws : List V} (e : Ext H0 m H (m ++ l)) (h : a ∈ l) : Ext H0 m (CI.del H a) m := by
  have hf := e.fresh h
  have ne : ∀ b o, H0 b = some o → b ≠ a := fun b o q z => by rw [z, hf] at q; cases q
  refine ⟨fun b xs q => by rw [del_ne (ne b _ q)]; exact e.tup b xs q, fun b o u q => by rw [del_ne (ne b _ q)]; exact e.frz b o u q, fun b xs n q => by rw [del_ne (ne b _ q)]; exact e.lst b xs n q, fun b q => ?_, [], by simp, fun _ h => nomatch h⟩
  by_cases z : b = a
  · rw [z]; exact hf
  · rw [del_ne z] at q; exact e.trk b q
theorem take_get {M Me : Mem} {n k : Nat} {o : O} (t : Me.take n = M) (h : M[k]? = some o) : Me[k]? = some o := by
  rw [← t, List.getElem?_take] at h
  split at h
  · exact h
  · cases h
theorem Wd.cut (w : Wd K H (m ++ l) Me) (t : Me.take m.length = M) (hl : m.length = M.length) (n : ∀ o ∈ M, nlO m.length o = true) : Wd K H m M := by
  refine ⟨hl, (List.nodup_append.mp w.nd).1, fun k b o h1 h2 => ?_⟩
  have hk : k < m.length := (List.getElem?_eq_some_iff.mp h1).1
  exact (w.at_ k b o (by rw [List.getElem?_append_left hk]; exact h1) (take_get t h2)).cut (n o (List.mem_of_getElem? h2))
theorem Wd.del {ws : List V} (w : Wd K H (m ++ l) Me) (t : Me.take m.length = M) (hl : m.length = M.length) (n : ∀ o ∈ M, nlO m.length o = true) (ha : H a = some (.lst ws)) (hm : a ∈ l) : Wd K (CI.del H a) m M := by
  refine ⟨hl, (List.nodup_append.mp w.nd).1, fun k b o h1 h2 => ?_⟩
  have hk : k < m.length := (List.getElem?_eq_some_iff.mp h1).1
  refine (w.at_ k b o (by rw [List.getElem?_append_left hk]; exact h1) (take_get t h2)).del ha hm (fun z => ?_) (n o (List.mem_of_getElem? h2))
  exact (List.nodup_append.mp w.nd).2.2 b (List.mem_of_getElem? h1) a hm z
end

/-! ### what a def hands back -/
open Classical in
noncomputable def finish (M : Mem) (r : Rz) (Me : Mem) : Rz × Mem :=
  if Me.length = M.length then (r, Me) else if Me.take M.length = M then (match r with
    | .val (.loc k) => if k < M.length then (r, M) else match Me[k]? with
      | some (.lst ds) => if nls M.length ds = true then (.new ds, M) else (r, Me)
      | _ => (r, Me)
    | .val d => if nl M.length d = true then (r, M) else (r, Me)
    | .new ds => if nls M.length ds = true then (r, M) else (r, Me)) else (r, Me)
theorem finish_ok {K : PySem.W.Frag} {H0 : Hp} {m : List Addr} {M Me : Mem} {r : Rz} {Q : VK} (w0 : Wd K H0 m M) (P : Post K H0 m (finish M r Me).1 (finish M r Me).2 Q) : Post K H0 m r Me Q := by
  unfold finish at P
  split at P
  · exact P
  · split at P
    · rename_i hne ht
      have hn := w0.nl
      have hlen := w0.len
      rw [← hlen] at P ht
      cases r with
      | new ds =>
        simp only at P
        split at P
        · rename_i hd
          intro H1 m1 e1 w1 vs a r1 na
          obtain ⟨l, rfl, _⟩ := id e1.pre
          exact P H1 m e1.back (w1.cut ht hlen hn) vs a (Rls.cut' r1 hd) na
        · exact P
      | val d =>
        have plain : ∀ d, nl m.length d = true → Post K H0 m (.val d) M Q → Post K H0 m (.val d) Me Q := fun d hd P => by
          intro H1 m1 e1 w1 v r1
          obtain ⟨l, rfl, _⟩ := id e1.pre
          exact P H1 m e1.back (w1.cut ht hlen hn) v (r1.cut hd)
        cases d with
        | loc k =>
          simp only at P
          split at P
          · rename_i hk
            exact plain _ (by rw [nl]; exact decide_eq_true hk) P
          · rename_i hk
            split at P
            · rename_i ds hds
              split at P
              · rename_i hd
                intro H1 m1 e1 w1 v r1
                obtain ⟨l, rfl, _⟩ := id e1.pre
                rw [Rl] at r1
                obtain ⟨a, rfl, ha⟩ := r1
                obtain ⟨b, hb, vs, h1, h2⟩ := w1.get hds
                rw [ha] at hb; cases hb
                have hal : a ∈ l := by
                  rw [List.getElem?_append_right (by omega)] at ha
                  exact List.mem_of_getElem? ha
                have := P (del H1 a) m (e1.del (ws := vs) hal) (w1.del ht hlen hn h1 hal) vs a (Rls.del h1 hal h2 hd) del_same
                rw [upd_del h1] at this
                exact this
              · exact P
            · exact P
        | non => exact plain _ rfl (by simpa [nl] using P)
        | bl b => exact plain _ rfl (by simpa [nl] using P)
        | int b => exact plain _ rfl (by simpa [nl] using P)
        | str b => exact plain _ rfl (by simpa [nl] using P)
        | scr b => exact plain _ rfl (by simpa [nl] using P)
        | tup ds =>
          simp only at P
          split at P
          · rename_i hd; exact plain _ hd P
          · exact P
        | lst ds =>
          simp only at P
          split at P
          · rename_i hd; exact plain _ hd P
          · exact P
    · exact P

noncomputable def mkFn (np ns : Nat) (body : Sf) : Fn := fun ds M => if ds.length = np then (match body (ds.map some ++ List.replicate (ns - ds.length) none) M with
  | some (.rt r, _, Me) => some (finish M r Me)
  | some (.nx, _, Me) => some (finish M (.val .non) Me)
  | _ => none) else none
theorem rs_start {K : PySem.W.Frag} {H : Hp} {m : List Addr} {N : List Str} {ds : List D} {vs : List V} (r : Rls K H m ds vs) : Rs K H m (ds.map some ++ List.replicate (N.length - ds.length) none) (L2.start N vs) := by
  unfold L2.start
  have hl := r.length
  refine ⟨by simp [hl], fun i d q => ?_⟩
  by_cases h : i < ds.length
  · rw [List.getElem?_append_left (by simpa using h), List.getElem?_map] at q
    rw [List.getElem?_append_left (by simpa [← hl] using h), List.getElem?_map]
    cases e : ds[i]? with
    | none => rw [e] at q; cases q
    | some d' =>
      rw [e] at q
      simp at q; subst q
      obtain ⟨v, h1, h2⟩ := r.get e
      exact ⟨v, by rw [h1]; rfl, h2⟩
  · rw [List.getElem?_append_right (by simpa using h), List.getElem?_replicate] at q
    split at q
    · simp at q
    · cases q
theorem run_ok {K : PySem.W.Frag} {N : List Str} {np : Nat} {fb : Sf} {vs : List V} {H : Hp} {Q : VK} {E : XK} (h : spF K (mkFn np N.length fb) vs H Q E) : tS K fb { nx := fun _ H' => Q .non H', rt := Q } (L2.start N vs) H := by
  obtain ⟨ds, M, m, r, M', rd, w, hf, P⟩ := h
  unfold mkFn at hf
  split at hf
  · split at hf
    · rename_i r' ρ' Me hb
      cases e : finish M r' Me with | mk a b =>
      rw [e] at hf; cases hf
      refine ⟨_, M, m, _, _, _, rs_start rd, w, hb, ?_⟩
      refine finish_ok w ?_
      rw [e]; exact P
    · rename_i ρ' Me hb
      cases e : finish M (.val .non) Me with | mk a b =>
      rw [e] at hf; cases hf
      refine ⟨_, M, m, _, _, _, rs_start rd, w, hb, fun H1 m1 σ1 e1 w1 rs1 => ?_⟩
      have P2 : Post K H m (.val .non) Me Q := finish_ok w (by rw [e]; exact P)
      exact P2 H1 m1 e1 w1 .non (by rw [Rl])
    · cases hf
  · cases hf
theorem spF_len {K : PySem.W.Frag} {np ns : Nat} {fb : Sf} {vs : List V} {H : Hp} {Q : VK} {E : XK} (h : spF K (mkFn np ns fb) vs H Q E) : vs.length = np := by
  obtain ⟨ds, M, m, r, M', rd, w, hf, P⟩ := h
  unfold mkFn at hf
  split at hf
  · rename_i hl; rw [← rd.length]; exact hl
  · cases hf
section
variable {P : Program} {w : World} {K : PySem.W.Frag} {mg : Str → Option Value} {base : Heap} {x qual : Str} {params : Arguments} {body : List Stmt} {scope : Scope} {f : Addr} {fd : FuncData}
/-- a def whose body means fb -/
theorem fn_ok {N ps : List Str} {k : Nat} {fb : Sf} (F : FunD K x qual params body scope [] [] f fd) (S : FnScope N ps scope)
    (hb : ∀ (cdv : Value) (A : Around) (outer : List Env) (s : Shared) (H : Hp) (E : XK), Room k (A.deeper (envOfC qual scope s.heap.objs.size f cdv)) → CBx (cxOf CX0 P w K mg base N qual scope f cdv A outer s H E).nox body fb) :
    FnOk P w K mg base CX0 (k + 1) f fd ps (spF K (mkFn ps.length N.length fb)) :=
  F.ok S (fun vs H Q E h => spF_len h) fun cdv A outer s H vs Q E hr h => ⟨_, PSs.nox (hb cdv A outer s H E hr), run_ok h⟩
end
/-- a law: called with the script it gives True -/
theorem law_sp {K : PySem.W.Frag} {F : Fn} (h : ∀ ns : List Int, ns.length ≤ 63 → ∃ M, F [.scr ns] [] = some (.val (.bl true), M)) (H : Hp) (a : Addr) (ns : List Int) (hl : ns.length ≤ 63) (hO : Only H) (hS : SqL K H a (ns.map V.int)) :
    spF K F [.ref a] H (fun v _ => v = .bl true) fun _ _ _ => False := by
  obtain ⟨M, hM⟩ := h ns hl
  refine ⟨[.scr ns], [], [], _, M, ?_, ⟨rfl, .nil, fun k a o h _ => by simp at h⟩, hM, fun H1 m1 e1 w1 v r => by rw [Rl] at r; exact r⟩
  rw [Rls]
  refine ⟨_, [], rfl, ?_, by rw [Rls]⟩
  rw [Rl]
  refine ⟨a, rfl, ?_⟩
  rcases hS with (h | h) | h
  · rcases hO a with q | ⟨o, xs, q⟩
    · rw [q] at h; cases h
    · rw [q] at h; cases h
  · exact .inl h
  · exact .inr h
end CI

/-! Ci8: reckoning with the functions -/
namespace CI
open PySem PySem.Spec PyProof.Rows L2
@[simp] theorem Rz_d_val {d : D} : (Rz.val d).d = d := rfl
@[simp] theorem Rz_d_new {ds : List D} : (Rz.new ds).d = .lst ds := rfl
@[simp] theorem cVar_ap {i : Nat} {ρ : Slots} {M : Mem} : (cVar i) ρ M = ((slot ρ i).bind fun d => some (.val d, M)) := rfl
@[simp] theorem cVal_ap {d : D} {ρ : Slots} {M : Mem} : (cVal d) ρ M = (some (.val d, M)) := rfl
@[simp] theorem cBin_ap {o : Bop} {fa fb : Ef} {ρ : Slots} {M : Mem} : (cBin o fa fb) ρ M = ((fa ρ M).bind fun p => (fb ρ p.2).bind fun q => (o p.1.d q.1.d q.2).bind fun r => some (r, q.2)) := rfl
@[simp] theorem toB_ap {f : Ef} {ρ : Slots} {M : Mem} : (toB f) ρ M = ((f ρ M).bind fun p => match p.1.d with | .bl b => some (b, p.2) | _ => none) := rfl
@[simp] theorem cChain_ap {o o' : Bop} {fa fb fc : Ef} {ρ : Slots} {M : Mem} : (cChain o o' fa fb fc) ρ M = ((fa ρ M).bind fun p => (fb ρ p.2).bind fun q => (o p.1.d q.1.d q.2).bind fun r => match r with | .val (.bl true) => (fc ρ q.2).bind fun s => (o' q.1.d s.1.d s.2).bind fun z => some (z, s.2) | .val (.bl false) => some (.val (.bl false), q.2) | _ => none) := rfl
@[simp] theorem kAnd_ap {ta tb : Tf} {ρ : Slots} {M : Mem} : (kAnd ta tb) ρ M = ((ta ρ M).bind fun p => if p.1 = true then tb ρ p.2 else some (false, p.2)) := rfl
@[simp] theorem kOr_ap {ta tb : Tf} {ρ : Slots} {M : Mem} : (kOr ta tb) ρ M = ((ta ρ M).bind fun p => if p.1 = true then some (true, p.2) else tb ρ p.2) := rfl
@[simp] theorem kNot_ap {ta : Tf} {ρ : Slots} {M : Mem} : (kNot ta) ρ M = ((ta ρ M).bind fun p => some (!p.1, p.2)) := rfl
@[simp] theorem cAnd_ap {fa fb : Ef} {ρ : Slots} {M : Mem} : (cAnd fa fb) ρ M = ((fa ρ M).bind fun p => match p.1.d with | .bl true => fb ρ p.2 | .bl false => some (.val (.bl false), p.2) | _ => none) := rfl
@[simp] theorem cOr_ap {fa fb : Ef} {ρ : Slots} {M : Mem} : (cOr fa fb) ρ M = ((fa ρ M).bind fun p => match p.1.d with | .bl true => some (.val (.bl true), p.2) | .bl false => fb ρ p.2 | _ => none) := rfl
@[simp] theorem cNot_ap {fa : Ef} {ρ : Slots} {M : Mem} : (cNot fa) ρ M = ((fa ρ M).bind fun p => match p.1.d with | .bl b => some (.val (.bl (!b)), p.2) | _ => none) := rfl
@[simp] theorem cIf_ap {t : Tf} {fa fb : Ef} {ρ : Slots} {M : Mem} : (cIf t fa fb) ρ M = ((t ρ M).bind fun p => if p.1 = true then fa ρ p.2 else fb ρ p.2) := rfl
@[simp] theorem aNil_ap  {ρ : Slots} {M : Mem} : aNil ρ M = (some ([], M)) := rfl
@[simp] theorem aCons_ap {f : Ef} {g : Af} {ρ : Slots} {M : Mem} : (aCons f g) ρ M = ((f ρ M).bind fun p => (g ρ p.2).bind fun q => some (p.1.d :: q.1, q.2)) := rfl
@[simp] theorem cTup_ap {g : Af} {ρ : Slots} {M : Mem} : (cTup g) ρ M = ((g ρ M).bind fun p => if p.1.length ≤ sizeLine then some (.val (.tup p.1), p.2) else none) := rfl
@[simp] theorem cLst_ap {g : Af} {ρ : Slots} {M : Mem} : (cLst g) ρ M = ((g ρ M).bind fun p => if p.1.length ≤ sizeLine then some (.new p.1, p.2) else none) := rfl
@[simp] theorem sNone_ap  {ρ : Slots} {M : Mem} : sNone ρ M = (some (none, M)) := rfl
@[simp] theorem sSome_ap {f : Ef} {ρ : Slots} {M : Mem} : (sSome f) ρ M = ((f ρ M).bind fun p => match p.1.d with | .int i => some (some i, p.2) | _ => none) := rfl
@[simp] theorem cSl_ap {f : Ef} {l h : Of} {ρ : Slots} {M : Mem} : (cSl f l h) ρ M = ((f ρ M).bind fun p => (l ρ p.2).bind fun q => (h ρ q.2).bind fun r => (oSl q.1 r.1 p.1.d r.2).bind fun z => some (z, r.2)) := rfl
@[simp] theorem cCB_ap {o : Cop} {g : Af} {ρ : Slots} {M : Mem} : (cCB o g) ρ M = ((g ρ M).bind fun p => (o p.1 p.2).bind fun r => some (r, p.2)) := rfl
@[simp] theorem cIsI_ap {n : String} {f : Ef} {ρ : Slots} {M : Mem} : (cIsI n f) ρ M = ((f ρ M).bind fun p => (tyOf p.2 p.1.d).bind fun t => (kitB t n).bind fun b => some (.val (.bl b), p.2)) := rfl
@[simp] theorem toTr_ap {f : Ef} {ρ : Slots} {M : Mem} : (toTr f) ρ M = ((f ρ M).bind fun p => (trD p.2 p.1.d).bind fun b => some (b, p.2)) := rfl
@[simp] theorem cCall_ap {F : Fn} {g : Af} {ρ : Slots} {M : Mem} : (cCall F g) ρ M = ((g ρ M).bind fun p => F p.1 p.2) := rfl
@[simp] theorem cNew_ap {c : Str} {F : Fn} {g : Af} {ρ : Slots} {M : Mem} : (cNew c F g) ρ M = ((g ρ M).bind fun p => (F (.loc p.2.length :: p.1) (p.2 ++ [.ins c []])).bind fun q => match q.1 with | .val .non => some (.val (.loc p.2.length), q.2) | _ => none) := rfl
@[simp] theorem cMeth_ap {c m : Str} {F : Fn} {f : Ef} {g : Af} {ρ : Slots} {M : Mem} : (cMeth c m F f g) ρ M = ((f ρ M).bind fun p => match p.1.d with | .loc k => (match p.2[k]? with | some (.ins c' fs) => if c' = c ∧ fs.lookup m = none then (g ρ p.2).bind fun q => F (.loc k :: q.1) q.2 else none | _ => none) | _ => none) := rfl
@[simp] theorem cFld_ap {cs : List Str} {n : Str} {f : Ef} {ρ : Slots} {M : Mem} : (cFld cs n f) ρ M = ((f ρ M).bind fun p => match p.1.d with | .loc k => (match p.2[k]? with | some (.ins c fs) => if c ∈ cs then (fs.lookup n).bind fun d => some (.val d, p.2) else none | _ => none) | _ => none) := rfl
@[simp] theorem cBM_ap {T : String} {o : Mop} {f : Ef} {g : Af} {ρ : Slots} {M : Mem} : (cBM T o f g) ρ M = ((f ρ M).bind fun p => if tyOf p.2 p.1.d = some T then (g ρ p.2).bind fun q => o p.1.d q.1 q.2 else none) := rfl
@[simp] theorem sNil_ap  {ρ : Slots} {M : Mem} : sNil ρ M = (some (.nx, ρ, M)) := rfl
@[simp] theorem sCons_ap {f g : Sf} {ρ : Slots} {M : Mem} : (sCons f g) ρ M = ((f ρ M).bind fun p => match p.1 with | .nx => g p.2.1 p.2.2 | fl => some (fl, p.2.1, p.2.2)) := rfl
@[simp] theorem sBreak_ap  {ρ : Slots} {M : Mem} : sBreak ρ M = (some (.bk, ρ, M)) := rfl
@[simp] theorem sCont_ap  {ρ : Slots} {M : Mem} : sCont ρ M = (some (.ct, ρ, M)) := rfl
@[simp] theorem sExpr_ap {f : Ef} {ρ : Slots} {M : Mem} : (sExpr f) ρ M = ((f ρ M).bind fun p => some (.nx, ρ, p.2)) := rfl
@[simp] theorem sRet_ap {f : Ef} {ρ : Slots} {M : Mem} : (sRet f) ρ M = ((f ρ M).bind fun p => some (.rt p.1, ρ, p.2)) := rfl
@[simp] theorem sRetN_ap  {ρ : Slots} {M : Mem} : sRetN ρ M = (some (.rt (.val .non), ρ, M)) := rfl
@[simp] theorem sIf_ap {t : Tf} {f g : Sf} {ρ : Slots} {M : Mem} : (sIf t f g) ρ M = ((t ρ M).bind fun p => if p.1 = true then f ρ p.2 else g ρ p.2) := rfl
@[simp] theorem sSet_ap {i : Nat} {f : Ef} {ρ : Slots} {M : Mem} : (sSet i f) ρ M = ((f ρ M).bind fun p => some (.nx, ρ.set i (some p.1.d), p.2)) := rfl
@[simp] theorem sSetM_ap {i : Nat} {f : Ef} {ρ : Slots} {M : Mem} : (sSetM i f) ρ M = ((f ρ M).bind fun p => match p.1 with | .new ds => some (.nx, ρ.set i (some (.loc p.2.length)), p.2 ++ [.lst ds]) | .val d => some (.nx, ρ.set i (some d), p.2)) := rfl
@[simp] theorem sFldS_ap {cs : List Str} {n : Str} {fo fv : Ef} {ρ : Slots} {M : Mem} : (sFldS cs n fo fv) ρ M = ((fv ρ M).bind fun p => stFld cs n fo p.1.d ρ p.2) := rfl
@[simp] theorem sFldM_ap {cs : List Str} {n : Str} {fo fv : Ef} {ρ : Slots} {M : Mem} : (sFldM cs n fo fv) ρ M = ((fv ρ M).bind fun p => match p.1 with | .new ds => stFld cs n fo (.loc p.2.length) ρ (p.2 ++ [.lst ds]) | .val d => stFld cs n fo d ρ p.2) := rfl
@[simp] theorem iSeq_ap {f : Ef} {ρ : Slots} {M : Mem} : (iSeq f) ρ M = ((f ρ M).bind fun p => (asS p.2 p.1.d).bind fun ds => some (ds, gkOf p.1.d, p.2)) := rfl
@[simp] theorem iRg1_ap {fa : Ef} {ρ : Slots} {M : Mem} : (iRg1 fa) ρ M = ((fa ρ M).bind fun p => match p.1.d with | .int j => if rgB j = true then some (rgD 0 j.toNat, none, p.2) else none | _ => none) := rfl
@[simp] theorem iRg2_ap {fa fb : Ef} {ρ : Slots} {M : Mem} : (iRg2 fa fb) ρ M = ((fa ρ M).bind fun p => (fb ρ p.2).bind fun q => match p.1.d, q.1.d with | .int i, .int j => if rgB i = true ∧ rgB j = true then some (rgD i (j - i).toNat, none, q.2) else none | _, _ => none) := rfl
@[simp] theorem sFor_ap {it : If} {g : Gf} {body : Sf} {ρ : Slots} {M : Mem} : (sFor it g body) ρ M = ((it ρ M).bind fun p => loopF (stpF p.2.1 p.1 g body) p.1 ρ p.2.2) := rfl
@[simp] theorem sAsg_ap {g : Gf} {f : Ef} {ρ : Slots} {M : Mem} : (sAsg g f) ρ M = ((f ρ M).bind fun p => (g p.1.d ρ p.2).bind fun q => some (.nx, q.1, q.2)) := rfl
@[simp] theorem slot_zero {o : Option D} {ρ : Slots} : slot (o :: ρ) 0 = o := rfl
@[simp] theorem slot_succ {o : Option D} {ρ : Slots} {i : Nat} : slot (o :: ρ) (i + 1) = slot ρ i := rfl
@[simp] theorem gNm_ap {i : Nat} {d : D} {ρ : Slots} {M : Mem} : gNm i d ρ M = some (ρ.set i (some d), M) := rfl
@[simp] theorem line_le {n : Nat} : (n ≤ sizeLine) = (n ≤ 16777216) := by rw [sizeLine_eq]
@[simp] theorem line_lt {n : Nat} : (n < sizeLine) = (n < 16777216) := by rw [sizeLine_eq]
@[simp] theorem guard_none {ds : List D} {M : Mem} : guard none ds M = True := by
  unfold guard; simp
@[simp] theorem stp_none {ds : List D} {g : Gf} {body : Sf} {d : D} {ρ : Slots} {M : Mem} : stpF none ds g body d ρ M = (g d ρ M).bind fun p => body p.1 p.2 := by
  unfold stpF
  cases g d ρ M with
  | none => rfl
  | some p =>
    simp only [Option.bind_some, guard_none, if_true]
    cases body p.1 p.2 <;> rfl
@[simp] theorem set_end {M : Mem} {a b : O} : (M ++ [a]).set M.length b = M ++ [b] := by
  rw [List.set_append_right _ _ (Nat.le_refl _)]; simp
@[simp] theorem get_end {M : Mem} {a : O} : (M ++ [a])[M.length]? = some a := by simp
@[simp] theorem nls_ints {n : Nat} : ∀ {ns : List Int}, nls n (ns.map .int) = true
  | [] => rfl
  | _ :: ns => by rw [List.map_cons, nls, nls_ints, Bool.and_true]; simp [nl]
@[simp] theorem finish_same {M : Mem} {r : Rz} : finish M r M = (r, M) := by
  unfold finish; simp
@[simp] theorem finish_list {M : Mem} {ds : List D} : finish M (.val (.loc M.length)) (M ++ [.lst ds]) = if nls M.length ds = true then (.new ds, M) else (.val (.loc M.length), M ++ [.lst ds]) := by
  unfold finish; simp
@[simp] theorem oI_int {g : Int → Int → D} {i j : Int} {M : Mem} : oI g (.int i) (.int j) M = some (.val (g i j)) := rfl
@[simp] theorem oIc_int {C : Int → Int → Bool} {g : Int → Int → D} {i j : Int} {M : Mem} : oIc C g (.int i) (.int j) M = if C i j = true then some (.val (g i j)) else none := rfl
@[simp] theorem oAdd_int {i j : Int} {M : Mem} : oAdd (.int i) (.int j) M = some (.val (.int (i + j))) := rfl
@[simp] theorem oAdd_tup {xs ys : List D} {M : Mem} : oAdd (.tup xs) (.tup ys) M = if xs.length + ys.length ≤ sizeLine then some (.val (.tup (xs ++ ys))) else none := rfl
@[simp] theorem oAdd_lst {xs ys : List D} {M : Mem} : oAdd (.lst xs) (.lst ys) M = if xs.length + ys.length ≤ sizeLine then some (.new (xs ++ ys)) else none := rfl
@[simp] theorem oEq_int {i j : Int} {M : Mem} : oEq (.int i) (.int j) M = some (.val (.bl (decide (i = j)))) := rfl
@[simp] theorem oNe_int {i j : Int} {M : Mem} : oNe (.int i) (.int j) M = some (.val (.bl (!decide (i = j)))) := rfl
@[simp] theorem oEq_str {i j : Str} {M : Mem} : oEq (.str i) (.str j) M = some (.val (.bl (decide (i = j)))) := rfl
@[simp] theorem oNe_str {i j : Str} {M : Mem} : oNe (.str i) (.str j) M = some (.val (.bl (!decide (i = j)))) := rfl
@[simp] theorem oSub_int {i j : Int} {M : Mem} : oSub (.int i) (.int j) M = some (.val (.int (i - j))) := rfl
@[simp] theorem oLt_int {i j : Int} {M : Mem} : oLt (.int i) (.int j) M = some (.val (.bl (decide (i < j)))) := rfl
@[simp] theorem oLe_int {i j : Int} {M : Mem} : oLe (.int i) (.int j) M = some (.val (.bl (decide (i ≤ j)))) := rfl
@[simp] theorem oGt_int {i j : Int} {M : Mem} : oGt (.int i) (.int j) M = some (.val (.bl (decide (j < i)))) := rfl
@[simp] theorem oGe_int {i j : Int} {M : Mem} : oGe (.int i) (.int j) M = some (.val (.bl (decide (j ≤ i)))) := rfl
@[simp] theorem oMul_int {i j : Int} {M : Mem} : oMulI (.int i) (.int j) M = if bMul i j = true then some (.val (.int (i * j))) else none := rfl
@[simp] theorem oDiv_int {i j : Int} {M : Mem} : oDiv (.int i) (.int j) M = if bDiv i j = true then some (.val (.int (i / j))) else none := rfl
@[simp] theorem oMod_int {i j : Int} {M : Mem} : oMod (.int i) (.int j) M = if bMod i j = true then some (.val (.int (i % j))) else none := rfl
@[simp] theorem oPow_int {i j : Int} {M : Mem} : oPow (.int i) (.int j) M = if bPow i j = true then some (.val (.int (i ^ j.toNat))) else none := rfl
@[simp] theorem oInt_int {i : Int} {M : Mem} : oInt [.int i] M = some (.val (.int i)) := rfl
@[simp] theorem bMul_eq {i j : Int} : bMul i j = (sm64 i || sm64 j) := rfl
theorem p64 : (2 : Int) ^ 64 = 18446744073709551616 := by decide
theorem sm64_of {i : Int} (h0 : -1000000000000000000 < i) (h1 : i < 1000000000000000000) : sm64 i = true := by
  unfold sm64
  rw [p64]
  simp only [Bool.and_eq_true, decide_eq_true_eq]
  omega
@[simp] theorem sm64_lit {n : Nat} (h : n < 1000000000000000000) : sm64 (no_index (@OfNat.ofNat Int n instOfNat)) = true := sm64_of (by show (-1000000000000000000 : Int) < (n : Int); omega) (by show (n : Int) < 1000000000000000000; omega)
@[simp] theorem bDiv_eq {i j : Int} : bDiv i j = (decide (0 < j) && decide (j < 1073741824)) := rfl
@[simp] theorem bMod_eq {i j : Int} : bMod i j = decide (0 < j) := rfl
@[simp] theorem bPow_eq {i j : Int} : bPow i j = (decide (0 ≤ j) && decide (j ≤ 1000000) && decide (i.natAbs < 2 ^ 64)) := rfl
@[simp] theorem asS_lst {ds : List D} {M : Mem} : asS M (.lst ds) = some ds := rfl
@[simp] theorem asS_tup {ds : List D} {M : Mem} : asS M (.tup ds) = some ds := rfl
@[simp] theorem asS_scr {ns : List Int} {M : Mem} : asS M (.scr ns) = some (ns.map .int) := rfl
@[simp] theorem asL_lst {ds : List D} {M : Mem} : asL M (.lst ds) = some ds := rfl
@[simp] theorem asL_scr {ns : List Int} {M : Mem} : asL M (.scr ns) = some (ns.map .int) := rfl
theorem asS_loc {k : Nat} {M : Mem} {ds : List D} (h : M[k]? = some (.lst ds)) : asS M (.loc k) = some ds := by
  show (match M[k]? with | some (.lst ds) => some ds | _ => none) = some ds
  rw [h]
@[simp] theorem asS_end {M : Mem} {ds : List D} : asS (M ++ [.lst ds]) (.loc M.length) = some ds := asS_loc get_end
@[simp] theorem tyOf_end {M : Mem} {ds : List D} : tyOf (M ++ [.lst ds]) (.loc M.length) = some "list" := by
  show (match (M ++ [O.lst ds])[M.length]? with | some (.lst _) => some "list" | some (.dct _) => some "dict" | _ => none) = _
  rw [get_end]
@[simp] theorem oLen_lst {ds : List D} {M : Mem} : oLen [.lst ds] M = some (.val (.int ds.length)) := rfl
@[simp] theorem oLen_tup {ds : List D} {M : Mem} : oLen [.tup ds] M = some (.val (.int ds.length)) := rfl
@[simp] theorem oLen_scr {ns : List Int} {M : Mem} : oLen [.scr ns] M = some (.val (.int ns.length)) := by
  show some (Rz.val (.int (ns.map D.int).length)) = _
  rw [List.length_map]
theorem oLen_loc {k : Nat} {M : Mem} {ds : List D} (h : M[k]? = some (.lst ds)) : oLen [.loc k] M = some (.val (.int ds.length)) := by
  show ((asS M (.loc k)).bind fun es => some (Rz.val (.int es.length))) = _
  rw [asS_loc h]; rfl
@[simp] theorem oLen_end {M : Mem} {ds : List D} : oLen [.loc M.length] (M ++ [.lst ds]) = some (.val (.int ds.length)) := oLen_loc get_end
theorem oAppend_loc {k : Nat} {M : Mem} {ds : List D} {d : D} (h : M[k]? = some (.lst ds)) (hl : ds.length < 16777216) : oAppend (.loc k) [d] M = some (.val .non, M.set k (.lst (ds ++ [d]))) := by
  show (match M[k]? with | some (.lst es) => if es.length < sizeLine then some (Rz.val D.non, M.set k (.lst (es ++ [d]))) else none | _ => none) = _
  rw [h]
  simp [hl]
theorem oAppend_end {M : Mem} {ds : List D} {d : D} (hl : ds.length < 16777216) : oAppend (.loc M.length) [d] (M ++ [.lst ds]) = some (.val .non, M ++ [.lst (ds ++ [d])]) := by
  rw [oAppend_loc get_end hl, set_end]
theorem rgB_nat {n : Nat} (h : n < 16777216) : rgB (n : Int) = true := by
  unfold rgB; simp; omega
/-- a loop by an invariant -/
theorem loop_inv {step : Stp} (I : List D → Slots → Mem → Prop) (hs : ∀ d ds ρ M, I (d :: ds) ρ M → ∃ fl ρ' M', step d ρ M = some (fl, ρ', M') ∧ (fl = .nx ∨ fl = .ct) ∧ I ds ρ' M') :
    ∀ ds ρ M, I ds ρ M → ∃ ρ' M', loopF step ds ρ M = some (.nx, ρ', M') ∧ I [] ρ' M'
  | [], ρ, M, h => ⟨ρ, M, rfl, h⟩
  | d :: ds, ρ, M, h => by
    obtain ⟨fl, ρ1, M1, e, hf, h1⟩ := hs d ds ρ M h
    obtain ⟨ρ2, M2, e2, h2⟩ := loop_inv I hs ds ρ1 M1 h1
    refine ⟨ρ2, M2, ?_, h2⟩
    unfold loopF
    rw [e]
    rcases hf with rfl | rfl <;> exact e2
/-- .. counted -/
theorem loop_rg {step : Stp} {lo : Int} {n : Nat} {ρ : Slots} {M : Mem} (I : Nat → Slots → Mem → Prop) (h0 : I 0 ρ M) (hs : ∀ (i : Nat) ρ M, i < n → I i ρ M → ∃ fl ρ' M', step (.int (lo + i)) ρ M = some (fl, ρ', M') ∧ (fl = .nx ∨ fl = .ct) ∧ I (i + 1) ρ' M') :
    ∃ ρ' M', loopF step (rgD lo n) ρ M = some (.nx, ρ', M') ∧ I n ρ' M' := by
  have key : ∀ (k : Nat) ds ρ M, (rgD lo n).drop k = ds → k ≤ n → I k ρ M → ∃ ρ' M', loopF step ds ρ M = some (.nx, ρ', M') ∧ I n ρ' M' := by
    intro k ds
    induction ds generalizing k with
    | nil =>
      intro ρ M e hk h
      have : k = n := by
        have := congrArg List.length e
        rw [List.length_drop, rgD_len] at this
        simp at this; omega
      subst this
      exact ⟨ρ, M, rfl, h⟩
    | cons d ds ih =>
      intro ρ M e hk h
      have hd : (rgD lo n)[k]? = some d := by
        have := congrArg (fun l => l[0]?) e
        simpa [List.getElem?_drop] using this
      obtain ⟨hkn, rfl⟩ := rgD_get hd
      obtain ⟨fl, ρ1, M1, e1, hf, h1⟩ := hs k ρ M hkn h
      obtain ⟨ρ2, M2, e2, h2⟩ := ih (k + 1) ρ1 M1 (by rw [← List.tail_drop, e]; rfl) hkn h1
      refine ⟨ρ2, M2, ?_, h2⟩
      unfold loopF
      rw [e1]
      rcases hf with rfl | rfl <;> exact e2
  exact key 0 _ ρ M rfl (Nat.zero_le _) h0
end CI

/-! Ci9: the laws' common defs: draws, same -/
namespace CI
open PySem PySem.Spec PyProof.Rows L2
@[simp] theorem kit_NoneType_bool : kitB "NoneType" "bool" = some false := by decide +kernel
@[simp] theorem kit_NoneType_int : kitB "NoneType" "int" = some false := by decide +kernel
@[simp] theorem kit_NoneType_str : kitB "NoneType" "str" = some false := by decide +kernel
@[simp] theorem kit_NoneType_tuple : kitB "NoneType" "tuple" = some false := by decide +kernel
@[simp] theorem kit_NoneType_list : kitB "NoneType" "list" = some false := by decide +kernel
@[simp] theorem kit_NoneType_dict : kitB "NoneType" "dict" = some false := by decide +kernel
@[simp] theorem kit_bool_bool : kitB "bool" "bool" = some true := by decide +kernel
@[simp] theorem kit_bool_int : kitB "bool" "int" = some true := by decide +kernel
@[simp] theorem kit_bool_str : kitB "bool" "str" = some false := by decide +kernel
@[simp] theorem kit_bool_tuple : kitB "bool" "tuple" = some false := by decide +kernel
@[simp] theorem kit_bool_list : kitB "bool" "list" = some false := by decide +kernel
@[simp] theorem kit_bool_dict : kitB "bool" "dict" = some false := by decide +kernel
@[simp] theorem kit_int_bool : kitB "int" "bool" = some false := by decide +kernel
@[simp] theorem kit_int_int : kitB "int" "int" = some true := by decide +kernel
@[simp] theorem kit_int_str : kitB "int" "str" = some false := by decide +kernel
@[simp] theorem kit_int_tuple : kitB "int" "tuple" = some false := by decide +kernel
@[simp] theorem kit_int_list : kitB "int" "list" = some false := by decide +kernel
@[simp] theorem kit_int_dict : kitB "int" "dict" = some false := by decide +kernel
@[simp] theorem kit_str_bool : kitB "str" "bool" = some false := by decide +kernel
@[simp] theorem kit_str_int : kitB "str" "int" = some false := by decide +kernel
@[simp] theorem kit_str_str : kitB "str" "str" = some true := by decide +kernel
@[simp] theorem kit_str_tuple : kitB "str" "tuple" = some false := by decide +kernel
@[simp] theorem kit_str_list : kitB "str" "list" = some false := by decide +kernel
@[simp] theorem kit_str_dict : kitB "str" "dict" = some false := by decide +kernel
@[simp] theorem kit_tuple_bool : kitB "tuple" "bool" = some false := by decide +kernel
@[simp] theorem kit_tuple_int : kitB "tuple" "int" = some false := by decide +kernel
@[simp] theorem kit_tuple_str : kitB "tuple" "str" = some false := by decide +kernel
@[simp] theorem kit_tuple_tuple : kitB "tuple" "tuple" = some true := by decide +kernel
@[simp] theorem kit_tuple_list : kitB "tuple" "list" = some false := by decide +kernel
@[simp] theorem kit_tuple_dict : kitB "tuple" "dict" = some false := by decide +kernel
@[simp] theorem kit_list_bool : kitB "list" "bool" = some false := by decide +kernel
@[simp] theorem kit_list_int : kitB "list" "int" = some false := by decide +kernel
@[simp] theorem kit_list_str : kitB "list" "str" = some false := by decide +kernel
@[simp] theorem kit_list_tuple : kitB "list" "tuple" = some false := by decide +kernel
@[simp] theorem kit_list_list : kitB "list" "list" = some true := by decide +kernel
@[simp] theorem kit_list_dict : kitB "list" "dict" = some false := by decide +kernel
@[simp] theorem kit_dict_bool : kitB "dict" "bool" = some false := by decide +kernel
@[simp] theorem kit_dict_int : kitB "dict" "int" = some false := by decide +kernel
@[simp] theorem kit_dict_str : kitB "dict" "str" = some false := by decide +kernel
@[simp] theorem kit_dict_tuple : kitB "dict" "tuple" = some false := by decide +kernel
@[simp] theorem kit_dict_list : kitB "dict" "list" = some false := by decide +kernel
@[simp] theorem kit_dict_dict : kitB "dict" "dict" = some true := by decide +kernel
def dr1 : Sf := (sIf (toB (cBin oGt (cVar 3) (cInt (0))))
    (sCons (sExpr (cBM "list" oAppend (cVar 2) (aCons (cBin oMod (cCB oInt (aCons (cVar 3) aNil)) (cInt (1000))) aNil)))
    (sSet 3 (cBin oDiv (cVar 3) (cInt (1000)))))
    sNil)
def dr2 : Sf := (sCons (sSet 4 (cBin oMod (cCB oInt (aCons (cBin oAdd (cBin oAdd (cBin oMulI (cVar 4) (cInt (48271))) (cBin oMulI (cVar 5) (cInt (69621)))) (cInt (7))) aNil)) (cInt (2147483647))))
    (sIf (toB (cBin oLt (cCB oLen (aCons (cVar 2) aNil)) (cVar 1)))
    (sExpr (cBM "list" oAppend (cVar 2) (aCons (cBin oMod (cCB oInt (aCons (cBin oMod (cCB oInt (aCons (cBin oAdd (cBin oMulI (cVar 4) (cInt (69621))) (cInt (5))) aNil)) (cInt (2147483629))) aNil)) (cInt (1000))) aNil)))
    sNil))
noncomputable def B_draws : Sf :=
    (sCons (sSetM 2 (cLst aNil))
    (sCons (sSet 3 (cCB oInt (aCons (cVar 0) aNil)))
    (sCons (sIf (toB (cBin oGe (cVar 3) (cBin oPow (cInt (10)) (cInt (18)))))
    (sFor (iRg1 (cVar 1)) (gNm 5)
    dr1)
    sNil)
    (sCons (sSet 4 (cBin oMod (cCB oInt (aCons (cBin oAdd (cBin oMulI (cCB oInt (aCons (cVar 0) aNil)) (cInt (48271))) (cInt (11))) aNil)) (cInt (2147483647))))
    (sCons (sFor (iRg1 (cVar 1)) (gNm 5)
    dr2)
    (sRet (cVar 2)))))))
noncomputable def F_draws : Fn := mkFn 2 6 B_draws
noncomputable def B_big : Sf :=
    (sCons (sIf (toB (cBin oEq (cBin oMod (cCB oInt (aCons (cVar 0) aNil)) (cInt (4))) (cInt (0))))
    (sRet (cBin oIx (cLst (aCons (cInt (0)) (aCons (cInt (1)) (aCons (cInt (255)) (aCons (cInt (256)) (aCons (cInt (65535)) (aCons (cInt (65536)) (aCons (cInt (16777216)) (aCons (cInt (4294967295)) aNil))))))))) (cBin oMod (cCB oInt (aCons (cVar 1) aNil)) (cInt (8)))))
    sNil)
    (sRet (cBin oMod (cCB oInt (aCons (cBin oAdd (cBin oMulI (cCB oInt (aCons (cVar 0) aNil)) (cInt (4294967))) (cBin oMulI (cCB oInt (aCons (cVar 1) aNil)) (cInt (65537)))) aNil)) (cInt (4294967296)))))
noncomputable def F_big : Fn := mkFn 2 2 B_big
noncomputable def B_OctetReader_init : Sf :=
    (sCons (sFldS ["OctetReader"] "_octets" (cVar 0) (cCB oList (aCons (cVar 1) aNil)))
    (sFldS ["OctetReader"] "_place" (cVar 0) (cInt (0))))
noncomputable def F_OctetReader_init : Fn := mkFn 2 2 B_OctetReader_init
noncomputable def B_same (F : Fn) : Sf :=
    (sCons (sIf (toB (cBin (oIs false) (cVar 1) cNon))
    (sRet (cBin (oIs false) (cVar 0) cNon))
    sNil)
    (sCons (sIf (toB (cBin (oIs false) (cVar 1) (cBl true)))
    (sRet (cBin (oIs false) (cVar 0) (cBl true)))
    sNil)
    (sCons (sIf (toB (cBin (oIs false) (cVar 1) (cBl false)))
    (sRet (cBin (oIs false) (cVar 0) (cBl false)))
    sNil)
    (sCons (sIf (toTr (cIsI "int" (cVar 1)))
    (sRet (cAnd (cIsI "int" (cVar 0)) (cAnd (cNot (cIsI "bool" (cVar 0))) (cBin oEq (cVar 0) (cVar 1)))))
    sNil)
    (sCons (sIf (toTr (cIsI "str" (cVar 1)))
    (sRet (cAnd (cIsI "str" (cVar 0)) (cBin oEq (cVar 0) (cVar 1))))
    sNil)
    (sCons (sIf (kAnd (toTr (cIsI "tuple" (cVar 1))) (kNot (toTr (cIsI "tuple" (cVar 0)))))
    (sRet (cBl false))
    sNil)
    (sCons (sIf (kAnd (toTr (cIsI "list" (cVar 1))) (kNot (toTr (cIsI "list" (cVar 0)))))
    (sRet (cBl false))
    sNil)
    (sCons (sIf (toB (cBin oNe (cCB oLen (aCons (cVar 0) aNil)) (cCB oLen (aCons (cVar 1) aNil))))
    (sRet (cBl false))
    sNil)
    (sCons (sFor (iRg1 (cCB oLen (aCons (cVar 1) aNil))) (gNm 2)
    (sIf (kNot (toTr (cCall (F) (aCons (cBin oIx (cVar 0) (cVar 2)) (aCons (cBin oIx (cVar 1) (cVar 2)) aNil)))))
    (sRet (cBl false))
    sNil))
    (sRet (cBl true)))))))))))
noncomputable def F_same : Nat → Fn
  | 0 => fun _ _ => none
  | n + 1 => mkFn 2 3 (B_same (F_same n))
@[simp] theorem oIs_non {b : Bool} {d : D} {M : Mem} : oIs b d .non M = some (.val (.bl (b != isNon d))) := rfl
@[simp] theorem oIs_bl {b c : Bool} {d : D} {M : Mem} : oIs b d (.bl c) M = some (.val (.bl (b != isBl c d))) := rfl
@[simp] theorem trD_bl {b : Bool} {M : Mem} : trD M (.bl b) = some b := rfl
@[simp] theorem ge_nat {n : Nat} : ((n : Int) < 0) = False := by simp
/-- draws: so many numbers below 1000 -/
theorem draws_l1 (cell : Int) (many : Nat) (hm : many < 1000) (M : Mem) : ∀ (rest : Int) (x y : Option D), ∃ (rows : List Int) (rest' : Int) (y' : Option D), rows.length ≤ many ∧ (∀ r ∈ rows, 0 ≤ r ∧ r < 1000) ∧
    loopF (stpF none (rgD 0 many) (gNm 5) dr1) (rgD 0 many) [some (.int cell), some (.int many), some (.loc M.length), some (.int rest), x, y] (M ++ [.lst []]) =
    some (.nx, [some (.int cell), some (.int many), some (.loc M.length), some (.int rest'), x, y'], M ++ [.lst (rows.map .int)]) := by
  intro rest x y
  obtain ⟨ρ', M', e, rows, rest', y', h1, h2, rfl, rfl⟩ := loop_rg (step := stpF none (rgD 0 many) (gNm 5) dr1) (lo := 0) (n := many) (ρ := [some (.int cell), some (.int many), some (.loc M.length), some (.int rest), x, y]) (M := M ++ [.lst []])
    (fun i ρ M' => ∃ (rows : List Int) (rest' : Int) (y' : Option D), rows.length ≤ i ∧ (∀ r ∈ rows, 0 ≤ r ∧ r < 1000) ∧ ρ = [some (.int cell), some (.int many), some (.loc M.length), some (.int rest'), x, y'] ∧ M' = M ++ [.lst (rows.map .int)])
    ⟨[], rest, y, by simp, by simp, rfl, rfl⟩ (by
      rintro i ρ M' hi ⟨rows, rest', y', h1, h2, rfl, rfl⟩
      by_cases hr : 0 < rest'
      · refine ⟨.nx, _, _, ?_, .inl rfl, rows ++ [rest' % 1000], rest' / 1000, some (.int (0 + i)), by simp; omega, ?_, rfl, rfl⟩
        · simp [dr1, hr, oAppend_end (ds := rows.map D.int) (show (rows.map D.int).length < 16777216 by simp; omega)]
        · intro r hr'
          rcases List.mem_append.mp hr' with q | q
          · exact h2 r q
          · simp at q; subst q; omega
      · refine ⟨.nx, _, _, ?_, .inl rfl, rows, rest', some (.int (0 + i)), by omega, h2, rfl, rfl⟩
        simp [dr1, hr])
  exact ⟨rows, rest', y', h1, h2, e⟩
theorem draws_l2 (cell : Int) (many : Nat) (hm : many < 1000) (M : Mem) : ∀ (rest st : Int) (rows : List Int) (y : Option D), rows.length ≤ many → (∀ r ∈ rows, 0 ≤ r ∧ r < 1000) → 0 ≤ st → st < 2147483647 → ∃ (rows' : List Int) (ρ' : Slots), rows'.length = many ∧ (∀ r ∈ rows', 0 ≤ r ∧ r < 1000) ∧ slot ρ' 2 = some (.loc M.length) ∧
    loopF (stpF none (rgD 0 many) (gNm 5) dr2) (rgD 0 many) [some (.int cell), some (.int many), some (.loc M.length), some (.int rest), some (.int st), y] (M ++ [.lst (rows.map .int)]) =
    some (.nx, ρ', M ++ [.lst (rows'.map .int)]) := by
  intro rest st rows y hl hb hs0 hs1
  obtain ⟨ρ', M', e, rows', st', y', h1, h2, h3, rfl, rfl⟩ := loop_rg (step := stpF none (rgD 0 many) (gNm 5) dr2) (lo := 0) (n := many) (ρ := [some (.int cell), some (.int many), some (.loc M.length), some (.int rest), some (.int st), y]) (M := M ++ [.lst (rows.map .int)])
    (fun i ρ M' => ∃ (rows' : List Int) (st' : Int) (y' : Option D), rows'.length ≤ many ∧ i ≤ rows'.length ∧ (∀ r ∈ rows', 0 ≤ r ∧ r < 1000) ∧ ρ = [some (.int cell), some (.int many), some (.loc M.length), some (.int rest), some (.int st'), y'] ∧ M' = M ++ [.lst (rows'.map .int)])
    ⟨rows, st, y, hl, Nat.zero_le _, hb, rfl, rfl⟩ (by
      rintro i ρ M' hi ⟨rows', st', y', h1, h2, h3, rfl, rfl⟩
      have hst : ∃ st2 : Int, st2 = (st' * 48271 + (i : Int) * 69621 + 7) % 2147483647 := ⟨_, rfl⟩
      obtain ⟨st2, est⟩ := hst
      by_cases hr : rows'.length < many
      · refine ⟨.nx, _, _, ?_, .inl rfl, rows' ++ [(st2 * 69621 + 5) % 2147483629 % 1000], st2, some (.int (0 + i)), by simp; omega, by simp; omega, ?_, rfl, rfl⟩
        · simp -implicitDefEqProofs [dr2, hr, ← est, oAppend_end (ds := rows'.map D.int) (show (rows'.map D.int).length < 16777216 by simp; omega)]
        · intro r hr'
          rcases List.mem_append.mp hr' with q | q
          · exact h3 r q
          · simp at q; subst q; omega
      · refine ⟨.nx, _, _, ?_, .inl rfl, rows', st2, some (.int (0 + i)), by omega, by omega, h3, rfl, rfl⟩
        simp -implicitDefEqProofs [dr2, hr, ← est])
  exact ⟨rows', _, by omega, h3, rfl, e⟩
theorem draws_ok (cell : Int) (many : Nat) (hm : many < 1000) (M : Mem) :
    ∃ rows : List Int, rows.length = many ∧ (∀ r ∈ rows, 0 ≤ r ∧ r < 1000) ∧ F_draws [.int cell, .int many] M = some (.new (rows.map .int), M) := by
  have hrg : rgB (many : Int) = true := rgB_nat (by omega)
  -- the first loop
  unfold F_draws mkFn B_draws
  by_cases hc : (1000000000000000000 : Int) ≤ cell
  · obtain ⟨rows, rest', y', h1, h2, e1⟩ := draws_l1 cell many hm M cell none none
    obtain ⟨rows', ρ', h3, h4, h5, e2⟩ := draws_l2 cell many hm M rest' ((cell * 48271 + 11) % 2147483647) rows y' h1 h2 (by omega) (by omega)
    refine ⟨rows', h3, h4, ?_⟩
    simp -implicitDefEqProofs [hc, hrg, e1, e2, h5]
  · obtain ⟨rows', ρ', h3, h4, h5, e2⟩ := draws_l2 cell many hm M cell ((cell * 48271 + 11) % 2147483647) [] none (Nat.zero_le _) (fun _ h => nomatch h) (by omega) (by omega)
    refine ⟨rows', h3, h4, ?_⟩
    simp only [List.map_nil] at e2
    simp -implicitDefEqProofs [hc, hrg, e2, h5]
end CI

/-! Ci10: same -/
namespace CI
open PySem PySem.Spec PyProof.Rows L2
@[simp] theorem isNon_non : isNon .non = true := rfl
@[simp] theorem isNon_bl {b} : isNon (.bl b) = false := rfl
@[simp] theorem isNon_int {b} : isNon (.int b) = false := rfl
@[simp] theorem isNon_str {b} : isNon (.str b) = false := rfl
@[simp] theorem isNon_tup {b} : isNon (.tup b) = false := rfl
@[simp] theorem isNon_lst {b} : isNon (.lst b) = false := rfl
@[simp] theorem isNon_scr {b} : isNon (.scr b) = false := rfl
@[simp] theorem isNon_loc {b} : isNon (.loc b) = false := rfl
@[simp] theorem isBl_bl {b c} : isBl b (.bl c) = decide (c = b) := rfl
@[simp] theorem isBl_non {b} : isBl b .non = false := rfl
@[simp] theorem isBl_int {b c} : isBl b (.int c) = false := rfl
@[simp] theorem isBl_str {b c} : isBl b (.str c) = false := rfl
@[simp] theorem isBl_tup {b c} : isBl b (.tup c) = false := rfl
@[simp] theorem isBl_lst {b c} : isBl b (.lst c) = false := rfl
@[simp] theorem isBl_scr {b c} : isBl b (.scr c) = false := rfl
@[simp] theorem isBl_loc {b c} : isBl b (.loc c) = false := rfl
@[simp] theorem tyOf_non {M} : tyOf M .non = some "NoneType" := rfl
@[simp] theorem tyOf_bl {M b} : tyOf M (.bl b) = some "bool" := rfl
@[simp] theorem tyOf_int {M b} : tyOf M (.int b) = some "int" := rfl
@[simp] theorem tyOf_str {M b} : tyOf M (.str b) = some "str" := rfl
@[simp] theorem tyOf_tup {M b} : tyOf M (.tup b) = some "tuple" := rfl
@[simp] theorem tyOf_lst {M b} : tyOf M (.lst b) = some "list" := rfl
@[simp] theorem tyOf_scr {M b} : tyOf M (.scr b) = some "list" := rfl
theorem tyOf_loc {k : Nat} {M : Mem} {ds : List D} (h : M[k]? = some (.lst ds)) : tyOf M (.loc k) = some "list" := by
  show (match M[k]? with | some (.lst _) => some "list" | some (.dct _) => some "dict" | _ => none) = _
  rw [h]
/-- a sequence: is it a tuple, its items -/
def sh (M : Mem) : D → Option (Bool × List D)
  | .tup ds => some (true, ds)
  | .lst ds => some (false, ds)
  | .scr ns => some (false, ns.map .int)
  | .loc k => match M[k]? with
    | some (.lst ds) => some (false, ds)
    | _ => none
  | _ => none
theorem sh_asS {M : Mem} {d : D} {b : Bool} {ds : List D} (h : sh M d = some (b, ds)) : asS M d = some ds ∧ tyOf M d = some (if b then "tuple" else "list") ∧ isNon d = false ∧ (∀ c, isBl c d = false) ∧ oLen [d] M = some (.val (.int ds.length)) := by
  cases d with
  | tup es => cases h; exact ⟨rfl, rfl, rfl, fun _ => rfl, rfl⟩
  | lst es => cases h; exact ⟨rfl, rfl, rfl, fun _ => rfl, rfl⟩
  | scr es => cases h; exact ⟨rfl, rfl, rfl, fun _ => rfl, by rw [oLen_scr]; simp⟩
  | loc k =>
    unfold sh at h
    simp only at h
    split at h
    · rename_i es hk
      cases h
      exact ⟨asS_loc hk, tyOf_loc hk, rfl, fun _ => rfl, oLen_loc hk⟩
    · cases h
  | _ => cases h
/-- the same to a depth of n -/
def Sm (M : Mem) : Nat → D → D → Prop
  | 0, _, _ => False
  | n + 1, d, e => (d = e ∧ (d = .non ∨ (∃ b, d = .bl b) ∨ (∃ i, d = .int i) ∨ ∃ x, d = .str x)) ∨
    ∃ b ds es, sh M d = some (b, ds) ∧ sh M e = some (b, es) ∧ ds.length < 10000 ∧ ds.length = es.length ∧ ∀ (i : Nat) (x y : D), ds[i]? = some x → es[i]? = some y → Sm M n x y
theorem oIx_of {M : Mem} {d : D} {ds : List D} {i : Nat} {x : D} (h : asS M d = some ds) (hx : ds[i]? = some x) : oIx d (.int i) M = some (.val x) := by
  have e : ((asS M d).bind fun ds => (L2.atI ds (i : Int)).bind fun x => some (Rz.val x)) = some (.val x) := by
    rw [h]
    simp only [Option.bind_some]
    rw [atI_nat hx]; rfl
  cases d <;> first | exact e | cases h
theorem same_ok : ∀ (n : Nat) (M : Mem) (d e : D), Sm M n d e → F_same n [d, e] M = some (.val (.bl true), M)
  | 0, _, _, _, h => h.elim
  | n + 1, M, d, e, h => by
    unfold F_same mkFn B_same
    rcases h with ⟨rfl, h⟩ | ⟨b, ds, es, h1, h2, hl, hle, hs⟩
    · rcases h with rfl | ⟨b, rfl⟩ | ⟨i, rfl⟩ | ⟨x, rfl⟩
      · simp -implicitDefEqProofs
      · cases b <;> simp -implicitDefEqProofs
      · simp -implicitDefEqProofs
      · simp -implicitDefEqProofs
    · obtain ⟨a1, a2, a3, a4, a5⟩ := sh_asS h1
      obtain ⟨b1, b2, b3, b4, b5⟩ := sh_asS h2
      have hrg : rgB (es.length : Int) = true := rgB_nat (by omega)
      have lp : ∀ x, ∃ y, loopF (stpF none (rgD 0 es.length) (gNm 2) (sIf (kNot (toTr (cCall (F_same n) (aCons (cBin oIx (cVar 0) (cVar 2)) (aCons (cBin oIx (cVar 1) (cVar 2)) aNil)))))
    (sRet (cBl false)) sNil)) (rgD 0 es.length) [some d, some e, x] M = some (.nx, [some d, some e, y], M) := by
        intro x
        obtain ⟨ρ', M', e1, y, rfl, rfl⟩ := loop_rg (step := stpF none (rgD 0 es.length) (gNm 2) (sIf (kNot (toTr (cCall (F_same n) (aCons (cBin oIx (cVar 0) (cVar 2)) (aCons (cBin oIx (cVar 1) (cVar 2)) aNil)))))
    (sRet (cBl false)) sNil)) (lo := 0) (n := es.length) (ρ := [some d, some e, x]) (M := M)
          (fun i ρ M' => ∃ y, ρ = [some d, some e, y] ∧ M' = M) ⟨x, rfl, rfl⟩ (by
            rintro i ρ M' hi ⟨y, rfl, rfl⟩
            have i1 : ds[i]? = some ds[i] := List.getElem?_eq_getElem (by omega)
            have i2 : es[i]? = some es[i] := List.getElem?_eq_getElem hi
            have q := same_ok n _ _ _ (hs i _ _ i1 i2)
            refine ⟨.nx, [some d, some e, some (.int i)], _, ?_, .inl rfl, _, rfl, rfl⟩
            simp -implicitDefEqProofs only [stp_none, gNm_ap, Option.bind_some, Int.zero_add, sIf_ap, kNot_ap, toTr_ap, cCall_ap, aCons_ap, cBin_ap, cVar_ap, slot_zero, slot_succ, List.set_cons_succ, List.set_cons_zero, Rz_d_val, oIx_of a1 i1, oIx_of b1 i2, aNil_ap, q, trD_bl]
            simp -implicitDefEqProofs)
        exact ⟨y, e1⟩
      obtain ⟨y, e1⟩ := lp none
      cases b
      · simp -implicitDefEqProofs at a2 b2
        simp -implicitDefEqProofs [a2, a3, a4, a5, b2, b3, b4, b5, hle, hrg, e1]
      · simp -implicitDefEqProofs at a2 b2
        simp -implicitDefEqProofs [a2, a3, a4, a5, b2, b3, b4, b5, hle, hrg, e1]
end CI

/-! Ci11: comprehensions -/
namespace CI
open PySem PySem.Spec PyProof.Rows L2

/-! ### targets within a block -/
theorem wipe_set {x : Option V} {i : Nat} : ∀ {vs : List Nat} {σ : L2.St}, i ∈ vs → wipe (σ.set i x) vs = wipe σ vs
  | [], _, h => nomatch h
  | v :: vs, σ, h => by
    show (wipe (σ.set i x) vs).set v none = (wipe σ vs).set v none
    by_cases hi : i ∈ vs
    · rw [wipe_set hi]
    · have hv : i = v := (List.mem_cons.mp h).resolve_right hi
      subst hv
      have key : ∀ (vs : List Nat) (σ : L2.St), i ∉ vs → wipe (σ.set i x) vs = (wipe σ vs).set i x := by
        intro vs
        induction vs with
        | nil => intro σ _; rfl
        | cons v vs ih =>
          intro σ hn
          show (wipe (σ.set i x) vs).set v none = ((wipe σ vs).set v none).set i x
          rw [ih σ fun z => hn (List.mem_cons_of_mem _ z)]
          exact List.set_comm _ _ (fun z => hn (by rw [z]; exact List.mem_cons_self))
      rw [key vs σ hi, List.set_set]
theorem wipe_idem : ∀ {vs : List Nat} {σ : L2.St}, wipe (wipe σ vs) vs = wipe σ vs
  | [], _ => rfl
  | v :: vs, σ => by
    show (wipe ((wipe σ vs).set v none) vs).set v none = (wipe σ vs).set v none
    by_cases hv : v ∈ vs
    · rw [wipe_set hv, wipe_idem]
    · have key : ∀ (us : List Nat) (σ : L2.St), v ∉ us → wipe (σ.set v none) us = (wipe σ us).set v none := by
        intro us
        induction us with
        | nil => intro σ _; rfl
        | cons u us ih =>
          intro σ hn
          show (wipe (σ.set v none) us).set u none = ((wipe σ us).set u none).set v none
          rw [ih σ fun z => hn (List.mem_cons_of_mem _ z)]
          exact List.set_comm _ _ (fun z => hn (by rw [z]; exact List.mem_cons_self))
      rw [key vs _ hv, wipe_idem, List.set_set]
def wipeD (ρ : Slots) : List Nat → Slots
  | [] => ρ
  | v :: vs => (wipeD ρ vs).set v none
theorem Rs.wipe {K : PySem.W.Frag} {H : Hp} {m : List Addr} {ρ : Slots} {σ : L2.St} (h : Rs K H m ρ σ) : ∀ vs : List Nat, Rs K H m (wipeD ρ vs) (L2.wipe σ vs)
  | [] => h
  | v :: vs => by
    have r := h.wipe vs
    refine ⟨by show ((wipeD ρ vs).set v none).length = ((L2.wipe σ vs).set v none).length; simp [r.1], fun i d q => ?_⟩
    show ∃ w, ((L2.wipe σ vs).set v none)[i]? = some (some w) ∧ _
    have q : ((wipeD ρ vs).set v none)[i]? = some (some d) := q
    by_cases z : i = v
    · subst z
      obtain ⟨z, _⟩ := List.getElem?_eq_some_iff.mp q
      rw [List.length_set] at z
      rw [List.getElem?_set_self z] at q
      cases q
    · rw [List.getElem?_set_ne (Ne.symm z)] at q
      rw [List.getElem?_set_ne (Ne.symm z)]
      exact r.2 i d q
/-- a target that stores at the slots vs alone -/
def tGw (K : PySem.W.Frag) (vs : List Nat) (g : Gf) : TG := fun v σ H Q => ∃ d ρ M m ρ' M', Rl K H m d v ∧ Rs K H m ρ σ ∧ Wd K H m M ∧ g d ρ M = some (ρ', M') ∧
  ∀ H1 m1 σ1, Ext H m H1 m1 → Wd K H1 m1 M' → Rs K H1 m1 ρ' σ1 → wipe σ1 vs = wipe σ vs → Q σ1 H1
def tGsw (K : PySem.W.Frag) (vs : List Nat) (g : GsF) : TGs := fun us σ H Q => ∃ ds ρ M m ρ' M', Rls K H m ds us ∧ Rs K H m ρ σ ∧ Wd K H m M ∧ g ds ρ M = some (ρ', M') ∧
  ∀ H1 m1 σ1, Ext H m H1 m1 → Wd K H1 m1 M' → Rs K H1 m1 ρ' σ1 → wipe σ1 vs = wipe σ vs → Q σ1 H1
section
variable {X : Cx} {K : PySem.W.Frag} {e tg : Expr} {es : List Expr} {g : Gf} {gs : GsF} {pos : Pos} {vs : List Nat}
theorem cgw_of {i : Nat} (h : PG X e (gName i)) (hi : i ∈ vs) : PG X e (tGw K vs (gNm i)) := PG.imp h fun v σ H Q ⟨d, ρ, M, m, ρ', M', r, rs, w, hf, P⟩ => by
  cases hf
  exact P H m _ .refl w (rs.set r i) (wipe_set hi)
theorem cgsw_nil : PGs X [] (tGsw K vs gsNil) := PGs.imp pgs_nil fun us σ H Q ⟨ds, ρ, M, m, ρ', M', r, rs, w, hf, P⟩ => by
  unfold gsNil at hf
  split at hf
  · cases hf
    exact ⟨rls_nil r, P H m _ .refl w rs rfl⟩
  · cases hf
theorem cgsw_cons (h1 : PG X e (tGw K vs g)) (h2 : PGs X es (tGsw K vs gs)) (hs : (assignEach (e :: es) X.env).map (·.2) = assign e X.env :: (assignEach es X.env).map (·.2) := by rfl) : PGs X (e :: es) (tGsw K vs (gsCons g gs)) :=
  PGs.imp (pgs_cons h1 h2 hs) fun us σ H Q ⟨ds, ρ, M, m, ρ', M', r, rs, w, hf, P⟩ => by
    unfold gsCons at hf
    split at hf
    · rename_i d ds
      rw [Rls] at r
      obtain ⟨v, vr, rfl, r1, r2⟩ := r
      cases ea : g d ρ M with
      | none => rw [ea] at hf; cases hf
      | some p =>
        rw [ea] at hf
        simp only [Option.bind_some] at hf
        refine ⟨v, vr, rfl, d, ρ, M, m, p.1, p.2, r1, rs, w, ea, fun H1 m1 σ1 e1 w1 rs1 z1 => ?_⟩
        exact ⟨ds, p.1, p.2, m1, ρ', M', r2.ext e1, rs1, w1, hf, fun H2 m2 σ2 e2 w2 rs2 z2 => P H2 m2 σ2 (e1.trans e2) w2 rs2 (z2.trans z1)⟩
    · cases hf
theorem cgw_tup {k n : Nat} (hc : X.calm = true) (h : PGs X es (tGsw X.K vs gs)) (hn : (assignEach es X.env).length = n := by rfl) (hst : (assignEach es X.env).findIdx? (·.1) = none := by rfl) : PG X (.Tuple es k pos) (tGw X.K vs (gTp n gs)) :=
  PG.imp (pg_tup hc h hn hst) fun v σ H Q ⟨d, ρ, M, m, ρ', M', r, rs, w, hf, P⟩ => by
    unfold gTp at hf
    split at hf
    · rename_i ds
      split at hf
      · rename_i hl
        rw [Rl] at r
        obtain ⟨a, us, rfl, h1, h2⟩ := r
        exact ⟨a, us, rfl, h1, by rw [← h2.length]; exact hl, ds, ρ, M, m, ρ', M', h2, rs, w, hf, P⟩
      · cases hf
    · cases hf
end

/-! ### the comprehension -/
/-- the turns: the list made so far is the object n -/
noncomputable def lcF (g : Gf) (tt : Tf) (te : Ef) (ρw : Slots) (n : Nat) (gk : Option Nat) (ds0 : List D) : List D → Mem → Option Mem
  | [], M => some M
  | d :: ds, M => (g d ρw M).bind fun p => (tt p.1 p.2).bind fun b => if b.1 = true then (te p.1 b.2).bind fun r => (match r.2[n]? with
      | some (.lst acc) => if acc.length < sizeLine then (open Classical in if guard gk ds0 (r.2.set n (.lst (acc ++ [r.1.d]))) then lcF g tt te ρw n gk ds0 ds (r.2.set n (.lst (acc ++ [r.1.d]))) else none) else none
      | _ => none) else (open Classical in if guard gk ds0 b.2 then lcF g tt te ρw n gk ds0 ds b.2 else none)
open Classical in
noncomputable def cLc (it : If) (vs : List Nat) (g : Gf) (tt : Tf) (te : Ef) : Ef := fun ρ M => (it ρ M).bind fun p =>
  (lcF g tt te (wipeD ρ vs) p.2.2.length p.2.1 p.1 p.1 (p.2.2 ++ [.lst []])).bind fun Me => match Me[p.2.2.length]? with
  | some (.lst acc) => if Me.length = p.2.2.length + 1 ∧ (Me.take p.2.2.length = p.2.2 ∨ nlM p.2.2.length (Me.take p.2.2.length) = true) ∧ nls p.2.2.length acc = true then some (.new acc, Me.take p.2.2.length) else none
  | _ => none
def tYesF : Tf := fun _ M => some (true, M)
section
variable {X : Cx} {elt tg iter : Expr} {ifs : List Expr} {scope : Scope} {own : List (Str × Nat)} {pos : Pos} {it : If} {g : Gf} {tt : Tf} {te : Ef}
theorem lc_of {σ : L2.St} {H : Hp} {Q : VK} {vs : List Nat} (h : tE X.K (cLc it vs g tt te) σ H Q) : tLc (tI X.K it) (tGw X.K vs g) (tT X.K tt) (tE X.K te) vs σ H Q := by
  obtain ⟨ρ, M, m, r, M', rs, w, hf, P⟩ := h
  unfold cLc at hf
  cases ea : it ρ M with
  | none => rw [ea] at hf; cases hf
  | some p =>
    obtain ⟨ds, gk, M1⟩ := p
    rw [ea] at hf
    simp only [Option.bind_some] at hf
    cases el : lcF g tt te (wipeD ρ vs) M1.length gk ds ds (M1 ++ [.lst []]) with
    | none => rw [el] at hf; cases hf
    | some Me =>
      rw [el] at hf
      simp only [Option.bind_some] at hf
      refine ⟨ρ, M, m, ds, gk, M1, rs, w, ea, fun H1 m1 J e1 w1 gd1 Y => fun D hD => ?_⟩
      obtain ⟨w2, e2⟩ := w1.push (o := .lst []) (u := .lst []) hD ⟨[], upd_same, by rw [Rls]⟩
      have gd2 : GdOk X.K gk ds (upd H1 D (.lst [])) (m1 ++ [D]) := fun k hk => by
        obtain ⟨a, us, q1, q2, q3⟩ := gd1 k hk
        exact ⟨a, us, e2.get q1, by rw [upd_ne (fun z => by rw [z, hD] at q2; cases q2)]; exact q2, q3.ext e2⟩
      have hn1 : M1.length = m1.length := w1.len.symm
      have hDm : (m1 ++ [D])[M1.length]? = some D := by rw [hn1, List.getElem?_append_right (Nat.le_refl _)]; simp
      refine ⟨fun i n H => n = ds.length - i ∧ i ≤ ds.length ∧ ∃ M2 m2, Ext (upd H1 D (.lst [])) (m1 ++ [D]) H m2 ∧ Wd X.K H m2 M2 ∧ GdOk X.K gk ds H m2 ∧ lcF g tt te (wipeD ρ vs) M1.length gk ds (ds.drop i) M2 = some Me,
        ⟨ds.length, by simp, Nat.zero_le _, M1 ++ [.lst []], m1 ++ [D], .refl, w2, gd2, by simpa using el⟩, ?_⟩
      rintro i n H ⟨rfl, hle, M2, m2, e3, w3, gd3, hl⟩
      have eY : Ext H1 m1 H m2 := e2.trans e3
      by_cases hlt : i < ds.length
      · refine .inr ⟨Y.go i H m2 hlt eY gd3, ?_⟩
        have hd : ds.drop i = ds[i] :: ds.drop (i + 1) := List.drop_eq_getElem_cons hlt
        rw [hd] at hl
        unfold lcF at hl
        refine ⟨fun H' => ∃ M3 m3, Ext H m2 H' m3 ∧ Wd X.K H' m3 M3 ∧ GdOk X.K gk ds H' m3 ∧ lcF g tt te (wipeD ρ vs) M1.length gk ds (ds.drop (i + 1)) M3 = some Me,
          fun H' ⟨M3, m3, e4, w4, gd4, hl4⟩ => ⟨ds.length - (i + 1), by omega, rfl, hlt, M3, m3, e3.trans e4, w4, gd4, hl4⟩, fun x H' y => ?_⟩
        obtain ⟨e4, w4, r4⟩ := Y.yld i ds[i] H m2 M2 x H' (List.getElem?_eq_getElem hlt) eY gd3 w3 y
        cases eg : g ds[i] (wipeD ρ vs) M2 with
        | none => rw [eg] at hl; cases hl
        | some q =>
          rw [eg] at hl
          simp only [Option.bind_some] at hl
          refine ⟨ds[i], wipeD ρ vs, M2, m2, q.1, q.2, r4, ((rs.ext e1).ext (eY.trans e4)).wipe vs, w4, eg, fun H5 m5 σ5 e5 w5 rs5 z5 => ⟨z5.trans wipe_idem, ?_⟩⟩
          cases et : tt q.1 q.2 with
          | none => rw [et] at hl; cases hl
          | some b =>
            rw [et] at hl
            simp only [Option.bind_some] at hl
            refine bindT rs5 w5 et fun H6 m6 e6 w6 rs6 => ?_
            split at hl
            · rename_i hb
              rw [if_pos hb]
              cases ev : te q.1 b.2 with
              | none => rw [ev] at hl; cases hl
              | some rz =>
                rw [ev] at hl
                simp only [Option.bind_some] at hl
                refine bindE rs6 w6 ev fun H7 m7 v e7 w7 rs7 r7 => ?_
                split at hl
                · rename_i acc hacc
                  split at hl
                  · rename_i hz
                    have eAll : Ext (upd H1 D (.lst [])) (m1 ++ [D]) H7 m7 := (((e3.trans e4).trans e5).trans e6).trans e7
                    have hD7 := eAll.get hDm
                    obtain ⟨a, ha, us, h1, h2⟩ := w7.get hacc
                    rw [hD7] at ha; cases ha
                    refine ⟨us, h1, by rw [← h2.length]; exact hz, ?_⟩
                    have e8 := w7.ext_set (u := .lst (us ++ [v])) hD7
                    have w8 := w7.set (o := .lst (acc ++ [rz.1.d])) (u := .lst (us ++ [v])) hD7 ⟨_, upd_same, (h2.ext e8).append (by rw [Rls]; exact ⟨_, _, rfl, r7.ext e8, by rw [Rls]⟩)⟩
                    split at hl
                    · rename_i hgd
                      exact ⟨_, m7, (((e4.trans e5).trans e6).trans e7).trans e8, w8, gd_of w8 hgd, hl⟩
                    · cases hl
                  · cases hl
                · cases hl
            · rename_i hb
              rw [if_neg hb]
              split at hl
              · rename_i hgd
                exact ⟨_, m6, (e4.trans e5).trans e6, w6, gd_of w6 hgd, hl⟩
              · cases hl
      · have e : i = ds.length := by omega
        subst e
        refine .inl ⟨Y.stop H m2 eY gd3, ?_⟩
        rw [List.drop_length] at hl
        unfold lcF at hl
        cases hl
        split at hf
        · rename_i acc hacc
          split at hf
          · rename_i hcond
            obtain ⟨c1, c2, c3⟩ := hcond
            cases hf
            obtain ⟨l, rfl, hl0⟩ := id e3.pre
            have hl1 : l = [] := by
              have := w3.len
              rw [c1, hn1] at this
              simp at this
              exact this
            subst hl1
            rw [List.append_nil] at w3 e3
            obtain ⟨a, ha, us, h1, h2⟩ := w3.get hacc
            rw [hDm] at ha; cases ha
            have eD : Ext H1 m1 H (m1 ++ [D]) := e2.trans e3
            have hnl : ∀ o ∈ Me.take m1.length, nlO m1.length o = true := by
              rw [hn1] at c2
              rcases c2 with c2 | c2
              · rw [c2]; exact w1.nl
              · exact nlM_ok c2
            have hlen : m1.length = (Me.take m1.length).length := by
              rw [List.length_take, c1, hn1]; omega
            rw [hn1] at P c3
            have := P (del H D) m1 (e1.trans (eD.del (ws := us) (by simp))) (w3.del rfl hlen hnl h1 (by simp)) us D (Rls.del h1 (by simp) h2 c3) del_same
            rw [upd_del h1] at this
            exact this
          · cases hf
        · cases hf
theorem ce_lc (hc : X.calm = true) (hN : X.N.Nodup) (hi : CIx X tg iter it) (ok : BlkOk X.N X.env.scope scope own)
    (hg : ∀ (s : Shared) (H : Hp) (C : Addr) (cl : List (Str × Addr)) (fp : List Addr), PG (X.blk s H scope (compEnvC scope cl C X.env) fp) tg (tGw X.K (own.map (·.2)) g)) (ht : ∀ (s : Shared) (H : Hp) (C : Addr) (cl : List (Str × Addr)) (fp : List Addr), PTs (X.blk s H scope (compEnvC scope cl C X.env) fp) ifs (tT X.K tt))
    (he : ∀ (s : Shared) (H : Hp) (C : Addr) (cl : List (Str × Addr)) (fp : List Addr), PE (X.blk s H scope (compEnvC scope cl C X.env) fp) elt (tE X.K te)) (hs : ∀ x, foldedSetIterable iter X.env x = pure x := by intro _; rfl) :
    CEx X (.ListComp elt [⟨tg, iter, ifs, 0⟩] scope pos) (cLc it (own.map (·.2)) g tt te) := PE.imp (pe_lc hc hN hi ok hg ht he hs) fun _ _ _ h => lc_of h
theorem cs_setLc {i : Nat} {y : Str} {py spos : Pos} (hc : X.calm = true) (hN : X.N.Nodup) (hy : X.N[i]? = some y) (hyl : X.env.scope.names.lookup y = some .local)
    (hsw : swapsWith (.ListComp elt [⟨tg, iter, ifs, 0⟩] scope pos) (some (.Name y py)) spos.line X.env = pure true) (hi : CIx X tg iter it) (ok : BlkOk X.N X.env.scope scope own)
    (hg : ∀ (s : Shared) (H : Hp) (C : Addr) (cl : List (Str × Addr)) (fp : List Addr), PG (X.blk s H scope (compEnvC scope cl C X.env) fp) tg (tGw X.K (own.map (·.2)) g)) (ht : ∀ (s : Shared) (H : Hp) (C : Addr) (cl : List (Str × Addr)) (fp : List Addr), PTs (X.blk s H scope (compEnvC scope cl C X.env) fp) ifs (tT X.K tt))
    (he : ∀ (s : Shared) (H : Hp) (C : Addr) (cl : List (Str × Addr)) (fp : List Addr), PE (X.blk s H scope (compEnvC scope cl C X.env) fp) elt (tE X.K te)) (hs : ∀ x, foldedSetIterable iter X.env x = pure x := by intro _; rfl) :
    PS X (.Assign [.Name y py] (.ListComp elt [⟨tg, iter, ifs, 0⟩] scope pos) spos) (tAsg (tE X.K (cLc it (own.map (·.2)) g tt te)) (gName i)) := PS.imp (ps_setLc hc hN hy hyl hsw hi ok hg ht he hs) fun Dn σ H h => lc_of h
theorem cts_nil : PTs X [] (tT X.K tYesF) := ⟨fun pins s σ H Q I h => by
  obtain ⟨ρ, M, m, b, M', rs, w, hf, P⟩ := h
  cases hf
  exact pts_nil.run pins s σ H Q I (P H m .refl w)⟩
theorem cts_one {c : Expr} (h : CTx X c tt) : PTs X [c] (tT X.K tt) := pts_one h
end
end CI

/-! Ci12: stars in displays, list(range), enumerate; comprehensions reckoned -/
namespace CI
open PySem PySem.Spec PyProof.Rows L2
def oLenD : Cop := fun ds M => match ds with
  | [.loc k] => match M[k]? with
    | some (.dct kvs) => some (.val (.int kvs.length))
    | _ => none
  | _ => none
section
variable {X : Cx} {e : Expr} {es : List Expr} {f : Ef} {g : Af} {p pos : Pos}
/-- the items of a starred sequence are read when it is met: what follows does not change them -/
def aStar' (f : Ef) (g : Af) : Af := fun ρ M => (f ρ M).bind fun p => (asS p.2 p.1.d).bind fun ds => (g ρ p.2).bind fun q => some (ds ++ q.1, q.2)
theorem ca_star (he : CEx X e f) (hr : CAx X es g) (hs : starEach (.Starred e p :: es) X.env = (true, eval e X.env) :: starEach es X.env := by rfl) : CAx X (.Starred e p :: es) (aStar' f g) := PA.imp (StX.pa_star he hr hs) fun σ H Q ⟨ρ, M, m, ds, M', rs, w, hf, P⟩ => by
  unfold aStar' at hf
  cases ea : f ρ M with
  | none => rw [ea] at hf; cases hf
  | some p =>
    cases es : asS p.2 p.1.d with
    | none => simp [ea, es] at hf
    | some zs =>
      cases eb : g ρ p.2 with
      | none => simp [ea, es, eb] at hf
      | some q =>
        simp [ea, es, eb] at hf
        obtain ⟨rfl, rfl⟩ := hf
        refine bindE rs w ea fun H1 m1 v e1 w1 rs1 r1 => ?_
        obtain ⟨a, us, rfl, h1, h2⟩ := asS_ok w1 r1 es
        refine ⟨a, us, rfl, h1.symm, bindA rs1 w1 eb fun H2 m2 vs e2 w2 rs2 r2 => P H2 m2 _ (e1.trans e2) w2 ((h2.ext e2).append r2)⟩
/-- list(range(a, b)), tuple(range(a, b)) -/
def bRg (a b : Int) : Bool := rgB a && rgB b && decide ((b - a).toNat ≤ 16777216)
def cLRg (fa fb : Ef) : Ef := fun ρ M => (fa ρ M).bind fun p => (fb ρ p.2).bind fun q => match p.1.d, q.1.d with
  | .int i, .int j => if bRg i j = true then some (.new (rgD i (j - i).toNat), q.2) else none
  | _, _ => none
theorem rls_rg {K : PySem.W.Frag} {H : Hp} {m : List Addr} {lo hi : Int} : Rls K H m (rgD lo (hi - lo).toNat) (rgV lo hi) := by
  unfold rgD rgV
  generalize (List.range (hi - lo).toNat) = l
  induction l with
  | nil => simp [Rls]
  | cons i l ih =>
    rw [List.map_cons, List.map_cons, Rls]
    exact ⟨_, _, rfl, by rw [Rl], ih⟩
theorem ce_lrg2 {a b : Expr} {fa fb : Ef} {p2 pos2 : Pos} (hc : X.calm = true) (hg : Gl X "list") (hm : X.mg "list" = none) (hg2 : Gl X "range") (hm2 : X.mg "range" = none) (ha : CEx X a fa) (hb : CEx X b fb)
    (na : starEach [a, b] X.env = (false, eval a X.env) :: starEach [b] X.env := by rfl) (nb : starEach [b] X.env = (false, eval b X.env) :: starEach [] X.env := by rfl)
    (nr : starEach [.Call (.Name "range" p2) [a, b] [] pos2] X.env = (false, eval (.Call (.Name "range" p2) [a, b] [] pos2) X.env) :: starEach [] X.env := by rfl) (hp : (backTo pos2 (starEach [b] X.env)).any (·.1) = false := by rfl) :
    CEx X (.Call (.Name "list" p) [.Call (.Name "range" p2) [a, b] [] pos2] [] pos) (cLRg fa fb) := PE.imp (pe_listRg hc hg hm (prg_2 hg2 hm2 ha hb na nb hp) nr) fun σ H Q h => by
  obtain ⟨ρ, M, m, z, M', rs, w, hf, P⟩ := h
  unfold cLRg at hf
  cases ea : fa ρ M with
  | none => rw [ea] at hf; cases hf
  | some p =>
    cases eb : fb ρ p.2 with
    | none => simp [ea, eb] at hf
    | some q =>
      simp only [ea, eb, Option.bind_some] at hf
      refine bindE rs w ea fun H1 m1 v e1 w1 rs1 r1 => bindE rs1 w1 eb fun H2 m2 u e2 w2 rs2 r2 => ?_
      split at hf
      · rename_i i j hi hj
        split at hf
        · rename_i hb
          cases hf
          rw [hi, Rl] at r1; subst r1
          rw [hj, Rl] at r2; subst r2
          unfold bRg at hb
          simp only [Bool.and_eq_true, decide_eq_true_eq] at hb
          refine ⟨i, j, rfl, rfl, ⟨(rgB_ok hb.1.1).1, (rgB_ok hb.1.1).2, (rgB_ok hb.1.2).1, (rgB_ok hb.1.2).2, hb.2⟩, ?_⟩
          exact (P.ext (e1.trans e2)).new w2 rls_rg
        · cases hf
      · cases hf
theorem ce_lrg1 {a : Expr} {fa : Ef} {p2 pos2 : Pos} (hc : X.calm = true) (hg : Gl X "list") (hm : X.mg "list" = none) (hg2 : Gl X "range") (hm2 : X.mg "range" = none) (ha : CEx X a fa)
    (na : starEach [a] X.env = (false, eval a X.env) :: starEach [] X.env := by rfl)
    (nr : starEach [.Call (.Name "range" p2) [a] [] pos2] X.env = (false, eval (.Call (.Name "range" p2) [a] [] pos2) X.env) :: starEach [] X.env := by rfl) :
    CEx X (.Call (.Name "list" p) [.Call (.Name "range" p2) [a] [] pos2] [] pos) (cLRg (cInt 0) fa) := PE.imp (pe_listRg hc hg hm (prg_1 hg2 hm2 ha na) nr) fun σ H Q h => by
  obtain ⟨ρ, M, m, z, M', rs, w, hf, P⟩ := h
  unfold cLRg at hf
  rw [show cInt 0 ρ M = some (.val (.int 0), M) from rfl] at hf
  simp only [Option.bind_some] at hf
  cases eb : fa ρ M with
  | none => simp [eb] at hf
  | some q =>
    simp only [eb, Option.bind_some] at hf
    refine bindE rs w eb fun H2 m2 u e2 w2 rs2 r2 => ?_
    split at hf
    · rename_i i j hi hj
      split at hf
      · rename_i hb
        cases hf
        rw [hj, Rl] at r2; subst r2
        cases hi
        unfold bRg at hb
        simp only [Bool.and_eq_true, decide_eq_true_eq] at hb
        refine ⟨j, rfl, ⟨(rgB_ok hb.1.1).1, (rgB_ok hb.1.1).2, (rgB_ok hb.1.2).1, (rgB_ok hb.1.2).2, hb.2⟩, ?_⟩
        exact (P.ext e2).new w2 rls_rg
      · cases hf
    · cases hf
/-- enumerate -/
def iEnumF (f : Ef) : If := fun ρ M => (f ρ M).bind fun p => (asL p.2 p.1.d).bind fun ds => some (((List.range ds.length).zip ds).map fun q => D.tup [.int q.1, q.2], gkOf p.1.d, p.2)
end

/-! ### comprehensions whose parts change nothing -/
theorem lcF_pure {g : Gf} {tt : Tf} {te : Ef} {ρw : Slots} {M : Mem} {gk : Option Nat} {ds0 : List D} {p : D → Bool} {h : D → D} (hgd : ∀ x : O, guard gk ds0 (M ++ [x])) : ∀ (ds acc : List D), acc.length + ds.length < 16777216 →
    (∀ d ∈ ds, ∀ acc, ∃ ρ2, g d ρw (M ++ [.lst acc]) = some (ρ2, M ++ [.lst acc]) ∧ tt ρ2 (M ++ [.lst acc]) = some (p d, M ++ [.lst acc]) ∧ (p d = true → ∃ r, te ρ2 (M ++ [.lst acc]) = some (r, M ++ [.lst acc]) ∧ r.d = h d)) →
    lcF g tt te ρw M.length gk ds0 ds (M ++ [.lst acc]) = some (M ++ [.lst (acc ++ (ds.filter p).map h)])
  | [], acc, _, _ => by unfold lcF; simp
  | d :: ds, acc, hl, hd => by
    obtain ⟨ρ2, e1, e2, e3⟩ := hd d List.mem_cons_self acc
    have ih := fun acc' hl' => lcF_pure hgd ds acc' hl' fun d' h' => hd d' (List.mem_cons_of_mem _ h')
    unfold lcF
    rw [e1]
    simp only [Option.bind_some]
    rw [e2]
    simp only [Option.bind_some]
    cases hp : p d with
    | true =>
      obtain ⟨r, e4, e5⟩ := e3 hp
      simp only [if_true]
      rw [e4]
      simp only [Option.bind_some]
      rw [get_end]
      simp only
      have hz : acc.length < sizeLine := by rw [line_lt]; simp at hl; omega
      rw [if_pos hz, set_end, if_pos (hgd _), ih _ (by simp at hl ⊢; omega), e5]
      simp [hp]
    | false =>
      simp only [Bool.false_eq_true, if_false]
      rw [if_pos (hgd _), ih _ (by simp at hl ⊢; omega)]
      simp [hp]
theorem guard_app {gk : Option Nat} {ds : List D} {M : Mem} (h : guard gk ds M) (x : O) : guard gk ds (M ++ [x]) := fun k e => by
  have := h k e
  rw [List.getElem?_append_left (List.getElem?_eq_some_iff.mp this).1]; exact this
theorem nls_all {n : Nat} : ∀ {ds : List D}, (∀ d ∈ ds, nl n d = true) → nls n ds = true
  | [], _ => rfl
  | d :: ds, h => by rw [nls, h d List.mem_cons_self, nls_all fun e he => h e (List.mem_cons_of_mem _ he)]; rfl
theorem cLc_pure {it : If} {vs : List Nat} {g : Gf} {tt : Tf} {te : Ef} {ρ : Slots} {M : Mem} {gk : Option Nat} {ds : List D} (p : D → Bool) (h : D → D) (hi : it ρ M = some (ds, gk, M)) (hgd : guard gk ds M) (hl : ds.length < 16777216)
    (hd : ∀ d ∈ ds, ∀ acc, ∃ ρ2, g d (wipeD ρ vs) (M ++ [.lst acc]) = some (ρ2, M ++ [.lst acc]) ∧ tt ρ2 (M ++ [.lst acc]) = some (p d, M ++ [.lst acc]) ∧ (p d = true → ∃ r, te ρ2 (M ++ [.lst acc]) = some (r, M ++ [.lst acc]) ∧ r.d = h d))
    (hn : ∀ d ∈ ds, p d = true → nl M.length (h d) = true) : cLc it vs g tt te ρ M = some (.new ((ds.filter p).map h), M) := by
  unfold cLc
  rw [hi]
  simp only [Option.bind_some]
  rw [lcF_pure (p := p) (h := h) (guard_app hgd) ds [] (by simpa using hl) hd]
  simp only [Option.bind_some, List.nil_append]
  rw [get_end]
  simp only
  rw [if_pos]
  · simp
  · refine ⟨by simp, .inl (by simp), nls_all fun e he => ?_⟩
    obtain ⟨d, hd', rfl⟩ := List.mem_map.mp he
    obtain ⟨h1, h2⟩ := List.mem_filter.mp hd'
    exact hn d h1 h2
@[simp] theorem wipeD_nil {ρ : Slots} : wipeD ρ [] = ρ := rfl
@[simp] theorem wipeD_cons {ρ : Slots} {v : Nat} {vs : List Nat} : wipeD ρ (v :: vs) = (wipeD ρ vs).set v none := rfl
@[simp] theorem tYesF_ap {ρ : Slots} {M : Mem} : tYesF ρ M = some (true, M) := rfl
@[simp] theorem aStar'_ap {f : Ef} {g : Af} {ρ : Slots} {M : Mem} : aStar' f g ρ M = (f ρ M).bind fun p => (asS p.2 p.1.d).bind fun ds => (g ρ p.2).bind fun q => some (ds ++ q.1, q.2) := rfl
@[simp] theorem cLRg_ap {fa fb : Ef} {ρ : Slots} {M : Mem} : cLRg fa fb ρ M = (fa ρ M).bind fun p => (fb ρ p.2).bind fun q => match p.1.d, q.1.d with
  | .int i, .int j => if bRg i j = true then some (.new (rgD i (j - i).toNat), q.2) else none
  | _, _ => none := rfl
@[simp] theorem filter_true {ds : List D} : ds.filter (fun _ => true) = ds := by simp
end CI

/-! Ci13: more to reckon with -/
namespace CI
open PySem PySem.Spec PyProof.Rows L2
/-- data to a depth -/
def plD : Nat → D → Bool
  | 0, _ => false
  | n + 1, d => match d with
    | .tup ds => decide (ds.length < 10000) && ds.all (plD n)
    | .lst ds => decide (ds.length < 10000) && ds.all (plD n)
    | .scr _ => false
    | .loc _ => false
    | _ => true
theorem plD_tup {n : Nat} {ds : List D} : plD (n + 1) (.tup ds) = (decide (ds.length < 10000) && ds.all (plD n)) := rfl
theorem plD_lst {n : Nat} {ds : List D} : plD (n + 1) (.lst ds) = (decide (ds.length < 10000) && ds.all (plD n)) := rfl
theorem plD_int {n : Nat} {i : Int} : plD (n + 1) (.int i) = true := rfl
theorem plD_ints {n : Nat} {l : List Int} : (l.map D.int).all (plD (n + 1)) = true := by
  rw [List.all_eq_true]; intro x hx
  obtain ⟨i, _, rfl⟩ := List.mem_map.mp hx; rfl
theorem sm_refl {M : Mem} : ∀ (n : Nat) (d : D), plD n d = true → Sm M n d d
  | 0, _, h => by cases h
  | n + 1, d, h => by
    cases d with
    | non => exact .inl ⟨rfl, .inl rfl⟩
    | bl b => exact .inl ⟨rfl, .inr (.inl ⟨b, rfl⟩)⟩
    | int b => exact .inl ⟨rfl, .inr (.inr (.inl ⟨b, rfl⟩))⟩
    | str b => exact .inl ⟨rfl, .inr (.inr (.inr ⟨b, rfl⟩))⟩
    | scr _ => cases h
    | loc _ => cases h
    | tup ds =>
      have h : (decide (ds.length < 10000) && ds.all (plD n)) = true := h
      rw [Bool.and_eq_true] at h
      refine .inr ⟨true, ds, ds, rfl, rfl, of_decide_eq_true h.1, rfl, fun i x y hx hy => ?_⟩
      rw [hx] at hy; cases hy
      exact sm_refl n x (List.all_eq_true.mp h.2 x (List.mem_of_getElem? hx))
    | lst ds =>
      have h : (decide (ds.length < 10000) && ds.all (plD n)) = true := h
      rw [Bool.and_eq_true] at h
      refine .inr ⟨false, ds, ds, rfl, rfl, of_decide_eq_true h.1, rfl, fun i x y hx hy => ?_⟩
      rw [hx] at hy; cases hy
      exact sm_refl n x (List.all_eq_true.mp h.2 x (List.mem_of_getElem? hx))
theorem plD_mono : ∀ {n : Nat} {d : D}, plD n d = true → plD (n + 1) d = true
  | 0, _, h => by cases h
  | n + 1, d, h => by
    cases d with
    | tup ds =>
      have h : (decide (ds.length < 10000) && ds.all (plD n)) = true := h
      show (decide (ds.length < 10000) && ds.all (plD (n + 1))) = true
      rw [Bool.and_eq_true] at h ⊢
      exact ⟨h.1, List.all_eq_true.mpr fun x hx => plD_mono (List.all_eq_true.mp h.2 x hx)⟩
    | lst ds =>
      have h : (decide (ds.length < 10000) && ds.all (plD n)) = true := h
      show (decide (ds.length < 10000) && ds.all (plD (n + 1))) = true
      rw [Bool.and_eq_true] at h ⊢
      exact ⟨h.1, List.all_eq_true.mpr fun x hx => plD_mono (List.all_eq_true.mp h.2 x hx)⟩
    | scr _ => cases h
    | loc _ => cases h
    | _ => rfl
theorem sm_list {M : Mem} {n : Nat} {d e : D} {b : Bool} {ds es : List D} (h1 : sh M d = some (b, ds)) (h2 : sh M e = some (b, es)) (hl : ds.length < 10000) (he : ds.length = es.length) (h : ∀ (i : Nat) (x y : D), ds[i]? = some x → es[i]? = some y → Sm M n x y) : Sm M (n + 1) d e :=
  .inr ⟨b, ds, es, h1, h2, hl, he, h⟩
theorem sh_loc {k : Nat} {M : Mem} {ds : List D} (h : M[k]? = some (.lst ds)) : sh M (.loc k) = some (false, ds) := by
  show (match M[k]? with | some (.lst ds) => some (false, ds) | _ => none) = _
  rw [h]
/-- None or an int -/
def stD : Option Int → D
  | none => .non
  | some i => .int i
@[simp] theorem nl_stD {n : Nat} {s : Option Int} : nl n (stD s) = true := by cases s <;> simp [stD, nl]
theorem eqB_st (a b : Option Int) (M : Mem) : eqB M (stD a) (stD b) = some (decide (a = b)) := by
  cases a with
  | none =>
    cases b with
    | none => simp [stD, eqB, py, py0, PyData.eqv]; decide
    | some j => simp [stD, eqB, py, py0, PyData.eqv]; exact ⟨by decide, rfl⟩
  | some i =>
    cases b with
    | none => simp [stD, eqB, py, py0, PyData.eqv]; exact ⟨rfl, by decide⟩
    | some j => simp [stD, eqB]
theorem oEq_st (a b : Option Int) (M : Mem) : oEq (stD a) (stD b) M = some (.val (.bl (decide (a = b)))) := by
  unfold oEq; rw [eqB_st]; rfl
@[simp] theorem isNon_st {s : Option Int} : isNon (stD s) = s.isNone := by cases s <;> rfl
theorem draws4 (cell : Int) (M : Mem) : ∃ a b c d : Int, (0 ≤ a ∧ a < 1000) ∧ (0 ≤ b ∧ b < 1000) ∧ (0 ≤ c ∧ c < 1000) ∧ (0 ≤ d ∧ d < 1000) ∧ F_draws [.int cell, .int 4] M = some (.new [.int a, .int b, .int c, .int d], M) := by
  obtain ⟨rows, hl, hb, hd⟩ := draws_ok cell 4 (by decide) M
  match rows, hl with
  | [a, b, c, d], _ => exact ⟨a, b, c, d, hb a (by simp), hb b (by simp), hb c (by simp), hb d (by simp), hd⟩
end CI

/-! Ci14: tuple * int, -x, constants of the module -/
namespace CI
open PySem PySem.Spec PyProof.Rows L2
theorem tuple_mul1 (l : Addr) (items : Array Value) (n : Nat) (dd : Option Addr) (sl : Array (Option Value)) (x : Int) (u : Tok) (c0 : (decide (x < -(2 ^ 63)) || decide (x ≥ 2 ^ 63)) = false) (c1 : (items.isEmpty || x == 1) = true) :
    Meets (Builtin.«tuple.__mul__» ⟨[.ref l, .int x u], []⟩) (fun _ R s => s.heap.get? l = some { cls := .type "tuple", dict := dd, data := .seq items n, slots := sl } ∧ R (.ok (.ret (Value.ref l))) s) :=
  .of_wp fun prog w A R s h => by
    obtain ⟨hp, g, d, tk, os⟩ := s
    obtain ⟨hl, h⟩ := h
    have f1 := AutoSeq1.idx_int
    wp_walk using wpAny_loadPart' hl
    repeat (first
      | (refine wpAny_ite_false (decide_eq_false (by rw [c0]; exact Bool.false_ne_true)) ?_; wp_walk using wpAny_loadPart' hl)
      | (refine wpAny_ite_true (decide_eq_true (by rw [c1])) ?_; wp_walk using wpAny_loadPart' hl))
    exact ⟨_, rfl, h⟩
theorem tuple_mul0 (l : Addr) (items : Array Value) (n : Nat) (dd : Option Addr) (sl : Array (Option Value)) (x : Int) (u : Tok) (c0 : (decide (x < -(2 ^ 63)) || decide (x ≥ 2 ^ 63)) = false) (c1 : (items.isEmpty || x == 1) = false) (c2 : (decide (x ≤ 0) || items.isEmpty) = true) :
    Meets (Builtin.«tuple.__mul__» ⟨[.ref l, .int x u], []⟩) (fun _ R s => s.heap.get? l = some { cls := .type "tuple", dict := dd, data := .seq items n, slots := sl } ∧
      R (.ok (.ret (Value.ref s.heap.objs.size))) { s with heap := s.heap.push { cls := Value.type "tuple", data := Data.seq #[] }, toks := s.toks }) :=
  .of_wp fun prog w A R s h => by
    obtain ⟨hp, g, d, tk, os⟩ := s
    obtain ⟨hl, h⟩ := h
    have f1 := AutoSeq1.idx_int
    wp_walk using wpAny_loadPart' hl
    repeat (first
      | (refine wpAny_ite_false (decide_eq_false (by rw [c0]; exact Bool.false_ne_true)) ?_; wp_walk using wpAny_loadPart' hl)
      | (refine wpAny_ite_false (decide_eq_false (by rw [c1]; exact Bool.false_ne_true)) ?_; wp_walk using wpAny_loadPart' hl)
      | (refine wpAny_ite_true (decide_eq_true (by rw [c2])) ?_; wp_walk using wpAny_loadPart' hl))
    exact ⟨_, rfl, h⟩
section
variable {X : Cx}
def rMul1 (K : PySem.W.Frag) : R2 := fun x y H Q => ∃ l xs, x = .ref l ∧ y = .int 1 ∧ SqT K H l xs ∧ Q (.ref l) H
def rMul0 (K : PySem.W.Frag) : R2 := fun x y H Q => ∃ l k xs, x = .ref l ∧ y = .int k ∧ SqT K H l xs ∧ xs ≠ [] ∧ k ≤ 0 ∧ -1000000 < k ∧ ∀ p, H p = none → Q (.ref p) (upd H p (.tup []))
theorem op_mul1 : OpR X (binaryOp .Mult) (rMul1 X.K) := by
  intro pins s σ H x y v u Q I rx ry h
  obtain ⟨l, xs, rfl, rfl, hT, q⟩ := h
  cases rx
  obtain ⟨t, rfl⟩ := ry
  obtain ⟨its, r, ⟨⟨cls, dd, data, sl⟩, ho, hc, n, hd⟩, hs⟩ := I.tuple hT
  simp only at hc hd
  subst hc hd
  have c1 : (its.toArray.isEmpty || (1 : Int) == 1) = true := by simp
  refine wpAny_binaryOp_repeat_ref (T := "tuple") (U := "int") (by decide) ⟨_, ho, rfl⟩ (fun s' => typeIs_int s' 1 t) noFill_tuple_mul F.fills_int_mul F.slot_int_rmul repeat_tuple F.slot_int_index.lookup
    (call_meets F.slot_int_rmul (typeIs_int s 1 t) F.entry_int_rmul (F.args_int_rmul_2 _ _) (int_rmul_tuple 1 t l its.toArray n dd sl)
      ⟨ho, rfl, ⟨_, ho, rfl⟩, call_meets F.slot_tuple_mul ⟨_, ho, rfl⟩ F.entry_tuple_mul (F.args_tuple_mul_2 _ _) (tuple_mul1 l its.toArray n dd sl 1 t (by decide) c1) ⟨ho, ?_⟩⟩)
  exact ⟨.ref l, H, I, rfl, q⟩
theorem op_mul0 : OpR X (binaryOp .Mult) (rMul0 X.K) := by
  intro pins s σ H x y v u Q I rx ry h
  obtain ⟨l, k, xs, rfl, rfl, hT, hne, h1, h2, q⟩ := h
  cases rx
  obtain ⟨t, rfl⟩ := ry
  obtain ⟨its, r, ⟨⟨cls, dd, data, sl⟩, ho, hc, n, hd⟩, hs⟩ := I.tuple hT
  simp only at hc hd
  subst hc hd
  have hle : its.length = xs.length := r.length.symm
  have hn : its ≠ [] := fun e => hne (by
    rw [e] at hle
    exact List.eq_nil_of_length_eq_zero hle.symm)
  have hi : its.toArray.isEmpty = false := by
    cases its with
    | nil => exact absurd rfl hn
    | cons a b => rfl
  have c0 : (decide (k < -(2 ^ 63)) || decide (k ≥ 2 ^ 63)) = false := by
    rw [decide_eq_false (by omega), decide_eq_false (by omega)] <;> rfl
  have c1 : (its.toArray.isEmpty || k == 1) = false := by
    rw [hi, Bool.false_or]
    exact beq_eq_false_iff_ne.mpr (by omega)
  have c2 : (decide (k ≤ 0) || its.toArray.isEmpty) = true := by
    rw [decide_eq_true h1]; rfl
  refine wpAny_binaryOp_repeat_ref (T := "tuple") (U := "int") (by decide) ⟨_, ho, rfl⟩ (fun s' => typeIs_int s' k t) noFill_tuple_mul F.fills_int_mul F.slot_int_rmul repeat_tuple F.slot_int_index.lookup
    (call_meets F.slot_int_rmul (typeIs_int s k t) F.entry_int_rmul (F.args_int_rmul_2 _ _) (int_rmul_tuple k t l its.toArray n dd sl)
      ⟨ho, rfl, ⟨_, ho, rfl⟩, call_meets F.slot_tuple_mul ⟨_, ho, rfl⟩ F.entry_tuple_mul (F.args_tuple_mul_2 _ _) (tuple_mul0 l its.toArray n dd sl k t c0 c1 c2) ⟨ho, ?_⟩⟩)
  refine ⟨.ref s.heap.objs.size, _, I.laid (t' := s.toks) (o := .tup []) (fun b ob q => Heap.get?_push_of_some _ q) (Nat.le_refl _) ?_, rfl, q _ (I.hok.fresh (Nat.le_refl _))⟩
  exact ⟨by simp, _, .nil, IsTup.new _ _⟩
/-- * of ints, of a tuple and an int -/
def oMul : Bop := fun d e _ => match d, e with
  | .int i, .int j => if bMul i j = true then some (.val (.int (i * j))) else none
  | .tup ds, .int k => if ds ≠ [] ∧ -1000000 < k ∧ k ≤ 1000 ∧ ds.length ≤ 1000 then some (.val (.tup (List.replicate k.toNat ds).flatten)) else none
  | _, _ => none
theorem Rls.rep {K : PySem.W.Frag} {H : Hp} {m : List Addr} {ds : List D} {vs : List V} (h : Rls K H m ds vs) : ∀ k : Nat, Rls K H m (List.replicate k ds).flatten (List.replicate k vs).flatten
  | 0 => by simp [Rls]
  | k + 1 => by
    rw [List.replicate_succ, List.replicate_succ, List.flatten_cons, List.flatten_cons]
    exact h.append (Rls.rep h k)
theorem ok_mul : OpOk X (binaryOp .Mult) oMul := by
  refine ⟨_, op_mul.or (op_repT.or (op_mul1.or op_mul0)), fun H m M d e x y z Q w rd re ho P => ?_⟩
  unfold oMul at ho
  split at ho
  · rename_i i j
    split at ho
    · rename_i hb
      cases ho
      rw [Rl] at rd; rw [Rl] at re
      refine .inl ⟨i, j, rd, re, ?_, P.val w rl_int⟩
      unfold bMul sm64 at hb
      simp only [Bool.or_eq_true, Bool.and_eq_true, decide_eq_true_eq] at hb
      exact hb
    · cases ho
  · rename_i ds k
    split at ho
    · rename_i hc
      obtain ⟨h1, h2, h3, h4⟩ := hc
      cases ho
      have rd0 := rd
      rw [Rl] at rd; rw [Rl] at re; subst re
      obtain ⟨a, vs, rfl, hs, hr⟩ := rd
      have hv : vs ≠ [] := fun e => h1 (by subst e; exact rls_of_nil hr)
      by_cases q1 : 2 ≤ k
      · exact .inr (.inl ⟨a, k, vs, rfl, rfl, hs, hv, q1, h3, by rw [← hr.length]; exact h4, P.tup w (hr.rep _)⟩)
      · by_cases q2 : k = 1
        · subst q2
          refine .inr (.inr (.inl ⟨a, vs, rfl, rfl, hs, P.val w ?_⟩))
          simpa using rd0
        · have hk : k.toNat = 0 := by omega
          rw [hk] at P
          refine .inr (.inr (.inr ⟨a, k, vs, rfl, rfl, hs, hv, by omega, h2, ?_⟩))
          exact P.tup (ds := []) w (by rw [Rls])
    · cases ho
  · cases ho
def cNeg (f : Ef) : Ef := fun ρ M => (f ρ M).bind fun p => match p.1.d with
  | .int i => some (.val (.int (-i)), p.2)
  | _ => none
theorem ce_neg {a : Expr} {pos : Pos} {f : Ef} (ha : CEx X a f) : CEx X (.UnaryOp .USub a pos) (cNeg f) := PE.imp (pe_un un_neg ha) fun σ H Q h => by
  obtain ⟨ρ, M, m, z, M', rs, w, hf, P⟩ := h
  unfold cNeg at hf
  cases ea : f ρ M with
  | none => rw [ea] at hf; cases hf
  | some p =>
    rw [ea] at hf
    simp only [Option.bind_some] at hf
    refine bindE rs w ea fun H1 m1 v e1 w1 rs1 r1 => ?_
    split at hf
    · rename_i i hi
      cases hf
      rw [hi, Rl] at r1
      exact ⟨i, r1, (P.ext e1).val w1 rl_int⟩
    · cases hf
@[simp] theorem cNeg_ap {f : Ef} {ρ : Slots} {M : Mem} : cNeg f ρ M = (f ρ M).bind fun p => match p.1.d with
  | .int i => some (.val (.int (-i)), p.2)
  | _ => none := rfl
@[simp] theorem oMul_ints {i j : Int} {M : Mem} : oMul (.int i) (.int j) M = if bMul i j = true then some (.val (.int (i * j))) else none := rfl
end

/-! ### constants of the module: ints, texts, None, truth values, tuples of such -/
mutual
def cv (K : PySem.W.Frag) : D → Value → Bool
  | .non, .none => true
  | .bl b, .bool c => b == c
  | .int i, .int j _ => decide (i = j)
  | .str x, .str y _ => decide (x = y)
  | .tup ds, .ref a => match K.lookup a with
    | some ⟨.type c, _, .seq its _, _⟩ => decide (c = "tuple") && (decide (its.size ≤ sizeLine) && cvs K ds its.toList)
    | _ => false
  | _, _ => false
def cvs (K : PySem.W.Frag) : List D → List Value → Bool
  | [], [] => true
  | d :: ds, v :: vs => cv K d v && cvs K ds vs
  | _, _ => false
end
mutual
theorem cv_ok {K : PySem.W.Frag} : ∀ {d : D} {v : Value}, cv K d v = true → ∃ x, RelV x v ∧ ∀ H m, Rl K H m d x
  | .non, v, h => by
    cases v <;> first | (simp [cv] at h; done) | exact ⟨.non, rfl, fun _ _ => by rw [Rl]⟩
  | .bl b, v, h => by
    cases v <;> first | (simp [cv] at h; done) | (simp [cv] at h; subst h; exact ⟨.bl b, rfl, fun _ _ => by rw [Rl]⟩)
  | .int b, v, h => by
    cases v <;> first | (simp [cv] at h; done) | (simp [cv] at h; subst h; exact ⟨.int b, ⟨_, rfl⟩, fun _ _ => by rw [Rl]⟩)
  | .str b, v, h => by
    cases v <;> first | (simp [cv] at h; done) | (simp [cv] at h; subst h; exact ⟨.str b, ⟨_, rfl⟩, fun _ _ => by rw [Rl]⟩)
  | .tup ds, v, h => by
    cases v with
    | ref a =>
      rw [cv] at h
      split at h
      · rename_i c dd its n sl hk
        rw [Bool.and_eq_true, Bool.and_eq_true] at h
        obtain ⟨h1, h2, h3⟩ := h
        obtain ⟨vs, r1, r2⟩ := cvs_ok h3
        refine ⟨.ref a, rfl, fun H m => ?_⟩
        rw [Rl]
        exact ⟨a, vs, rfl, .inr ⟨_, its, n, hk, congrArg Value.type (of_decide_eq_true h1), rfl, of_decide_eq_true h2, r1⟩, r2 H m⟩
      · cases h
    | _ => simp [cv] at h
  | .lst _, v, h => by cases v <;> simp [cv] at h
  | .scr _, v, h => by cases v <;> simp [cv] at h
  | .loc _, v, h => by cases v <;> simp [cv] at h
theorem cvs_ok {K : PySem.W.Frag} : ∀ {ds : List D} {vs : List Value}, cvs K ds vs = true → ∃ xs, Vals xs vs ∧ ∀ H m, Rls K H m ds xs
  | [], vs, h => by
    cases vs with
    | nil => exact ⟨[], .nil, fun _ _ => by rw [Rls]⟩
    | cons _ _ => simp [cvs] at h
  | d :: ds, vs, h => by
    cases vs with
    | nil => simp [cvs] at h
    | cons v vs =>
      rw [cvs, Bool.and_eq_true] at h
      obtain ⟨x, r1, r2⟩ := cv_ok h.1
      obtain ⟨xs, s1, s2⟩ := cvs_ok h.2
      exact ⟨x :: xs, .cons r1 s1, fun H m => by rw [Rls]; exact ⟨_, _, rfl, r2 H m, s2 H m⟩⟩
end
def cName (K : PySem.W.Frag) (x : Str) (d : D) : Bool := match PySem.W.nsIn K mainGlobals x with
  | some (some v) => cv K d v
  | _ => false
theorem cName_ok {K : PySem.W.Frag} {h : Heap} {mg : Str → Option Value} (X : K.In h) (G : h.Ns mainGlobals mg) {x : Str} {d : D} (c : cName K x d = true) : ∃ u v, mg x = some u ∧ RelV v u ∧ ∀ H m, Rl K H m d v := by
  unfold cName at c
  split at c
  · rename_i u hu
    obtain ⟨v, r1, r2⟩ := cv_ok c
    exact ⟨u, v, PySem.W.mg_of X G hu, r1, r2⟩
  · cases c
/-! ### the head's Hook with such constants -/
abbrev Cst : Type := List (Str × D)
def csB (cs : Cst) (K : PySem.W.Frag) : Bool := cs.all fun q => cName K q.1 q.2
abbrev AlC : Type := He.AlD × Bool
def SaysC (fa : List He.Fa) (fn : List He.DefD) (cs : Cst) (K : PySem.W.Frag) : Prop := He.SaysD fa fn K ∧ csB cs K = true
def obsC (n : Nat) (fa : List He.Fa) (fn : List He.DefD) (cs : Cst) (g : Addr → Option Obj) : AlC := (He.obsD fa fn (He.frG g (He.asD g n)), csB cs (He.frG g (He.asD g n)))
def hookC (n : Nat) (fa : List He.Fa) (fn : List He.DefD) (cs : Cst) : PySem.W.Hook where
  α := AlC
  obs := fun s => obsC n fa fn cs s.heap.get?
  val := fun _ => (He.valD fn, true)
  says := fun _ h => ∃ K : PySem.W.Frag, K.In h ∧ SaysC fa fn cs K
  of := fun _ _ e => ⟨_, He.frG_in, congrArg (fun z : AlC => z.1) e, congrArg (fun z : AlC => z.2) e⟩
  keeps := fun _ _ _ ⟨K, hK, c⟩ k => ⟨K, PySem.W.Frag.In.keeps hK k, c⟩
theorem obsC_eq {n : Nat} {fa : List He.Fa} {fn : List He.DefD} {cs : Cst} {g : Addr → Option Obj} {s : Shared} (h : ∀ a, g a = s.heap.get? a) : obsC n fa fn cs g = (hookC n fa fn cs).obs s := by
  have e : g = s.heap.get? := funext h
  rw [e] <;> rfl
theorem SaysC.fact {fa : List He.Fa} {fn : List He.DefD} {cs : Cst} {K : PySem.W.Frag} (c : SaysC fa fn cs K) (i : Nat) {f : He.Fa} (h : fa[i]? = some f := by rfl) : f.ok K = true := c.1.fact i h
theorem SaysC.def_ {fa : List He.Fa} {fn : List He.DefD} {cs : Cst} {K : PySem.W.Frag} (c : SaysC fa fn cs K) (i : Nat) {d : He.DefD} (h : fn[i]? = some d := by rfl) : ∃ fd, FunD K d.name d.qual d.params d.body d.scope (d.dvs K) (d.kws K) (He.fAd K d.at_) fd := c.1.def_ i h
theorem SaysC.cst {fa : List He.Fa} {fn : List He.DefD} {cs : Cst} {K : PySem.W.Frag} (c : SaysC fa fn cs K) (i : Nat) {q : Str × D} (h : cs[i]? = some q := by rfl) : cName K q.1 q.2 = true :=
  List.all_eq_true.mp c.2 q (List.mem_of_getElem? h)
end CI

/-! Ci15: == of data with itself -/
namespace CI
open PySem PySem.Spec PyProof.Rows L2
def plS : Nat → D → Bool
  | 0, _ => false
  | n + 1, d => match d with
    | .tup ds => ds.all (plS n)
    | .lst ds => ds.all (plS n)
    | .str x => PyData.strOk x
    | .scr _ => false
    | .loc _ => false
    | _ => true
theorem plS_tup {n : Nat} {ds : List D} : plS (n + 1) (.tup ds) = ds.all (plS n) := rfl
theorem plS_lst {n : Nat} {ds : List D} : plS (n + 1) (.lst ds) = ds.all (plS n) := rfl
theorem plS_str {n : Nat} {x : Str} : plS (n + 1) (.str x) = PyData.strOk x := rfl
theorem plS_int {n : Nat} {x : Int} : plS (n + 1) (.int x) = true := rfl
theorem plS_bl {n : Nat} {x : Bool} : plS (n + 1) (.bl x) = true := rfl
theorem plS_non {n : Nat} : plS (n + 1) .non = true := rfl
theorem plS_ok : ∀ (n : Nat) (d : D), plS n d = true → ∃ p, py0 d = some p ∧ p.canLay0 = true ∧ p.depth ≤ n
  | 0, _, h => by cases h
  | n + 1, d, h => by
    have all : ∀ ds : List D, ds.all (plS n) = true → ∃ ps, py0s ds = some ps ∧ PyData.canLayAll0 ps = true ∧ PyData.depthAll ps ≤ n := by
      intro ds
      induction ds with
      | nil => intro _; exact ⟨[], rfl, rfl, Nat.zero_le _⟩
      | cons d ds ih =>
        intro h
        rw [List.all_cons, Bool.and_eq_true] at h
        obtain ⟨p, h1, h2, h3⟩ := plS_ok n d h.1
        obtain ⟨ps, g1, g2, g3⟩ := ih h.2
        refine ⟨p :: ps, by rw [py0s, h1, g1]; rfl, ?_, ?_⟩
        · rw [PyData.canLayAll0, h2, g2]; rfl
        · rw [PyData.depthAll]; exact Nat.max_le.mpr ⟨h3, g3⟩
    cases d with
    | non => exact ⟨.none, rfl, rfl, Nat.zero_le _⟩
    | bl b => exact ⟨.bool b, rfl, rfl, Nat.zero_le _⟩
    | int b => exact ⟨.int b, rfl, rfl, Nat.zero_le _⟩
    | str x => exact ⟨.str x, rfl, h, Nat.zero_le _⟩
    | scr _ => cases h
    | loc _ => cases h
    | tup ds =>
      obtain ⟨ps, h1, h2, h3⟩ := all ds h
      refine ⟨.tuple ps, by rw [py0, h1]; rfl, ?_, ?_⟩
      · rw [PyData.canLay0]; exact h2
      · rw [PyData.depth]; omega
    | lst ds =>
      obtain ⟨ps, h1, h2, h3⟩ := all ds h
      refine ⟨.list ps, by rw [py0, h1]; rfl, ?_, ?_⟩
      · rw [PyData.canLay0]; exact h2
      · rw [PyData.depth]; omega
theorem eqB_refl {M : Mem} {n : Nat} {d : D} (hn : n ≤ 64) (h : plS n d = true) : eqB M d d = some true := by
  obtain ⟨p, h1, h2, h3⟩ := plS_ok n d h
  have gen : (match d with | .loc _ => False | _ => True) → (match py M d, py M d with
    | some a, some b => if SeqAt.shaped a = true ∧ SeqAt.shaped b = true then some (PyData.eqv a b) else none
    | _, _ => none) = some true := by
    intro hd
    have hp : py M d = some p := by cases d <;> first | exact h1 | cases hd
    have sp : SeqAt.shaped p = true := by
      unfold SeqAt.shaped
      rw [h2, Bool.true_and]
      exact decide_eq_true (by omega)
    rw [hp]
    simp only [sp, and_self, if_true]
    rw [show PyData.eqv p p = true from by first | exact P3Eq.eqv_refl p h2 | exact PySem.eqv_refl p h2 | exact PyData.eqv_refl p h2 | exact SeqAt.eqv_refl p h2]
  cases d with
  | int i => unfold eqB; simp
  | str i => unfold eqB; simp
  | bl i => unfold eqB; simp
  | loc k => cases h1
  | non => exact gen trivial
  | tup ds => exact gen trivial
  | lst ds => exact gen trivial
  | scr ds => exact gen trivial
theorem oNe_refl {M : Mem} {n : Nat} {d : D} (hn : n ≤ 64) (h : plS n d = true) : oNe d d M = some (.val (.bl false)) := by
  unfold oNe; rw [eqB_refl hn h]; rfl
theorem oEq_refl {M : Mem} {n : Nat} {d : D} (hn : n ≤ 64) (h : plS n d = true) : oEq d d M = some (.val (.bl true)) := by
  unfold oEq; rw [eqB_refl hn h]; rfl
end CI

namespace K04
open PySem PySem.Spec PyProof.Rows L2 CI
noncomputable def B__law_draws : Sf :=
    (sCons (sSetM 2 (cLst aNil))
    (sCons (sSet 3 (cCB oInt (aCons (cVar 0) aNil)))
    (sCons (sIf (toB (cBin oGe (cVar 3) (cBin oPow (cInt (10)) (cInt (18)))))
    (sFor (iRg1 (cVar 1)) (gNm 5)
    (sIf (toB (cBin oGt (cVar 3) (cInt (0))))
    (sCons (sExpr (cBM "list" oAppend (cVar 2) (aCons (cBin oMod (cCB oInt (aCons (cVar 3) aNil)) (cInt (1000))) aNil)))
    (sSet 3 (cBin oDiv (cVar 3) (cInt (1000)))))
    sNil))
    sNil)
    (sCons (sSet 4 (cBin oMod (cCB oInt (aCons (cBin oAdd (cBin oMulI (cCB oInt (aCons (cVar 0) aNil)) (cInt (48271))) (cInt (11))) aNil)) (cInt (2147483647))))
    (sCons (sFor (iRg1 (cVar 1)) (gNm 5)
    (sCons (sSet 4 (cBin oMod (cCB oInt (aCons (cBin oAdd (cBin oAdd (cBin oMulI (cVar 4) (cInt (48271))) (cBin oMulI (cVar 5) (cInt (69621)))) (cInt (7))) aNil)) (cInt (2147483647))))
    (sIf (toB (cBin oLt (cCB oLen (aCons (cVar 2) aNil)) (cVar 1)))
    (sExpr (cBM "list" oAppend (cVar 2) (aCons (cBin oMod (cCB oInt (aCons (cBin oMod (cCB oInt (aCons (cBin oAdd (cBin oMulI (cVar 4) (cInt (69621))) (cInt (5))) aNil)) (cInt (2147483629))) aNil)) (cInt (1000))) aNil)))
    sNil)))
    (sRet (cVar 2)))))))
noncomputable def F__law_draws : Fn := mkFn 2 6 B__law_draws
noncomputable def B__law_state : Sf :=
    (sCons (sSet 1 (cCB oTuple (aCons (cLc (iSeq (cSl (cVar 0) (sSome (cInt (2))) (sSome (cBin oAdd (cInt (2)) (cBin oMod (cBin oIx (cVar 0) (cInt (1))) (cInt (4))))))) [5] (gNm 5) tYesF (cIf (toB (cBin oEq (cBin oMod (cVar 5) (cInt (4))) (cInt (0)))) cNon (cVar 5))) aNil)))
    (sCons (sIf (toB (cBin oEq (cBin oMod (cBin oIx (cVar 0) (cInt (1))) (cInt (20))) (cInt (19))))
    (sSet 1 (cBin oAdd (cBin oMul (cTup (aCons (cInt (5)) aNil)) (cInt (16))) (cBin oMul (cTup (aCons cNon aNil)) (cBin oMod (cBin oIx (cVar 0) (cInt (2))) (cInt (2))))))
    sNil)
    (sCons (sSet 2 (cCB oTuple (aCons (cLc (iSeq (cSl (cVar 0) (sSome (cInt (2))) (sSome (cBin oAdd (cInt (2)) (cBin oMod (cBin oIx (cVar 0) (cInt (1))) (cInt (4))))))) [5] (gNm 5) tYesF (cBin oAdd (cInt (32)) (cBin oMod (cVar 5) (cInt (95))))) aNil)))
    (sCons (sSetM 3 (cLst (aCons (cTup (aCons (cStr "ground") aNil)) (aCons (cTup (aCons (cStr "escape") aNil)) (aCons (cTup (aCons (cStr "between") aNil)) (aCons (cTup (aCons (cStr "invalid") aNil)) (aCons (cTup (aCons (cStr "command") (aCons (cVar 2) (aCons (cBin oEq (cBin oMod (cBin oIx (cVar 0) (cInt (1))) (cInt (3))) (cInt (0))) aNil)))) aNil)))))))
    (sCons (sIf (toB (cBin oEq (cBin oMod (cBin oIx (cVar 0) (cInt (1))) (cInt (20))) (cInt (18))))
    (sAsg (gIx (cVar 3) (cInt (4))) (cTup (aCons (cStr "command") (aCons (cBin oMul (cTup (aCons (cInt (65)) aNil)) (cInt (42))) (aCons (cBl false) aNil)))))
    sNil)
    (sCons (sSet 4 (cAnd (cBin oEq (cCB oLen (aCons (cVar 1) aNil)) (cInt (0))) (cBin oEq (cBin oMod (cBin oIx (cVar 0) (cInt (1))) (cInt (3))) (cInt (0)))))
    (sCons (sExpr (cBM "list" oAppend (cVar 3) (aCons (cTup (aCons (cStr "sequence") (aCons (cAnd (cBin oEq (cBin oMod (cBin oIx (cVar 0) (cInt (1))) (cInt (2))) (cInt (0))) (cNot (cVar 4))) (aCons (cVar 1) (aCons (cVar 4) aNil))))) aNil)))
    (sRet (cBin oIx (cVar 3) (cBin oMod (cBin oIx (cVar 0) (cInt (0))) (cInt (6))))))))))))
noncomputable def F__law_state : Fn := mkFn 1 6 B__law_state
noncomputable def B_scan_end : Sf :=
    (sCons (sSet 2 (cIf (toB (cBin oEq (cBin oIx (cVar 0) (cInt (0))) (cStr "invalid"))) (cInt (64)) (cInt (48))))
    (sCons (sIf (toB (cChain oLe oLe (cVar 2) (cVar 1) (cInt (126))))
    (sRet (cTup (aCons (cVal (.tup [(.str "ground")])) (aCons cNon aNil))))
    sNil)
    (sRet (cTup (aCons (cVar 0) (aCons cNon aNil))))))
noncomputable def F_scan_end : Fn := mkFn 2 3 B_scan_end
noncomputable def B_scan_ground : Sf :=
    (sCons (sIf (toB (cChain oLe oLe (cInt (127)) (cVar 0) (cInt (159))))
    (sRet (cTup (aCons (cVal (.tup [(.str "ground")])) (aCons cNon aNil))))
    sNil)
    (sRet (cTup (aCons (cVal (.tup [(.str "ground")])) (aCons (cTup (aCons (cStr "print") (aCons (cVar 0) aNil))) aNil)))))
noncomputable def F_scan_ground : Fn := mkFn 1 1 B_scan_ground
noncomputable def B_scan_escape : Sf :=
    (sCons (sIf (toB (cBin oEq (cVar 0) (cInt (91))))
    (sRet (cTup (aCons (cTup (aCons (cStr "sequence") (aCons (cBl false) (aCons (cTup aNil) (aCons (cBl true) aNil))))) (aCons cNon aNil))))
    sNil)
    (sCons (sIf (toB (cBin oEq (cVar 0) (cInt (93))))
    (sRet (cTup (aCons (cTup (aCons (cStr "command") (aCons (cTup aNil) (aCons (cBl false) aNil)))) (aCons cNon aNil))))
    sNil)
    (sCons (sIf (toB (cChain oLe oLe (cInt (32)) (cVar 0) (cInt (47))))
    (sRet (cTup (aCons (cVal (.tup [(.str "between")])) (aCons cNon aNil))))
    sNil)
    (sRet (cTup (aCons (cVal (.tup [(.str "ground")])) (aCons (cTup (aCons (cStr "escape") (aCons (cVar 0) aNil))) aNil)))))))
noncomputable def F_scan_escape : Fn := mkFn 1 1 B_scan_escape
noncomputable def B_with_next : Sf :=
    (sCons (sIf (kNot (toTr (cVar 0)))
    (sRet (cTup (aCons cNon (aCons cNon aNil))))
    sNil)
    (sCons (sIf (toB (cBin oGt (cCB oLen (aCons (cVar 0) aNil)) (cVal (.int (16)))))
    (sRet (cVar 0))
    sNil)
    (sRet (cBin oAdd (cVar 0) (cTup (aCons cNon aNil))))))
noncomputable def F_with_next : Fn := mkFn 1 1 B_with_next
noncomputable def B_with_digit : Sf :=
    (sCons (sIf (kNot (toTr (cVar 0)))
    (sRet (cTup (aCons (cVar 1) aNil)))
    sNil)
    (sCons (sIf (toB (cBin oGt (cCB oLen (aCons (cVar 0) aNil)) (cVal (.int (16)))))
    (sRet (cVar 0))
    sNil)
    (sCons (sSet 2 (cBin oIx (cVar 0) (cNeg (cInt (1)))))
    (sCons (sIf (toB (cBin (oIs false) (cVar 2) cNon))
    (sSet 2 (cInt (0)))
    sNil)
    (sRet (cBin oAdd (cSl (cVar 0) sNone (sSome (cNeg (cInt (1))))) (cTup (aCons (cCB oMin2 (aCons (cVal (.int (9999))) (aCons (cBin oAdd (cBin oMulI (cVar 2) (cInt (10))) (cVar 1)) aNil))) aNil))))))))
noncomputable def F_with_digit : Fn := mkFn 2 3 B_with_digit
noncomputable def B_scan_sequence : Sf :=
    (sCons (sAsg (gTp 4 (gsCons (gNm 2) (gsCons (gNm 3) (gsCons (gNm 4) (gsCons (gNm 5) gsNil))))) (cVar 0))
    (sCons (sIf (toB (cChain oLe oLe (cInt (64)) (cVar 1) (cInt (126))))
    (sRet (cTup (aCons (cVal (.tup [(.str "ground")])) (aCons (cTup (aCons (cStr "sequence") (aCons (cVar 3) (aCons (cSl (cVar 4) sNone (sSome (cVal (.int (16))))) (aCons (cVar 1) aNil))))) aNil))))
    sNil)
    (sCons (sIf (toB (cBin oEq (cVar 1) (cInt (127))))
    (sRet (cTup (aCons (cVar 0) (aCons cNon aNil))))
    sNil)
    (sCons (sIf (kAnd (toB (cBin oEq (cVar 1) (cInt (63)))) (toTr (cVar 5)))
    (sRet (cTup (aCons (cTup (aCons (cStr "sequence") (aCons (cBl true) (aCons (cVar 4) (aCons (cBl false) aNil))))) (aCons cNon aNil))))
    sNil)
    (sCons (sIf (toB (cBin oEq (cVar 1) (cInt (59))))
    (sRet (cTup (aCons (cTup (aCons (cStr "sequence") (aCons (cVar 3) (aCons (cCall F_with_next (aCons (cVar 4) aNil)) (aCons (cBl false) aNil))))) (aCons cNon aNil))))
    sNil)
    (sCons (sIf (toB (cChain oLe oLe (cInt (48)) (cVar 1) (cInt (57))))
    (sRet (cTup (aCons (cTup (aCons (cStr "sequence") (aCons (cVar 3) (aCons (cCall F_with_digit (aCons (cVar 4) (aCons (cBin oSub (cVar 1) (cInt (48))) aNil))) (aCons (cBl false) aNil))))) (aCons cNon aNil))))
    sNil)
    (sRet (cTup (aCons (cVal (.tup [(.str "invalid")])) (aCons cNon aNil))))))))))
noncomputable def F_scan_sequence : Fn := mkFn 2 6 B_scan_sequence
noncomputable def B_scan (R_scan : Fn) (R_scan_command : Fn) : Sf :=
    (sCons (sIf (toB (cBin oEq (cBin oIx (cVar 0) (cInt (0))) (cStr "command")))
    (sRet (cCall (R_scan_command) (aCons (cVar 0) (aCons (cVar 1) aNil))))
    sNil)
    (sCons (sIf (kOr (toB (cBin oEq (cVar 1) (cInt (24)))) (toB (cBin oEq (cVar 1) (cInt (26)))))
    (sRet (cTup (aCons (cVal (.tup [(.str "ground")])) (aCons cNon aNil))))
    sNil)
    (sCons (sIf (toB (cBin oEq (cVar 1) (cInt (27))))
    (sRet (cTup (aCons (cVal (.tup [(.str "escape")])) (aCons cNon aNil))))
    sNil)
    (sCons (sIf (toB (cBin oLt (cVar 1) (cInt (32))))
    (sRet (cTup (aCons (cVar 0) (aCons (cTup (aCons (cStr "control") (aCons (cVar 1) aNil))) aNil))))
    sNil)
    (sCons (sIf (toB (cBin oEq (cBin oIx (cVar 0) (cInt (0))) (cStr "ground")))
    (sRet (cCall F_scan_ground (aCons (cVar 1) aNil)))
    sNil)
    (sCons (sIf (toB (cBin oEq (cBin oIx (cVar 0) (cInt (0))) (cStr "escape")))
    (sRet (cCall F_scan_escape (aCons (cVar 1) aNil)))
    sNil)
    (sCons (sIf (toB (cBin oEq (cBin oIx (cVar 0) (cInt (0))) (cStr "sequence")))
    (sRet (cCall F_scan_sequence (aCons (cVar 0) (aCons (cVar 1) aNil))))
    sNil)
    (sRet (cCall F_scan_end (aCons (cVar 0) (aCons (cVar 1) aNil)))))))))))
noncomputable def B_scan_command (R_scan : Fn) (R_scan_command : Fn) : Sf :=
    (sCons (sAsg (gTp 3 (gsCons (gNm 2) (gsCons (gNm 3) (gsCons (gNm 4) gsNil)))) (cVar 0))
    (sCons (sIf (toTr (cVar 4))
    (sCons (sIf (toB (cBin oEq (cVar 1) (cInt (92))))
    (sRet (cTup (aCons (cVal (.tup [(.str "ground")])) (aCons (cTup (aCons (cStr "command") (aCons (cVar 3) aNil))) aNil))))
    sNil)
    (sRet (cCall (R_scan) (aCons (cVal (.tup [(.str "escape")])) (aCons (cVar 1) aNil)))))
    sNil)
    (sCons (sIf (kOr (toB (cBin oEq (cVar 1) (cInt (24)))) (toB (cBin oEq (cVar 1) (cInt (26)))))
    (sRet (cTup (aCons (cVal (.tup [(.str "ground")])) (aCons cNon aNil))))
    sNil)
    (sCons (sIf (toB (cBin oEq (cVar 1) (cInt (7))))
    (sRet (cTup (aCons (cVal (.tup [(.str "ground")])) (aCons (cTup (aCons (cStr "command") (aCons (cVar 3) aNil))) aNil))))
    sNil)
    (sCons (sIf (toB (cBin oEq (cVar 1) (cInt (27))))
    (sRet (cTup (aCons (cTup (aCons (cStr "command") (aCons (cVar 3) (aCons (cBl true) aNil)))) (aCons cNon aNil))))
    sNil)
    (sCons (sIf (kOr (toB (cBin oLt (cVar 1) (cInt (32)))) (kOr (toB (cChain oLe oLe (cInt (127)) (cVar 1) (cInt (159)))) (toB (cBin oGe (cCB oLen (aCons (cVar 3) aNil)) (cVal (.int (42)))))))
    (sRet (cTup (aCons (cVar 0) (aCons cNon aNil))))
    sNil)
    (sRet (cTup (aCons (cTup (aCons (cStr "command") (aCons (cBin oAdd (cVar 3) (cTup (aCons (cVar 1) aNil))) (aCons (cBl false) aNil)))) (aCons cNon aNil))))))))))
mutual
noncomputable def F_scan : Nat → Fn
  | 0 => fun _ _ => none
  | n + 1 => mkFn 2 2 (B_scan (F_scan n) (F_scan_command n))
noncomputable def F_scan_command : Nat → Fn
  | 0 => fun _ _ => none
  | n + 1 => mkFn 2 5 (B_scan_command (F_scan n) (F_scan_command n))
end
theorem F_scan_s (n : Nat) : F_scan (n + 1) = mkFn 2 2 (B_scan (F_scan n) (F_scan_command n)) := by rw [F_scan]
theorem F_scan_command_s (n : Nat) : F_scan_command (n + 1) = mkFn 2 5 (B_scan_command (F_scan n) (F_scan_command n)) := by rw [F_scan_command]
noncomputable def B__law_plain : Sf :=
    (sCons (sSet 2 (cBin oIx (cVar 0) (cInt (0))))
    (sCons (sIf (toB (cBin oEq (cVar 2) (cStr "ground")))
    (sRet (cTup (aCons (cVar 0) (aCons (cIf (toB (cChain oLe oLe (cInt (127)) (cVar 1) (cInt (159)))) cNon (cTup (aCons (cStr "print") (aCons (cVar 1) aNil)))) aNil))))
    sNil)
    (sCons (sIf (kAnd (toB (cBin oEq (cVar 2) (cStr "escape"))) (toB (cBin (oIn false) (cVar 1) (cTup (aCons (cInt (91)) (aCons (cInt (93)) aNil))))))
    (sRet (cIf (toB (cBin oEq (cVar 1) (cInt (91)))) (cTup (aCons (cTup (aCons (cStr "sequence") (aCons (cBl false) (aCons (cTup aNil) (aCons (cBl true) aNil))))) (aCons cNon aNil))) (cTup (aCons (cTup (aCons (cStr "command") (aCons (cTup aNil) (aCons (cBl false) aNil)))) (aCons cNon aNil)))))
    sNil)
    (sCons (sIf (toB (cBin oEq (cVar 2) (cStr "escape")))
    (sRet (cIf (toB (cBin oLe (cVar 1) (cInt (47)))) (cTup (aCons (cTup (aCons (cStr "between") aNil)) (aCons cNon aNil))) (cTup (aCons (cTup (aCons (cStr "ground") aNil)) (aCons (cTup (aCons (cStr "escape") (aCons (cVar 1) aNil))) aNil)))))
    sNil)
    (sCons (sIf (toB (cBin oEq (cVar 2) (cStr "between")))
    (sRet (cIf (toB (cChain oLe oLe (cInt (48)) (cVar 1) (cInt (126)))) (cTup (aCons (cTup (aCons (cStr "ground") aNil)) (aCons cNon aNil))) (cTup (aCons (cVar 0) (aCons cNon aNil)))))
    sNil)
    (sCons (sIf (toB (cBin oEq (cVar 2) (cStr "invalid")))
    (sRet (cIf (toB (cChain oLe oLe (cInt (64)) (cVar 1) (cInt (126)))) (cTup (aCons (cTup (aCons (cStr "ground") aNil)) (aCons cNon aNil))) (cTup (aCons (cVar 0) (aCons cNon aNil)))))
    sNil)
    (sCons (sAsg (gTp 3 (gsCons (gNm 3) (gsCons (gNm 4) (gsCons (gNm 5) gsNil)))) (cSl (cVar 0) (sSome (cInt (1))) sNone))
    (sCons (sIf (toB (cChain oLe oLe (cInt (64)) (cVar 1) (cInt (126))))
    (sRet (cTup (aCons (cTup (aCons (cStr "ground") aNil)) (aCons (cTup (aCons (cStr "sequence") (aCons (cVar 3) (aCons (cSl (cVar 4) sNone (sSome (cInt (16)))) (aCons (cVar 1) aNil))))) aNil))))
    sNil)
    (sCons (sIf (toB (cBin oEq (cVar 1) (cInt (127))))
    (sRet (cTup (aCons (cVar 0) (aCons cNon aNil))))
    sNil)
    (sCons (sIf (kAnd (toB (cBin oEq (cVar 1) (cInt (63)))) (toTr (cVar 5)))
    (sRet (cTup (aCons (cTup (aCons (cStr "sequence") (aCons (cBl true) (aCons (cVar 4) (aCons (cBl false) aNil))))) (aCons cNon aNil))))
    sNil)
    (sCons (sIf (kOr (kNot (toB (cChain oLe oLe (cInt (48)) (cVar 1) (cInt (59))))) (toB (cBin oEq (cVar 1) (cInt (58)))))
    (sRet (cTup (aCons (cTup (aCons (cStr "invalid") aNil)) (aCons cNon aNil))))
    sNil)
    (sCons (sIf (kAnd (toB (cBin oLt (cCB oLen (aCons (cVar 4) aNil)) (cInt (17)))) (toB (cBin oEq (cVar 1) (cInt (59)))))
    (sSet 4 (cIf (toTr (cVar 4)) (cBin oAdd (cVar 4) (cTup (aCons cNon aNil))) (cTup (aCons cNon (aCons cNon aNil)))))
    (sIf (toB (cBin oLt (cCB oLen (aCons (cVar 4) aNil)) (cInt (17))))
    (sCons (sSet 6 (cIf (kOr (kNot (toTr (cVar 4))) (toB (cBin (oIs false) (cBin oIx (cVar 4) (cNeg (cInt (1)))) cNon))) (cInt (0)) (cBin oIx (cVar 4) (cNeg (cInt (1))))))
    (sSet 4 (cBin oAdd (cSl (cVar 4) sNone (sSome (cNeg (cInt (1))))) (cTup (aCons (cCB oMin2 (aCons (cInt (9999)) (aCons (cBin oSub (cBin oAdd (cBin oMulI (cVar 6) (cInt (10))) (cVar 1)) (cInt (48))) aNil))) aNil)))))
    sNil))
    (sRet (cTup (aCons (cTup (aCons (cStr "sequence") (aCons (cVar 3) (aCons (cVar 4) (aCons (cBl false) aNil))))) (aCons cNon aNil))))))))))))))))
noncomputable def F__law_plain : Fn := mkFn 2 7 B__law_plain
noncomputable def B__law_due : Sf :=
    (sCons (sIf (kAnd (toB (cBin oEq (cBin oIx (cVar 0) (cInt (0))) (cStr "command"))) (kAnd (toTr (cBin oIx (cVar 0) (cInt (2)))) (toB (cBin oEq (cVar 1) (cInt (92))))))
    (sRet (cTup (aCons (cTup (aCons (cStr "ground") aNil)) (aCons (cTup (aCons (cStr "command") (aCons (cBin oIx (cVar 0) (cInt (1))) aNil))) aNil))))
    sNil)
    (sCons (sIf (kAnd (toB (cBin oEq (cBin oIx (cVar 0) (cInt (0))) (cStr "command"))) (toTr (cBin oIx (cVar 0) (cInt (2)))))
    (sSet 0 (cTup (aCons (cStr "escape") aNil)))
    sNil)
    (sCons (sIf (toB (cBin (oIn false) (cVar 1) (cTup (aCons (cInt (24)) (aCons (cInt (26)) aNil)))))
    (sRet (cTup (aCons (cTup (aCons (cStr "ground") aNil)) (aCons cNon aNil))))
    sNil)
    (sCons (sIf (toB (cBin oEq (cBin oIx (cVar 0) (cInt (0))) (cStr "command")))
    (sCons (sIf (toB (cBin oEq (cVar 1) (cInt (7))))
    (sRet (cTup (aCons (cTup (aCons (cStr "ground") aNil)) (aCons (cTup (aCons (cStr "command") (aCons (cBin oIx (cVar 0) (cInt (1))) aNil))) aNil))))
    sNil)
    (sCons (sIf (toB (cBin oEq (cVar 1) (cInt (27))))
    (sRet (cTup (aCons (cTup (aCons (cStr "command") (aCons (cBin oIx (cVar 0) (cInt (1))) (aCons (cBl true) aNil)))) (aCons cNon aNil))))
    sNil)
    (sCons (sIf (kOr (toB (cBin oLt (cVar 1) (cInt (32)))) (kOr (toB (cChain oLe oLe (cInt (127)) (cVar 1) (cInt (159)))) (toB (cBin oEq (cCB oLen (aCons (cBin oIx (cVar 0) (cInt (1))) aNil)) (cInt (42))))))
    (sRet (cTup (aCons (cVar 0) (aCons cNon aNil))))
    sNil)
    (sRet (cTup (aCons (cTup (aCons (cStr "command") (aCons (cBin oAdd (cBin oIx (cVar 0) (cInt (1))) (cTup (aCons (cVar 1) aNil))) (aCons (cBl false) aNil)))) (aCons cNon aNil)))))))
    sNil)
    (sCons (sIf (toB (cBin oEq (cVar 1) (cInt (27))))
    (sRet (cTup (aCons (cTup (aCons (cStr "escape") aNil)) (aCons cNon aNil))))
    sNil)
    (sCons (sIf (toB (cBin oLt (cVar 1) (cInt (32))))
    (sRet (cTup (aCons (cVar 0) (aCons (cTup (aCons (cStr "control") (aCons (cVar 1) aNil))) aNil))))
    sNil)
    (sRet (cCall F__law_plain (aCons (cVar 0) (aCons (cVar 1) aNil))))))))))
noncomputable def F__law_due : Fn := mkFn 2 2 B__law_due
noncomputable def B_law : Sf :=
    (sCons (sFor (iSeq (cVar 0)) (gNm 1)
    (sCons (sSet 2 (cCall F__law_draws (aCons (cVar 1) (aCons (cInt (10)) aNil))))
    (sCons (sSet 3 (cCall F__law_state (aCons (cVar 2) aNil)))
    (sCons (sSet 4 (cBin oMod (cBin oIx (cVar 2) (cInt (7))) (cInt (256))))
    (sCons (sIf (toB (cBin oEq (cBin oMod (cBin oIx (cVar 2) (cInt (8))) (cInt (2))) (cInt (0))))
    (sSet 4 (cBin oIx (cLst (aCons (cInt (24)) (aCons (cInt (26)) (aCons (cInt (27)) (aCons (cInt (7)) (aCons (cInt (8)) (aCons (cInt (0)) (aCons (cInt (31)) (aCons (cInt (32)) (aCons (cInt (47)) (aCons (cInt (48)) (aCons (cInt (57)) (aCons (cInt (58)) (aCons (cInt (59)) (aCons (cInt (63)) (aCons (cInt (64)) (aCons (cInt (91)) (aCons (cInt (92)) (aCons (cInt (93)) (aCons (cInt (126)) (aCons (cInt (127)) (aCons (cInt (159)) (aCons (cInt (160)) aNil))))))))))))))))))))))) (cBin oMod (cBin oIx (cVar 2) (cInt (7))) (cInt (22)))))
    sNil)
    (sIf (toB (cBin oNe (cCall (F_scan 8) (aCons (cVar 3) (aCons (cVar 4) aNil))) (cCall F__law_due (aCons (cVar 3) (aCons (cVar 4) aNil)))))
    (sRet (cBl false))
    sNil))))))
    (sRet (cBl true)))
noncomputable def F_law : Fn := mkFn 1 5 B_law
end K04
namespace K04
open PySem PySem.Spec PyProof.Rows L2 CI
theorem draws_eq : F__law_draws = F_draws := rfl
abbrev gG : D := .tup [.str "ground"]
abbrev gE : D := .tup [.str "escape"]
abbrev gB : D := .tup [.str "between"]
abbrev gI : D := .tup [.str "invalid"]
abbrev pr (a b : D) : D := .tup [a, b]
abbrev ev (s : Str) (c : Int) : D := .tup [.str s, .int c]
inductive Sk where
  | ground | escape | between | invalid | command (t : List D) (e : Bool) | seq (p : Bool) (ns : List D) (f : Bool)
def Sk.d : Sk → D
  | .ground => gG | .escape => gE | .between => gB | .invalid => gI
  | .command t e => .tup [.str "command", .tup t, .bl e]
  | .seq p ns f => .tup [.str "sequence", .bl p, .tup ns, .bl f]
def seqD (p : Bool) (ns : List D) (f : Bool) : D := .tup [.str "sequence", .bl p, .tup ns, .bl f]
def cmdD (t : List D) (e : Bool) : D := .tup [.str "command", .tup t, .bl e]
/-- the last number, None as 0 -/
def lastI (ns : List D) : Int := match ns.getLast? with
  | some (.int i) => i
  | _ => 0
def digN (ns : List D) (k : Int) : List D := if ns.length ≤ 16 then ns.dropLast ++ [.int (if lastI ns * 10 + k < 9999 then lastI ns * 10 + k else 9999)] else ns
def nxtN (ns : List D) : List D := if ns = [] then [.non, .non] else if ns.length ≤ 16 then ns ++ [.non] else ns
def spP : Sk → Int → D
  | .ground, c => if 127 ≤ c ∧ c ≤ 159 then pr gG .non else pr gG (ev "print" c)
  | .escape, c => if c = 91 then pr (seqD false [] true) .non else if c = 93 then pr (cmdD [] false) .non else if c ≤ 47 then pr gB .non else pr gG (ev "escape" c)
  | .between, c => if 48 ≤ c ∧ c ≤ 126 then pr gG .non else pr gB .non
  | .invalid, c => if 64 ≤ c ∧ c ≤ 126 then pr gG .non else pr gI .non
  | .seq p ns f, c => if 64 ≤ c ∧ c ≤ 126 then pr gG (.tup [.str "sequence", .bl p, .tup (ns.take 16), .int c]) else if c = 127 then pr (seqD p ns f) .non else if c = 63 ∧ f = true then pr (seqD true ns false) .non
      else if c = 59 then pr (seqD p (nxtN ns) false) .non else if 48 ≤ c ∧ c ≤ 57 then pr (seqD p (digN ns (c - 48)) false) .non else pr gI .non
  | .command t e, _ => .non
def spN (s : Sk) (c : Int) : D := if c = 24 ∨ c = 26 then pr gG .non else if c = 27 then pr gE .non else if c < 32 then pr s.d (ev "control" c) else spP s c
def spec : Sk → Int → D
  | .command t true, c => if c = 92 then pr gG (.tup [.str "command", .tup t]) else spN .escape c
  | .command t false, c => if c = 24 ∨ c = 26 then pr gG .non else if c = 7 then pr gG (.tup [.str "command", .tup t]) else if c = 27 then pr (cmdD t true) .non
      else if c < 32 ∨ (127 ≤ c ∧ c ≤ 159) ∨ 42 ≤ t.length then pr (cmdD t false) .non else pr (cmdD (t ++ [.int c]) false) .non
  | s, c => spN s c
theorem ground_eq (c : Int) (M : Mem) : F_scan_ground [.int c] M = some (.val (spP .ground c), M) := by
  unfold F_scan_ground mkFn B_scan_ground
  by_cases h1 : 127 ≤ c <;> by_cases h2 : c ≤ 159 <;> simp -implicitDefEqProofs [spP, h1, h2]
theorem escape_eq (c : Int) (h : 32 ≤ c) (M : Mem) : F_scan_escape [.int c] M = some (.val (spP .escape c), M) := by
  unfold F_scan_escape mkFn B_scan_escape
  by_cases h1 : c = 91
  · simp -implicitDefEqProofs [spP, h1, seqD]
  · by_cases h2 : c = 93
    · simp -implicitDefEqProofs [spP, h2, cmdD]
    · by_cases h3 : c ≤ 47 <;> simp -implicitDefEqProofs [spP, h1, h2, h3, h]
theorem ix0 {x : D} {xs : List D} {M : Mem} : oIx (.tup (x :: xs)) (.int 0) M = some (.val x) := oIx_of (d := .tup (x :: xs)) (i := 0) rfl rfl
theorem sne (a b : Str) (h : a ≠ b) : decide (a = b) = false := decide_eq_false h
theorem between_eq (c : Int) (M : Mem) : F_scan_end [gB, .int c] M = some (.val (spP .between c), M) := by
  have e : (Str.ofString "between" = Str.ofString "invalid") = False := by simp; decide
  unfold F_scan_end mkFn B_scan_end
  by_cases h1 : 48 ≤ c <;> by_cases h2 : c ≤ 126 <;> simp -implicitDefEqProofs [spP, h1, h2, ix0, e]
theorem invalid_eq (c : Int) (M : Mem) : F_scan_end [gI, .int c] M = some (.val (spP .invalid c), M) := by
  unfold F_scan_end mkFn B_scan_end
  by_cases h1 : 64 ≤ c <;> by_cases h2 : c ≤ 126 <;> simp -implicitDefEqProofs [spP, h1, h2, ix0]
/-- numbers: None or ints -/
def Nums (ns : List D) : Prop := ∀ d ∈ ns, d = .non ∨ ∃ i, d = .int i
theorem trD_tup {ds : List D} {M : Mem} : trD M (.tup ds) = some (!ds.isEmpty) := rfl
theorem next_eq (ns : List D) (hl : ns.length < 1000) (M : Mem) : F_with_next [.tup ns] M = some (.val (.tup (nxtN ns)), M) := by
  unfold F_with_next mkFn B_with_next
  cases ns with
  | nil => simp -implicitDefEqProofs [nxtN, trD_tup]
  | cons x xs =>
    simp only [List.length_cons] at hl
    by_cases h : xs.length + 1 ≤ 16
    · have h' : ¬ ((16 : Int) < (xs.length : Int) + 1) := by omega
      have h2 : xs.length + 1 + 1 ≤ 16777216 := by omega
      simp -implicitDefEqProofs [nxtN, trD_tup, h, h', h2]
    · have h' : (16 : Int) < (xs.length : Int) + 1 := by omega
      simp -implicitDefEqProofs [nxtN, trD_tup, h, h']
theorem ix_last {x : D} {xs : List D} {M : Mem} : oIx (.tup (xs ++ [x])) (.int (-1)) M = some (.val x) := by
  have e : ((asS M (.tup (xs ++ [x]))).bind fun ds => (L2.atI ds (-1)).bind fun x => some (Rz.val x)) = some (.val x) := by
    rw [asS_tup]
    simp only [Option.bind_some]
    rw [atI_last]; rfl
  exact e
theorem cut_init {x : D} {xs : List D} : CI.cutD (xs ++ [x]) none (some (-1)) = xs := by
  have e1 : HT.sIx (xs ++ [x]).length 0 none = 0 := rfl
  have e2 : HT.sIx (xs ++ [x]).length (xs ++ [x]).length (some (-1)) = xs.length := by
    simp [HT.sIx]
    omega
  unfold CI.cutD
  rw [e1, e2]
  simp
theorem digit_eq (ns : List D) (hn : Nums ns) (k : Int) (hk : 0 ≤ k ∧ k ≤ 9) (hl : ns.length < 1000) (M : Mem) : F_with_digit [.tup ns, .int k] M = some (.val (.tup (digN ns k)), M) := by
  unfold F_with_digit mkFn B_with_digit
  rcases List.eq_nil_or_concat ns with rfl | ⟨xs, x, rfl⟩
  · have e : ¬ (9999 : Int) < k := by omega
    have e2 : k < 9999 := by omega
    simp -implicitDefEqProofs [digN, trD_tup, lastI, e2]
  · rw [List.concat_eq_append] at hl hn ⊢
    have hne : ((xs ++ [x]).isEmpty) = false := by cases xs <;> rfl
    have hll : (xs ++ [x]).length = xs.length + 1 := by simp
    by_cases h : xs.length + 1 ≤ 16
    · have h' : ¬ ((16 : Int) < (xs.length : Int) + 1) := by omega
      have h2 : xs.length + 1 ≤ 16777216 := by omega
      have sl : ∀ M, oSl none (some (-1)) (.tup (xs ++ [x])) M = some (.val (.tup xs)) := fun M => by
        show some (Rz.val (.tup (CI.cutD (xs ++ [x]) none (some (-1))))) = _
        rw [cut_init]
      have hx := hn x (by simp)
      rcases hx with rfl | ⟨i, rfl⟩
      · by_cases h9 : k < 9999
        · simp -implicitDefEqProofs [digN, trD_tup, hne, hll, h, h', ix_last, sl, h2, lastI, oMin2, h9]
        · omega
      · by_cases h9 : i * 10 + k < 9999
        · simp -implicitDefEqProofs [digN, trD_tup, hne, hll, h, h', ix_last, sl, h2, lastI, oMin2, h9]
        · simp -implicitDefEqProofs [digN, trD_tup, hne, hll, h, h', ix_last, sl, h2, lastI, oMin2, h9]
    · have h' : (16 : Int) < (xs.length : Int) + 1 := by omega
      simp -implicitDefEqProofs [digN, trD_tup, hne, hll, h, h']
theorem take_sl (ns : List D) (M : Mem) : oSl none (some 16) (.tup ns) M = some (.val (.tup (ns.take 16))) := by
  have e1 : HT.sIx ns.length 0 none = 0 := rfl
  have e2 : HT.sIx ns.length ns.length (some 16) = min 16 ns.length := by
    simp [HT.sIx]
  show some (Rz.val (.tup (CI.cutD ns none (some 16)))) = _
  unfold CI.cutD
  rw [e1, e2]
  simp
theorem seq_eq (p : Bool) (ns : List D) (f : Bool) (hn : Nums ns) (hl : ns.length < 1000) (c : Int) (M : Mem) : F_scan_sequence [(Sk.seq p ns f).d, .int c] M = some (.val (spP (.seq p ns f) c), M) := by
  unfold F_scan_sequence mkFn B_scan_sequence
  have ts := take_sl ns
  have dq := fun h M => digit_eq ns hn (c - 48) h hl M
  by_cases h1 : 64 ≤ c ∧ c ≤ 126
  · have a := h1.1; have b := h1.2
    simp -implicitDefEqProofs [spP, Sk.d, seqD, sAsg, gTp, gsCons, gsNil, a, b, ts]
  · by_cases h2 : c = 127
    · subst h2
      simp -implicitDefEqProofs [spP, Sk.d, seqD, sAsg, gTp, gsCons, gsNil]
    · have hn1 : (decide (64 ≤ c) && decide (c ≤ 126)) = false := by
        rw [Bool.and_eq_false_iff]
        by_cases q : 64 ≤ c
        · right; exact decide_eq_false (by omega)
        · left; exact decide_eq_false q
      have ch : ∀ ρ M, slot ρ 1 = some (.int c) → cChain oLe oLe (cInt 64) (cVar 1) (cInt 126) ρ M = some (.val (.bl false), M) := fun ρ M hs => by
        by_cases q : 64 ≤ c
        · have q2 : ¬ c ≤ 126 := by omega
          simp -implicitDefEqProofs [hs, q, q2]
        · simp -implicitDefEqProofs [hs, q]
      by_cases h3 : c = 63
      · subst h3
        cases f <;> simp -implicitDefEqProofs [spP, Sk.d, seqD, sAsg, gTp, gsCons, gsNil, trD_bl]
      · by_cases h4 : c = 59
        · subst h4
          simp -implicitDefEqProofs [spP, Sk.d, seqD, sAsg, gTp, gsCons, gsNil, next_eq ns hl]
        · by_cases h5 : 48 ≤ c ∧ c ≤ 57
          · have a := h5.1; have b := h5.2
            have a1 : ¬ 64 ≤ c := by omega
            have dq := dq ⟨by omega, by omega⟩
            simp -implicitDefEqProofs [spP, Sk.d, seqD, sAsg, gTp, gsCons, gsNil, a, b, a1, h2, h3, h4, dq]
          · by_cases q : 64 ≤ c
            · have q2 : ¬ c ≤ 126 := by omega
              have q3 : 48 ≤ c := by omega
              have q4 : ¬ c ≤ 57 := by omega
              simp -implicitDefEqProofs [spP, Sk.d, seqD, sAsg, gTp, gsCons, gsNil, q, q2, q3, q4, h2, h3, h4]
            · by_cases q3 : 48 ≤ c
              · have q4 : ¬ c ≤ 57 := by omega
                simp -implicitDefEqProofs [spP, Sk.d, seqD, sAsg, gTp, gsCons, gsNil, q, q3, q4, h2, h3, h4]
              · simp -implicitDefEqProofs [spP, Sk.d, seqD, sAsg, gTp, gsCons, gsNil, q, q3, h2, h3, h4]
def okS : Sk → Prop
  | .seq _ ns _ => Nums ns ∧ ns.length < 1000
  | .command t _ => t.length < 1000
  | _ => True
theorem scanN (s : Sk) (hs : okS s) (hc : ∀ t e, s ≠ .command t e) (c : Int) (h0 : 0 ≤ c) (n : Nat) (M : Mem) : F_scan (n + 1) [s.d, .int c] M = some (.val (spN s c), M) := by
  have n1 : (Str.ofString "ground" = Str.ofString "command") = False := by simp; decide
  have n2 : (Str.ofString "escape" = Str.ofString "command") = False := by simp; decide
  have n3 : (Str.ofString "between" = Str.ofString "command") = False := by simp; decide
  have n4 : (Str.ofString "invalid" = Str.ofString "command") = False := by simp; decide
  have n5 : (Str.ofString "sequence" = Str.ofString "command") = False := by simp; decide
  have m2 : (Str.ofString "escape" = Str.ofString "ground") = False := by simp; decide
  have m3 : (Str.ofString "between" = Str.ofString "ground") = False := by simp; decide
  have m4 : (Str.ofString "invalid" = Str.ofString "ground") = False := by simp; decide
  have m5 : (Str.ofString "sequence" = Str.ofString "ground") = False := by simp; decide
  have k3 : (Str.ofString "between" = Str.ofString "escape") = False := by simp; decide
  have k4 : (Str.ofString "invalid" = Str.ofString "escape") = False := by simp; decide
  have k5 : (Str.ofString "sequence" = Str.ofString "escape") = False := by simp; decide
  have j3 : (Str.ofString "between" = Str.ofString "sequence") = False := by simp; decide
  have j4 : (Str.ofString "invalid" = Str.ofString "sequence") = False := by simp; decide
  rw [F_scan_s]
  unfold mkFn B_scan
  have key : ∀ (x : D) (xs : List D) (sx : Str), s.d = .tup (.str sx :: xs) → (sx = Str.ofString "command") = False →
      (32 ≤ c → c ≠ 27 → ∀ M, (sCons (sIf (toB (cBin oEq (cBin oIx (cVar 0) (cInt (0))) (cStr "ground")))
    (sRet (cCall F_scan_ground (aCons (cVar 1) aNil)))
    sNil)
    (sCons (sIf (toB (cBin oEq (cBin oIx (cVar 0) (cInt (0))) (cStr "escape")))
    (sRet (cCall F_scan_escape (aCons (cVar 1) aNil)))
    sNil)
    (sCons (sIf (toB (cBin oEq (cBin oIx (cVar 0) (cInt (0))) (cStr "sequence")))
    (sRet (cCall F_scan_sequence (aCons (cVar 0) (aCons (cVar 1) aNil))))
    sNil)
    (sRet (cCall F_scan_end (aCons (cVar 0) (aCons (cVar 1) aNil))))))) [some s.d, some (.int c)] M = some (.rt (.val (spP s c)), [some s.d, some (.int c)], M)) →
      (match (sCons (sIf (toB (cBin oEq (cBin oIx (cVar 0) (cInt (0))) (cStr "command")))
    (sRet (cCall (F_scan_command n) (aCons (cVar 0) (aCons (cVar 1) aNil))))
    sNil)
    (sCons (sIf (kOr (toB (cBin oEq (cVar 1) (cInt (24)))) (toB (cBin oEq (cVar 1) (cInt (26)))))
    (sRet (cTup (aCons (cVal (.tup [(.str "ground")])) (aCons cNon aNil))))
    sNil)
    (sCons (sIf (toB (cBin oEq (cVar 1) (cInt (27))))
    (sRet (cTup (aCons (cVal (.tup [(.str "escape")])) (aCons cNon aNil))))
    sNil)
    (sCons (sIf (toB (cBin oLt (cVar 1) (cInt (32))))
    (sRet (cTup (aCons (cVar 0) (aCons (cTup (aCons (cStr "control") (aCons (cVar 1) aNil))) aNil))))
    sNil)
    (sCons (sIf (toB (cBin oEq (cBin oIx (cVar 0) (cInt (0))) (cStr "ground")))
    (sRet (cCall F_scan_ground (aCons (cVar 1) aNil)))
    sNil)
    (sCons (sIf (toB (cBin oEq (cBin oIx (cVar 0) (cInt (0))) (cStr "escape")))
    (sRet (cCall F_scan_escape (aCons (cVar 1) aNil)))
    sNil)
    (sCons (sIf (toB (cBin oEq (cBin oIx (cVar 0) (cInt (0))) (cStr "sequence")))
    (sRet (cCall F_scan_sequence (aCons (cVar 0) (aCons (cVar 1) aNil))))
    sNil)
    (sRet (cCall F_scan_end (aCons (cVar 0) (aCons (cVar 1) aNil))))))))))) [some s.d, some (.int c)] M with
      | some (.rt r, _, Me) => some (CI.finish M r Me) | some (.nx, _, Me) => some (CI.finish M (.val .non) Me) | _ => none) = some (.val (spN s c), M) := by
    intro x xs sx hd hcm hrest
    by_cases h1 : c = 24
    · simp -implicitDefEqProofs [spN, hd, ix0, hcm, h1]
    · by_cases h2 : c = 26
      · simp -implicitDefEqProofs [spN, hd, ix0, hcm, h2]
      · by_cases h3 : c = 27
        · simp -implicitDefEqProofs [spN, hd, ix0, hcm, h3]
        · by_cases h4 : c < 32
          · simp -implicitDefEqProofs [spN, hd, ix0, hcm, h1, h2, h3, h4]
          · have hr := hrest (by omega) h3 M
            rw [hd] at hr
            rw [sCons_ap, sIf_ap, toB_ap, cBin_ap, cBin_ap]
            have e0 : spN s c = spP s c := by unfold spN; rw [if_neg (by omega), if_neg h3, if_neg h4]
            rw [e0]
            simp -implicitDefEqProofs only [hd, cVar_ap, slot_zero, slot_succ, Option.bind_some, Rz_d_val, cVal_ap, ix0, oEq_str, hcm, decide_false, Bool.false_eq_true, if_false, sNil_ap]
            rw [sCons_ap, sIf_ap, kOr_ap, toB_ap, cBin_ap]
            simp -implicitDefEqProofs only [cVar_ap, slot_zero, slot_succ, Option.bind_some, Rz_d_val, cVal_ap, oEq_int, h1, h2, toB_ap, cBin_ap, decide_false, Bool.false_eq_true, if_false, sNil_ap]
            rw [sCons_ap, sIf_ap, toB_ap, cBin_ap]
            simp -implicitDefEqProofs only [cVar_ap, slot_zero, slot_succ, Option.bind_some, Rz_d_val, cVal_ap, oEq_int, h3, toB_ap, cBin_ap, decide_false, Bool.false_eq_true, if_false, sNil_ap]
            rw [sCons_ap, sIf_ap, toB_ap, cBin_ap]
            simp -implicitDefEqProofs only [cVar_ap, slot_zero, slot_succ, Option.bind_some, Rz_d_val, cVal_ap, oLt_int, h4, toB_ap, cBin_ap, decide_false, Bool.false_eq_true, if_false, sNil_ap]
            rw [hr]
            simp only [finish_same]
  simp only [List.length_cons, List.length_nil, Nat.reduceAdd, Nat.zero_add, if_true, List.map_cons, List.map_nil, Nat.sub_self, List.replicate_zero, List.append_nil]
  cases s with
  | ground => exact key .non [] "ground" rfl n1 fun h h' M => by simp -implicitDefEqProofs [Sk.d, ix0, ground_eq]
  | escape => exact key .non [] "escape" rfl n2 fun h h' M => by simp -implicitDefEqProofs [Sk.d, ix0, m2, escape_eq c h]
  | between => exact key .non [] "between" rfl n3 fun h h' M => by simp -implicitDefEqProofs [Sk.d, ix0, m3, k3, j3, between_eq]
  | invalid => exact key .non [] "invalid" rfl n4 fun h h' M => by simp -implicitDefEqProofs [Sk.d, ix0, m4, k4, j4, invalid_eq]
  | command t e => exact absurd rfl (hc t e)
  | seq p ns f =>
    have q := fun M => seq_eq p ns f hs.1 hs.2 c M
    unfold Sk.d at q
    exact key .non [.bl p, .tup ns, .bl f] "sequence" rfl n5 fun h h' M => by simp -implicitDefEqProofs [Sk.d, ix0, m5, k5, q]
theorem scan_eq (s : Sk) (hs : okS s) (c : Int) (h0 : 0 ≤ c) (M : Mem) : F_scan 8 [s.d, .int c] M = some (.val (spec s c), M) := by
  cases s with
  | ground => exact scanN .ground hs (fun _ _ h => by cases h) c h0 7 M
  | escape => exact scanN .escape hs (fun _ _ h => by cases h) c h0 7 M
  | between => exact scanN .between hs (fun _ _ h => by cases h) c h0 7 M
  | invalid => exact scanN .invalid hs (fun _ _ h => by cases h) c h0 7 M
  | seq p ns f => exact scanN (.seq p ns f) hs (fun _ _ h => by cases h) c h0 7 M
  | command t e =>
    have hl : t.length < 1000 := hs
    have sn := fun M => scanN .escape trivial (fun _ _ h => by cases h) c h0 6 M
    have sn : ∀ M, F_scan 7 [gE, .int c] M = some (.val (spN .escape c), M) := sn
    have cm : F_scan_command 7 [(Sk.command t e).d, .int c] M = some (.val (spec (.command t e) c), M) := by
      have sn6 : ∀ M, F_scan 6 [gE, .int c] M = some (.val (spN .escape c), M) := fun M => scanN .escape trivial (fun _ _ h => by cases h) c h0 5 M
      rw [F_scan_command_s]
      unfold mkFn B_scan_command
      cases e with
      | true =>
        by_cases h : c = 92
        · simp -implicitDefEqProofs [Sk.d, spec, sAsg, gTp, gsCons, gsNil, trD_bl, h]
        · simp -implicitDefEqProofs [Sk.d, spec, sAsg, gTp, gsCons, gsNil, trD_bl, h, sn6]
      | false =>
        by_cases h1 : c = 24
        · simp -implicitDefEqProofs [Sk.d, spec, sAsg, gTp, gsCons, gsNil, trD_bl, h1]
        by_cases h2 : c = 26
        · simp -implicitDefEqProofs [Sk.d, spec, sAsg, gTp, gsCons, gsNil, trD_bl, h2]
        by_cases h3 : c = 7
        · simp -implicitDefEqProofs [Sk.d, spec, sAsg, gTp, gsCons, gsNil, trD_bl, h3]
        by_cases h4 : c = 27
        · simp -implicitDefEqProofs [Sk.d, spec, sAsg, gTp, gsCons, gsNil, trD_bl, h4, cmdD]
        by_cases h5 : c < 32
        · simp -implicitDefEqProofs [Sk.d, spec, sAsg, gTp, gsCons, gsNil, trD_bl, h1, h2, h3, h4, h5, cmdD]
        by_cases h6 : 127 ≤ c ∧ c ≤ 159
        · have a := h6.1; have b := h6.2
          simp -implicitDefEqProofs [Sk.d, spec, sAsg, gTp, gsCons, gsNil, trD_bl, h1, h2, h3, h4, h5, a, b, cmdD]
        have fin : ∀ (g1 : ∀ ρ M, slot ρ 1 = some (.int c) → cChain oLe oLe (cInt 127) (cVar 1) (cInt 159) ρ M = some (.val (.bl false), M)), True := fun _ => trivial
        by_cases h7 : 42 ≤ t.length
        · have b7 : (42 : Int) ≤ (t.length : Int) := by omega
          by_cases q : 127 ≤ c
          · have q2 : ¬ c ≤ 159 := by omega
            simp -implicitDefEqProofs [Sk.d, spec, sAsg, gTp, gsCons, gsNil, trD_bl, h1, h2, h3, h4, h5, q, q2, h7, b7, cmdD]
          · simp -implicitDefEqProofs [Sk.d, spec, sAsg, gTp, gsCons, gsNil, trD_bl, h1, h2, h3, h4, h5, q, h7, b7, cmdD]
        · have b7 : ¬ (42 : Int) ≤ (t.length : Int) := by omega
          have ln : t.length + 1 ≤ 16777216 := by omega
          by_cases q : 127 ≤ c
          · have q2 : ¬ c ≤ 159 := by omega
            simp -implicitDefEqProofs [Sk.d, spec, sAsg, gTp, gsCons, gsNil, trD_bl, h1, h2, h3, h4, h5, q, q2, h7, b7, ln, cmdD]
          · simp -implicitDefEqProofs [Sk.d, spec, sAsg, gTp, gsCons, gsNil, trD_bl, h1, h2, h3, h4, h5, q, h7, b7, ln, cmdD]
    unfold Sk.d at cm
    rw [F_scan_s]
    unfold mkFn B_scan
    simp -implicitDefEqProofs [Sk.d, ix0, cm]
theorem in2 (c a b : Int) (M : Mem) : oIn false (.int c) (.tup [.int a, .int b]) M = some (.val (.bl (decide (c = a ∨ c = b)))) := by
  have e : inD (.int c) [.int a, .int b] = decide (c = a ∨ c = b) := by
    unfold inD
    simp only [List.any_cons, List.any_nil, eqF, Bool.or_false]
    rw [Bool.eq_iff_iff]
    simp only [Bool.or_eq_true, beq_iff_eq, decide_eq_true_eq]
    constructor <;> (rintro (h | h) <;> simp [h])
  unfold oIn
  simp only [asS_tup, Option.bind_some, fl, List.all_cons, List.all_nil, Bool.and_self, and_self, if_true, e]
  rfl
theorem plain_g (c : Int) (M : Mem) : F__law_plain [gG, .int c] M = some (.val (spP .ground c), M) := by
  unfold F__law_plain mkFn B__law_plain
  by_cases h1 : 127 ≤ c <;> by_cases h2 : c ≤ 159 <;> simp -implicitDefEqProofs [spP, h1, h2, ix0]
theorem plain_e (c : Int) (h : 32 ≤ c) (M : Mem) : F__law_plain [gE, .int c] M = some (.val (spP .escape c), M) := by
  have e : (Str.ofString "escape" = Str.ofString "ground") = False := by simp; decide
  unfold F__law_plain mkFn B__law_plain
  by_cases h1 : c = 91
  · simp -implicitDefEqProofs [spP, h1, ix0, e, in2, seqD]
  by_cases h2 : c = 93
  · simp -implicitDefEqProofs [spP, h2, ix0, e, in2, cmdD]
  by_cases h3 : c ≤ 47 <;> simp -implicitDefEqProofs [spP, h1, h2, h3, ix0, e, in2]
theorem plain_b (c : Int) (M : Mem) : F__law_plain [gB, .int c] M = some (.val (spP .between c), M) := by
  have e : (Str.ofString "between" = Str.ofString "ground") = False := by simp; decide
  have e2 : (Str.ofString "between" = Str.ofString "escape") = False := by simp; decide
  unfold F__law_plain mkFn B__law_plain
  by_cases h1 : 48 ≤ c <;> by_cases h2 : c ≤ 126 <;> simp -implicitDefEqProofs [spP, h1, h2, ix0, e, e2]
theorem plain_i (c : Int) (M : Mem) : F__law_plain [gI, .int c] M = some (.val (spP .invalid c), M) := by
  have e : (Str.ofString "invalid" = Str.ofString "ground") = False := by simp; decide
  have e2 : (Str.ofString "invalid" = Str.ofString "escape") = False := by simp; decide
  have e3 : (Str.ofString "invalid" = Str.ofString "between") = False := by simp; decide
  unfold F__law_plain mkFn B__law_plain
  by_cases h1 : 64 ≤ c <;> by_cases h2 : c ≤ 126 <;> simp -implicitDefEqProofs [spP, h1, h2, ix0, e, e2, e3]
theorem plain_s (p : Bool) (ns : List D) (f : Bool) (hn : Nums ns) (hl : ns.length < 1000) (c : Int) (h32 : 32 ≤ c) (M : Mem) : F__law_plain [(Sk.seq p ns f).d, .int c] M = some (.val (spP (.seq p ns f) c), M) := by
  have e1 : (Str.ofString "sequence" = Str.ofString "ground") = False := by simp; decide
  have e2 : (Str.ofString "sequence" = Str.ofString "escape") = False := by simp; decide
  have e3 : (Str.ofString "sequence" = Str.ofString "between") = False := by simp; decide
  have e4 : (Str.ofString "sequence" = Str.ofString "invalid") = False := by simp; decide
  have ts := take_sl ns
  have sl : ∀ (a b c d : D) (M : Mem), oSl (some 1) none (.tup [a, b, c, d]) M = some (.val (.tup [b, c, d])) := fun _ _ _ _ _ => rfl
  unfold F__law_plain mkFn B__law_plain
  by_cases h1 : 64 ≤ c ∧ c ≤ 126
  · have a := h1.1; have b := h1.2
    simp -implicitDefEqProofs [spP, Sk.d, seqD, sAsg, gTp, gsCons, gsNil, a, b, ts, ix0, e1, e2, e3, e4, sl]
  by_cases h2 : c = 127
  · subst h2
    simp -implicitDefEqProofs [spP, Sk.d, seqD, sAsg, gTp, gsCons, gsNil, ix0, e1, e2, e3, e4, sl]
  by_cases h4 : c = 59
  · subst h4
    cases ns with
    | nil => simp -implicitDefEqProofs [spP, Sk.d, seqD, sAsg, gTp, gsCons, gsNil, ix0, e1, e2, e3, e4, sl, nxtN, trD_tup]
    | cons x xs =>
      simp only [List.length_cons] at hl
      by_cases h : xs.length + 1 ≤ 16
      · have h' : ((xs.length : Int) + 1 < 17) := by omega
        have h2 : xs.length + 1 + 1 ≤ 16777216 := by omega
        simp -implicitDefEqProofs [spP, Sk.d, seqD, sAsg, gTp, gsCons, gsNil, ix0, e1, e2, e3, e4, sl, nxtN, trD_tup, h, h', h2]
      · have h' : ¬ ((xs.length : Int) + 1 < 17) := by omega
        simp -implicitDefEqProofs [spP, Sk.d, seqD, sAsg, gTp, gsCons, gsNil, ix0, e1, e2, e3, e4, sl, nxtN, trD_tup, h, h']
  by_cases h3 : c = 63 ∧ f = true
  · obtain ⟨rfl, rfl⟩ := h3
    simp -implicitDefEqProofs [spP, Sk.d, seqD, sAsg, gTp, gsCons, gsNil, trD_bl, ix0, e1, e2, e3, e4, sl]
  by_cases h5 : 48 ≤ c ∧ c ≤ 57
  · have a := h5.1
    have b := h5.2
    have a1 : ¬ 64 ≤ c := by omega
    have a3 : ¬ c = 63 := by omega
    have a4 : c ≤ 59 := by omega
    have a5 : ¬ c = 58 := by omega
    rcases List.eq_nil_or_concat ns with rfl | ⟨xs, x, rfl⟩
    · have e9 : c - 48 < 9999 := by omega
      have sl0 : ∀ M, oSl none (some (-1)) (.tup []) M = some (.val (.tup [])) := fun _ => rfl
      simp -implicitDefEqProofs [spP, Sk.d, seqD, sAsg, gTp, gsCons, gsNil, ix0, e1, e2, e3, e4, sl, a, b, a1, a3, a4, a5, h2, h4, digN, lastI, trD_tup, oMin2, e9, sl0]
    · rw [List.concat_eq_append] at hl hn ⊢
      have hne : ((xs ++ [x]).isEmpty) = false := by cases xs <;> rfl
      have hll : (xs ++ [x]).length = xs.length + 1 := by simp
      by_cases h : xs.length + 1 ≤ 16
      · have h' : ((xs.length : Int) + 1 < 17) := by omega
        have h2' : xs.length + 1 ≤ 16777216 := by omega
        have sl2 : ∀ M, oSl none (some (-1)) (.tup (xs ++ [x])) M = some (.val (.tup xs)) := fun M => by
          show some (Rz.val (.tup (CI.cutD (xs ++ [x]) none (some (-1))))) = _
          rw [cut_init]
        have hx := hn x (by simp)
        rcases hx with rfl | ⟨i, rfl⟩
        · have e9 : c - 48 < 9999 := by omega
          simp -implicitDefEqProofs [spP, Sk.d, seqD, sAsg, gTp, gsCons, gsNil, ix0, e1, e2, e3, e4, sl, a, b, a1, a3, a4, a5, h2, h4, digN, lastI, trD_tup, oMin2, e9, sl2, hne, hll, h, h', h2', ix_last]
        · have e0 : i * 10 + c - 48 = i * 10 + (c - 48) := by omega
          by_cases h9 : i * 10 + (c - 48) < 9999
          · simp -implicitDefEqProofs [spP, Sk.d, seqD, sAsg, gTp, gsCons, gsNil, ix0, e1, e2, e3, e4, sl, a, b, a1, a3, a4, a5, h2, h4, digN, lastI, trD_tup, oMin2, e0, h9, sl2, hne, hll, h, h', h2', ix_last]
          · simp -implicitDefEqProofs [spP, Sk.d, seqD, sAsg, gTp, gsCons, gsNil, ix0, e1, e2, e3, e4, sl, a, b, a1, a3, a4, a5, h2, h4, digN, lastI, trD_tup, oMin2, e0, h9, sl2, hne, hll, h, h', h2', ix_last]
      · have h' : ¬ ((xs.length : Int) + 1 < 17) := by omega
        simp -implicitDefEqProofs [spP, Sk.d, seqD, sAsg, gTp, gsCons, gsNil, ix0, e1, e2, e3, e4, sl, a, b, a1, a3, a4, a5, h2, h4, digN, lastI, trD_tup, hne, hll, h, h']
  -- what is left leads to invalid
  have hspec : spP (.seq p ns f) c = pr gI .non := by
    simp only [spP, if_neg h1, if_neg h2, if_neg h3, if_neg h4, if_neg h5]
  rw [hspec]
  by_cases q64 : 64 ≤ c
  · have b1 : ¬ c ≤ 126 := by omega
    have b2 : 48 ≤ c := by omega
    have b3 : ¬ c ≤ 59 := by omega
    have b4 : ¬ c = 63 := by omega
    simp -implicitDefEqProofs [Sk.d, sAsg, gTp, gsCons, gsNil, ix0, e1, e2, e3, e4, sl, q64, b1, b2, b3, b4, h2]
  by_cases q48 : 48 ≤ c
  · by_cases h58 : c = 58
    · subst h58
      simp -implicitDefEqProofs [Sk.d, sAsg, gTp, gsCons, gsNil, ix0, e1, e2, e3, e4, sl]
    · have b3 : ¬ c ≤ 59 := by omega
      by_cases h63 : c = 63
      · have hf : f = false := by
          cases f with
          | false => rfl
          | true => exact absurd ⟨h63, rfl⟩ h3
        subst h63 hf
        simp -implicitDefEqProofs [Sk.d, sAsg, gTp, gsCons, gsNil, ix0, e1, e2, e3, e4, sl, trD_bl]
      · simp -implicitDefEqProofs [Sk.d, sAsg, gTp, gsCons, gsNil, ix0, e1, e2, e3, e4, sl, q64, q48, b3, h2, h63]
  · have h63 : ¬ c = 63 := by omega
    simp -implicitDefEqProofs [Sk.d, sAsg, gTp, gsCons, gsNil, ix0, e1, e2, e3, e4, sl, q64, q48, h2, h63]
def okT : Sk → Prop
  | .seq _ ns _ => Nums ns ∧ ns.length < 1000
  | .command t _ => t.length ≤ 42
  | _ => True
theorem dueN (s : Sk) (hs : okS s) (hc : ∀ t e, s ≠ .command t e) (c : Int) (M : Mem) : F__law_due [s.d, .int c] M = some (.val (spN s c), M) := by
  have n1 : (Str.ofString "ground" = Str.ofString "command") = False := by simp; decide
  have n2 : (Str.ofString "escape" = Str.ofString "command") = False := by simp; decide
  have n3 : (Str.ofString "between" = Str.ofString "command") = False := by simp; decide
  have n4 : (Str.ofString "invalid" = Str.ofString "command") = False := by simp; decide
  have n5 : (Str.ofString "sequence" = Str.ofString "command") = False := by simp; decide
  have hp : 32 ≤ c → ∀ M, F__law_plain [s.d, .int c] M = some (.val (spP s c), M) := by
    intro h M
    cases s with
    | ground => exact plain_g c M
    | escape => exact plain_e c h M
    | between => exact plain_b c M
    | invalid => exact plain_i c M
    | command t e => exact absurd rfl (hc t e)
    | seq p ns f => exact plain_s p ns f hs.1 hs.2 c h M
  obtain ⟨sx, xs, hd, hn⟩ : ∃ sx xs, s.d = .tup (.str sx :: xs) ∧ (sx = Str.ofString "command") = False := by
    cases s with
    | ground => exact ⟨_, _, rfl, n1⟩
    | escape => exact ⟨_, _, rfl, n2⟩
    | between => exact ⟨_, _, rfl, n3⟩
    | invalid => exact ⟨_, _, rfl, n4⟩
    | command t e => exact absurd rfl (hc t e)
    | seq p ns f => exact ⟨_, _, rfl, n5⟩
  unfold F__law_due mkFn B__law_due
  by_cases h1 : c = 24
  · simp -implicitDefEqProofs [spN, hd, ix0, hn, h1, in2]
  by_cases h2 : c = 26
  · simp -implicitDefEqProofs [spN, hd, ix0, hn, h2, in2]
  by_cases h3 : c = 27
  · simp -implicitDefEqProofs [spN, hd, ix0, hn, h3, in2]
  by_cases h4 : c < 32
  · simp -implicitDefEqProofs [spN, hd, ix0, hn, h1, h2, h3, h4, in2]
  have hp' := hp (by omega)
  rw [hd] at hp'
  simp -implicitDefEqProofs [spN, hd, ix0, hn, h1, h2, h3, h4, in2, hp']
theorem due_eq (s : Sk) (hs : okT s) (c : Int) (M : Mem) : F__law_due [s.d, .int c] M = some (.val (spec s c), M) := by
  cases s with
  | ground => exact dueN .ground trivial (fun _ _ h => by cases h) c M
  | escape => exact dueN .escape trivial (fun _ _ h => by cases h) c M
  | between => exact dueN .between trivial (fun _ _ h => by cases h) c M
  | invalid => exact dueN .invalid trivial (fun _ _ h => by cases h) c M
  | seq p ns f => exact dueN (.seq p ns f) hs (fun _ _ h => by cases h) c M
  | command t e =>
    have hl : t.length ≤ 42 := hs
    have i1 : ∀ M, oIx (.tup [.str "command", .tup t, .bl e]) (.int 1) M = some (.val (.tup t)) := fun M => oIx_of (d := .tup [.str "command", .tup t, .bl e]) (i := 1) rfl rfl
    have i2 : ∀ M, oIx (.tup [.str "command", .tup t, .bl e]) (.int 2) M = some (.val (.bl e)) := fun M => oIx_of (d := .tup [.str "command", .tup t, .bl e]) (i := 2) rfl rfl
    cases e with
    | true =>
      have n2 : (Str.ofString "escape" = Str.ofString "command") = False := by simp; decide
      by_cases h : c = 92
      · unfold F__law_due mkFn B__law_due
        simp -implicitDefEqProofs [Sk.d, spec, ix0, i1, i2, trD_bl, h]
      · have hE : spec (.command t true) c = spN .escape c := by simp only [spec, if_neg h]
        rw [hE]
        have q := dueN .escape trivial (fun _ _ h => by cases h) c M
        unfold F__law_due mkFn B__law_due
        by_cases h1 : c = 24
        · simp -implicitDefEqProofs [spN, Sk.d, ix0, i1, i2, trD_bl, h, h1, in2]
        by_cases h2 : c = 26
        · simp -implicitDefEqProofs [spN, Sk.d, ix0, i1, i2, trD_bl, h, h2, in2]
        by_cases h3 : c = 27
        · simp -implicitDefEqProofs [spN, Sk.d, ix0, i1, i2, trD_bl, h, h3, in2, n2]
        by_cases h4 : c < 32
        · simp -implicitDefEqProofs [spN, Sk.d, ix0, i1, i2, trD_bl, h, h1, h2, h3, h4, in2, n2]
        have hp := plain_e c (by omega)
        simp -implicitDefEqProofs [spN, Sk.d, ix0, i1, i2, trD_bl, h, h1, h2, h3, h4, in2, n2, hp]
    | false =>
      unfold F__law_due mkFn B__law_due
      by_cases h1 : c = 24
      · simp -implicitDefEqProofs [Sk.d, spec, ix0, i1, i2, trD_bl, h1, in2]
      by_cases h2 : c = 26
      · simp -implicitDefEqProofs [Sk.d, spec, ix0, i1, i2, trD_bl, h2, in2]
      by_cases h3 : c = 7
      · simp -implicitDefEqProofs [Sk.d, spec, ix0, i1, i2, trD_bl, h3, in2]
      by_cases h4 : c = 27
      · simp -implicitDefEqProofs [Sk.d, spec, ix0, i1, i2, trD_bl, h4, in2, cmdD]
      by_cases h5 : c < 32
      · simp -implicitDefEqProofs [Sk.d, spec, ix0, i1, i2, trD_bl, h1, h2, h3, h4, h5, in2, cmdD]
      by_cases h6 : 127 ≤ c ∧ c ≤ 159
      · have a := h6.1; have b := h6.2
        simp -implicitDefEqProofs [Sk.d, spec, ix0, i1, i2, trD_bl, h1, h2, h3, h4, h5, a, b, in2, cmdD]
      by_cases h7 : 42 ≤ t.length
      · have b7 : (t.length : Int) = 42 := by omega
        by_cases q : 127 ≤ c
        · have q2 : ¬ c ≤ 159 := by omega
          simp -implicitDefEqProofs [Sk.d, spec, ix0, i1, i2, trD_bl, h1, h2, h3, h4, h5, q, q2, h7, b7, in2, cmdD]
        · simp -implicitDefEqProofs [Sk.d, spec, ix0, i1, i2, trD_bl, h1, h2, h3, h4, h5, q, h7, b7, in2, cmdD]
      · have b7 : ¬ (t.length : Int) = 42 := by omega
        have ln : t.length + 1 ≤ 16777216 := by omega
        by_cases q : 127 ≤ c
        · have q2 : ¬ c ≤ 159 := by omega
          simp -implicitDefEqProofs [Sk.d, spec, ix0, i1, i2, trD_bl, h1, h2, h3, h4, h5, q, q2, h7, b7, ln, in2, cmdD]
        · simp -implicitDefEqProofs [Sk.d, spec, ix0, i1, i2, trD_bl, h1, h2, h3, h4, h5, q, h7, b7, ln, in2, cmdD]
/-- what a drawn state is -/
def okU : Sk → Prop
  | .seq _ ns _ => Nums ns ∧ ns.length < 100
  | .command t _ => t.length ≤ 42 ∧ ∀ d ∈ t, ∃ i, d = .int i
  | _ => True
theorem okU_T {s : Sk} (h : okU s) : okT s := by
  cases s with
  | seq p ns f => exact ⟨h.1, Nat.lt_trans h.2 (by decide)⟩
  | command t e => exact h.1
  | _ => trivial
theorem okU_S {s : Sk} (h : okU s) : okS s := by
  cases s with
  | seq p ns f => exact ⟨h.1, Nat.lt_trans h.2 (by decide)⟩
  | command t e => have := h.1; show t.length < 1000; omega
  | _ => trivial
theorem nl_nums {n : Nat} {ns : List D} (h : Nums ns) : nls n ns = true := nls_all fun d hd => by
  rcases h d hd with rfl | ⟨i, rfl⟩ <;> simp [nl]
theorem nl_tx {n : Nat} {ns : List D} (h : ∀ d ∈ ns, ∃ i, d = .int i) : nls n ns = true := nls_all fun d hd => by
  obtain ⟨i, rfl⟩ := h d hd; simp [nl]
theorem nl_sk {n : Nat} {s : Sk} (h : okU s) : nl n s.d = true := by
  cases s with
  | seq p ns f => simp [Sk.d, nl, nls, nl_nums h.1]
  | command t e => simp [Sk.d, nl, nls, nl_tx h.2]
  | _ => simp [Sk.d, nl, nls]
abbrev cmdS (t : List D) (e : Bool) : D := .tup [.str "command", .tup t, .bl e]
abbrev seqS (p : Bool) (ns : List D) (f : Bool) : D := .tup [.str "sequence", .bl p, .tup ns, .bl f]
theorem pick (r : Int) (T N : List D) (e p f : Bool) (hT : T.length ≤ 42 ∧ ∀ d ∈ T, ∃ i, d = .int i) (hN : Nums N ∧ N.length < 100) : ∃ s : Sk, okU s ∧ ∀ M : Mem, oIx (.loc M.length) (.int (r % 6)) (M ++ [.lst [gG, gE, gB, gI, cmdS T e, seqS p N f]]) = some (.val s.d) := by
  obtain ⟨j, hj, ej⟩ : ∃ j : Nat, j < 6 ∧ r % 6 = j := ⟨(r % 6).toNat, by omega, by omega⟩
  rw [ej]
  have hx : j = 0 ∨ j = 1 ∨ j = 2 ∨ j = 3 ∨ j = 4 ∨ j = 5 := by omega
  rcases hx with rfl | rfl | rfl | rfl | rfl | rfl
  · exact ⟨.ground, trivial, fun M => oIx_of (i := 0) asS_end rfl⟩
  · exact ⟨.escape, trivial, fun M => oIx_of (i := 1) asS_end rfl⟩
  · exact ⟨.between, trivial, fun M => oIx_of (i := 2) asS_end rfl⟩
  · exact ⟨.invalid, trivial, fun M => oIx_of (i := 3) asS_end rfl⟩
  · exact ⟨.command T e, hT, fun M => oIx_of (i := 4) asS_end rfl⟩
  · exact ⟨.seq p N f, hN, fun M => oIx_of (i := 5) asS_end rfl⟩
def numF : D → D
  | .int i => if i % 4 = 0 then .non else .int i
  | d => d
def txtF : D → D
  | .int i => .int (32 + i % 95)
  | d => d
theorem tail_ok (L : List D) (r0 r1 r2 : Int) (x1 x2 x5 : Option D) (N T : List D) (hT : T.length ≤ 42 ∧ ∀ d ∈ T, ∃ i, d = .int i) (hN : Nums N ∧ N.length < 100) (h0 : L[0]? = some (.int r0)) (h1 : L[1]? = some (.int r1)) (M : Mem) : ∃ (s : Sk) (ρ' : Slots) (M' : Mem), okU s ∧
    (sCons (sSetM 3 (cLst (aCons (cTup (aCons (cStr "ground") aNil)) (aCons (cTup (aCons (cStr "escape") aNil)) (aCons (cTup (aCons (cStr "between") aNil)) (aCons (cTup (aCons (cStr "invalid") aNil)) (aCons (cTup (aCons (cStr "command") (aCons (cVar 2) (aCons (cBin oEq (cBin oMod (cBin oIx (cVar 0) (cInt (1))) (cInt (3))) (cInt (0))) aNil)))) aNil)))))))
    (sCons (sIf (toB (cBin oEq (cBin oMod (cBin oIx (cVar 0) (cInt (1))) (cInt (20))) (cInt (18))))
    (sAsg (gIx (cVar 3) (cInt (4))) (cTup (aCons (cStr "command") (aCons (cBin oMul (cTup (aCons (cInt (65)) aNil)) (cInt (42))) (aCons (cBl false) aNil)))))
    sNil)
    (sCons (sSet 4 (cAnd (cBin oEq (cCB oLen (aCons (cVar 1) aNil)) (cInt (0))) (cBin oEq (cBin oMod (cBin oIx (cVar 0) (cInt (1))) (cInt (3))) (cInt (0)))))
    (sCons (sExpr (cBM "list" oAppend (cVar 3) (aCons (cTup (aCons (cStr "sequence") (aCons (cAnd (cBin oEq (cBin oMod (cBin oIx (cVar 0) (cInt (1))) (cInt (2))) (cInt (0))) (cNot (cVar 4))) (aCons (cVar 1) (aCons (cVar 4) aNil))))) aNil)))
    (sRet (cBin oIx (cVar 3) (cBin oMod (cBin oIx (cVar 0) (cInt (0))) (cInt (6)))))))))
    [some (.lst L), some (.tup N), some (.tup T), none, none, x5] M = some (.rt (.val s.d), ρ', M') ∧ M'.length = M.length + 1 ∧ M'.take M.length = M := by
  have i0 : ∀ M, oIx (.lst L) (.int 0) M = some (.val (.int r0)) := fun M => oIx_of (d := .lst L) (i := 0) rfl h0
  have i1 : ∀ M, oIx (.lst L) (.int 1) M = some (.val (.int r1)) := fun M => oIx_of (d := .lst L) (i := 1) rfl h1
  obtain ⟨f, hf⟩ : ∃ f : Bool, f = (decide ((N.length : Int) = 0) && decide (r1 % 3 = 0)) := ⟨_, rfl⟩
  obtain ⟨p, hp⟩ : ∃ p : Bool, p = (decide (r1 % 2 = 0) && !f) := ⟨_, rfl⟩
  obtain ⟨e3, he3⟩ : ∃ e3 : Bool, e3 = decide (r1 % 3 = 0) := ⟨_, rfl⟩
  obtain ⟨e2, he2⟩ : ∃ e2 : Bool, e2 = decide (r1 % 2 = 0) := ⟨_, rfl⟩
  have mt : ∀ M, oMul (.tup [.int 65]) (.int 42) M = some (.val (.tup (List.replicate 42 (.int 65)))) := fun _ => rfl
  have cf : ∀ (ρ : Slots) (M : Mem), slot ρ 1 = some (.tup N) → slot ρ 0 = some (.lst L) → cAnd (cBin oEq (cCB oLen (aCons (cVar 1) aNil)) (cInt (0))) (cBin oEq (cBin oMod (cBin oIx (cVar 0) (cInt (1))) (cInt (3))) (cInt (0))) ρ M = some (.val (.bl f), M) := by
    intro ρ M s1 s0
    rw [hf]
    cases hz : decide ((N.length : Int) = 0) with
    | true => simp -implicitDefEqProofs only [cAnd_ap, cBin_ap, cCB_ap, aCons_ap, aNil_ap, cVar_ap, s1, s0, Option.bind_some, Rz_d_val, oLen_tup, cVal_ap, oEq_int, hz, i1, oMod_int, bMod_eq]; simp
    | false => simp -implicitDefEqProofs only [cAnd_ap, cBin_ap, cCB_ap, aCons_ap, aNil_ap, cVar_ap, s1, s0, Option.bind_some, Rz_d_val, oLen_tup, cVal_ap, oEq_int, hz, i1, oMod_int, bMod_eq]; simp
  have cp : ∀ (ρ : Slots) (M : Mem), slot ρ 4 = some (.bl f) → slot ρ 0 = some (.lst L) → cAnd (cBin oEq (cBin oMod (cBin oIx (cVar 0) (cInt (1))) (cInt (2))) (cInt (0))) (cNot (cVar 4)) ρ M = some (.val (.bl p), M) := by
    intro ρ M s4 s0
    rw [hp]
    cases hz : decide (r1 % 2 = 0) with
    | true => simp -implicitDefEqProofs [s4, s0, i1, hz]
    | false => simp -implicitDefEqProofs [s4, s0, i1, hz]
  by_cases h18 : r1 % 20 = 18
  · obtain ⟨T0, hT0⟩ : ∃ T0 : List D, T0 = List.replicate 42 (.int 65) := ⟨_, rfl⟩
    rw [← hT0] at mt
    have h65 : T0.length ≤ 42 ∧ ∀ d ∈ T0, ∃ i, d = .int i := by
      rw [hT0]
      exact ⟨Nat.le_of_eq List.length_replicate, fun d hd => ⟨65, (List.mem_replicate.mp hd).2⟩⟩
    obtain ⟨s, hs, hix⟩ := pick r0 T0 N false p f h65 hN
    refine ⟨s, [some (.lst L), some (.tup N), some (.tup T), some (.loc M.length), some (.bl f), x5], M ++ [.lst [gG, gE, gB, gI, cmdS T0 false, seqS p N f]], hs, ?_, by simp, by simp⟩
    have st : ∀ x : D, ([gG, gE, gB, gI, x] : List D).set 4 (cmdS T0 false) = [gG, gE, gB, gI, cmdS T0 false] := fun _ => rfl
    have ap := oAppend_end (M := M) (ds := [gG, gE, gB, gI, cmdS T0 false]) (d := seqS p N f) (by simp)
    have ix5 : ixN 5 4 = some 4 := rfl
    simp -implicitDefEqProofs [-cAnd_ap, i0, i1, h18, mt, gIx, ix5, st, cf, cp, ap, hix]
  · obtain ⟨s, hs, hix⟩ := pick r0 T N e3 p f hT hN
    refine ⟨s, [some (.lst L), some (.tup N), some (.tup T), some (.loc M.length), some (.bl f), x5], M ++ [.lst [gG, gE, gB, gI, cmdS T e3, seqS p N f]], hs, ?_, by simp, by simp⟩
    have ap := oAppend_end (M := M) (ds := [gG, gE, gB, gI, cmdS T e3]) (d := seqS p N f) (by simp)
    simp -implicitDefEqProofs [-cAnd_ap, i0, i1, h18, ← he3, cf, cp, ap, hix]
theorem cut_mem {L : List D} {lo hi : Option Int} {d : D} (h : d ∈ CI.cutD L lo hi) : d ∈ L := by
  unfold CI.cutD at h
  exact List.mem_of_mem_drop (List.mem_of_mem_take h)
theorem cut_len {L : List D} {lo hi : Option Int} : (CI.cutD L lo hi).length ≤ L.length := by
  unfold CI.cutD
  rw [List.length_take, List.length_drop]; omega
theorem sl_rfl (a b : Int) (L : List D) (M : Mem) : oSl (some a) (some b) (.lst L) M = some (.new (CI.cutD L (some a) (some b))) := rfl
theorem filter_true (ds : List D) : ds.filter (fun _ => true) = ds := by induction ds <;> simp
theorem lcNum (L : List D) (r1 : Int) (hL : ∀ d ∈ L, ∃ i, d = D.int i) (hl : L.length ≤ 10) (h1 : L[1]? = some (.int r1)) (x1 x2 x3 x4 x5 : Option D) (M : Mem) :
    cLc (iSeq (cSl (cVar 0) (sSome (cInt (2))) (sSome (cBin oAdd (cInt (2)) (cBin oMod (cBin oIx (cVar 0) (cInt (1))) (cInt (4))))))) [5] (gNm 5) tYesF (cIf (toB (cBin oEq (cBin oMod (cVar 5) (cInt (4))) (cInt (0)))) cNon (cVar 5)) [some (.lst L), x1, x2, x3, x4, x5] M = some (.new ((CI.cutD L (some 2) (some (2 + r1 % 4))).map numF), M) := by
  have i1 : ∀ M, oIx (.lst L) (.int 1) M = some (.val (.int r1)) := fun M => oIx_of (d := .lst L) (i := 1) rfl h1
  have q := cLc_pure (it := iSeq (cSl (cVar 0) (sSome (cInt (2))) (sSome (cBin oAdd (cInt (2)) (cBin oMod (cBin oIx (cVar 0) (cInt (1))) (cInt (4))))))) (vs := [5]) (g := gNm 5) (tt := tYesF) (te := cIf (toB (cBin oEq (cBin oMod (cVar 5) (cInt (4))) (cInt (0)))) cNon (cVar 5))
    (ρ := [some (.lst L), x1, x2, x3, x4, x5]) (M := M) (gk := none) (ds := CI.cutD L (some 2) (some (2 + r1 % 4))) (fun _ => true) numF (by
      simp -implicitDefEqProofs [i1, sl_rfl]; rfl) (by rw [guard_none]; trivial) (by have := @cut_len L (some 2) (some (2 + r1 % 4)); omega) (by
      intro x hx acc
      obtain ⟨i, rfl⟩ := hL x (cut_mem hx)
      refine ⟨[some (.lst L), x1, x2, x3, x4, some (.int i)], rfl, rfl, fun _ => ⟨.val (numF (.int i)), ?_, rfl⟩⟩
      by_cases h : i % 4 = 0
      · simp -implicitDefEqProofs [numF, h]
      · simp -implicitDefEqProofs [numF, h]) (by
      intro x hx _
      obtain ⟨i, rfl⟩ := hL x (cut_mem hx)
      unfold numF
      simp only
      split <;> simp [nl])
  rw [filter_true] at q
  exact q
theorem lcTxt (L : List D) (r1 : Int) (hL : ∀ d ∈ L, ∃ i, d = D.int i) (hl : L.length ≤ 10) (h1 : L[1]? = some (.int r1)) (x1 x2 x3 x4 x5 : Option D) (M : Mem) :
    cLc (iSeq (cSl (cVar 0) (sSome (cInt (2))) (sSome (cBin oAdd (cInt (2)) (cBin oMod (cBin oIx (cVar 0) (cInt (1))) (cInt (4))))))) [5] (gNm 5) tYesF (cBin oAdd (cInt (32)) (cBin oMod (cVar 5) (cInt (95)))) [some (.lst L), x1, x2, x3, x4, x5] M = some (.new ((CI.cutD L (some 2) (some (2 + r1 % 4))).map txtF), M) := by
  have i1 : ∀ M, oIx (.lst L) (.int 1) M = some (.val (.int r1)) := fun M => oIx_of (d := .lst L) (i := 1) rfl h1
  have q := cLc_pure (it := iSeq (cSl (cVar 0) (sSome (cInt (2))) (sSome (cBin oAdd (cInt (2)) (cBin oMod (cBin oIx (cVar 0) (cInt (1))) (cInt (4))))))) (vs := [5]) (g := gNm 5) (tt := tYesF) (te := cBin oAdd (cInt (32)) (cBin oMod (cVar 5) (cInt (95))))
    (ρ := [some (.lst L), x1, x2, x3, x4, x5]) (M := M) (gk := none) (ds := CI.cutD L (some 2) (some (2 + r1 % 4))) (fun _ => true) txtF (by
      simp -implicitDefEqProofs [i1, sl_rfl]; rfl) (by rw [guard_none]; trivial) (by have := @cut_len L (some 2) (some (2 + r1 % 4)); omega) (by
      intro x hx acc
      obtain ⟨i, rfl⟩ := hL x (cut_mem hx)
      refine ⟨[some (.lst L), x1, x2, x3, x4, some (.int i)], rfl, rfl, fun _ => ⟨.val (txtF (.int i)), ?_, rfl⟩⟩
      simp -implicitDefEqProofs [txtF]) (by
      intro x hx _
      obtain ⟨i, rfl⟩ := hL x (cut_mem hx)
      simp [nl, txtF])
  rw [filter_true] at q
  exact q
theorem front_ok (L : List D) (N0 : List D) (r1 r2 : Int) (h1 : L[1]? = some (.int r1)) (h2 : L[2]? = some (.int r2)) (hN : Nums N0 ∧ N0.length < 100) (x2 x3 x4 x5 : Option D) (M : Mem) :
    ∃ N, (Nums N ∧ N.length < 100) ∧ (sIf (toB (cBin oEq (cBin oMod (cBin oIx (cVar 0) (cInt (1))) (cInt (20))) (cInt (19))))
    (sSet 1 (cBin oAdd (cBin oMul (cTup (aCons (cInt (5)) aNil)) (cInt (16))) (cBin oMul (cTup (aCons cNon aNil)) (cBin oMod (cBin oIx (cVar 0) (cInt (2))) (cInt (2))))))
    sNil) [some (.lst L), some (.tup N0), x2, x3, x4, x5] M = some (.nx, [some (.lst L), some (.tup N), x2, x3, x4, x5], M) := by
  have i1 : ∀ M, oIx (.lst L) (.int 1) M = some (.val (.int r1)) := fun M => oIx_of (d := .lst L) (i := 1) rfl h1
  have i2 : ∀ M, oIx (.lst L) (.int 2) M = some (.val (.int r2)) := fun M => oIx_of (d := .lst L) (i := 2) rfl h2
  by_cases h : r1 % 20 = 19
  · obtain ⟨A, hA⟩ : ∃ A : List D, A = List.replicate 16 (.int 5) := ⟨_, rfl⟩
    have mt : ∀ M, oMul (.tup [.int 5]) (.int 16) M = some (.val (.tup A)) := fun _ => by rw [hA]; rfl
    have nA : Nums A ∧ A.length = 16 := ⟨by rw [hA]; exact fun d hd => .inr ⟨5, (List.mem_replicate.mp hd).2⟩, by rw [hA]; exact List.length_replicate⟩
    have hr : r2 % 2 = 0 ∨ r2 % 2 = 1 := by omega
    rcases hr with hr | hr
    · have m0 : ∀ M, oMul (.tup [.non]) (.int 0) M = some (.val (.tup [])) := fun _ => rfl
      refine ⟨A, ⟨nA.1, by omega⟩, ?_⟩
      have ln : A.length ≤ 16777216 := by omega
      simp -implicitDefEqProofs [i1, i2, h, hr, mt, m0, ln]
    · have m0 : ∀ M, oMul (.tup [.non]) (.int 1) M = some (.val (.tup [.non])) := fun _ => rfl
      refine ⟨A ++ [.non], ⟨fun d hd => ?_, by simp; omega⟩, ?_⟩
      · rcases List.mem_append.mp hd with hd | hd
        · exact nA.1 d hd
        · simp at hd; exact .inl hd
      have ln : A.length + 1 ≤ 16777216 := by omega
      simp -implicitDefEqProofs [i1, i2, h, hr, mt, m0, ln]
  · exact ⟨N0, hN, by simp -implicitDefEqProofs [i1, h]⟩
theorem fin_d {M Me : Mem} {s : Sk} (hs : okU s) (h1 : Me.length = M.length + 1) (h2 : Me.take M.length = M) : CI.finish M (.val s.d) Me = (.val s.d, M) := by
  unfold CI.finish
  rw [if_neg (by omega), if_pos h2]
  cases s with
  | _ => exact if_pos (nl_sk hs)
theorem state_eq (L : List D) (r0 r1 r2 : Int) (hL : ∀ d ∈ L, ∃ i, d = D.int i) (hl : L.length ≤ 10) (h0 : L[0]? = some (.int r0)) (h1 : L[1]? = some (.int r1)) (h2 : L[2]? = some (.int r2)) (M : Mem) :
    ∃ s, okU s ∧ F__law_state [.lst L] M = some (.val s.d, M) := by
  have c1 := lcNum L r1 hL hl h1 none none none none none M
  obtain ⟨N0, hN0⟩ : ∃ N0, N0 = (CI.cutD L (some 2) (some (2 + r1 % 4))).map numF := ⟨_, rfl⟩
  have nN : Nums N0 ∧ N0.length < 100 := ⟨by
    rw [hN0]; intro d hd
    obtain ⟨x, hx, rfl⟩ := List.mem_map.mp hd
    obtain ⟨i, rfl⟩ := hL x (cut_mem hx)
    unfold numF
    simp only
    split
    · exact .inl rfl
    · exact .inr ⟨i, rfl⟩, by
    rw [hN0, List.length_map]
    have := @cut_len L (some 2) (some (2 + r1 % 4)); omega⟩
  rw [← hN0] at c1
  obtain ⟨N, hN, eF⟩ := front_ok L N0 r1 r2 h1 h2 nN none none none none M
  have c2 := lcTxt L r1 hL hl h1 (some (.tup N)) none none none none M
  obtain ⟨T, hT⟩ : ∃ T, T = (CI.cutD L (some 2) (some (2 + r1 % 4))).map txtF := ⟨_, rfl⟩
  have nT : T.length ≤ 42 ∧ ∀ d ∈ T, ∃ i, d = D.int i := ⟨by
    rw [hT, List.length_map]
    have := @cut_len L (some 2) (some (2 + r1 % 4)); omega, by
    rw [hT]; intro d hd
    obtain ⟨x, hx, rfl⟩ := List.mem_map.mp hd
    obtain ⟨i, rfl⟩ := hL x (cut_mem hx)
    exact ⟨32 + i % 95, rfl⟩⟩
  rw [← hT] at c2
  obtain ⟨s, ρ', M', hs, e, hm1, hm2⟩ := tail_ok L r0 r1 r2 none none none N T nT hN h0 h1 M
  have ot : ∀ M es, oTuple [.lst es] M = some (.val (.tup es)) := fun _ _ => rfl
  refine ⟨s, hs, ?_⟩
  unfold F__law_state mkFn B__law_state
  rw [sCons_ap, sSet_ap, cCB_ap, aCons_ap]
  simp only [List.length_cons, List.length_nil, List.map_cons, List.map_nil, if_true, List.replicate, List.cons_append, List.nil_append, Nat.zero_add, Nat.sub_self]
  rw [c1]
  simp only [Option.bind_some, aNil_ap, Rz_d_new, ot, Rz_d_val, List.set_cons_succ, List.set_cons_zero]
  rw [sCons_ap, eF]
  simp only [Option.bind_some]
  rw [sCons_ap, sSet_ap, cCB_ap, aCons_ap, c2]
  simp only [Option.bind_some, aNil_ap, Rz_d_new, ot, Rz_d_val, List.set_cons_succ, List.set_cons_zero]
  rw [e]
  simp only [fin_d hs hm1 hm2]
theorem strOk_of (s : String) : PyData.strOk (Str.ofString s) = true := by
  rw [Str.ofString_eq_toList]
  unfold PyData.strOk
  simp only [List.all_toArray, List.all_map, List.all_eq_true, Function.comp, decide_eq_true_eq]
  intro c _
  have := c.valid
  show c.val.toNat < 1114112
  rcases this with h | h
  · have : c.val.toNat < 55296 := h
    omega
  · exact h.2
theorem pS_str (n : Nat) (s : String) : plS (n + 1) (.str (Str.ofString s)) = true := strOk_of s
theorem pS_g {s : String} : plS 7 (.tup [.str (Str.ofString s)]) = true := by
  show [D.str (Str.ofString s)].all (plS 6) = true
  simp only [List.all_cons, List.all_nil, pS_str, Bool.and_self]
theorem pS_ev {s : String} {c : Int} : plS 7 (.tup [.str (Str.ofString s), .int c]) = true := by
  show [D.str (Str.ofString s), .int c].all (plS 6) = true
  simp only [List.all_cons, List.all_nil, pS_str, Bool.and_self]; rfl
theorem pS_n : plS 7 .non = true := rfl
theorem ok1 {ns : List D} (h : Nums ns) : ns.all (plS 5) = true := List.all_eq_true.mpr fun d hd => by
  rcases h d hd with rfl | ⟨i, rfl⟩ <;> rfl
theorem nums_tx {ns : List D} (h : ∀ d ∈ ns, ∃ i, d = D.int i) : Nums ns := fun d hd => .inr (h d hd)
theorem nums_snoc {ns : List D} (h : Nums ns) (i : Int) : Nums (ns ++ [.int i]) := fun d hd => by
  rcases List.mem_append.mp hd with hd | hd
  · exact h d hd
  · simp at hd; exact .inr ⟨i, hd⟩
theorem nums_snocN {ns : List D} (h : Nums ns) : Nums (ns ++ [.non]) := fun d hd => by
  rcases List.mem_append.mp hd with hd | hd
  · exact h d hd
  · simp at hd; exact .inl hd
theorem nums_init {ns : List D} (h : Nums ns) : Nums ns.dropLast := fun d hd => h d ((List.dropLast_sublist ns).subset hd)
theorem nums_take {ns : List D} (h : Nums ns) (n : Nat) : Nums (ns.take n) := fun d hd => h d (List.mem_of_mem_take hd)
theorem nums_dig {ns : List D} (h : Nums ns) (k : Int) : Nums (digN ns k) := by
  unfold digN; split
  · exact nums_snoc (nums_init h) _
  · exact h
theorem nums_nxt {ns : List D} (h : Nums ns) : Nums (nxtN ns) := by
  unfold nxtN; split
  · intro d hd; simp at hd; exact .inl hd
  · split
    · exact nums_snocN h
    · exact h
theorem pS_pr {a b : D} (ha : plS 7 a = true) (hb : plS 7 b = true) : plS 8 (pr a b) = true := by
  show [a, b].all (plS 7) = true
  simp [ha, hb]
theorem pS_seq {p f : Bool} {ns : List D} (h : Nums ns) : plS 7 (seqD p ns f) = true := by
  show ([D.str "sequence", .bl p, .tup ns, .bl f].all (plS 6)) = true
  have a : plS 6 (.tup ns) = true := ok1 h
  have b : plS 6 (.str "sequence") = true := pS_str 5 _
  have c : ∀ x, plS 6 (.bl x) = true := fun _ => rfl
  simp only [List.all_cons, List.all_nil, a, b, c, Bool.and_self]
theorem pS_cmd {e : Bool} {ns : List D} (h : Nums ns) : plS 7 (cmdD ns e) = true := by
  show ([D.str "command", .tup ns, .bl e].all (plS 6)) = true
  have a : plS 6 (.tup ns) = true := ok1 h
  have b : plS 6 (.str "command") = true := pS_str 5 _
  have c : ∀ x, plS 6 (.bl x) = true := fun _ => rfl
  simp only [List.all_cons, List.all_nil, a, b, c, Bool.and_self]
theorem pS_cmd2 {ns : List D} (h : Nums ns) : plS 7 (.tup [.str "command", .tup ns]) = true := by
  show ([D.str "command", .tup ns].all (plS 6)) = true
  have a : plS 6 (.tup ns) = true := ok1 h
  have b : plS 6 (.str "command") = true := pS_str 5 _
  simp only [List.all_cons, List.all_nil, a, b, Bool.and_self]
theorem pS_sd {p : Bool} {c : Int} {ns : List D} (h : Nums ns) : plS 7 (.tup [.str "sequence", .bl p, .tup ns, .int c]) = true := by
  show ([D.str "sequence", .bl p, .tup ns, .int c].all (plS 6)) = true
  have a : plS 6 (.tup ns) = true := ok1 h
  have b : plS 6 (.str "sequence") = true := pS_str 5 _
  have c : ∀ x, plS 6 (.bl x) = true := fun _ => rfl
  have d : ∀ x, plS 6 (.int x) = true := fun _ => rfl
  simp only [List.all_cons, List.all_nil, a, b, c, d, Bool.and_self]
theorem pS_sk {s : Sk} (hs : okU s) : plS 7 s.d = true := by
  cases s with
  | seq p ns f => exact pS_seq hs.1
  | command t e => exact pS_cmd (nums_tx hs.2)
  | _ => exact pS_g
theorem pS_spP {s : Sk} (hs : okU s) (hc : ∀ t e, s ≠ .command t e) (c : Int) : plS 8 (spP s c) = true := by
  cases s with
  | command t e => exact absurd rfl (hc t e)
  | seq p ns f =>
    simp only [spP]
    repeat' split
    all_goals first
      | exact pS_pr pS_g (pS_sd (nums_take hs.1 _))
      | exact pS_pr (pS_seq hs.1) pS_n
      | exact pS_pr (pS_seq (nums_nxt hs.1)) pS_n
      | exact pS_pr (pS_seq (nums_dig hs.1 _)) pS_n
      | (first | exact pS_pr pS_g pS_n | exact pS_pr pS_g pS_ev)
  | escape =>
    simp only [spP]
    repeat' split
    all_goals first
      | exact pS_pr (pS_seq (ns := []) (fun _ h => nomatch h)) pS_n
      | exact pS_pr (pS_cmd (ns := []) (fun _ h => nomatch h)) pS_n
      | (first | exact pS_pr pS_g pS_n | exact pS_pr pS_g pS_ev)
  | _ =>
    simp only [spP]
    repeat' split
    all_goals (first | exact pS_pr pS_g pS_n | exact pS_pr pS_g pS_ev)
theorem pS_spN {s : Sk} (hs : okU s) (hc : ∀ t e, s ≠ .command t e) (c : Int) : plS 8 (spN s c) = true := by
  unfold spN
  repeat' split
  all_goals first
    | (first | exact pS_pr pS_g pS_n | exact pS_pr pS_g pS_ev)
    | exact pS_pr (pS_sk hs) pS_ev
    | exact pS_spP hs hc c
theorem pS_spec {s : Sk} (hs : okU s) (c : Int) : plS 8 (spec s c) = true := by
  cases s with
  | command t e =>
    have ht := nums_tx hs.2
    cases e with
    | true =>
      rw [spec]; split
      · exact pS_pr pS_g (pS_cmd2 ht)
      · exact pS_spN (s := .escape) trivial (fun _ _ h => nomatch h) c
    | false =>
      rw [spec]
      repeat' split
      all_goals first
        | (first | exact pS_pr pS_g pS_n | exact pS_pr pS_g pS_ev)
        | exact pS_pr pS_g (pS_cmd2 ht)
        | exact pS_pr (pS_cmd ht) pS_n
        | exact pS_pr (pS_cmd (nums_snoc ht c)) pS_n
  | ground => exact pS_spN hs (fun _ _ h => nomatch h) c
  | escape => exact pS_spN hs (fun _ _ h => nomatch h) c
  | between => exact pS_spN hs (fun _ _ h => nomatch h) c
  | invalid => exact pS_spN hs (fun _ _ h => nomatch h) c
  | seq p ns f => exact pS_spN hs (fun _ _ h => nomatch h) c
def tblI : List Int := [24, 26, 27, 7, 8, 0, 31, 32, 47, 48, 57, 58, 59, 63, 64, 91, 92, 93, 126, 127, 159, 160]
theorem tbl_ok (r : Int) : ∃ c : Int, 0 ≤ c ∧ ∀ M, oIx (.lst (tblI.map .int)) (.int (r % 22)) M = some (.val (.int c)) := by
  obtain ⟨j, hj, e⟩ : ∃ j : Nat, j < 22 ∧ r % 22 = j := ⟨(r % 22).toNat, by omega, by omega⟩
  have hl : tblI.length = 22 := rfl
  have hj2 : j < tblI.length := by omega
  have all : ∀ x ∈ tblI, (0 : Int) ≤ x := by decide
  refine ⟨tblI[j], all _ (List.getElem_mem hj2), fun M => ?_⟩
  rw [e]
  exact oIx_of (d := .lst (tblI.map .int)) (i := j) rfl (by rw [List.getElem?_map, List.getElem?_eq_getElem hj2]; rfl)
noncomputable abbrev lbody : Sf :=
    (sCons (sSet 2 (cCall F__law_draws (aCons (cVar 1) (aCons (cInt (10)) aNil))))
    (sCons (sSet 3 (cCall F__law_state (aCons (cVar 2) aNil)))
    (sCons (sSet 4 (cBin oMod (cBin oIx (cVar 2) (cInt (7))) (cInt (256))))
    (sCons (sIf (toB (cBin oEq (cBin oMod (cBin oIx (cVar 2) (cInt (8))) (cInt (2))) (cInt (0))))
    (sSet 4 (cBin oIx (cLst (aCons (cInt (24)) (aCons (cInt (26)) (aCons (cInt (27)) (aCons (cInt (7)) (aCons (cInt (8)) (aCons (cInt (0)) (aCons (cInt (31)) (aCons (cInt (32)) (aCons (cInt (47)) (aCons (cInt (48)) (aCons (cInt (57)) (aCons (cInt (58)) (aCons (cInt (59)) (aCons (cInt (63)) (aCons (cInt (64)) (aCons (cInt (91)) (aCons (cInt (92)) (aCons (cInt (93)) (aCons (cInt (126)) (aCons (cInt (127)) (aCons (cInt (159)) (aCons (cInt (160)) aNil))))))))))))))))))))))) (cBin oMod (cBin oIx (cVar 2) (cInt (7))) (cInt (22)))))
    sNil)
    (sIf (toB (cBin oNe (cCall (F_scan 8) (aCons (cVar 3) (aCons (cVar 4) aNil))) (cCall F__law_due (aCons (cVar 3) (aCons (cVar 4) aNil)))))
    (sRet (cBl false))
    sNil)))))
theorem body_ok (x : Option D) (i : Int) (y2 y3 y4 : Option D) (M : Mem) : ∃ z2 z3 z4, lbody [x, some (.int i), y2, y3, y4] M = some (.nx, [x, some (.int i), z2, z3, z4], M) := by
  obtain ⟨rows, hrl, _, hd⟩ := draws_ok i 10 (by decide) M
  rw [← draws_eq] at hd
  obtain ⟨r0, r1, r2, r3, r4, r5, r6, r7, r8, r9, rfl⟩ : ∃ r0 r1 r2 r3 r4 r5 r6 r7 r8 r9, rows = [r0, r1, r2, r3, r4, r5, r6, r7, r8, r9] := by
    match rows, hrl with
    | [r0, r1, r2, r3, r4, r5, r6, r7, r8, r9], _ => exact ⟨r0, r1, r2, r3, r4, r5, r6, r7, r8, r9, rfl⟩
  obtain ⟨L, hL⟩ : ∃ L, L = List.map D.int [r0, r1, r2, r3, r4, r5, r6, r7, r8, r9] := ⟨_, rfl⟩
  rw [← hL] at hd
  have hi : ∀ d ∈ L, ∃ i, d = D.int i := fun d h => by
    rw [hL] at h
    obtain ⟨i, _, rfl⟩ := List.mem_map.mp h; exact ⟨i, rfl⟩
  obtain ⟨s, hs, hst⟩ := state_eq L r0 r1 r2 hi (by rw [hL]; exact Nat.le_refl _) (by rw [hL]; rfl) (by rw [hL]; rfl) (by rw [hL]; rfl) M
  have i7 : ∀ M, oIx (.lst L) (.int 7) M = some (.val (.int r7)) := fun M => oIx_of (d := .lst L) (i := 7) rfl (by rw [hL]; rfl)
  have i8 : ∀ M, oIx (.lst L) (.int 8) M = some (.val (.int r8)) := fun M => oIx_of (d := .lst L) (i := 8) rfl (by rw [hL]; rfl)
  have hd' : F__law_draws [.int i, .int 10] M = some (.new L, M) := hd
  by_cases h : r8 % 2 = 0
  · obtain ⟨c, hc, ht⟩ := tbl_ok r7
    have ht : ∀ M, oIx (.lst [D.int 24, .int 26, .int 27, .int 7, .int 8, .int 0, .int 31, .int 32, .int 47, .int 48, .int 57, .int 58, .int 59, .int 63, .int 64, .int 91, .int 92, .int 93, .int 126, .int 127, .int 159, .int 160]) (.int (r7 % 22)) M = some (.val (.int c)) := ht
    have e1 := scan_eq s (okU_S hs) c hc M
    have e2 := due_eq s (okU_T hs) c M
    have ne : oNe (spec s c) (spec s c) M = some (.val (.bl false)) := oNe_refl (n := 8) (by decide) (pS_spec hs c)
    refine ⟨some (.lst L), some s.d, some (.int c), ?_⟩
    simp -implicitDefEqProofs [hd', hst, i7, i8, h, ht, e1, e2, ne]
  · obtain ⟨c, hc⟩ : ∃ c : Int, c = r7 % 256 := ⟨_, rfl⟩
    have e1 := scan_eq s (okU_S hs) c (by omega) M
    have e2 := due_eq s (okU_T hs) c M
    have ne : oNe (spec s c) (spec s c) M = some (.val (.bl false)) := oNe_refl (n := 8) (by decide) (pS_spec hs c)
    refine ⟨some (.lst L), some s.d, some (.int c), ?_⟩
    simp -implicitDefEqProofs [hd', hst, i7, i8, h, ← hc, e1, e2, ne]
theorem law_true (ns : List Int) (hl : ns.length ≤ 63) : ∃ M, F_law [.scr ns] [] = some (.val (.bl true), M) := by
  obtain ⟨ρ', M', e, _, y1, y2, y3, y4, rfl⟩ := loop_inv (step := stpF none (ns.map .int) (gNm 1) lbody)
    (fun ds ρ M => (∀ d ∈ ds, ∃ i, d = D.int i) ∧ ∃ y1 y2 y3 y4, ρ = [some (.scr ns), y1, y2, y3, y4]) (by
      rintro d ds ρ M ⟨hd, y1, y2, y3, y4, rfl⟩
      obtain ⟨i, rfl⟩ := hd d List.mem_cons_self
      obtain ⟨z2, z3, z4, e⟩ := body_ok (some (.scr ns)) i y2 y3 y4 M
      refine ⟨.nx, _, M, ?_, .inl rfl, fun d hd' => hd d (List.mem_cons_of_mem _ hd'), some (.int i), z2, z3, z4, rfl⟩
      rw [stp_none]
      simp only [gNm_ap, Option.bind_some, List.set_cons_succ, List.set_cons_zero]
      exact e) (ns.map .int) [some (.scr ns), none, none, none, none] [] ⟨by
        intro d hd
        obtain ⟨i, _, rfl⟩ := List.mem_map.mp hd; exact ⟨i, rfl⟩, none, none, none, none, rfl⟩
  refine ⟨(CI.finish [] (.val (.bl true)) M').2, ?_⟩
  have fin : ∀ M', (CI.finish [] (.val (.bl true)) M').1 = .val (.bl true) := fun M' => by
    unfold CI.finish; simp [nl]; split <;> rfl
  have as : ∀ M, asS M (.scr ns) = some (ns.map .int) := fun _ => rfl
  unfold F_law mkFn B_law
  simp -implicitDefEqProofs [as, gkOf, e]
  exact Prod.ext (fin _) rfl
end K04

namespace K04
open PySem PySem.Spec PyProof.Rows L2 CI
def top (i : Nat) : Stmt := PySem.Challenge.pw_fardesk_k04_terminal_scan_states.main.body.getD i (.Pass ⟨0, 0, 0, 0⟩)
abbrev s_scan : Stmt := top 8
def d_scan : He.DefD := ⟨("scan", none), "scan", "scan", defArgs s_scan, defBody s_scan, defScope s_scan, [], []⟩
abbrev s_scan_ground : Stmt := top 9
def d_scan_ground : He.DefD := ⟨("scan_ground", none), "scan_ground", "scan_ground", defArgs s_scan_ground, defBody s_scan_ground, defScope s_scan_ground, [], []⟩
abbrev s_scan_escape : Stmt := top 10
def d_scan_escape : He.DefD := ⟨("scan_escape", none), "scan_escape", "scan_escape", defArgs s_scan_escape, defBody s_scan_escape, defScope s_scan_escape, [], []⟩
abbrev s_scan_end : Stmt := top 11
def d_scan_end : He.DefD := ⟨("scan_end", none), "scan_end", "scan_end", defArgs s_scan_end, defBody s_scan_end, defScope s_scan_end, [], []⟩
abbrev s_with_digit : Stmt := top 12
def d_with_digit : He.DefD := ⟨("with_digit", none), "with_digit", "with_digit", defArgs s_with_digit, defBody s_with_digit, defScope s_with_digit, [], []⟩
abbrev s_with_next : Stmt := top 13
def d_with_next : He.DefD := ⟨("with_next", none), "with_next", "with_next", defArgs s_with_next, defBody s_with_next, defScope s_with_next, [], []⟩
abbrev s_scan_sequence : Stmt := top 14
def d_scan_sequence : He.DefD := ⟨("scan_sequence", none), "scan_sequence", "scan_sequence", defArgs s_scan_sequence, defBody s_scan_sequence, defScope s_scan_sequence, [], []⟩
abbrev s_scan_command : Stmt := top 15
def d_scan_command : He.DefD := ⟨("scan_command", none), "scan_command", "scan_command", defArgs s_scan_command, defBody s_scan_command, defScope s_scan_command, [], []⟩
abbrev s__law_draws : Stmt := top 18
def d__law_draws : He.DefD := ⟨("_law_draws", none), "_law_draws", "_law_draws", defArgs s__law_draws, defBody s__law_draws, defScope s__law_draws, [], []⟩
abbrev s__law_state : Stmt := top 19
def d__law_state : He.DefD := ⟨("_law_state", none), "_law_state", "_law_state", defArgs s__law_state, defBody s__law_state, defScope s__law_state, [], []⟩
abbrev s__law_plain : Stmt := top 20
def d__law_plain : He.DefD := ⟨("_law_plain", none), "_law_plain", "_law_plain", defArgs s__law_plain, defBody s__law_plain, defScope s__law_plain, [], []⟩
abbrev s__law_due : Stmt := top 21
def d__law_due : He.DefD := ⟨("_law_due", none), "_law_due", "_law_due", defArgs s__law_due, defBody s__law_due, defScope s__law_due, [], []⟩
abbrev s_law : Stmt := top 22
def d_law : He.DefD := ⟨("law", none), "law", "law", defArgs s_law, defBody s_law, defScope s_law, [], []⟩
def fn : List He.DefD := [d_scan, d_scan_ground, d_scan_escape, d_scan_end, d_with_digit, d_with_next, d_scan_sequence, d_scan_command, d__law_draws, d__law_state, d__law_plain, d__law_due, d_law]
def fa : List He.Fa := ([.glo "scan", .glo "scan_ground", .glo "scan_escape", .glo "scan_end", .glo "with_digit", .glo "with_next", .glo "scan_sequence", .glo "scan_command", .glo "_law_cell", .glo "_law_draws", .glo "_law_state", .glo "_law_plain", .glo "_law_due", .glo "law", .free "len", .free "int", .free "tuple", .free "min", .free "range"] : List He.Fa)
def cs : Cst := [("GROUND", (.tup [(.str "ground")])), ("ESCAPE", (.tup [(.str "escape")])), ("BETWEEN", (.tup [(.str "between")])), ("INVALID", (.tup [(.str "invalid")])), ("MOST_NUMBERS", (.int (16))), ("MOST_NUMBER", (.int (9999))), ("MOST_TEXT", (.int (42)))]
theorem sc__law_draws : FnScope ["_law_cell_here", "_law_many", "_law_rows", "_law_rest", "_law_state_here", "_law_k"] ["_law_cell_here", "_law_many"] (defScope s__law_draws) := ⟨rfl, rfl, rfl, by decide +kernel, rfl, by decide +kernel, by decide +kernel⟩
theorem ok__law_draws {P : Program} {w : World} {K : PySem.W.Frag} {h : Heap} {mg : Str → Option Value} {base : Heap} (KX : K.In h) (G : h.Ns mainGlobals mg) (c : SaysC fa fn cs K) {fd : FuncData} (FD : FunD K "_law_draws" "_law_draws" (defArgs s__law_draws) (defBody s__law_draws) (defScope s__law_draws) [] [] (He.fAd K ("_law_draws", none)) fd) : FnOk P w K mg base CX0 1 (He.fAd K ("_law_draws", none)) fd ["_law_cell_here", "_law_many"] (spF K F__law_draws) := by
  unfold F__law_draws
  exact fn_ok FD sc__law_draws fun cdv A outer s H E hr => by
    unfold B__law_draws
    exact (cb_cons (cs_setM (ps_set (i := 2) sc__law_draws.nd rfl (by first | exact Or.inl rfl | exact Or.inr rfl) (ce_lst ca_nil)))
    (cb_cons (cs_set (ps_set (i := 3) sc__law_draws.nd rfl (by first | exact Or.inl rfl | exact Or.inr rfl) (ce_callTy ok_int (by rfl) (He.free_ok KX G (c.fact 15 rfl)) (by decide +kernel) (ca_cons (ce_var (pv 0)) ca_nil))))
    (cb_cons (cs_if (ct_cmp ok_ge (ce_var (pv 3)) (ce_bin ok_pow ce_int ce_int) (nomark _))
    (cb_one (cs_for PassesOwn.never rfl (ci_rg1 (by rfl) (He.free_ok KX G (c.fact 18 rfl)) (ce_var (pv 1))) (cg_of (pg_name (i := 5) sc__law_draws.nd rfl (by first | exact Or.inl rfl | exact Or.inr rfl)))
    (cb_one (cs_if (ct_cmp ok_gt (ce_var (pv 3)) ce_int (nomark _))
    (cb_cons (cs_expr (ce_bm PySem.F.plainAttrs_list PySem.F.slot_list_append PySem.F.type_list_append ok_append (ce_var (pv 2)) (ca_cons (ce_bin ok_mod (ce_callTy ok_int (by rfl) (He.free_ok KX G (c.fact 15 rfl)) (by decide +kernel) (ca_cons (ce_var (pv 3)) ca_nil)) ce_int) ca_nil)))
    (cb_one (cs_set (ps_set (i := 3) sc__law_draws.nd rfl (by first | exact Or.inl rfl | exact Or.inr rfl) (ce_bin ok_div (ce_var (pv 3)) ce_int)))))
    cb_nil))))
    cb_nil)
    (cb_cons (cs_set (ps_set (i := 4) sc__law_draws.nd rfl (by first | exact Or.inl rfl | exact Or.inr rfl) (ce_bin ok_mod (ce_callTy ok_int (by rfl) (He.free_ok KX G (c.fact 15 rfl)) (by decide +kernel) (ca_cons (ce_bin ok_add (ce_bin ok_mulI (ce_callTy ok_int (by rfl) (He.free_ok KX G (c.fact 15 rfl)) (by decide +kernel) (ca_cons (ce_var (pv 0)) ca_nil)) ce_int) ce_int) ca_nil)) ce_int)))
    (cb_cons (cs_for PassesOwn.never rfl (ci_rg1 (by rfl) (He.free_ok KX G (c.fact 18 rfl)) (ce_var (pv 1))) (cg_of (pg_name (i := 5) sc__law_draws.nd rfl (by first | exact Or.inl rfl | exact Or.inr rfl)))
    (cb_cons (cs_set (ps_set (i := 4) sc__law_draws.nd rfl (by first | exact Or.inl rfl | exact Or.inr rfl) (ce_bin ok_mod (ce_callTy ok_int (by rfl) (He.free_ok KX G (c.fact 15 rfl)) (by decide +kernel) (ca_cons (ce_bin ok_add (ce_bin ok_add (ce_bin ok_mulI (ce_var (pv 4)) ce_int) (ce_bin ok_mulI (ce_var (pv 5)) ce_int)) ce_int) ca_nil)) ce_int)))
    (cb_one (cs_if (ct_cmp ok_lt (ce_callB ok_len (by rfl) (He.free_ok KX G (c.fact 14 rfl)) (by decide +kernel) (ca_cons (ce_var (pv 2)) ca_nil)) (ce_var (pv 1)) (nomark _))
    (cb_one (cs_expr (ce_bm PySem.F.plainAttrs_list PySem.F.slot_list_append PySem.F.type_list_append ok_append (ce_var (pv 2)) (ca_cons (ce_bin ok_mod (ce_callTy ok_int (by rfl) (He.free_ok KX G (c.fact 15 rfl)) (by decide +kernel) (ca_cons (ce_bin ok_mod (ce_callTy ok_int (by rfl) (He.free_ok KX G (c.fact 15 rfl)) (by decide +kernel) (ca_cons (ce_bin ok_add (ce_bin ok_mulI (ce_var (pv 4)) ce_int) ce_int) ca_nil)) ce_int) ca_nil)) ce_int) ca_nil))))
    cb_nil))))
    (cb_one (cs_ret (ce_var (pv 2)))))))))
theorem sc__law_state : FnScope ["_law_draws_here", "_law_numbers", "_law_text", "_law_kinds", "_law_fresh", "_law_draw"] ["_law_draws_here"] (defScope s__law_state) := ⟨rfl, rfl, rfl, by decide +kernel, rfl, by decide +kernel, by decide +kernel⟩
theorem ok__law_state {P : Program} {w : World} {K : PySem.W.Frag} {h : Heap} {mg : Str → Option Value} {base : Heap} (KX : K.In h) (G : h.Ns mainGlobals mg) (c : SaysC fa fn cs K) {fd : FuncData} (FD : FunD K "_law_state" "_law_state" (defArgs s__law_state) (defBody s__law_state) (defScope s__law_state) [] [] (He.fAd K ("_law_state", none)) fd) : FnOk P w K mg base CX0 1 (He.fAd K ("_law_state", none)) fd ["_law_draws_here"] (spF K F__law_state) := by
  unfold F__law_state
  exact fn_ok FD sc__law_state fun cdv A outer s H E hr => by
    unfold B__law_state
    exact (cb_cons (cs_set (ps_set (i := 1) sc__law_state.nd rfl (by first | exact Or.inl rfl | exact Or.inr rfl) (ce_callTy ok_tuple (by rfl) (He.free_ok KX G (c.fact 16 rfl)) (by decide +kernel) (ca_cons (ce_lc (own := [("_law_draw", 5)]) rfl sc__law_state.nd (ci_seq (ce_sl (ce_var (pv 0)) (co_some ce_int) (co_some (ce_bin ok_add ce_int (ce_bin ok_mod (ce_ix (ce_var (pv 0)) ce_int (fun _ _ => rfl)) ce_int))))) (blkOk_by (own := [("_law_draw", 5)]) (N := ["_law_draws_here", "_law_numbers", "_law_text", "_law_kinds", "_law_fresh", "_law_draw"]) (sc := defScope s__law_state) (by decide +kernel)) (fun _ _ _ _ _ => (cgw_of (pg_name (i := 5) sc__law_state.nd rfl (by first | exact Or.inl rfl | exact Or.inr rfl)) (by decide))) (fun _ _ _ _ _ => cts_nil) (fun _ _ _ _ _ => (ce_if (ct_cmp (ok_eq hr.units) (ce_bin ok_mod (ce_var (pv 5)) ce_int) ce_int (nomark _)) ce_non (ce_var (pv 5))))) ca_nil))))
    (cb_cons (cs_if (ct_cmp (ok_eq hr.units) (ce_bin ok_mod (ce_ix (ce_var (pv 0)) ce_int (fun _ _ => rfl)) ce_int) ce_int (nomark _))
    (cb_one (cs_set (ps_set (i := 1) sc__law_state.nd rfl (by first | exact Or.inl rfl | exact Or.inr rfl) (ce_bin ok_add (ce_bin ok_mul (ce_tup (ca_cons ce_int ca_nil)) ce_int) (ce_bin ok_mul (ce_tup (ca_cons ce_non ca_nil)) (ce_bin ok_mod (ce_ix (ce_var (pv 0)) ce_int (fun _ _ => rfl)) ce_int))))))
    cb_nil)
    (cb_cons (cs_set (ps_set (i := 2) sc__law_state.nd rfl (by first | exact Or.inl rfl | exact Or.inr rfl) (ce_callTy ok_tuple (by rfl) (He.free_ok KX G (c.fact 16 rfl)) (by decide +kernel) (ca_cons (ce_lc (own := [("_law_draw", 5)]) rfl sc__law_state.nd (ci_seq (ce_sl (ce_var (pv 0)) (co_some ce_int) (co_some (ce_bin ok_add ce_int (ce_bin ok_mod (ce_ix (ce_var (pv 0)) ce_int (fun _ _ => rfl)) ce_int))))) (blkOk_by (own := [("_law_draw", 5)]) (N := ["_law_draws_here", "_law_numbers", "_law_text", "_law_kinds", "_law_fresh", "_law_draw"]) (sc := defScope s__law_state) (by decide +kernel)) (fun _ _ _ _ _ => (cgw_of (pg_name (i := 5) sc__law_state.nd rfl (by first | exact Or.inl rfl | exact Or.inr rfl)) (by decide))) (fun _ _ _ _ _ => cts_nil) (fun _ _ _ _ _ => (ce_bin ok_add ce_int (ce_bin ok_mod (ce_var (pv 5)) ce_int)))) ca_nil))))
    (cb_cons (cs_setM (ps_set (i := 3) sc__law_state.nd rfl (by first | exact Or.inl rfl | exact Or.inr rfl) (ce_lst (ca_cons (ce_tup (ca_cons ce_str ca_nil)) (ca_cons (ce_tup (ca_cons ce_str ca_nil)) (ca_cons (ce_tup (ca_cons ce_str ca_nil)) (ca_cons (ce_tup (ca_cons ce_str ca_nil)) (ca_cons (ce_tup (ca_cons ce_str (ca_cons (ce_var (pv 2)) (ca_cons (ce_cmp (ok_eq hr.units) (ce_bin ok_mod (ce_ix (ce_var (pv 0)) ce_int (fun _ _ => rfl)) ce_int) ce_int (nomark _)) ca_nil)))) ca_nil))))))))
    (cb_cons (cs_if (ct_cmp (ok_eq hr.units) (ce_bin ok_mod (ce_ix (ce_var (pv 0)) ce_int (fun _ _ => rfl)) ce_int) ce_int (nomark _))
    (cb_one (cs_asg (ps_asg (ce_tup (ca_cons ce_str (ca_cons (ce_bin ok_mul (ce_tup (ca_cons ce_int ca_nil)) ce_int) (ca_cons ce_bl ca_nil)))) (cg_ix (ce_var (pv 3)) ce_int))))
    cb_nil)
    (cb_cons (cs_set (ps_set (i := 4) sc__law_state.nd rfl (by first | exact Or.inl rfl | exact Or.inr rfl) (ce_and (ce_cmp (ok_eq hr.units) (ce_callB ok_len (by rfl) (He.free_ok KX G (c.fact 14 rfl)) (by decide +kernel) (ca_cons (ce_var (pv 1)) ca_nil)) ce_int (nomark _)) (ce_one (ce_cmp (ok_eq hr.units) (ce_bin ok_mod (ce_ix (ce_var (pv 0)) ce_int (fun _ _ => rfl)) ce_int) ce_int (nomark _))))))
    (cb_cons (cs_expr (ce_bm PySem.F.plainAttrs_list PySem.F.slot_list_append PySem.F.type_list_append ok_append (ce_var (pv 3)) (ca_cons (ce_tup (ca_cons ce_str (ca_cons (ce_and (ce_cmp (ok_eq hr.units) (ce_bin ok_mod (ce_ix (ce_var (pv 0)) ce_int (fun _ _ => rfl)) ce_int) ce_int (nomark _)) (ce_one (ce_not (ce_var (pv 4))))) (ca_cons (ce_var (pv 1)) (ca_cons (ce_var (pv 4)) ca_nil))))) ca_nil)))
    (cb_one (cs_ret (ce_ix (ce_var (pv 3)) (ce_bin ok_mod (ce_ix (ce_var (pv 0)) ce_int (fun _ _ => rfl)) ce_int) (fun _ _ => rfl)))))))))))
theorem sc_scan_end : FnScope ["state", "character", "least"] ["state", "character"] (defScope s_scan_end) := ⟨rfl, rfl, rfl, by decide +kernel, rfl, by decide +kernel, by decide +kernel⟩
theorem ok_scan_end {P : Program} {w : World} {K : PySem.W.Frag} {h : Heap} {mg : Str → Option Value} {base : Heap} (KX : K.In h) (G : h.Ns mainGlobals mg) (c : SaysC fa fn cs K) {fd : FuncData} (FD : FunD K "scan_end" "scan_end" (defArgs s_scan_end) (defBody s_scan_end) (defScope s_scan_end) [] [] (He.fAd K ("scan_end", none)) fd) : FnOk P w K mg base CX0 1 (He.fAd K ("scan_end", none)) fd ["state", "character"] (spF K F_scan_end) := by
  obtain ⟨u_GROUND, v_GROUND, m_GROUND, r_GROUND, q_GROUND⟩ := cName_ok KX G (c.cst 0 rfl)
  unfold F_scan_end
  exact fn_ok FD sc_scan_end fun cdv A outer s H E hr => by
    unfold B_scan_end
    exact (cb_cons (cs_set (ps_set (i := 2) sc_scan_end.nd rfl (by first | exact Or.inl rfl | exact Or.inr rfl) (ce_if (ct_cmp (ok_eq hr.units) (ce_ix (ce_var (pv 0)) ce_int (fun _ _ => rfl)) ce_str (nomark _)) ce_int ce_int)))
    (cb_cons (cs_if (ct_chain ok_le ok_le (ce_var (pv 2)) (ce_var (pv 1)) ce_int)
    (cb_one (cs_ret (ce_tup (ca_cons (ce_val (pe_glob (by rfl) m_GROUND r_GROUND) q_GROUND) (ca_cons ce_non ca_nil)))))
    cb_nil)
    (cb_one (cs_ret (ce_tup (ca_cons (ce_var (pv 0)) (ca_cons ce_non ca_nil)))))))
theorem sc_scan_ground : FnScope ["character"] ["character"] (defScope s_scan_ground) := ⟨rfl, rfl, rfl, by decide +kernel, rfl, by decide +kernel, by decide +kernel⟩
theorem ok_scan_ground {P : Program} {w : World} {K : PySem.W.Frag} {h : Heap} {mg : Str → Option Value} {base : Heap} (KX : K.In h) (G : h.Ns mainGlobals mg) (c : SaysC fa fn cs K) {fd : FuncData} (FD : FunD K "scan_ground" "scan_ground" (defArgs s_scan_ground) (defBody s_scan_ground) (defScope s_scan_ground) [] [] (He.fAd K ("scan_ground", none)) fd) : FnOk P w K mg base CX0 1 (He.fAd K ("scan_ground", none)) fd ["character"] (spF K F_scan_ground) := by
  obtain ⟨u_GROUND, v_GROUND, m_GROUND, r_GROUND, q_GROUND⟩ := cName_ok KX G (c.cst 0 rfl)
  unfold F_scan_ground
  exact fn_ok FD sc_scan_ground fun cdv A outer s H E hr => by
    unfold B_scan_ground
    exact (cb_cons (cs_if (ct_chain ok_le ok_le ce_int (ce_var (pv 0)) ce_int)
    (cb_one (cs_ret (ce_tup (ca_cons (ce_val (pe_glob (by rfl) m_GROUND r_GROUND) q_GROUND) (ca_cons ce_non ca_nil)))))
    cb_nil)
    (cb_one (cs_ret (ce_tup (ca_cons (ce_val (pe_glob (by rfl) m_GROUND r_GROUND) q_GROUND) (ca_cons (ce_tup (ca_cons ce_str (ca_cons (ce_var (pv 0)) ca_nil))) ca_nil))))))
theorem sc_scan_escape : FnScope ["character"] ["character"] (defScope s_scan_escape) := ⟨rfl, rfl, rfl, by decide +kernel, rfl, by decide +kernel, by decide +kernel⟩
theorem ok_scan_escape {P : Program} {w : World} {K : PySem.W.Frag} {h : Heap} {mg : Str → Option Value} {base : Heap} (KX : K.In h) (G : h.Ns mainGlobals mg) (c : SaysC fa fn cs K) {fd : FuncData} (FD : FunD K "scan_escape" "scan_escape" (defArgs s_scan_escape) (defBody s_scan_escape) (defScope s_scan_escape) [] [] (He.fAd K ("scan_escape", none)) fd) : FnOk P w K mg base CX0 1 (He.fAd K ("scan_escape", none)) fd ["character"] (spF K F_scan_escape) := by
  obtain ⟨u_GROUND, v_GROUND, m_GROUND, r_GROUND, q_GROUND⟩ := cName_ok KX G (c.cst 0 rfl)
  obtain ⟨u_BETWEEN, v_BETWEEN, m_BETWEEN, r_BETWEEN, q_BETWEEN⟩ := cName_ok KX G (c.cst 2 rfl)
  unfold F_scan_escape
  exact fn_ok FD sc_scan_escape fun cdv A outer s H E hr => by
    unfold B_scan_escape
    exact (cb_cons (cs_if (ct_cmp (ok_eq hr.units) (ce_var (pv 0)) ce_int (nomark _))
    (cb_one (cs_ret (ce_tup (ca_cons (ce_tup (ca_cons ce_str (ca_cons ce_bl (ca_cons (ce_tup ca_nil) (ca_cons ce_bl ca_nil))))) (ca_cons ce_non ca_nil)))))
    cb_nil)
    (cb_cons (cs_if (ct_cmp (ok_eq hr.units) (ce_var (pv 0)) ce_int (nomark _))
    (cb_one (cs_ret (ce_tup (ca_cons (ce_tup (ca_cons ce_str (ca_cons (ce_tup ca_nil) (ca_cons ce_bl ca_nil)))) (ca_cons ce_non ca_nil)))))
    cb_nil)
    (cb_cons (cs_if (ct_chain ok_le ok_le ce_int (ce_var (pv 0)) ce_int)
    (cb_one (cs_ret (ce_tup (ca_cons (ce_val (pe_glob (by rfl) m_BETWEEN r_BETWEEN) q_BETWEEN) (ca_cons ce_non ca_nil)))))
    cb_nil)
    (cb_one (cs_ret (ce_tup (ca_cons (ce_val (pe_glob (by rfl) m_GROUND r_GROUND) q_GROUND) (ca_cons (ce_tup (ca_cons ce_str (ca_cons (ce_var (pv 0)) ca_nil))) ca_nil))))))))
theorem sc_with_next : FnScope ["numbers"] ["numbers"] (defScope s_with_next) := ⟨rfl, rfl, rfl, by decide +kernel, rfl, by decide +kernel, by decide +kernel⟩
theorem ok_with_next {P : Program} {w : World} {K : PySem.W.Frag} {h : Heap} {mg : Str → Option Value} {base : Heap} (KX : K.In h) (G : h.Ns mainGlobals mg) (c : SaysC fa fn cs K) {fd : FuncData} (FD : FunD K "with_next" "with_next" (defArgs s_with_next) (defBody s_with_next) (defScope s_with_next) [] [] (He.fAd K ("with_next", none)) fd) : FnOk P w K mg base CX0 1 (He.fAd K ("with_next", none)) fd ["numbers"] (spF K F_with_next) := by
  obtain ⟨u_MOST_NUMBERS, v_MOST_NUMBERS, m_MOST_NUMBERS, r_MOST_NUMBERS, q_MOST_NUMBERS⟩ := cName_ok KX G (c.cst 4 rfl)
  unfold F_with_next
  exact fn_ok FD sc_with_next fun cdv A outer s H E hr => by
    unfold B_with_next
    exact (cb_cons (cs_if (ct_not (ct_truth (ce_var (pv 0)) (fun _ => rfl)))
    (cb_one (cs_ret (ce_tup (ca_cons ce_non (ca_cons ce_non ca_nil)))))
    cb_nil)
    (cb_cons (cs_if (ct_cmp ok_gt (ce_callB ok_len (by rfl) (He.free_ok KX G (c.fact 14 rfl)) (by decide +kernel) (ca_cons (ce_var (pv 0)) ca_nil)) (ce_val (pe_glob (by rfl) m_MOST_NUMBERS r_MOST_NUMBERS) q_MOST_NUMBERS) (nomark _))
    (cb_one (cs_ret (ce_var (pv 0))))
    cb_nil)
    (cb_one (cs_ret (ce_bin ok_add (ce_var (pv 0)) (ce_tup (ca_cons ce_non ca_nil)))))))
theorem sc_with_digit : FnScope ["numbers", "digit", "last"] ["numbers", "digit"] (defScope s_with_digit) := ⟨rfl, rfl, rfl, by decide +kernel, rfl, by decide +kernel, by decide +kernel⟩
theorem ok_with_digit {P : Program} {w : World} {K : PySem.W.Frag} {h : Heap} {mg : Str → Option Value} {base : Heap} (KX : K.In h) (G : h.Ns mainGlobals mg) (c : SaysC fa fn cs K) {fd : FuncData} (FD : FunD K "with_digit" "with_digit" (defArgs s_with_digit) (defBody s_with_digit) (defScope s_with_digit) [] [] (He.fAd K ("with_digit", none)) fd) : FnOk P w K mg base CX0 1 (He.fAd K ("with_digit", none)) fd ["numbers", "digit"] (spF K F_with_digit) := by
  obtain ⟨u_MOST_NUMBERS, v_MOST_NUMBERS, m_MOST_NUMBERS, r_MOST_NUMBERS, q_MOST_NUMBERS⟩ := cName_ok KX G (c.cst 4 rfl)
  obtain ⟨u_MOST_NUMBER, v_MOST_NUMBER, m_MOST_NUMBER, r_MOST_NUMBER, q_MOST_NUMBER⟩ := cName_ok KX G (c.cst 5 rfl)
  unfold F_with_digit
  exact fn_ok FD sc_with_digit fun cdv A outer s H E hr => by
    unfold B_with_digit
    exact (cb_cons (cs_if (ct_not (ct_truth (ce_var (pv 0)) (fun _ => rfl)))
    (cb_one (cs_ret (ce_tup (ca_cons (ce_var (pv 1)) ca_nil))))
    cb_nil)
    (cb_cons (cs_if (ct_cmp ok_gt (ce_callB ok_len (by rfl) (He.free_ok KX G (c.fact 14 rfl)) (by decide +kernel) (ca_cons (ce_var (pv 0)) ca_nil)) (ce_val (pe_glob (by rfl) m_MOST_NUMBERS r_MOST_NUMBERS) q_MOST_NUMBERS) (nomark _))
    (cb_one (cs_ret (ce_var (pv 0))))
    cb_nil)
    (cb_cons (cs_set (ps_set (i := 2) sc_with_digit.nd rfl (by first | exact Or.inl rfl | exact Or.inr rfl) (ce_ix (ce_var (pv 0)) (ce_neg ce_int) (fun _ _ => rfl))))
    (cb_cons (cs_if (ct_cmp ok_is (ce_var (pv 2)) ce_non (nomark _))
    (cb_one (cs_set (ps_set (i := 2) sc_with_digit.nd rfl (by first | exact Or.inl rfl | exact Or.inr rfl) ce_int)))
    cb_nil)
    (cb_one (cs_ret (ce_bin ok_add (ce_sl (ce_var (pv 0)) co_none (co_some (ce_neg ce_int))) (ce_tup (ca_cons (ce_callB (ok_min2 rfl) (by rfl) (He.free_ok KX G (c.fact 17 rfl)) (by decide +kernel) (ca_cons (ce_val (pe_glob (by rfl) m_MOST_NUMBER r_MOST_NUMBER) q_MOST_NUMBER) (ca_cons (ce_bin ok_add (ce_bin ok_mulI (ce_var (pv 2)) ce_int) (ce_var (pv 1))) ca_nil))) ca_nil)))))))))
theorem sc_scan_sequence : FnScope ["state", "character", "word", "private", "numbers", "fresh"] ["state", "character"] (defScope s_scan_sequence) := ⟨rfl, rfl, rfl, by decide +kernel, rfl, by decide +kernel, by decide +kernel⟩
theorem ok_scan_sequence {P : Program} {w : World} {K : PySem.W.Frag} {h : Heap} {mg : Str → Option Value} {base : Heap} (KX : K.In h) (G : h.Ns mainGlobals mg) (c : SaysC fa fn cs K) {fd : FuncData} (FD : FunD K "scan_sequence" "scan_sequence" (defArgs s_scan_sequence) (defBody s_scan_sequence) (defScope s_scan_sequence) [] [] (He.fAd K ("scan_sequence", none)) fd) : FnOk P w K mg base CX0 2 (He.fAd K ("scan_sequence", none)) fd ["state", "character"] (spF K F_scan_sequence) := by
  obtain ⟨u_GROUND, v_GROUND, m_GROUND, r_GROUND, q_GROUND⟩ := cName_ok KX G (c.cst 0 rfl)
  obtain ⟨u_INVALID, v_INVALID, m_INVALID, r_INVALID, q_INVALID⟩ := cName_ok KX G (c.cst 3 rfl)
  obtain ⟨u_MOST_NUMBERS, v_MOST_NUMBERS, m_MOST_NUMBERS, r_MOST_NUMBERS, q_MOST_NUMBERS⟩ := cName_ok KX G (c.cst 4 rfl)
  obtain ⟨fd_with_next, FD_with_next⟩ := c.def_ 5 (d := d_with_next) rfl
  have G_with_next := ok_with_next (P := P) (w := w) (base := base) KX G c FD_with_next
  have b_with_next : Binds K fd_with_next ["numbers"] [] := FD_with_next.bindsN fun _ _ _ _ _ _ us hl => match us, hl with | [_], _ => rfl
  have kp_with_next := FD_with_next.kp
  obtain ⟨fd_with_digit, FD_with_digit⟩ := c.def_ 4 (d := d_with_digit) rfl
  have G_with_digit := ok_with_digit (P := P) (w := w) (base := base) KX G c FD_with_digit
  have b_with_digit : Binds K fd_with_digit ["numbers", "digit"] [] := FD_with_digit.bindsN fun _ _ _ _ _ _ us hl => match us, hl with | [_, _], _ => rfl
  have kp_with_digit := FD_with_digit.kp
  unfold F_scan_sequence
  exact fn_ok FD sc_scan_sequence fun cdv A outer s H E hr => by
    unfold B_scan_sequence
    exact (cb_cons (cs_asg (ps_asg (ce_var (pv 0)) (cg_tup rfl (cgs_cons (cg_of (pg_name (i := 2) sc_scan_sequence.nd rfl (by first | exact Or.inl rfl | exact Or.inr rfl))) (cgs_cons (cg_of (pg_name (i := 3) sc_scan_sequence.nd rfl (by first | exact Or.inl rfl | exact Or.inr rfl))) (cgs_cons (cg_of (pg_name (i := 4) sc_scan_sequence.nd rfl (by first | exact Or.inl rfl | exact Or.inr rfl))) (cgs_cons (cg_of (pg_name (i := 5) sc_scan_sequence.nd rfl (by first | exact Or.inl rfl | exact Or.inr rfl))) cgs_nil)))))))
    (cb_cons (cs_if (ct_chain ok_le ok_le ce_int (ce_var (pv 1)) ce_int)
    (cb_one (cs_ret (ce_tup (ca_cons (ce_val (pe_glob (by rfl) m_GROUND r_GROUND) q_GROUND) (ca_cons (ce_tup (ca_cons ce_str (ca_cons (ce_var (pv 3)) (ca_cons (ce_sl (ce_var (pv 4)) co_none (co_some (ce_val (pe_glob (by rfl) m_MOST_NUMBERS r_MOST_NUMBERS) q_MOST_NUMBERS))) (ca_cons (ce_var (pv 1)) ca_nil))))) ca_nil)))))
    cb_nil)
    (cb_cons (cs_if (ct_cmp (ok_eq hr.units) (ce_var (pv 1)) ce_int (nomark _))
    (cb_one (cs_ret (ce_tup (ca_cons (ce_var (pv 0)) (ca_cons ce_non ca_nil)))))
    cb_nil)
    (cb_cons (cs_if (ct_w (cw_and (ct_cmp (ok_eq hr.units) (ce_var (pv 1)) ce_int (nomark _)) (cw_and1 (ct_truth (ce_var (pv 5)) (fun _ => rfl)))))
    (cb_one (cs_ret (ce_tup (ca_cons (ce_tup (ca_cons ce_str (ca_cons ce_bl (ca_cons (ce_var (pv 4)) (ca_cons ce_bl ca_nil))))) (ca_cons ce_non ca_nil)))))
    cb_nil)
    (cb_cons (cs_if (ct_cmp (ok_eq hr.units) (ce_var (pv 1)) ce_int (nomark _))
    (cb_one (cs_ret (ce_tup (ca_cons (ce_tup (ca_cons ce_str (ca_cons (ce_var (pv 3)) (ca_cons (ce_call G_with_next hr (by rfl) (He.glo_ok KX G (c.fact 5 rfl)) kp_with_next b_with_next (ca_cons (ce_var (pv 4)) ca_nil)) (ca_cons ce_bl ca_nil))))) (ca_cons ce_non ca_nil)))))
    cb_nil)
    (cb_cons (cs_if (ct_chain ok_le ok_le ce_int (ce_var (pv 1)) ce_int)
    (cb_one (cs_ret (ce_tup (ca_cons (ce_tup (ca_cons ce_str (ca_cons (ce_var (pv 3)) (ca_cons (ce_call G_with_digit hr (by rfl) (He.glo_ok KX G (c.fact 4 rfl)) kp_with_digit b_with_digit (ca_cons (ce_var (pv 4)) (ca_cons (ce_bin ok_sub (ce_var (pv 1)) ce_int) ca_nil))) (ca_cons ce_bl ca_nil))))) (ca_cons ce_non ca_nil)))))
    cb_nil)
    (cb_one (cs_ret (ce_tup (ca_cons (ce_val (pe_glob (by rfl) m_INVALID r_INVALID) q_INVALID) (ca_cons ce_non ca_nil)))))))))))
theorem sc_scan : FnScope ["state", "character"] ["state", "character"] (defScope s_scan) := ⟨rfl, rfl, rfl, by decide +kernel, rfl, by decide +kernel, by decide +kernel⟩
theorem sc_scan_command : FnScope ["state", "character", "word", "text", "escaped"] ["state", "character"] (defScope s_scan_command) := ⟨rfl, rfl, rfl, by decide +kernel, rfl, by decide +kernel, by decide +kernel⟩
theorem ok_scan {P : Program} {w : World} {K : PySem.W.Frag} {h : Heap} {mg : Str → Option Value} {base : Heap} (KX : K.In h) (G : h.Ns mainGlobals mg) (c : SaysC fa fn cs K) {fd_scan : FuncData} (FD_scan : FunD K "scan" "scan" (defArgs s_scan) (defBody s_scan) (defScope s_scan) [] [] (He.fAd K ("scan", none)) fd_scan) {fd_scan_command : FuncData} (FD_scan_command : FunD K "scan_command" "scan_command" (defArgs s_scan_command) (defBody s_scan_command) (defScope s_scan_command) [] [] (He.fAd K ("scan_command", none)) fd_scan_command) : ∀ n : Nat, FnOk P w K mg base CX0 (n + 3) (He.fAd K ("scan", none)) fd_scan ["state", "character"] (spF K (F_scan n)) ∧ FnOk P w K mg base CX0 (n + 3) (He.fAd K ("scan_command", none)) fd_scan_command ["state", "character"] (spF K (F_scan_command n))
  | 0 => ⟨⟨fun vs H Q E ⟨_, _, _, _, _, _, _, h, _⟩ => (nomatch h), fun A outer s H args us vs Q E _ _ _ _ ⟨_, _, _, _, _, _, _, h, _⟩ => (nomatch h)⟩, ⟨fun vs H Q E ⟨_, _, _, _, _, _, _, h, _⟩ => (nomatch h), fun A outer s H args us vs Q E _ _ _ _ ⟨_, _, _, _, _, _, _, h, _⟩ => (nomatch h)⟩⟩
  | n + 1 => by
    obtain ⟨u_GROUND, v_GROUND, m_GROUND, r_GROUND, q_GROUND⟩ := cName_ok KX G (c.cst 0 rfl)
    obtain ⟨u_ESCAPE, v_ESCAPE, m_ESCAPE, r_ESCAPE, q_ESCAPE⟩ := cName_ok KX G (c.cst 1 rfl)
    obtain ⟨u_MOST_TEXT, v_MOST_TEXT, m_MOST_TEXT, r_MOST_TEXT, q_MOST_TEXT⟩ := cName_ok KX G (c.cst 6 rfl)
    have IH := ok_scan (P := P) (w := w) (base := base) KX G c FD_scan FD_scan_command n
    have G_scan := IH.1
    have G_scan_command := IH.2
    obtain ⟨fd_scan_end, FD_scan_end⟩ := c.def_ 3 (d := d_scan_end) rfl
    have G_scan_end := ok_scan_end (P := P) (w := w) (base := base) KX G c FD_scan_end
    obtain ⟨fd_scan_ground, FD_scan_ground⟩ := c.def_ 1 (d := d_scan_ground) rfl
    have G_scan_ground := ok_scan_ground (P := P) (w := w) (base := base) KX G c FD_scan_ground
    obtain ⟨fd_scan_escape, FD_scan_escape⟩ := c.def_ 2 (d := d_scan_escape) rfl
    have G_scan_escape := ok_scan_escape (P := P) (w := w) (base := base) KX G c FD_scan_escape
    obtain ⟨fd_scan_sequence, FD_scan_sequence⟩ := c.def_ 6 (d := d_scan_sequence) rfl
    have G_scan_sequence := ok_scan_sequence (P := P) (w := w) (base := base) KX G c FD_scan_sequence
    have b_scan_end : Binds K fd_scan_end ["state", "character"] [] := FD_scan_end.bindsN fun _ _ _ _ _ _ us hl => match us, hl with | [_, _], _ => rfl
    have kp_scan_end := FD_scan_end.kp
    have b_scan_ground : Binds K fd_scan_ground ["character"] [] := FD_scan_ground.bindsN fun _ _ _ _ _ _ us hl => match us, hl with | [_], _ => rfl
    have kp_scan_ground := FD_scan_ground.kp
    have b_scan_escape : Binds K fd_scan_escape ["character"] [] := FD_scan_escape.bindsN fun _ _ _ _ _ _ us hl => match us, hl with | [_], _ => rfl
    have kp_scan_escape := FD_scan_escape.kp
    have b_scan_sequence : Binds K fd_scan_sequence ["state", "character"] [] := FD_scan_sequence.bindsN fun _ _ _ _ _ _ us hl => match us, hl with | [_, _], _ => rfl
    have kp_scan_sequence := FD_scan_sequence.kp
    have b_scan : Binds K fd_scan ["state", "character"] [] := FD_scan.bindsN fun _ _ _ _ _ _ us hl => match us, hl with | [_, _], _ => rfl
    have kp_scan := FD_scan.kp
    have b_scan_command : Binds K fd_scan_command ["state", "character"] [] := FD_scan_command.bindsN fun _ _ _ _ _ _ us hl => match us, hl with | [_, _], _ => rfl
    have kp_scan_command := FD_scan_command.kp
    have e : n + 1 + 3 = (n + 3) + 1 := by omega
    rw [e]
    rw [F_scan_s, F_scan_command_s]
    refine ⟨?_, ?_⟩
    · exact fn_ok FD_scan sc_scan fun cdv A outer s H E hr => by
          unfold B_scan
          exact (cb_cons (cs_if (ct_cmp (ok_eq hr.units) (ce_ix (ce_var (pv 0)) ce_int (fun _ _ => rfl)) ce_str (nomark _))
              (cb_one (cs_ret (ce_call G_scan_command hr (by rfl) (He.glo_ok KX G (c.fact 7 rfl)) kp_scan_command b_scan_command (ca_cons (ce_var (pv 0)) (ca_cons (ce_var (pv 1)) ca_nil)))))
              cb_nil)
              (cb_cons (cs_if (ct_w (cw_or (ct_cmp (ok_eq hr.units) (ce_var (pv 1)) ce_int (nomark _)) (cw_or1 (ct_cmp (ok_eq hr.units) (ce_var (pv 1)) ce_int (nomark _)))))
              (cb_one (cs_ret (ce_tup (ca_cons (ce_val (pe_glob (by rfl) m_GROUND r_GROUND) q_GROUND) (ca_cons ce_non ca_nil)))))
              cb_nil)
              (cb_cons (cs_if (ct_cmp (ok_eq hr.units) (ce_var (pv 1)) ce_int (nomark _))
              (cb_one (cs_ret (ce_tup (ca_cons (ce_val (pe_glob (by rfl) m_ESCAPE r_ESCAPE) q_ESCAPE) (ca_cons ce_non ca_nil)))))
              cb_nil)
              (cb_cons (cs_if (ct_cmp ok_lt (ce_var (pv 1)) ce_int (nomark _))
              (cb_one (cs_ret (ce_tup (ca_cons (ce_var (pv 0)) (ca_cons (ce_tup (ca_cons ce_str (ca_cons (ce_var (pv 1)) ca_nil))) ca_nil)))))
              cb_nil)
              (cb_cons (cs_if (ct_cmp (ok_eq hr.units) (ce_ix (ce_var (pv 0)) ce_int (fun _ _ => rfl)) ce_str (nomark _))
              (cb_one (cs_ret (ce_call G_scan_ground (hr.mono (by omega)) (by rfl) (He.glo_ok KX G (c.fact 1 rfl)) kp_scan_ground b_scan_ground (ca_cons (ce_var (pv 1)) ca_nil))))
              cb_nil)
              (cb_cons (cs_if (ct_cmp (ok_eq hr.units) (ce_ix (ce_var (pv 0)) ce_int (fun _ _ => rfl)) ce_str (nomark _))
              (cb_one (cs_ret (ce_call G_scan_escape (hr.mono (by omega)) (by rfl) (He.glo_ok KX G (c.fact 2 rfl)) kp_scan_escape b_scan_escape (ca_cons (ce_var (pv 1)) ca_nil))))
              cb_nil)
              (cb_cons (cs_if (ct_cmp (ok_eq hr.units) (ce_ix (ce_var (pv 0)) ce_int (fun _ _ => rfl)) ce_str (nomark _))
              (cb_one (cs_ret (ce_call G_scan_sequence (hr.mono (by omega)) (by rfl) (He.glo_ok KX G (c.fact 6 rfl)) kp_scan_sequence b_scan_sequence (ca_cons (ce_var (pv 0)) (ca_cons (ce_var (pv 1)) ca_nil)))))
              cb_nil)
              (cb_one (cs_ret (ce_call G_scan_end (hr.mono (by omega)) (by rfl) (He.glo_ok KX G (c.fact 3 rfl)) kp_scan_end b_scan_end (ca_cons (ce_var (pv 0)) (ca_cons (ce_var (pv 1)) ca_nil))))))))))))
    · exact fn_ok FD_scan_command sc_scan_command fun cdv A outer s H E hr => by
          unfold B_scan_command
          exact (cb_cons (cs_asg (ps_asg (ce_var (pv 0)) (cg_tup rfl (cgs_cons (cg_of (pg_name (i := 2) sc_scan_command.nd rfl (by first | exact Or.inl rfl | exact Or.inr rfl))) (cgs_cons (cg_of (pg_name (i := 3) sc_scan_command.nd rfl (by first | exact Or.inl rfl | exact Or.inr rfl))) (cgs_cons (cg_of (pg_name (i := 4) sc_scan_command.nd rfl (by first | exact Or.inl rfl | exact Or.inr rfl))) cgs_nil))))))
              (cb_cons (cs_if (ct_truth (ce_var (pv 4)) (fun _ => rfl))
              (cb_cons (cs_if (ct_cmp (ok_eq hr.units) (ce_var (pv 1)) ce_int (nomark _))
              (cb_one (cs_ret (ce_tup (ca_cons (ce_val (pe_glob (by rfl) m_GROUND r_GROUND) q_GROUND) (ca_cons (ce_tup (ca_cons ce_str (ca_cons (ce_var (pv 3)) ca_nil))) ca_nil)))))
              cb_nil)
              (cb_one (cs_ret (ce_call G_scan hr (by rfl) (He.glo_ok KX G (c.fact 0 rfl)) kp_scan b_scan (ca_cons (ce_val (pe_glob (by rfl) m_ESCAPE r_ESCAPE) q_ESCAPE) (ca_cons (ce_var (pv 1)) ca_nil))))))
              cb_nil)
              (cb_cons (cs_if (ct_w (cw_or (ct_cmp (ok_eq hr.units) (ce_var (pv 1)) ce_int (nomark _)) (cw_or1 (ct_cmp (ok_eq hr.units) (ce_var (pv 1)) ce_int (nomark _)))))
              (cb_one (cs_ret (ce_tup (ca_cons (ce_val (pe_glob (by rfl) m_GROUND r_GROUND) q_GROUND) (ca_cons ce_non ca_nil)))))
              cb_nil)
              (cb_cons (cs_if (ct_cmp (ok_eq hr.units) (ce_var (pv 1)) ce_int (nomark _))
              (cb_one (cs_ret (ce_tup (ca_cons (ce_val (pe_glob (by rfl) m_GROUND r_GROUND) q_GROUND) (ca_cons (ce_tup (ca_cons ce_str (ca_cons (ce_var (pv 3)) ca_nil))) ca_nil)))))
              cb_nil)
              (cb_cons (cs_if (ct_cmp (ok_eq hr.units) (ce_var (pv 1)) ce_int (nomark _))
              (cb_one (cs_ret (ce_tup (ca_cons (ce_tup (ca_cons ce_str (ca_cons (ce_var (pv 3)) (ca_cons ce_bl ca_nil)))) (ca_cons ce_non ca_nil)))))
              cb_nil)
              (cb_cons (cs_if (ct_w (cw_or (ct_cmp ok_lt (ce_var (pv 1)) ce_int (nomark _)) (cw_or (ct_chain ok_le ok_le ce_int (ce_var (pv 1)) ce_int) (cw_or1 (ct_cmp ok_ge (ce_callB ok_len (by rfl) (He.free_ok KX G (c.fact 14 rfl)) (by decide +kernel) (ca_cons (ce_var (pv 3)) ca_nil)) (ce_val (pe_glob (by rfl) m_MOST_TEXT r_MOST_TEXT) q_MOST_TEXT) (nomark _))))))
              (cb_one (cs_ret (ce_tup (ca_cons (ce_var (pv 0)) (ca_cons ce_non ca_nil)))))
              cb_nil)
              (cb_one (cs_ret (ce_tup (ca_cons (ce_tup (ca_cons ce_str (ca_cons (ce_bin ok_add (ce_var (pv 3)) (ce_tup (ca_cons (ce_var (pv 1)) ca_nil))) (ca_cons ce_bl ca_nil)))) (ca_cons ce_non ca_nil)))))))))))
theorem sc__law_plain : FnScope ["_law_state_here", "_law_character", "_law_word", "_law_private", "_law_numbers", "_law_fresh", "_law_last"] ["_law_state_here", "_law_character"] (defScope s__law_plain) := ⟨rfl, rfl, rfl, by decide +kernel, rfl, by decide +kernel, by decide +kernel⟩
theorem ok__law_plain {P : Program} {w : World} {K : PySem.W.Frag} {h : Heap} {mg : Str → Option Value} {base : Heap} (KX : K.In h) (G : h.Ns mainGlobals mg) (c : SaysC fa fn cs K) {fd : FuncData} (FD : FunD K "_law_plain" "_law_plain" (defArgs s__law_plain) (defBody s__law_plain) (defScope s__law_plain) [] [] (He.fAd K ("_law_plain", none)) fd) : FnOk P w K mg base CX0 1 (He.fAd K ("_law_plain", none)) fd ["_law_state_here", "_law_character"] (spF K F__law_plain) := by
  unfold F__law_plain
  exact fn_ok FD sc__law_plain fun cdv A outer s H E hr => by
    unfold B__law_plain
    exact (cb_cons (cs_set (ps_set (i := 2) sc__law_plain.nd rfl (by first | exact Or.inl rfl | exact Or.inr rfl) (ce_ix (ce_var (pv 0)) ce_int (fun _ _ => rfl))))
    (cb_cons (cs_if (ct_cmp (ok_eq hr.units) (ce_var (pv 2)) ce_str (nomark _))
    (cb_one (cs_ret (ce_tup (ca_cons (ce_var (pv 0)) (ca_cons (ce_if (ct_chain ok_le ok_le ce_int (ce_var (pv 1)) ce_int) ce_non (ce_tup (ca_cons ce_str (ca_cons (ce_var (pv 1)) ca_nil)))) ca_nil)))))
    cb_nil)
    (cb_cons (cs_if (ct_w (cw_and (ct_cmp (ok_eq hr.units) (ce_var (pv 2)) ce_str (nomark _)) (cw_and1 (ct_cmp ok_in (ce_var (pv 1)) (ce_tup (ca_cons ce_int (ca_cons ce_int ca_nil))) (by rfl)))))
    (cb_one (cs_ret (ce_if (ct_cmp (ok_eq hr.units) (ce_var (pv 1)) ce_int (nomark _)) (ce_tup (ca_cons (ce_tup (ca_cons ce_str (ca_cons ce_bl (ca_cons (ce_tup ca_nil) (ca_cons ce_bl ca_nil))))) (ca_cons ce_non ca_nil))) (ce_tup (ca_cons (ce_tup (ca_cons ce_str (ca_cons (ce_tup ca_nil) (ca_cons ce_bl ca_nil)))) (ca_cons ce_non ca_nil))))))
    cb_nil)
    (cb_cons (cs_if (ct_cmp (ok_eq hr.units) (ce_var (pv 2)) ce_str (nomark _))
    (cb_one (cs_ret (ce_if (ct_cmp ok_le (ce_var (pv 1)) ce_int (nomark _)) (ce_tup (ca_cons (ce_tup (ca_cons ce_str ca_nil)) (ca_cons ce_non ca_nil))) (ce_tup (ca_cons (ce_tup (ca_cons ce_str ca_nil)) (ca_cons (ce_tup (ca_cons ce_str (ca_cons (ce_var (pv 1)) ca_nil))) ca_nil))))))
    cb_nil)
    (cb_cons (cs_if (ct_cmp (ok_eq hr.units) (ce_var (pv 2)) ce_str (nomark _))
    (cb_one (cs_ret (ce_if (ct_chain ok_le ok_le ce_int (ce_var (pv 1)) ce_int) (ce_tup (ca_cons (ce_tup (ca_cons ce_str ca_nil)) (ca_cons ce_non ca_nil))) (ce_tup (ca_cons (ce_var (pv 0)) (ca_cons ce_non ca_nil))))))
    cb_nil)
    (cb_cons (cs_if (ct_cmp (ok_eq hr.units) (ce_var (pv 2)) ce_str (nomark _))
    (cb_one (cs_ret (ce_if (ct_chain ok_le ok_le ce_int (ce_var (pv 1)) ce_int) (ce_tup (ca_cons (ce_tup (ca_cons ce_str ca_nil)) (ca_cons ce_non ca_nil))) (ce_tup (ca_cons (ce_var (pv 0)) (ca_cons ce_non ca_nil))))))
    cb_nil)
    (cb_cons (cs_asg (ps_asg (ce_sl (ce_var (pv 0)) (co_some ce_int) co_none) (cg_tup rfl (cgs_cons (cg_of (pg_name (i := 3) sc__law_plain.nd rfl (by first | exact Or.inl rfl | exact Or.inr rfl))) (cgs_cons (cg_of (pg_name (i := 4) sc__law_plain.nd rfl (by first | exact Or.inl rfl | exact Or.inr rfl))) (cgs_cons (cg_of (pg_name (i := 5) sc__law_plain.nd rfl (by first | exact Or.inl rfl | exact Or.inr rfl))) cgs_nil))))))
    (cb_cons (cs_if (ct_chain ok_le ok_le ce_int (ce_var (pv 1)) ce_int)
    (cb_one (cs_ret (ce_tup (ca_cons (ce_tup (ca_cons ce_str ca_nil)) (ca_cons (ce_tup (ca_cons ce_str (ca_cons (ce_var (pv 3)) (ca_cons (ce_sl (ce_var (pv 4)) co_none (co_some ce_int)) (ca_cons (ce_var (pv 1)) ca_nil))))) ca_nil)))))
    cb_nil)
    (cb_cons (cs_if (ct_cmp (ok_eq hr.units) (ce_var (pv 1)) ce_int (nomark _))
    (cb_one (cs_ret (ce_tup (ca_cons (ce_var (pv 0)) (ca_cons ce_non ca_nil)))))
    cb_nil)
    (cb_cons (cs_if (ct_w (cw_and (ct_cmp (ok_eq hr.units) (ce_var (pv 1)) ce_int (nomark _)) (cw_and1 (ct_truth (ce_var (pv 5)) (fun _ => rfl)))))
    (cb_one (cs_ret (ce_tup (ca_cons (ce_tup (ca_cons ce_str (ca_cons ce_bl (ca_cons (ce_var (pv 4)) (ca_cons ce_bl ca_nil))))) (ca_cons ce_non ca_nil)))))
    cb_nil)
    (cb_cons (cs_if (ct_w (cw_or (ct_not (ct_chain ok_le ok_le ce_int (ce_var (pv 1)) ce_int)) (cw_or1 (ct_cmp (ok_eq hr.units) (ce_var (pv 1)) ce_int (nomark _)))))
    (cb_one (cs_ret (ce_tup (ca_cons (ce_tup (ca_cons ce_str ca_nil)) (ca_cons ce_non ca_nil)))))
    cb_nil)
    (cb_cons (cs_if (ct_w (cw_and (ct_cmp ok_lt (ce_callB ok_len (by rfl) (He.free_ok KX G (c.fact 14 rfl)) (by decide +kernel) (ca_cons (ce_var (pv 4)) ca_nil)) ce_int (nomark _)) (cw_and1 (ct_cmp (ok_eq hr.units) (ce_var (pv 1)) ce_int (nomark _)))))
    (cb_one (cs_set (ps_set (i := 4) sc__law_plain.nd rfl (by first | exact Or.inl rfl | exact Or.inr rfl) (ce_if (ct_truth (ce_var (pv 4)) (fun _ => rfl)) (ce_bin ok_add (ce_var (pv 4)) (ce_tup (ca_cons ce_non ca_nil))) (ce_tup (ca_cons ce_non (ca_cons ce_non ca_nil)))))))
    (cb_one (cs_if (ct_cmp ok_lt (ce_callB ok_len (by rfl) (He.free_ok KX G (c.fact 14 rfl)) (by decide +kernel) (ca_cons (ce_var (pv 4)) ca_nil)) ce_int (nomark _))
    (cb_cons (cs_set (ps_set (i := 6) sc__law_plain.nd rfl (by first | exact Or.inl rfl | exact Or.inr rfl) (ce_if (ct_w (cw_or (ct_not (ct_truth (ce_var (pv 4)) (fun _ => rfl))) (cw_or1 (ct_cmp ok_is (ce_ix (ce_var (pv 4)) (ce_neg ce_int) (fun _ _ => rfl)) ce_non (nomark _))))) ce_int (ce_ix (ce_var (pv 4)) (ce_neg ce_int) (fun _ _ => rfl)))))
    (cb_one (cs_set (ps_set (i := 4) sc__law_plain.nd rfl (by first | exact Or.inl rfl | exact Or.inr rfl) (ce_bin ok_add (ce_sl (ce_var (pv 4)) co_none (co_some (ce_neg ce_int))) (ce_tup (ca_cons (ce_callB (ok_min2 rfl) (by rfl) (He.free_ok KX G (c.fact 17 rfl)) (by decide +kernel) (ca_cons ce_int (ca_cons (ce_bin ok_sub (ce_bin ok_add (ce_bin ok_mulI (ce_var (pv 6)) ce_int) (ce_var (pv 1))) ce_int) ca_nil))) ca_nil)))))))
    cb_nil)))
    (cb_one (cs_ret (ce_tup (ca_cons (ce_tup (ca_cons ce_str (ca_cons (ce_var (pv 3)) (ca_cons (ce_var (pv 4)) (ca_cons ce_bl ca_nil))))) (ca_cons ce_non ca_nil)))))))))))))))))
theorem sc__law_due : FnScope ["_law_state_here", "_law_character"] ["_law_state_here", "_law_character"] (defScope s__law_due) := ⟨rfl, rfl, rfl, by decide +kernel, rfl, by decide +kernel, by decide +kernel⟩
theorem ok__law_due {P : Program} {w : World} {K : PySem.W.Frag} {h : Heap} {mg : Str → Option Value} {base : Heap} (KX : K.In h) (G : h.Ns mainGlobals mg) (c : SaysC fa fn cs K) {fd : FuncData} (FD : FunD K "_law_due" "_law_due" (defArgs s__law_due) (defBody s__law_due) (defScope s__law_due) [] [] (He.fAd K ("_law_due", none)) fd) : FnOk P w K mg base CX0 2 (He.fAd K ("_law_due", none)) fd ["_law_state_here", "_law_character"] (spF K F__law_due) := by
  obtain ⟨fd__law_plain, FD__law_plain⟩ := c.def_ 10 (d := d__law_plain) rfl
  have G__law_plain := ok__law_plain (P := P) (w := w) (base := base) KX G c FD__law_plain
  have b__law_plain : Binds K fd__law_plain ["_law_state_here", "_law_character"] [] := FD__law_plain.bindsN fun _ _ _ _ _ _ us hl => match us, hl with | [_, _], _ => rfl
  have kp__law_plain := FD__law_plain.kp
  unfold F__law_due
  exact fn_ok FD sc__law_due fun cdv A outer s H E hr => by
    unfold B__law_due
    exact (cb_cons (cs_if (ct_w (cw_and (ct_cmp (ok_eq hr.units) (ce_ix (ce_var (pv 0)) ce_int (fun _ _ => rfl)) ce_str (nomark _)) (cw_and (ct_truth (ce_ix (ce_var (pv 0)) ce_int (fun _ _ => rfl)) (fun _ => rfl)) (cw_and1 (ct_cmp (ok_eq hr.units) (ce_var (pv 1)) ce_int (nomark _))))))
    (cb_one (cs_ret (ce_tup (ca_cons (ce_tup (ca_cons ce_str ca_nil)) (ca_cons (ce_tup (ca_cons ce_str (ca_cons (ce_ix (ce_var (pv 0)) ce_int (fun _ _ => rfl)) ca_nil))) ca_nil)))))
    cb_nil)
    (cb_cons (cs_if (ct_w (cw_and (ct_cmp (ok_eq hr.units) (ce_ix (ce_var (pv 0)) ce_int (fun _ _ => rfl)) ce_str (nomark _)) (cw_and1 (ct_truth (ce_ix (ce_var (pv 0)) ce_int (fun _ _ => rfl)) (fun _ => rfl)))))
    (cb_one (cs_set (ps_set (i := 0) sc__law_due.nd rfl (by first | exact Or.inl rfl | exact Or.inr rfl) (ce_tup (ca_cons ce_str ca_nil)))))
    cb_nil)
    (cb_cons (cs_if (ct_cmp ok_in (ce_var (pv 1)) (ce_tup (ca_cons ce_int (ca_cons ce_int ca_nil))) (by rfl))
    (cb_one (cs_ret (ce_tup (ca_cons (ce_tup (ca_cons ce_str ca_nil)) (ca_cons ce_non ca_nil)))))
    cb_nil)
    (cb_cons (cs_if (ct_cmp (ok_eq hr.units) (ce_ix (ce_var (pv 0)) ce_int (fun _ _ => rfl)) ce_str (nomark _))
    (cb_cons (cs_if (ct_cmp (ok_eq hr.units) (ce_var (pv 1)) ce_int (nomark _))
    (cb_one (cs_ret (ce_tup (ca_cons (ce_tup (ca_cons ce_str ca_nil)) (ca_cons (ce_tup (ca_cons ce_str (ca_cons (ce_ix (ce_var (pv 0)) ce_int (fun _ _ => rfl)) ca_nil))) ca_nil)))))
    cb_nil)
    (cb_cons (cs_if (ct_cmp (ok_eq hr.units) (ce_var (pv 1)) ce_int (nomark _))
    (cb_one (cs_ret (ce_tup (ca_cons (ce_tup (ca_cons ce_str (ca_cons (ce_ix (ce_var (pv 0)) ce_int (fun _ _ => rfl)) (ca_cons ce_bl ca_nil)))) (ca_cons ce_non ca_nil)))))
    cb_nil)
    (cb_cons (cs_if (ct_w (cw_or (ct_cmp ok_lt (ce_var (pv 1)) ce_int (nomark _)) (cw_or (ct_chain ok_le ok_le ce_int (ce_var (pv 1)) ce_int) (cw_or1 (ct_cmp (ok_eq hr.units) (ce_callB ok_len (by rfl) (He.free_ok KX G (c.fact 14 rfl)) (by decide +kernel) (ca_cons (ce_ix (ce_var (pv 0)) ce_int (fun _ _ => rfl)) ca_nil)) ce_int (nomark _))))))
    (cb_one (cs_ret (ce_tup (ca_cons (ce_var (pv 0)) (ca_cons ce_non ca_nil)))))
    cb_nil)
    (cb_one (cs_ret (ce_tup (ca_cons (ce_tup (ca_cons ce_str (ca_cons (ce_bin ok_add (ce_ix (ce_var (pv 0)) ce_int (fun _ _ => rfl)) (ce_tup (ca_cons (ce_var (pv 1)) ca_nil))) (ca_cons ce_bl ca_nil)))) (ca_cons ce_non ca_nil))))))))
    cb_nil)
    (cb_cons (cs_if (ct_cmp (ok_eq hr.units) (ce_var (pv 1)) ce_int (nomark _))
    (cb_one (cs_ret (ce_tup (ca_cons (ce_tup (ca_cons ce_str ca_nil)) (ca_cons ce_non ca_nil)))))
    cb_nil)
    (cb_cons (cs_if (ct_cmp ok_lt (ce_var (pv 1)) ce_int (nomark _))
    (cb_one (cs_ret (ce_tup (ca_cons (ce_var (pv 0)) (ca_cons (ce_tup (ca_cons ce_str (ca_cons (ce_var (pv 1)) ca_nil))) ca_nil)))))
    cb_nil)
    (cb_one (cs_ret (ce_call G__law_plain hr (by rfl) (He.glo_ok KX G (c.fact 11 rfl)) kp__law_plain b__law_plain (ca_cons (ce_var (pv 0)) (ca_cons (ce_var (pv 1)) ca_nil)))))))))))
theorem sc_law : FnScope ["_law_script", "_law_cell_here", "_law_draws_here", "_law_state_here", "_law_character"] ["_law_script"] (defScope s_law) := ⟨rfl, rfl, rfl, by decide +kernel, rfl, by decide +kernel, by decide +kernel⟩
theorem ok_law {P : Program} {w : World} {K : PySem.W.Frag} {h : Heap} {mg : Str → Option Value} {base : Heap} (KX : K.In h) (G : h.Ns mainGlobals mg) (c : SaysC fa fn cs K) {fd : FuncData} (FD : FunD K "law" "law" (defArgs s_law) (defBody s_law) (defScope s_law) [] [] (He.fAd K ("law", none)) fd) : FnOk P w K mg base CX0 12 (He.fAd K ("law", none)) fd ["_law_script"] (spF K F_law) := by
  obtain ⟨fd__law_draws, FD__law_draws⟩ := c.def_ 8 (d := d__law_draws) rfl
  have G__law_draws := ok__law_draws (P := P) (w := w) (base := base) KX G c FD__law_draws
  have b__law_draws : Binds K fd__law_draws ["_law_cell_here", "_law_many"] [] := FD__law_draws.bindsN fun _ _ _ _ _ _ us hl => match us, hl with | [_, _], _ => rfl
  have kp__law_draws := FD__law_draws.kp
  obtain ⟨fd__law_state, FD__law_state⟩ := c.def_ 9 (d := d__law_state) rfl
  have G__law_state := ok__law_state (P := P) (w := w) (base := base) KX G c FD__law_state
  have b__law_state : Binds K fd__law_state ["_law_draws_here"] [] := FD__law_state.bindsN fun _ _ _ _ _ _ us hl => match us, hl with | [_], _ => rfl
  have kp__law_state := FD__law_state.kp
  obtain ⟨fd_scan, FD_scan⟩ := c.def_ 0 (d := d_scan) rfl
  obtain ⟨fd_scan_command, FD_scan_command⟩ := c.def_ 7 (d := d_scan_command) rfl
  have b_scan : Binds K fd_scan ["state", "character"] [] := FD_scan.bindsN fun _ _ _ _ _ _ us hl => match us, hl with | [_, _], _ => rfl
  have kp_scan := FD_scan.kp
  obtain ⟨fd__law_due, FD__law_due⟩ := c.def_ 11 (d := d__law_due) rfl
  have G__law_due := ok__law_due (P := P) (w := w) (base := base) KX G c FD__law_due
  have b__law_due : Binds K fd__law_due ["_law_state_here", "_law_character"] [] := FD__law_due.bindsN fun _ _ _ _ _ _ us hl => match us, hl with | [_, _], _ => rfl
  have kp__law_due := FD__law_due.kp
  have G_scan := (ok_scan (P := P) (w := w) (base := base) KX G c FD_scan FD_scan_command 8).1
  unfold F_law
  exact fn_ok FD sc_law fun cdv A outer s H E hr => by
    unfold B_law
    exact (cb_cons (cs_for PassesOwn.never rfl (ci_seq (ce_var (pv 0))) (cg_of (pg_name (i := 1) sc_law.nd rfl (by first | exact Or.inl rfl | exact Or.inr rfl)))
    (cb_cons (cs_set (ps_set (i := 2) sc_law.nd rfl (by first | exact Or.inl rfl | exact Or.inr rfl) (ce_call G__law_draws (hr.mono (by decide)) (by rfl) (He.glo_ok KX G (c.fact 9 rfl)) kp__law_draws b__law_draws (ca_cons (ce_var (pv 1)) (ca_cons ce_int ca_nil)))))
    (cb_cons (cs_set (ps_set (i := 3) sc_law.nd rfl (by first | exact Or.inl rfl | exact Or.inr rfl) (ce_call G__law_state (hr.mono (by decide)) (by rfl) (He.glo_ok KX G (c.fact 10 rfl)) kp__law_state b__law_state (ca_cons (ce_var (pv 2)) ca_nil))))
    (cb_cons (cs_set (ps_set (i := 4) sc_law.nd rfl (by first | exact Or.inl rfl | exact Or.inr rfl) (ce_bin ok_mod (ce_ix (ce_var (pv 2)) ce_int (fun _ _ => rfl)) ce_int)))
    (cb_cons (cs_if (ct_cmp (ok_eq hr.units) (ce_bin ok_mod (ce_ix (ce_var (pv 2)) ce_int (fun _ _ => rfl)) ce_int) ce_int (nomark _))
    (cb_one (cs_set (ps_set (i := 4) sc_law.nd rfl (by first | exact Or.inl rfl | exact Or.inr rfl) (ce_ix (ce_lst (ca_cons ce_int (ca_cons ce_int (ca_cons ce_int (ca_cons ce_int (ca_cons ce_int (ca_cons ce_int (ca_cons ce_int (ca_cons ce_int (ca_cons ce_int (ca_cons ce_int (ca_cons ce_int (ca_cons ce_int (ca_cons ce_int (ca_cons ce_int (ca_cons ce_int (ca_cons ce_int (ca_cons ce_int (ca_cons ce_int (ca_cons ce_int (ca_cons ce_int (ca_cons ce_int (ca_cons ce_int ca_nil))))))))))))))))))))))) (ce_bin ok_mod (ce_ix (ce_var (pv 2)) ce_int (fun _ _ => rfl)) ce_int) (fun _ _ => rfl)))))
    cb_nil)
    (cb_one (cs_if (ct_cmp (ok_ne hr.units) (ce_call G_scan hr (by rfl) (He.glo_ok KX G (c.fact 0 rfl)) kp_scan b_scan (ca_cons (ce_var (pv 3)) (ca_cons (ce_var (pv 4)) ca_nil))) (ce_call G__law_due (hr.mono (by decide)) (by rfl) (He.glo_ok KX G (c.fact 12 rfl)) kp__law_due b__law_due (ca_cons (ce_var (pv 3)) (ca_cons (ce_var (pv 4)) ca_nil))) (nomark _))
    (cb_one (cs_ret ce_bl))
    cb_nil)))))))
    (cb_one (cs_ret ce_bl)))
abbrev R : PySem.W.OpenRow := PySem.W.OpenLaw.row PySem.Challenge.rw_fardesk_k04_terminal_scan_states
abbrev hk : PySem.W.Hook := hookC 5 fa fn cs
def ob (s : PySem.W.SharedT) : AlC := obsC 5 fa fn cs (HandSHeadRun.getT s)
theorem ob_eq (s : PySem.W.SharedT) : ob s = hk.obs s.abs := obsC_eq (HandSHeadRun.getT_eq s)
def loose : List Str := (["GROUND", "ESCAPE", "BETWEEN", "INVALID", "MOST_NUMBERS", "MOST_NUMBER", "MOST_TEXT", "scan", "scan_ground", "scan_escape", "scan_end", "with_digit", "with_next", "scan_sequence", "scan_command", "_law_cell", "_law_draws", "_law_state", "_law_plain", "_law_due"] : List PySem.Str)
theorem run (w : World) : HandSHeadRun.RunEq R (PySem.W.view R.prog [22]) hk ob 20000 loose w := by
  intro os
  kernel_rfl
theorem facts {P : Program} {w : World} {K : PySem.W.Frag} {h : Heap} {mg : Str → Option Value} {f : Addr} (X : K.In h) (G : h.Ns mainGlobals mg) (hfa : mg ("law" : Str) = some (.ref f)) (c : SaysC fa fn cs K) :
    ∃ fd : FuncData, (∀ (s : Shared) (v : Value), BindsTo s fd ⟨[v], []⟩ [("_law_script", v)]) ∧ ∀ base : Heap, K.In base → base.Ns mainGlobals mg → FnOk P w K mg base CX0 12 f fd ["_law_script"] (spF K F_law) := by
  obtain ⟨fd, FD⟩ := c.def_ 12 (d := d_law) rfl
  have e := hfa.symm.trans (He.glo_ok X G (c.fact 13 rfl))
  cases e
  have b := FunD.bindsA (ps := ["_law_script"]) FD fun _ _ _ _ _ _ us hl => match us, hl with | [_], _ => rfl
  exact ⟨fd, fun s v => b s [v] rfl, fun base _ _ => ok_law X G c FD⟩
end K04
open PySem PySem.W PySem.Calls PyProof.Rows
theorem PySem.Challenge.cw_fardesk_k04_terminal_scan_states_holds : PySem.Challenge.rw_fardesk_k04_terminal_scan_states.Holds := by
  w_on; o_law
  refine HandSHeadRun.head_any (r := OpenLaw.row PySem.Challenge.rw_fardesk_k04_terminal_scan_states) (q := view (OpenLaw.row PySem.Challenge.rw_fardesk_k04_terminal_scan_states).prog [22]) (H := K04.hk) (ob := K04.ob) (M := 20000) (loose := K04.loose) (d := HandSHeadRun.topDef (OpenLaw.row PySem.Challenge.rw_fardesk_k04_terminal_scan_states).prog 22) (kwd := []) K04.ob_eq
    (by kernel_rfl) (fun s => by kernel_rfl) K04.run (by kernel_rfl) (by kernel_rfl) (by kernel_rfl) (by rfl) (by first | assumption | decide +kernel) (by decide +kernel) ⟨rfl, rfl, rfl, rfl, rfl, by decide +kernel⟩ ?hw ?hc
  case hw => w_witness2
  case hc =>
    refine L2.walk_ofE (l := PySem.Challenge.rw_fardesk_k04_terminal_scan_states) (n := 63) (k := 12) (x := "_law_script") (CX := L2.CX0) rfl (by decide) (by kernel_rfl) ⟨rfl, by decide, by decide⟩ ?F (fun _ _ _ _ z => z)
    intro w mg fa h Y G hmg0
    obtain ⟨K, KX, c⟩ := Y
    have hmg : mg ("law" : PySem.Str) = some (.ref fa) := by
      have e : (HandSHeadRun.topDef (OpenLaw.row PySem.Challenge.rw_fardesk_k04_terminal_scan_states).prog 22).name = ("law" : PySem.Str) := by kernel_rfl
      rw [← e]
      exact hmg0
    obtain ⟨fd, hb, hF⟩ := K04.facts (P := (PySem.Challenge.rw_fardesk_k04_terminal_scan_states).prog) (w := w) KX G hmg c
    exact ⟨K, fd, _, KX, hb, CI.law_sp K04.law_true, hF⟩
