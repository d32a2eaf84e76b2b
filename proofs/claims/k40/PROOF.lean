import PyProof.Rows.All
import Wide.All
import OpenK.AllK
import Wide.FinOn
import KE.KStateDown
import Lean
import HandS.ForMost
import HandS.WordsExc
import HandS.Defaults
import HandS.Head0
import HandS.Head1
import HandS.Head2
import HandS.HeadEnd
import HandS.HeadHook1
import HandS.HeadHook2
import HandS.TupAny
import HandS.Style
import HandS.Conv
import HandS.IsInst
import HandS.SortInts
import PySem.Challenge.RW_fardesk_k40_octets_numbers
set_option Elab.async false
set_option linter.all false
set_option maxRecDepth 100000
set_option maxHeartbeats 0

/-! Ci1: values as trees, objects by numbers, what represents them -/
namespace CI
open PySem PySem.Spec PyProof.Rows L2

inductive D where
  | non | bl (b : Bool) | int (i : Int) | str (x : Str) | tup (ds : List D) | lst (ds : List D) | scr (ns : List Int) | loc (k : Nat)
inductive O where
  | lst (ds : List D) | ins (c : Str) (fs : List (Str × D)) | dct (kvs : List (Key × D))
abbrev Mem := List O
abbrev Slots := List (Option D)
/-- a result: a value, or a list that nobody else holds -/
inductive Rz where
  | val (d : D) | new (ds : List D)
def Rz.d : Rz → D
  | .val d => d
  | .new ds => .lst ds

/-- a list that never changes: frozen, or of the written part -/
def SqS (K : PySem.W.Frag) (H : Hp) (a : Addr) (xs : List V) : Prop := (∃ o, H a = some (.frz o (.lst xs))) ∨
  ∃ (o : Obj) (its : Array Value) (n : Nat), K.lookup a = some o ∧ o.cls = .type "list" ∧ o.dict = none ∧ o.data = .seq its n ∧ its.size ≤ sizeLine ∧ Vals xs its.toList
theorem SqS.l {K : PySem.W.Frag} {H : Hp} {a : Addr} {xs : List V} (h : SqS K H a xs) : SqL K H a xs := h.elim (fun h => .inl (.inr h)) .inr
mutual
def Rl (K : PySem.W.Frag) (H : Hp) (m : List Addr) : D → V → Prop
  | .non, v => v = .non
  | .bl b, v => v = .bl b
  | .int i, v => v = .int i
  | .str x, v => v = .str x
  | .tup ds, v => ∃ a vs, v = .ref a ∧ SqT K H a vs ∧ Rls K H m ds vs
  | .lst ds, v => ∃ a vs, v = .ref a ∧ a ∉ m ∧ H a = some (.lst vs) ∧ Rls K H m ds vs
  | .scr ns, v => ∃ a, v = .ref a ∧ SqS K H a (ns.map V.int)
  | .loc k, v => ∃ a, v = .ref a ∧ m[k]? = some a
def Rls (K : PySem.W.Frag) (H : Hp) (m : List Addr) : List D → List V → Prop
  | [], vs => vs = []
  | d :: ds, vs => ∃ v r, vs = v :: r ∧ Rl K H m d v ∧ Rls K H m ds r
end
def Rfs (K : PySem.W.Frag) (H : Hp) (m : List Addr) : List (Str × D) → List (Str × V) → Prop
  | [], gs => gs = []
  | (f, d) :: fs, gs => ∃ v r, gs = (f, v) :: r ∧ Rl K H m d v ∧ Rfs K H m fs r
def Rks (K : PySem.W.Frag) (H : Hp) (m : List Addr) : List (Key × D) → List (Key × V) → Prop
  | [], gs => gs = []
  | (f, d) :: fs, gs => ∃ v r, gs = (f, v) :: r ∧ Rl K H m d v ∧ Rks K H m fs r
def Ro (K : PySem.W.Frag) (H : Hp) (m : List Addr) (a : Addr) : O → Prop
  | .lst ds => ∃ vs, H a = some (.lst vs) ∧ Rls K H m ds vs
  | .ins c fs => ∃ dx gs, H a = some (.ins (He.ga K c) dx gs) ∧ Rfs K H m fs gs
  | .dct kvs => ∃ gs, H a = some (.dK gs) ∧ Rks K H m kvs gs

structure Ext (H : Hp) (m : List Addr) (H' : Hp) (m' : List Addr) : Prop where
  tup : ∀ a xs, H a = some (.tup xs) → H' a = some (.tup xs)
  frz : ∀ a o u, H a = some (.frz o u) → H' a = some (.frz o u)
  lst : ∀ a xs, a ∉ m → H a = some (.lst xs) → H' a = some (.lst xs)
  trk : ∀ a, H' a = none → H a = none
  pre : ∃ l, m' = m ++ l ∧ ∀ a ∈ l, H a = none
structure Wd (K : PySem.W.Frag) (H : Hp) (m : List Addr) (M : Mem) : Prop where
  len : m.length = M.length
  nd : m.Nodup
  at_ : ∀ (k : Nat) (a : Addr) (o : O), m[k]? = some a → M[k]? = some o → Ro K H m a o
def Rs (K : PySem.W.Frag) (H : Hp) (m : List Addr) (ρ : Slots) (σ : L2.St) : Prop :=
  ρ.length = σ.length ∧ ∀ (i : Nat) (d : D), ρ[i]? = some (some d) → ∃ v, σ[i]? = some (some v) ∧ Rl K H m d v

section
variable {K : PySem.W.Frag} {H H1 H2 H' : Hp} {m m1 m2 m' : List Addr} {M M1 : Mem} {a p : Addr}
theorem Ext.refl : Ext H m H m := ⟨fun _ _ h => h, fun _ _ _ h => h, fun _ _ _ h => h, fun _ h => h, [], by simp, fun _ h => nomatch h⟩
theorem Ext.notin (e : Ext H m H1 m1) {o : HO} (h : H a = some o) (n : a ∉ m) : a ∉ m1 := by
  obtain ⟨l, rfl, hl⟩ := e.pre
  intro q
  rcases List.mem_append.mp q with q | q
  · exact n q
  · rw [hl a q] at h; cases h
theorem Ext.trans (e : Ext H m H1 m1) (e' : Ext H1 m1 H2 m2) : Ext H m H2 m2 := by
  refine ⟨fun a xs h => e'.tup a xs (e.tup a xs h), fun a o u h => e'.frz a o u (e.frz a o u h), fun a xs n h => e'.lst a xs (e.notin h n) (e.lst a xs n h), fun a h => e.trk a (e'.trk a h), ?_⟩
  obtain ⟨l, rfl, hl⟩ := e.pre
  obtain ⟨l', rfl, hl'⟩ := e'.pre
  exact ⟨l ++ l', by rw [List.append_assoc], fun a q => (List.mem_append.mp q).elim (hl a) fun q => e.trk a (hl' a q)⟩
/-- a new object -/
theorem Ext.new {o : HO} (n : H p = none) : Ext H m (upd H p o) m := by
  have ne : ∀ a u, H a = some u → a ≠ p := fun a u h => ne_of_none h n
  refine ⟨fun a xs h => by rw [upd_ne (ne a _ h)]; exact h, fun a o u h => by rw [upd_ne (ne a _ h)]; exact h, fun a xs _ h => by rw [upd_ne (ne a _ h)]; exact h, fun a h => ?_, [], by simp, fun _ h => nomatch h⟩
  by_cases q : a = p
  · rw [q]; exact n
  · rw [upd_ne q] at h; exact h
/-- an own object is changed -/
theorem Ext.set {o u : HO} (h : H p = some u) (hm : p ∈ m) (nt : ∀ xs, u ≠ .tup xs) (nf : ∀ o u', u ≠ .frz o u') : Ext H m (upd H p o) m := by
  refine ⟨fun a xs q => ?_, fun a o u' q => ?_, fun a xs n q => ?_, fun a q => ?_, [], by simp, fun _ h => nomatch h⟩
  · rw [upd_ne (fun z => by subst z; rw [h] at q; cases q; exact nt xs rfl)]; exact q
  · rw [upd_ne (fun z => by subst z; rw [h] at q; cases q; exact nf _ _ rfl)]; exact q
  · rw [upd_ne (fun z => n (by rw [z]; exact hm))]; exact q
  · by_cases z : a = p
    · rw [z, upd_same] at q; cases q
    · rw [upd_ne z] at q; exact q
theorem Ext.get (e : Ext H m H1 m1) {k : Nat} (h : m[k]? = some a) : m1[k]? = some a := by
  obtain ⟨l, rfl, _⟩ := e.pre
  obtain ⟨h1, _⟩ := List.getElem?_eq_some_iff.mp h
  rw [List.getElem?_append_left h1]; exact h
theorem sqT_ext (e : Ext H m H1 m1) {vs : List V} (h : SqT K H a vs) : SqT K H1 a vs := by
  rcases h with (h | ⟨o, h⟩) | h
  · exact .inl (.inl (e.tup _ _ h))
  · exact .inl (.inr ⟨o, e.frz _ _ _ h⟩)
  · exact .inr h
mutual
theorem Rl.ext (e : Ext H m H1 m1) : ∀ {d : D} {v : V}, Rl K H m d v → Rl K H1 m1 d v
  | .non, _, h => h
  | .bl _, _, h => h
  | .int _, _, h => h
  | .str _, _, h => h
  | .tup ds, _, h => by
    rw [Rl] at h ⊢
    obtain ⟨a, vs, r, s, t⟩ := h
    exact ⟨a, vs, r, sqT_ext e s, Rls.ext e t⟩
  | .lst ds, _, h => by
    rw [Rl] at h ⊢
    obtain ⟨a, vs, r, n, s, t⟩ := h
    exact ⟨a, vs, r, e.notin s n, e.lst _ _ n s, Rls.ext e t⟩
  | .scr ns, _, h => by
    rw [Rl] at h ⊢
    obtain ⟨a, r, s⟩ := h
    exact ⟨a, r, s.imp (fun ⟨o, s⟩ => ⟨o, e.frz _ _ _ s⟩) id⟩
  | .loc k, _, h => by
    rw [Rl] at h ⊢
    obtain ⟨a, r, s⟩ := h
    exact ⟨a, r, e.get s⟩
theorem Rls.ext (e : Ext H m H1 m1) : ∀ {ds : List D} {vs : List V}, Rls K H m ds vs → Rls K H1 m1 ds vs
  | [], _, h => by rw [Rls] at h ⊢; exact h
  | d :: ds, _, h => by
    rw [Rls] at h ⊢
    obtain ⟨v, r, q, h1, h2⟩ := h
    exact ⟨v, r, q, Rl.ext e h1, Rls.ext e h2⟩
end
theorem Rfs.ext (e : Ext H m H1 m1) : ∀ {fs : List (Str × D)} {gs : List (Str × V)}, Rfs K H m fs gs → Rfs K H1 m1 fs gs
  | [], _, h => h
  | (f, d) :: fs, _, h => by
    obtain ⟨v, r, q, h1, h2⟩ := h
    exact ⟨v, r, q, Rl.ext e h1, Rfs.ext e h2⟩
theorem Rks.ext (e : Ext H m H1 m1) : ∀ {fs : List (Key × D)} {gs : List (Key × V)}, Rks K H m fs gs → Rks K H1 m1 fs gs
  | [], _, h => h
  | (f, d) :: fs, _, h => by
    obtain ⟨v, r, q, h1, h2⟩ := h
    exact ⟨v, r, q, Rl.ext e h1, Rks.ext e h2⟩
theorem Ro.ext (e : Ext H m H1 m1) {o : O} (hs : H1 a = H a) (h : Ro K H m a o) : Ro K H1 m1 a o := by
  cases o with
  | lst ds => obtain ⟨vs, h1, h2⟩ := h; exact ⟨vs, hs.trans h1, h2.ext e⟩
  | ins c fs => obtain ⟨dx, gs, h1, h2⟩ := h; exact ⟨dx, gs, hs.trans h1, h2.ext e⟩
  | dct kvs => obtain ⟨gs, h1, h2⟩ := h; exact ⟨gs, hs.trans h1, h2.ext e⟩
theorem Ro.there {o : O} (h : Ro K H m a o) : ∃ u, H a = some u ∧ (∀ xs, u ≠ .tup xs) ∧ ∀ o' u', u ≠ .frz o' u' := by
  cases o with
  | lst ds => obtain ⟨vs, h1, h2⟩ := h; exact ⟨_, h1, (by intro _ z; cases z), (by intro _ _ z; cases z)⟩
  | ins c fs => obtain ⟨dx, gs, h1, h2⟩ := h; exact ⟨_, h1, (by intro _ z; cases z), (by intro _ _ z; cases z)⟩
  | dct kvs => obtain ⟨gs, h1, h2⟩ := h; exact ⟨_, h1, (by intro _ z; cases z), (by intro _ _ z; cases z)⟩
theorem Wd.there (w : Wd K H m M) (h : a ∈ m) : ∃ u, H a = some u ∧ (∀ xs, u ≠ .tup xs) ∧ ∀ o' u', u ≠ .frz o' u' := by
  obtain ⟨k, hk, e⟩ := List.mem_iff_getElem.mp h
  have h2 : k < M.length := by rw [← w.len]; exact hk
  exact (w.at_ k a M[k] (by rw [List.getElem?_eq_getElem hk, e]) (List.getElem?_eq_getElem h2)).there
theorem Wd.fresh (w : Wd K H m M) (n : H p = none) : p ∉ m := fun h => by
  obtain ⟨u, q, _⟩ := w.there h
  rw [n] at q; cases q
theorem Wd.same (w : Wd K H m M) (e : Ext H m H1 m) (hs : ∀ a ∈ m, H1 a = H a) : Wd K H1 m M :=
  ⟨w.len, w.nd, fun k a o h1 h2 => (w.at_ k a o h1 h2).ext e (hs a (List.mem_of_getElem? h1))⟩
theorem Wd.new {o : HO} (w : Wd K H m M) (n : H p = none) : Wd K (upd H p o) m M :=
  w.same (.new n) fun a h => upd_ne fun z => w.fresh n (z ▸ h)
theorem nodup_at {m : List Addr} (nd : m.Nodup) {i j : Nat} (a : m[i]? = some p) (b : m[j]? = some p) : i = j := by
  obtain ⟨h1, e1⟩ := List.getElem?_eq_some_iff.mp a
  obtain ⟨h2, e2⟩ := List.getElem?_eq_some_iff.mp b
  exact (List.getElem_inj nd).mp (e1.trans e2.symm)
/-- the object k is changed -/
theorem Wd.set {k : Nat} {o : O} {u : HO} (w : Wd K H m M) (hk : m[k]? = some p) (h : Ro K (upd H p u) m p o) : Wd K (upd H p u) m (M.set k o) := by
  obtain ⟨v, hv, nt, nf⟩ := w.there (List.mem_of_getElem? hk)
  have e : Ext H m (upd H p u) m := .set hv (List.mem_of_getElem? hk) nt nf
  refine ⟨by rw [List.length_set]; exact w.len, w.nd, fun j a o' h1 h2 => ?_⟩
  by_cases q : j = k
  · subst q
    rw [hk] at h1; cases h1
    obtain ⟨z, _⟩ := List.getElem?_eq_some_iff.mp h2
    rw [List.length_set] at z
    rw [List.getElem?_set_self z] at h2
    cases h2; exact h
  · rw [List.getElem?_set_ne (Ne.symm q)] at h2
    exact (w.at_ j a o' h1 h2).ext e (upd_ne fun z => q (nodup_at w.nd (z ▸ h1) hk))
theorem Wd.ext_set {k : Nat} {u : HO} (w : Wd K H m M) (hk : m[k]? = some p) : Ext H m (upd H p u) m := by
  obtain ⟨v, hv, nt, nf⟩ := w.there (List.mem_of_getElem? hk)
  exact .set hv (List.mem_of_getElem? hk) nt nf
theorem Wd.get (w : Wd K H m M) {k : Nat} {o : O} (h : M[k]? = some o) : ∃ a, m[k]? = some a ∧ Ro K H m a o := by
  obtain ⟨h1, _⟩ := List.getElem?_eq_some_iff.mp h
  have h2 : k < m.length := by rw [w.len]; exact h1
  exact ⟨m[k], List.getElem?_eq_getElem h2, w.at_ k _ o (List.getElem?_eq_getElem h2) h⟩
/-- a new own object -/
theorem Wd.push {o : O} {u : HO} (w : Wd K H m M) (n : H p = none) (h : Ro K (upd H p u) (m ++ [p]) p o) : Wd K (upd H p u) (m ++ [p]) (M ++ [o]) ∧ Ext H m (upd H p u) (m ++ [p]) := by
  have hp := w.fresh n
  have e1 : Ext H m (upd H p u) m := .new n
  have e : Ext H m (upd H p u) (m ++ [p]) := ⟨e1.tup, e1.frz, e1.lst, e1.trk, [p], rfl, fun a q => by simp at q; rw [q]; exact n⟩
  refine ⟨⟨by simp [w.len], ?_, fun k a o' h1 h2 => ?_⟩, e⟩
  · rw [List.nodup_append]
    exact ⟨w.nd, by simp, fun a ha b hb z => by simp at hb; subst hb; exact hp (z ▸ ha)⟩
  · by_cases q : k < m.length
    · rw [List.getElem?_append_left q] at h1
      rw [List.getElem?_append_left (by rw [← w.len]; exact q)] at h2
      exact (w.at_ k a o' h1 h2).ext e (upd_ne fun z => hp (z ▸ List.mem_of_getElem? h1))
    · have hk : k = m.length := by
        obtain ⟨z, _⟩ := List.getElem?_eq_some_iff.mp h1
        simp at z; omega
      subst hk
      rw [List.getElem?_append_right (Nat.le_refl _)] at h1
      rw [w.len, List.getElem?_append_right (Nat.le_refl _)] at h2
      simp at h1 h2
      subst h1 h2
      exact h
theorem Rs.ext (e : Ext H m H1 m1) {ρ : Slots} {σ : L2.St} (h : Rs K H m ρ σ) : Rs K H1 m1 ρ σ :=
  ⟨h.1, fun i d q => let ⟨v, a, b⟩ := h.2 i d q; ⟨v, a, b.ext e⟩⟩
theorem Rs.set {ρ : Slots} {σ : L2.St} {d : D} {v : V} (h : Rs K H m ρ σ) (r : Rl K H m d v) (i : Nat) : Rs K H m (ρ.set i (some d)) (σ.set i (some v)) := by
  refine ⟨by simp [h.1], fun j e q => ?_⟩
  by_cases z : j = i
  · subst z
    obtain ⟨z, _⟩ := List.getElem?_eq_some_iff.mp q
    rw [List.length_set] at z
    rw [List.getElem?_set_self z] at q
    cases q
    exact ⟨v, List.getElem?_set_self (by rw [← h.1]; exact z), r⟩
  · rw [List.getElem?_set_ne (Ne.symm z)] at q
    rw [List.getElem?_set_ne (Ne.symm z)]
    exact h.2 j e q
theorem Rls.length : ∀ {ds : List D} {vs : List V}, Rls K H m ds vs → ds.length = vs.length
  | [], _, h => by rw [Rls] at h; subst h; rfl
  | d :: ds, _, h => by
    rw [Rls] at h
    obtain ⟨v, r, rfl, _, h2⟩ := h
    simp [h2.length]
theorem Rls.get : ∀ {ds : List D} {vs : List V}, Rls K H m ds vs → ∀ {i : Nat} {d : D}, ds[i]? = some d → ∃ v, vs[i]? = some v ∧ Rl K H m d v
  | [], _, h, i, d, q => by simp at q
  | e :: ds, _, h, i, d, q => by
    rw [Rls] at h
    obtain ⟨v, r, rfl, h1, h2⟩ := h
    cases i with
    | zero => simp at q; subst q; exact ⟨v, rfl, h1⟩
    | succ i => simpa using Rls.get h2 (i := i) (d := d) (by simpa using q)
theorem Rls.getR : ∀ {ds : List D} {vs : List V}, Rls K H m ds vs → ∀ {i : Nat} {v : V}, vs[i]? = some v → ∃ d, ds[i]? = some d ∧ Rl K H m d v
  | [], _, h, i, d, q => by rw [Rls] at h; subst h; simp at q
  | e :: ds, _, h, i, d, q => by
    rw [Rls] at h
    obtain ⟨v, r, rfl, h1, h2⟩ := h
    cases i with
    | zero => simp at q; subst q; exact ⟨e, rfl, h1⟩
    | succ i => simpa using Rls.getR h2 (i := i) (v := d) (by simpa using q)
theorem Rls.append : ∀ {ds es : List D} {vs ws : List V}, Rls K H m ds vs → Rls K H m es ws → Rls K H m (ds ++ es) (vs ++ ws)
  | [], _, _, _, h, g => by rw [Rls] at h; subst h; exact g
  | d :: ds, _, _, _, h, g => by
    rw [Rls] at h
    obtain ⟨v, r, rfl, h1, h2⟩ := h
    show Rls K H m (d :: (ds ++ _)) (v :: (r ++ _))
    rw [Rls]
    exact ⟨v, _, rfl, h1, h2.append g⟩
theorem Rls.take : ∀ {ds : List D} {vs : List V} (n : Nat), Rls K H m ds vs → Rls K H m (ds.take n) (vs.take n)
  | _, _, 0, _ => by simp [Rls]
  | [], _, n + 1, h => by rw [Rls] at h; subst h; simp [Rls]
  | d :: ds, _, n + 1, h => by
    rw [Rls] at h
    obtain ⟨v, r, rfl, h1, h2⟩ := h
    show Rls K H m (d :: ds.take n) (v :: r.take n)
    rw [Rls]
    exact ⟨v, _, rfl, h1, h2.take n⟩
theorem Rls.drop : ∀ {ds : List D} {vs : List V} (n : Nat), Rls K H m ds vs → Rls K H m (ds.drop n) (vs.drop n)
  | _, _, 0, h => by simpa using h
  | [], _, n + 1, h => by rw [Rls] at h; subst h; simp [Rls]
  | d :: ds, _, n + 1, h => by
    rw [Rls] at h
    obtain ⟨v, r, rfl, h1, h2⟩ := h
    exact h2.drop n
theorem Rls.one {d : D} {vs : List V} (h : Rls K H m [d] vs) : ∃ v, vs = [v] ∧ Rl K H m d v := by
  rw [Rls] at h
  obtain ⟨v, r, rfl, h1, h2⟩ := h
  rw [Rls] at h2
  subst h2
  exact ⟨v, rfl, h1⟩
theorem Rls.two {d e : D} {vs : List V} (h : Rls K H m [d, e] vs) : ∃ v w, vs = [v, w] ∧ Rl K H m d v ∧ Rl K H m e w := by
  rw [Rls] at h
  obtain ⟨v, r, rfl, h1, h2⟩ := h
  obtain ⟨w, rfl, h3⟩ := h2.one
  exact ⟨v, w, rfl, h1, h3⟩
theorem Rls.ints : ∀ {ns : List Int}, Rls K H m (ns.map D.int) (ns.map V.int)
  | [] => by simp [Rls]
  | n :: ns => by
    show Rls K H m (D.int n :: ns.map D.int) (V.int n :: ns.map V.int)
    rw [Rls]
    exact ⟨_, _, rfl, by rw [Rl], Rls.ints⟩
theorem Rls.set : ∀ {ds : List D} {vs : List V} {d : D} {v : V} (i : Nat), Rls K H m ds vs → Rl K H m d v → Rls K H m (ds.set i d) (vs.set i v)
  | [], _, _, _, _, h, _ => by rw [Rls] at h; subst h; simp [Rls]
  | e :: ds, _, d, v, 0, h, g => by
    rw [Rls] at h
    obtain ⟨w, r, rfl, h1, h2⟩ := h
    show Rls K H m (d :: ds) (v :: r)
    rw [Rls]
    exact ⟨_, _, rfl, g, h2⟩
  | e :: ds, _, d, v, i + 1, h, g => by
    rw [Rls] at h
    obtain ⟨w, r, rfl, h1, h2⟩ := h
    show Rls K H m (e :: ds.set i d) (w :: r.set i v)
    rw [Rls]
    exact ⟨_, _, rfl, h1, h2.set i g⟩
theorem Rls.eraseIdx : ∀ {ds : List D} {vs : List V} (i : Nat), Rls K H m ds vs → Rls K H m (ds.eraseIdx i) (vs.eraseIdx i)
  | [], _, _, h => by rw [Rls] at h; subst h; simp [Rls]
  | e :: ds, _, 0, h => by
    rw [Rls] at h
    obtain ⟨w, r, rfl, h1, h2⟩ := h
    exact h2
  | e :: ds, _, i + 1, h => by
    rw [Rls] at h
    obtain ⟨w, r, rfl, h1, h2⟩ := h
    show Rls K H m (e :: ds.eraseIdx i) (w :: r.eraseIdx i)
    rw [Rls]
    exact ⟨_, _, rfl, h1, h2.eraseIdx i⟩
theorem Rfs.lookup {f : Str} {d : D} : ∀ {fs : List (Str × D)} {gs : List (Str × V)}, Rfs K H m fs gs → fs.lookup f = some d → ∃ v, gs.lookup f = some v ∧ Rl K H m d v
  | [], _, h, q => by simp at q
  | (g, e) :: fs, _, h, q => by
    obtain ⟨v, r, rfl, h1, h2⟩ := h
    rw [List.lookup_cons] at q ⊢
    by_cases z : f == g
    · simp [z] at q ⊢; subst q; exact h1
    · simp [z] at q ⊢; exact h2.lookup q
theorem Rfs.lookup_none {f : Str} : ∀ {fs : List (Str × D)} {gs : List (Str × V)}, Rfs K H m fs gs → fs.lookup f = none → gs.lookup f = none
  | [], _, h, q => by cases h; simp
  | (g, e) :: fs, _, h, q => by
    obtain ⟨v, r, rfl, h1, h2⟩ := h
    rw [List.lookup_cons] at q ⊢
    by_cases z : f == g
    · rw [z] at q; cases q
    · rw [show (f == g) = false from by simpa using z] at q ⊢; exact h2.lookup_none q
theorem Rfs.length : ∀ {fs : List (Str × D)} {gs : List (Str × V)}, Rfs K H m fs gs → fs.length = gs.length
  | [], _, h => by cases h; rfl
  | (g, e) :: fs, _, h => by
    obtain ⟨v, r, rfl, h1, h2⟩ := h
    simp [h2.length]
end
end CI

/-! Ci2: readings of expressions -/
namespace CI
open PySem PySem.Spec PyProof.Rows L2

abbrev Ef := Slots → Mem → Option (Rz × Mem)
abbrev Tf := Slots → Mem → Option (Bool × Mem)
abbrev Af := Slots → Mem → Option (List D × Mem)

def Post (K : PySem.W.Frag) (H : Hp) (m : List Addr) (r : Rz) (M' : Mem) (Q : VK) : Prop := ∀ H1 m1, Ext H m H1 m1 → Wd K H1 m1 M' → match r with
  | .val d => ∀ v, Rl K H1 m1 d v → Q v H1
  | .new ds => ∀ vs a, Rls K H1 m1 ds vs → H1 a = none → Q (.ref a) (upd H1 a (.lst vs))
def tE (K : PySem.W.Frag) (f : Ef) : TE := fun σ H Q => ∃ ρ M m r M', Rs K H m ρ σ ∧ Wd K H m M ∧ f ρ M = some (r, M') ∧ Post K H m r M' Q
def tT (K : PySem.W.Frag) (f : Tf) : TT := fun σ H Q => ∃ ρ M m b M', Rs K H m ρ σ ∧ Wd K H m M ∧ f ρ M = some (b, M') ∧ ∀ H1 m1, Ext H m H1 m1 → Wd K H1 m1 M' → Q b H1
def tA (K : PySem.W.Frag) (f : Af) : TA := fun σ H Q => ∃ ρ M m ds M', Rs K H m ρ σ ∧ Wd K H m M ∧ f ρ M = some (ds, M') ∧ ∀ H1 m1 vs, Ext H m H1 m1 → Wd K H1 m1 M' → Rls K H1 m1 ds vs → Q vs H1
abbrev CEx (X : Cx) (e : Expr) (f : Ef) : Prop := PE X e (tE X.K f)
abbrev CTx (X : Cx) (e : Expr) (f : Tf) : Prop := PT X e (tT X.K f)
abbrev CWx (X : Cx) (e : Expr) (f : Tf) : Prop := PW X e (tT X.K f)
abbrev CAx (X : Cx) (es : List Expr) (f : Af) : Prop := PA X es (tA X.K f)

theorem PE.imp {X : Cx} {e : Expr} {t t' : TE} (h : PE X e t) (i : ∀ σ H Q, t' σ H Q → t σ H Q) : PE X e t' := ⟨fun pins s σ H Q I q => h.run pins s σ H Q I (i σ H Q q)⟩
theorem PT.imp {X : Cx} {e : Expr} {t t' : TT} (h : PT X e t) (i : ∀ σ H Q, t' σ H Q → t σ H Q) : PT X e t' := ⟨fun pins s σ H Q I q => h.run pins s σ H Q I (i σ H Q q)⟩
theorem PW.imp {X : Cx} {e : Expr} {t t' : TT} (h : PW X e t) (i : ∀ σ H Q, t' σ H Q → t σ H Q) : PW X e t' := ⟨fun w pins s σ H Q I q => h.run w pins s σ H Q I (i σ H Q q)⟩
theorem PA.imp {X : Cx} {es : List Expr} {t t' : TA} (h : PA X es t) (i : ∀ σ H Q, t' σ H Q → t σ H Q) : PA X es t' := ⟨fun p pins s σ H Q I q => h.run p pins s σ H Q I (i σ H Q q)⟩
theorem PE.or {X : Cx} {e : Expr} {t t' : TE} (h : PE X e t) (h' : PE X e t') : PE X e (fun σ H Q => t σ H Q ∨ t' σ H Q) :=
  ⟨fun pins s σ H Q I q => q.elim (h.run pins s σ H Q I) (h'.run pins s σ H Q I)⟩

section
variable {K : PySem.W.Frag} {H H1 H2 : Hp} {m m1 m2 : List Addr} {M M1 M2 : Mem} {Q : VK} {r : Rz}
theorem Post.use (P : ∀ H1 m1 v, Ext H m H1 m1 → Wd K H1 m1 M1 → Rl K H1 m1 r.d v → Q v H1) : Post K H m r M1 Q := by
  intro H1 m1 e w
  cases r with
  | val d => exact fun v r => P H1 m1 v e w r
  | new ds =>
    intro vs a r n
    have e2 : Ext H1 m1 (upd H1 a (.lst vs)) m1 := .new n
    refine P _ m1 _ (e.trans e2) (w.new n) ?_
    show Rl K _ m1 (.lst ds) _
    rw [Rl]
    exact ⟨a, vs, rfl, w.fresh n, upd_same, r.ext e2⟩
theorem Post.ext (P : Post K H m r M1 Q) (e : Ext H m H2 m2) : Post K H2 m2 r M1 Q := fun H1 m1 e1 w => P H1 m1 (e.trans e1) w
theorem Post.val {d : D} {v : V} (P : Post K H m (.val d) M1 Q) (w : Wd K H m M1) (r : Rl K H m d v) : Q v H := P H m .refl w v r
theorem Post.new {ds : List D} {vs : List V} (P : Post K H m (.new ds) M1 Q) (w : Wd K H m M1) (r : Rls K H m ds vs) : ∀ p, H p = none → Q (.ref p) (upd H p (.lst vs)) :=
  fun p n => P H m .refl w vs p r n
theorem Post.tup {ds : List D} {vs : List V} (P : Post K H m (.val (.tup ds)) M1 Q) (w : Wd K H m M1) (r : Rls K H m ds vs) : ∀ p, H p = none → Q (.ref p) (upd H p (.tup vs)) :=
  fun p n => P _ m (.new n) (w.new n) _ (by rw [Rl]; exact ⟨p, vs, rfl, .of upd_same, r.ext (.new n)⟩)
theorem bindE {f : Ef} {ρ : Slots} {σ : L2.St} (rs : Rs K H m ρ σ) (w : Wd K H m M) (h : f ρ M = some (r, M1))
    (P : ∀ H1 m1 v, Ext H m H1 m1 → Wd K H1 m1 M1 → Rs K H1 m1 ρ σ → Rl K H1 m1 r.d v → Q v H1) : tE K f σ H Q :=
  ⟨ρ, M, m, r, M1, rs, w, h, Post.use fun H1 m1 v e w' r' => P H1 m1 v e w' (rs.ext e) r'⟩
theorem bindT {f : Tf} {ρ : Slots} {σ : L2.St} {b : Bool} {Q : Bool → Hp → Prop} (rs : Rs K H m ρ σ) (w : Wd K H m M) (h : f ρ M = some (b, M1))
    (P : ∀ H1 m1, Ext H m H1 m1 → Wd K H1 m1 M1 → Rs K H1 m1 ρ σ → Q b H1) : tT K f σ H Q :=
  ⟨ρ, M, m, b, M1, rs, w, h, fun H1 m1 e w' => P H1 m1 e w' (rs.ext e)⟩
theorem bindA {f : Af} {ρ : Slots} {σ : L2.St} {ds : List D} {Q : List V → Hp → Prop} (rs : Rs K H m ρ σ) (w : Wd K H m M) (h : f ρ M = some (ds, M1))
    (P : ∀ H1 m1 vs, Ext H m H1 m1 → Wd K H1 m1 M1 → Rs K H1 m1 ρ σ → Rls K H1 m1 ds vs → Q vs H1) : tA K f σ H Q :=
  ⟨ρ, M, m, ds, M1, rs, w, h, fun H1 m1 vs e w' r' => P H1 m1 vs e w' (rs.ext e) r'⟩
end

/-! ### names and constants -/
def slot (ρ : Slots) (i : Nat) : Option D := ρ.getD i none
def cVar (i : Nat) : Ef := fun ρ M => (slot ρ i).bind fun d => some (.val d, M)
def cVal (d : D) : Ef := fun _ M => some (.val d, M)
abbrev cInt (i : Int) : Ef := cVal (.int i)
abbrev cBl (b : Bool) : Ef := cVal (.bl b)
abbrev cNon : Ef := cVal .non
abbrev cStr (x : Str) : Ef := cVal (.str x)
theorem slot_some {ρ : Slots} {i : Nat} {d : D} (h : slot ρ i = some d) : ρ[i]? = some (some d) := by
  unfold slot at h
  rw [List.getD_eq_getElem?_getD] at h
  cases q : ρ[i]? with
  | none => rw [q] at h; cases h
  | some o => rw [q] at h; simp at h; rw [h]
section
variable {X : Cx}
theorem ce_var {e : Expr} {i : Nat} (h : PE X e (tVar i)) : CEx X e (cVar i) := PE.imp h fun σ H Q ⟨ρ, M, m, r, M', rs, w, hf, P⟩ => by
  unfold cVar at hf
  cases q : slot ρ i with
  | none => rw [q] at hf; cases hf
  | some d =>
    rw [q] at hf
    cases hf
    obtain ⟨v, h1, h2⟩ := rs.2 i d (slot_some q)
    exact ⟨v, h1, P.val w h2⟩
theorem ce_val {e : Expr} {d : D} {v : V} (h : PE X e (tC v)) (hr : ∀ H m, Rl X.K H m d v) : CEx X e (cVal d) := PE.imp h fun σ H Q ⟨ρ, M, m, r, M', rs, w, hf, P⟩ => by
  cases hf
  exact P.val w (hr H m)
theorem ce_int {i : Int} {j pos} : CEx X (.Constant (.int i) j pos) (cInt i) := ce_val pe_int fun _ _ => by rw [Rl]
theorem ce_bl {b : Bool} {j pos} : CEx X (.Constant (.bool b) j pos) (cBl b) := ce_val pe_bl fun _ _ => by rw [Rl]
theorem ce_non {j pos} : CEx X (.Constant .none j pos) cNon := ce_val pe_non fun _ _ => by rw [Rl]
theorem ce_str {x : Str} {j pos} : CEx X (.Constant (.str x) j pos) (cStr x) := ce_val pe_str fun _ _ => by rw [Rl]
end

/-! ### operators -/
def Bop := D → D → Mem → Option Rz
def OpOk (X : Cx) (f : Value → Value → Sem Value) (o : Bop) : Prop := ∃ r : R2, OpR X f r ∧
  ∀ H m M d e x y z Q, Wd X.K H m M → Rl X.K H m d x → Rl X.K H m e y → o d e M = some z → Post X.K H m z M Q → r x y H Q
def cBin (o : Bop) (fa fb : Ef) : Ef := fun ρ M => (fa ρ M).bind fun p => (fb ρ p.2).bind fun q => (o p.1.d q.1.d q.2).bind fun r => some (r, q.2)
theorem bin_of {X : Cx} {o : Bop} {fa fb : Ef} {r : R2} (ho : ∀ H m M d e x y z Q, Wd X.K H m M → Rl X.K H m d x → Rl X.K H m e y → o d e M = some z → Post X.K H m z M Q → r x y H Q)
    {σ : L2.St} {H : Hp} {Q : VK} (h : tE X.K (cBin o fa fb) σ H Q) : tOp r (tE X.K fa) (tE X.K fb) σ H Q := by
  obtain ⟨ρ, M, m, z, M', rs, w, hf, P⟩ := h
  unfold cBin at hf
  cases ea : fa ρ M with
  | none => rw [ea] at hf; cases hf
  | some p =>
    rw [ea] at hf
    cases eb : fb ρ p.2 with
    | none => simp [eb] at hf
    | some q =>
      cases ec : o p.1.d q.1.d q.2 with
      | none => simp [eb, ec] at hf
      | some z' =>
        simp [eb, ec] at hf
        obtain ⟨rfl, rfl⟩ := hf
        refine bindE rs w ea fun H1 m1 v e1 w1 rs1 r1 => ?_
        refine bindE rs1 w1 eb fun H2 m2 u e2 w2 rs2 r2 => ?_
        exact ho H2 m2 q.2 _ _ v u _ Q w2 (r1.ext e2) r2 ec (P.ext (e1.trans e2))
section
variable {X : Cx} {a b c : Expr} {fa fb fc : Ef} {pos : Pos} {o o' : Bop}
theorem ce_bin {op : Operator} (ho : OpOk X (binaryOp op) o) (ha : CEx X a fa) (hb : CEx X b fb) : CEx X (.BinOp a op b pos) (cBin o fa fb) := by
  obtain ⟨r, h1, h2⟩ := ho
  exact PE.imp (pe_op h1 ha hb) fun σ H Q h => bin_of h2 h
theorem ce_cmp {op : CmpOp} (ho : OpOk X (compareOp op) o) (ha : CEx X a fa) (hb : CEx X b fb) (hm : behindInMarks op b = false) : CEx X (.Compare a [op] [b] pos) (cBin o fa fb) := by
  obtain ⟨r, h1, h2⟩ := ho
  exact PE.imp (pe_cmpR h1 ha hb hm) fun σ H Q h => bin_of h2 h
/-- a value that must be a bool, as a test -/
def toB (f : Ef) : Tf := fun ρ M => (f ρ M).bind fun p => match p.1.d with
  | .bl b => some (b, p.2)
  | _ => none
theorem tst_of {f : Ef} {σ : L2.St} {H : Hp} {Q : Bool → Hp → Prop} (h : tT X.K (toB f) σ H Q) : tE X.K f σ H fun x H' => ∃ k, x = .bl k ∧ Q k H' := by
  obtain ⟨ρ, M, m, z, M', rs, w, hf, P⟩ := h
  unfold toB at hf
  cases ea : f ρ M with
  | none => rw [ea] at hf; cases hf
  | some p =>
    rw [ea] at hf
    simp only [Option.bind_some] at hf
    refine bindE rs w ea fun H1 m1 v e1 w1 rs1 r1 => ?_
    split at hf
    · rename_i b hb
      cases hf
      rw [hb, Rl] at r1
      exact ⟨_, r1, P H1 m1 e1 w1⟩
    · cases hf
theorem ct_cmp {op : CmpOp} (ho : OpOk X (compareOp op) o) (ha : CEx X a fa) (hb : CEx X b fb) (hm : behindInMarks op b = false) : CTx X (.Compare a [op] [b] pos) (toB (cBin o fa fb)) := by
  obtain ⟨r, h1, h2⟩ := ho
  exact PT.imp (pt_cmpR h1 ha hb hm) fun σ H Q h => bin_of h2 (tst_of h)
/-- a op b op' c -/
def cChain (o o' : Bop) (fa fb fc : Ef) : Ef := fun ρ M => (fa ρ M).bind fun p => (fb ρ p.2).bind fun q => (o p.1.d q.1.d q.2).bind fun r => match r with
  | .val (.bl true) => (fc ρ q.2).bind fun s => (o' q.1.d s.1.d s.2).bind fun z => some (z, s.2)
  | .val (.bl false) => some (.val (.bl false), q.2)
  | _ => none
theorem chain_of {r r' : R2} (ho : ∀ H m M d e x y z Q, Wd X.K H m M → Rl X.K H m d x → Rl X.K H m e y → o d e M = some z → Post X.K H m z M Q → r x y H Q)
    (ho' : ∀ H m M d e x y z Q, Wd X.K H m M → Rl X.K H m d x → Rl X.K H m e y → o' d e M = some z → Post X.K H m z M Q → r' x y H Q)
    {σ : L2.St} {H : Hp} {Q : VK} (h : tE X.K (cChain o o' fa fb fc) σ H Q) : tChain r r' (tE X.K fa) (tE X.K fb) (tE X.K fc) σ H Q := by
  obtain ⟨ρ, M, m, z, M', rs, w, hf, P⟩ := h
  unfold cChain at hf
  cases ea : fa ρ M with
  | none => rw [ea] at hf; cases hf
  | some p =>
    rw [ea] at hf
    cases eb : fb ρ p.2 with
    | none => simp [eb] at hf
    | some q =>
      cases ec : o p.1.d q.1.d q.2 with
      | none => simp [eb, ec] at hf
      | some z' =>
        simp only [Option.bind_some, eb, ec] at hf
        refine bindE rs w ea fun H1 m1 v e1 w1 rs1 r1 => ?_
        refine bindE rs1 w1 eb fun H2 m2 u e2 w2 rs2 r2 => ?_
        refine ho H2 m2 q.2 _ _ v u _ _ w2 (r1.ext e2) r2 ec ?_
        split at hf
        · refine Post.use fun H3 m3 t e3 w3 r3 => ?_
          rw [show (Rz.val (D.bl true)).d = .bl true from rfl, Rl] at r3
          refine ⟨true, r3, ?_⟩
          rw [if_pos rfl]
          cases es : fc ρ q.2 with
          | none => simp [es] at hf
          | some s =>
            cases et : o' q.1.d s.1.d s.2 with
            | none => simp [es, et] at hf
            | some z2 =>
              simp [es, et] at hf
              obtain ⟨rfl, rfl⟩ := hf
              refine bindE (rs2.ext e3) w3 es fun H4 m4 t' e4 w4 rs4 r4 => ?_
              exact ho' H4 m4 s.2 _ _ u t' _ Q w4 (r2.ext (e3.trans e4)) r4 et (P.ext (((e1.trans e2).trans e3).trans e4))
        · refine Post.use fun H3 m3 t e3 w3 r3 => ?_
          rw [show (Rz.val (D.bl false)).d = .bl false from rfl, Rl] at r3
          refine ⟨false, r3, ?_⟩
          rw [if_neg Bool.false_ne_true]
          cases hf
          exact P.ext ((e1.trans e2).trans e3) |>.val w3 (by rw [Rl])
        · cases hf
theorem ce_chain {op op' : CmpOp} (ho : OpOk X (compareOp op) o) (ho' : OpOk X (compareOp op') o') (ha : CEx X a fa) (hb : CEx X b fb) (hc : CEx X c fc)
    (hm : lastMarks [op, op'] [b, c] = false := by with_unfolding_all rfl) : CEx X (.Compare a [op, op'] [b, c] pos) (cChain o o' fa fb fc) := by
  obtain ⟨r, h1, h2⟩ := ho
  obtain ⟨r', h1', h2'⟩ := ho'
  exact PE.imp (pe_chain h1 h1' ha hb hc hm) fun σ H Q h => chain_of h2 h2' h
theorem ct_chain {op op' : CmpOp} (ho : OpOk X (compareOp op) o) (ho' : OpOk X (compareOp op') o') (ha : CEx X a fa) (hb : CEx X b fb) (hc : CEx X c fc)
    (hm : lastMarks [op, op'] [b, c] = false := by with_unfolding_all rfl) : CTx X (.Compare a [op, op'] [b, c] pos) (toB (cChain o o' fa fb fc)) := by
  obtain ⟨r, h1, h2⟩ := ho
  obtain ⟨r', h1', h2'⟩ := ho'
  exact PT.imp (pt_chain h1 h1' ha hb hc hm) fun σ H Q h => chain_of h2 h2' (tst_of h)
end

/-! ### and, or, not, if else -/
section
variable {X : Cx} {a b c : Expr} {rest : List Expr} {fa fb : Ef} {ta tb : Tf} {pos : Pos}
def kAnd (ta tb : Tf) : Tf := fun ρ M => (ta ρ M).bind fun p => if p.1 = true then tb ρ p.2 else some (false, p.2)
def kOr (ta tb : Tf) : Tf := fun ρ M => (ta ρ M).bind fun p => if p.1 = true then some (true, p.2) else tb ρ p.2
def kNot (ta : Tf) : Tf := fun ρ M => (ta ρ M).bind fun p => some (!p.1, p.2)
theorem cw_and1 (ha : CTx X a ta) : CWx X (.BoolOp .And [a] pos) ta := pw_and1 ha
theorem cw_or1 (ha : CTx X a ta) : CWx X (.BoolOp .Or [a] pos) ta := pw_or1 ha
theorem cw_and (ha : CTx X a ta) (hb : CWx X (.BoolOp .And (b :: rest) pos) tb) : CWx X (.BoolOp .And (a :: b :: rest) pos) (kAnd ta tb) := PW.imp (pw_and ha hb) fun σ H Q h => by
  obtain ⟨ρ, M, m, z, M', rs, w, hf, P⟩ := h
  unfold kAnd at hf
  cases ea : ta ρ M with
  | none => rw [ea] at hf; cases hf
  | some p =>
    rw [ea] at hf
    simp only [Option.bind_some] at hf
    refine bindT rs w ea fun H1 m1 e1 w1 rs1 => ?_
    split at hf
    · rename_i e; rw [if_pos e]
      exact ⟨ρ, p.2, m1, z, M', rs1, w1, hf, fun H2 m2 e2 w2 => P H2 m2 (e1.trans e2) w2⟩
    · rename_i e; rw [if_neg e]
      cases hf
      exact P H1 m1 e1 w1
theorem cw_or (ha : CTx X a ta) (hb : CWx X (.BoolOp .Or (b :: rest) pos) tb) : CWx X (.BoolOp .Or (a :: b :: rest) pos) (kOr ta tb) := PW.imp (pw_or ha hb) fun σ H Q h => by
  obtain ⟨ρ, M, m, z, M', rs, w, hf, P⟩ := h
  unfold kOr at hf
  cases ea : ta ρ M with
  | none => rw [ea] at hf; cases hf
  | some p =>
    rw [ea] at hf
    simp only [Option.bind_some] at hf
    refine bindT rs w ea fun H1 m1 e1 w1 rs1 => ?_
    split at hf
    · rename_i e; rw [if_pos e]
      cases hf
      exact P H1 m1 e1 w1
    · rename_i e; rw [if_neg e]
      exact ⟨ρ, p.2, m1, z, M', rs1, w1, hf, fun H2 m2 e2 w2 => P H2 m2 (e1.trans e2) w2⟩
theorem ct_w (h : CWx X a ta) : CTx X a ta := h.pt
theorem ct_not (ha : CTx X a ta) : CTx X (.UnaryOp .Not a pos) (kNot ta) := PT.imp (pt_not ha) fun σ H Q h => by
  obtain ⟨ρ, M, m, z, M', rs, w, hf, P⟩ := h
  unfold kNot at hf
  cases ea : ta ρ M with
  | none => rw [ea] at hf; cases hf
  | some p =>
    rw [ea] at hf
    cases hf
    exact bindT rs w ea fun H1 m1 e1 w1 rs1 => P H1 m1 e1 w1
/-- .. as values -/
def cAnd (fa fb : Ef) : Ef := fun ρ M => (fa ρ M).bind fun p => match p.1.d with
  | .bl true => fb ρ p.2
  | .bl false => some (.val (.bl false), p.2)
  | _ => none
def cOr (fa fb : Ef) : Ef := fun ρ M => (fa ρ M).bind fun p => match p.1.d with
  | .bl true => some (.val (.bl true), p.2)
  | .bl false => fb ρ p.2
  | _ => none
def cNot (fa : Ef) : Ef := fun ρ M => (fa ρ M).bind fun p => match p.1.d with
  | .bl b => some (.val (.bl (!b)), p.2)
  | _ => none
theorem ce_one {op} (h : CEx X a fa) : CEx X (.BoolOp op [a] pos) fa := pe_one h
theorem ce_and (ha : CEx X a fa) (hb : CEx X (.BoolOp .And (b :: rest) pos) fb) : CEx X (.BoolOp .And (a :: b :: rest) pos) (cAnd fa fb) := PE.imp (pe_and ha hb) fun σ H Q h => by
  obtain ⟨ρ, M, m, z, M', rs, w, hf, P⟩ := h
  unfold cAnd at hf
  cases ea : fa ρ M with
  | none => rw [ea] at hf; cases hf
  | some p =>
    rw [ea] at hf
    simp only [Option.bind_some] at hf
    refine bindE rs w ea fun H1 m1 v e1 w1 rs1 r1 => ?_
    split at hf
    · rename_i e; rw [e, Rl] at r1
      refine ⟨true, r1, ?_⟩; rw [if_pos rfl]
      exact ⟨ρ, p.2, m1, z, M', rs1, w1, hf, P.ext e1⟩
    · rename_i e; rw [e, Rl] at r1
      refine ⟨false, r1, ?_⟩; rw [if_neg Bool.false_ne_true]
      cases hf
      exact (P.ext e1).val w1 (by rw [Rl])
    · cases hf
theorem ce_or (ha : CEx X a fa) (hb : CEx X (.BoolOp .Or (b :: rest) pos) fb) : CEx X (.BoolOp .Or (a :: b :: rest) pos) (cOr fa fb) := PE.imp (pe_or ha hb) fun σ H Q h => by
  obtain ⟨ρ, M, m, z, M', rs, w, hf, P⟩ := h
  unfold cOr at hf
  cases ea : fa ρ M with
  | none => rw [ea] at hf; cases hf
  | some p =>
    rw [ea] at hf
    simp only [Option.bind_some] at hf
    refine bindE rs w ea fun H1 m1 v e1 w1 rs1 r1 => ?_
    split at hf
    · rename_i e; rw [e, Rl] at r1
      refine ⟨true, r1, ?_⟩; rw [if_pos rfl]
      cases hf
      exact (P.ext e1).val w1 (by rw [Rl])
    · rename_i e; rw [e, Rl] at r1
      refine ⟨false, r1, ?_⟩; rw [if_neg Bool.false_ne_true]
      exact ⟨ρ, p.2, m1, z, M', rs1, w1, hf, P.ext e1⟩
    · cases hf
theorem ce_not (ha : CEx X a fa) : CEx X (.UnaryOp .Not a pos) (cNot fa) := PE.imp (pe_not ha) fun σ H Q h => by
  obtain ⟨ρ, M, m, z, M', rs, w, hf, P⟩ := h
  unfold cNot at hf
  cases ea : fa ρ M with
  | none => rw [ea] at hf; cases hf
  | some p =>
    rw [ea] at hf
    simp only [Option.bind_some] at hf
    refine bindE rs w ea fun H1 m1 v e1 w1 rs1 r1 => ?_
    split at hf
    · rename_i b e; rw [e, Rl] at r1
      cases hf
      exact ⟨b, r1, (P.ext e1).val w1 (by rw [Rl])⟩
    · cases hf
def cIf (t : Tf) (fa fb : Ef) : Ef := fun ρ M => (t ρ M).bind fun p => if p.1 = true then fa ρ p.2 else fb ρ p.2
theorem ce_if (hc : CTx X c ta) (ha : CEx X a fa) (hb : CEx X b fb) : CEx X (.IfExp c a b pos) (cIf ta fa fb) := PE.imp (pe_ifExp hc ha hb) fun σ H Q h => by
  obtain ⟨ρ, M, m, z, M', rs, w, hf, P⟩ := h
  unfold cIf at hf
  cases ea : ta ρ M with
  | none => rw [ea] at hf; cases hf
  | some p =>
    rw [ea] at hf
    simp only [Option.bind_some] at hf
    refine bindT rs w ea fun H1 m1 e1 w1 rs1 => ?_
    split at hf
    · rename_i e; rw [if_pos e]; exact ⟨ρ, p.2, m1, z, M', rs1, w1, hf, P.ext e1⟩
    · rename_i e; rw [if_neg e]; exact ⟨ρ, p.2, m1, z, M', rs1, w1, hf, P.ext e1⟩
end

/-! ### argument lists, displays -/
section
variable {X : Cx} {e : Expr} {es : List Expr} {f : Ef} {g : Af} {pos : Pos}
def aNil : Af := fun _ M => some ([], M)
def aCons (f : Ef) (g : Af) : Af := fun ρ M => (f ρ M).bind fun p => (g ρ p.2).bind fun q => some (p.1.d :: q.1, q.2)
theorem ca_nil : CAx X [] aNil := PA.imp pa_nil fun σ H Q ⟨ρ, M, m, ds, M', rs, w, hf, P⟩ => by
  cases hf
  exact P H m [] .refl w (by rw [Rls])
theorem ca_cons (ha : CEx X e f) (hr : CAx X es g) (hs : starEach (e :: es) X.env = (false, eval e X.env) :: starEach es X.env := by rfl) : CAx X (e :: es) (aCons f g) := PA.imp (pa_cons ha hr hs) fun σ H Q ⟨ρ, M, m, ds, M', rs, w, hf, P⟩ => by
  unfold aCons at hf
  cases ea : f ρ M with
  | none => rw [ea] at hf; cases hf
  | some p =>
    cases eb : g ρ p.2 with
    | none => simp [ea, eb] at hf
    | some q =>
      simp [ea, eb] at hf
      obtain ⟨rfl, rfl⟩ := hf
      refine bindE rs w ea fun H1 m1 v e1 w1 rs1 r1 => ?_
      refine bindA rs1 w1 eb fun H2 m2 vs e2 w2 rs2 r2 => ?_
      exact P H2 m2 _ (e1.trans e2) w2 (by rw [Rls]; exact ⟨_, _, rfl, r1.ext e2, r2⟩)
def cTup (g : Af) : Ef := fun ρ M => (g ρ M).bind fun p => if p.1.length ≤ sizeLine then some (.val (.tup p.1), p.2) else none
def cLst (g : Af) : Ef := fun ρ M => (g ρ M).bind fun p => if p.1.length ≤ sizeLine then some (.new p.1, p.2) else none
theorem ce_tup {x1} (h : CAx X es g) : CEx X (.Tuple es x1 pos) (cTup g) := PE.imp (pe_tup h) fun σ H Q ⟨ρ, M, m, z, M', rs, w, hf, P⟩ => by
  unfold cTup at hf
  cases ea : g ρ M with
  | none => rw [ea] at hf; cases hf
  | some p =>
    rw [ea] at hf
    simp only [Option.bind_some] at hf
    split at hf
    · cases hf
      refine bindA rs w ea fun H1 m1 vs e1 w1 rs1 r1 => ⟨by rw [← r1.length]; assumption, (P.ext e1).tup w1 r1⟩
    · cases hf
theorem ce_lst (h : CAx X es g) : CEx X (.List es pos) (cLst g) := PE.imp (pe_lst h) fun σ H Q ⟨ρ, M, m, z, M', rs, w, hf, P⟩ => by
  unfold cLst at hf
  cases ea : g ρ M with
  | none => rw [ea] at hf; cases hf
  | some p =>
    rw [ea] at hf
    simp only [Option.bind_some] at hf
    split at hf
    · cases hf
      refine bindA rs w ea fun H1 m1 vs e1 w1 rs1 r1 => ⟨by rw [← r1.length]; assumption, (P.ext e1).new w1 r1⟩
    · cases hf
end
end CI

/-! Ci3: operators by values, subscripts, slices, calls, attributes -/
namespace CI
open PySem PySem.Spec PyProof.Rows L2

/-! ### sequences -/
/-- a list that can be read; that can be written; a tuple -/
def asL (M : Mem) : D → Option (List D)
  | .lst ds => some ds
  | .scr ns => some (ns.map .int)
  | .loc k => match M[k]? with
    | some (.lst ds) => some ds
    | _ => none
  | _ => none
def asW (M : Mem) : D → Option (List D)
  | .lst ds => some ds
  | .loc k => match M[k]? with
    | some (.lst ds) => some ds
    | _ => none
  | _ => none
def asT : D → Option (List D)
  | .tup ds => some ds
  | _ => none
/-- any sequence -/
def asS (M : Mem) (d : D) : Option (List D) := match d with
  | .tup ds => some ds
  | d => asL M d
section
variable {K : PySem.W.Frag} {H : Hp} {m : List Addr} {M : Mem} {d : D} {ds : List D} {x : V}
theorem asW_ok (w : Wd K H m M) (r : Rl K H m d x) (h : asW M d = some ds) : ∃ a vs, x = .ref a ∧ H a = some (.lst vs) ∧ Rls K H m ds vs := by
  cases d with
  | lst es => cases h; rw [Rl] at r; obtain ⟨a, vs, r1, _, r2, r3⟩ := r; exact ⟨a, vs, r1, r2, r3⟩
  | loc k =>
    rw [Rl] at r
    obtain ⟨a, rfl, ha⟩ := r
    unfold asW at h
    simp only at h
    split at h
    · rename_i es hk
      cases h
      obtain ⟨b, hb, vs, h1, h2⟩ := w.get hk
      rw [ha] at hb; cases hb
      exact ⟨a, vs, rfl, h1, h2⟩
    · cases h
  | _ => cases h
theorem asL_ok (w : Wd K H m M) (r : Rl K H m d x) (h : asL M d = some ds) : ∃ a vs, x = .ref a ∧ SqL K H a vs ∧ Rls K H m ds vs := by
  cases d with
  | lst es => obtain ⟨a, vs, h1, h2, h3⟩ := asW_ok w r (d := .lst es) h; exact ⟨a, vs, h1, .of h2, h3⟩
  | loc k => obtain ⟨a, vs, h1, h2, h3⟩ := asW_ok w r (d := .loc k) h; exact ⟨a, vs, h1, .of h2, h3⟩
  | scr ns =>
    cases h
    rw [Rl] at r
    obtain ⟨a, rfl, ha⟩ := r
    exact ⟨a, _, rfl, ha.l, .ints⟩
  | _ => cases h
theorem asT_ok (r : Rl K H m d x) (h : asT d = some ds) : ∃ a vs, x = .ref a ∧ SqT K H a vs ∧ Rls K H m ds vs := by
  cases d with
  | tup es => cases h; rw [Rl] at r; exact r
  | _ => cases h
theorem asS_ok (w : Wd K H m M) (r : Rl K H m d x) (h : asS M d = some ds) : ∃ a vs, x = .ref a ∧ (SqL K H a vs ∨ SqT K H a vs) ∧ Rls K H m ds vs := by
  cases d with
  | tup es => obtain ⟨a, vs, h1, h2, h3⟩ := asT_ok r (d := .tup es) h; exact ⟨a, vs, h1, .inr h2, h3⟩
  | lst es => obtain ⟨a, vs, h1, h2, h3⟩ := asL_ok w r (d := .lst es) h; exact ⟨a, vs, h1, .inl h2, h3⟩
  | loc k => obtain ⟨a, vs, h1, h2, h3⟩ := asL_ok w r (d := .loc k) h; exact ⟨a, vs, h1, .inl h2, h3⟩
  | scr k => obtain ⟨a, vs, h1, h2, h3⟩ := asL_ok w r (d := .scr k) h; exact ⟨a, vs, h1, .inl h2, h3⟩
  | _ => cases h
end

/-! ### int operators -/
section
variable {X : Cx}
def oI (g : Int → Int → D) : Bop := fun d e _ => match d, e with
  | .int i, .int j => some (.val (g i j))
  | _, _ => none
def oIc (C : Int → Int → Bool) (g : Int → Int → D) : Bop := fun d e _ => match d, e with
  | .int i, .int j => if C i j = true then some (.val (g i j)) else none
  | _, _ => none
theorem opOk_I {f : Value → Value → Sem Value} {g : Int → Int → D} {gv : Int → Int → V} (h : OpR X f (rI0 gv)) (hg : ∀ i j H m, Rl X.K H m (g i j) (gv i j)) : OpOk X f (oI g) :=
  ⟨_, h, fun H m M d e x y z Q w rd re ho P => by
    unfold oI at ho
    split at ho
    · rename_i i j
      cases ho
      rw [Rl] at rd re
      exact ⟨i, j, rd, re, P.val w (hg i j H m)⟩
    · cases ho⟩
theorem opOk_Ic {f : Value → Value → Sem Value} {C : Int → Int → Prop} {Cb : Int → Int → Bool} {g : Int → Int → D} {gv : Int → Int → V} (h : OpR X f (rI C gv)) (hg : ∀ i j H m, Rl X.K H m (g i j) (gv i j)) (hc : ∀ i j, Cb i j = true → C i j) : OpOk X f (oIc Cb g) :=
  ⟨_, h, fun H m M d e x y z Q w rd re ho P => by
    unfold oIc at ho
    split at ho
    · rename_i i j
      split at ho
      · rename_i hcb
        cases ho
        rw [Rl] at rd re
        exact ⟨i, j, rd, re, hc i j hcb, P.val w (hg i j H m)⟩
      · cases ho
    · cases ho⟩
theorem OpOk.or {f : Value → Value → Sem Value} {o o' : Bop} (h : OpOk X f o) (h' : OpOk X f o') : OpOk X f (fun d e M => (o d e M).orElse fun _ => o' d e M) := by
  obtain ⟨r, h1, h2⟩ := h
  obtain ⟨r', h1', h2'⟩ := h'
  refine ⟨_, h1.or h1', fun H m M d e x y z Q w rd re ho P => ?_⟩
  cases q : o d e M with
  | some z' => simp [q] at ho; subst ho; exact .inl (h2 H m M d e x y z' Q w rd re q P)
  | none => simp [q] at ho; exact .inr (h2' H m M d e x y z Q w rd re ho P)
def sm64 (i : Int) : Bool := decide (-(2 ^ 64) < i) && decide (i < 2 ^ 64)
def bMul (i j : Int) : Bool := sm64 i || sm64 j
def bDiv (_ j : Int) : Bool := decide (0 < j) && decide (j < 1073741824)
def bMod (_ j : Int) : Bool := decide (0 < j)
def bPow (i j : Int) : Bool := decide (0 ≤ j) && decide (j ≤ 1000000) && decide (i.natAbs < 2 ^ 64)
theorem rl_int {K : PySem.W.Frag} {H : Hp} {m : List Addr} {i : Int} : Rl K H m (.int i) (.int i) := by rw [Rl]
theorem rl_bl {K : PySem.W.Frag} {H : Hp} {m : List Addr} {i : Bool} : Rl K H m (.bl i) (.bl i) := by rw [Rl]
theorem rl_str {K : PySem.W.Frag} {H : Hp} {m : List Addr} {i : Str} : Rl K H m (.str i) (.str i) := by rw [Rl]
theorem rl_non {K : PySem.W.Frag} {H : Hp} {m : List Addr} : Rl K H m .non .non := by rw [Rl]
def oSub : Bop := oI fun i j => .int (i - j)
theorem ok_sub : OpOk X (binaryOp .Sub) oSub := opOk_I op_sub fun _ _ _ _ => rl_int
def oMulI : Bop := oIc bMul fun i j => .int (i * j)
theorem ok_mulI : OpOk X (binaryOp .Mult) oMulI := opOk_Ic op_mul (fun _ _ _ _ => rl_int) fun i j h => by
  unfold bMul sm64 at h
  simp only [Bool.or_eq_true, Bool.and_eq_true, decide_eq_true_eq] at h
  exact h
def oDiv : Bop := oIc bDiv fun i j => .int (i / j)
theorem ok_div : OpOk X (binaryOp .FloorDiv) oDiv := opOk_Ic op_fdiv (fun _ _ _ _ => rl_int) fun i j h => by
  unfold bDiv at h
  simp only [Bool.and_eq_true, decide_eq_true_eq] at h
  exact h
def oMod : Bop := oIc bMod fun i j => .int (i % j)
theorem ok_mod : OpOk X (binaryOp .Mod) oMod := opOk_Ic op_mod (fun _ _ _ _ => rl_int) fun i j h => by
  unfold bMod at h
  simpa using h
def oPow : Bop := oIc bPow fun i j => .int (i ^ j.toNat)
theorem ok_pow : OpOk X (binaryOp .Pow) oPow := opOk_Ic op_pow (fun _ _ _ _ => rl_int) fun i j h => by
  unfold bPow at h
  simp only [Bool.and_eq_true, decide_eq_true_eq] at h
  exact ⟨h.1.1, h.1.2, h.2⟩
def oLt : Bop := oI fun i j => .bl (decide (i < j))
theorem ok_lt : OpOk X (compareOp .Lt) oLt := opOk_I op_lt fun _ _ _ _ => rl_bl
def oLe : Bop := oI fun i j => .bl (decide (i ≤ j))
theorem ok_le : OpOk X (compareOp .LtE) oLe := opOk_I op_le fun _ _ _ _ => rl_bl
def oGt : Bop := oI fun i j => .bl (decide (j < i))
theorem ok_gt : OpOk X (compareOp .Gt) oGt := opOk_I op_gt fun _ _ _ _ => rl_bl
def oGe : Bop := oI fun i j => .bl (decide (j ≤ i))
theorem ok_ge : OpOk X (compareOp .GtE) oGe := opOk_I op_ge fun _ _ _ _ => rl_bl
/-! ### + -/
def oAdd : Bop := fun d e M => match d, e with
  | .int i, .int j => some (.val (.int (i + j)))
  | .str i, .str j => if i.length + j.length ≤ sizeLine then some (.val (.str (i ++ j))) else none
  | .tup xs, .tup ys => if xs.length + ys.length ≤ sizeLine then some (.val (.tup (xs ++ ys))) else none
  | d, e => match asW M d, asW M e with
    | some xs, some ys => if xs.length + ys.length ≤ sizeLine then some (.new (xs ++ ys)) else none
    | _, _ => none
theorem rls_nil {K : PySem.W.Frag} {H : Hp} {m : List Addr} {vs : List V} (h : Rls K H m [] vs) : vs = [] := by rw [Rls] at h; exact h
theorem rls_of_nil {K : PySem.W.Frag} {H : Hp} {m : List Addr} {ds : List D} (h : Rls K H m ds []) : ds = [] := by
  have := h.length
  exact List.eq_nil_of_length_eq_zero (by simpa using this)
theorem ok_add : OpOk X (binaryOp .Add) oAdd := by
  refine ⟨_, op_add.or (op_add_str.or (op_catA.or op_cat)), fun H m M d e x y z Q w rd re ho P => ?_⟩
  unfold oAdd at ho
  split at ho
  · rename_i i j
    cases ho
    rw [Rl] at rd re
    exact .inl ⟨i, j, rd, re, P.val w rl_int⟩
  · rename_i i j
    rw [Rl] at rd re
    split at ho
    · rename_i hl
      cases ho
      exact .inr (.inl ⟨i, j, rd, re, hl, P.val w rl_str⟩)
    · cases ho
  · rename_i xs ys
    split at ho
    · rename_i hl
      cases ho
      rw [Rl] at rd re
      obtain ⟨a, vs, rfl, hv, r1⟩ := rd
      obtain ⟨b, ws, rfl, hw, r2⟩ := re
      refine .inr (.inr (.inl ⟨a, b, vs, ws, rfl, rfl, hv, hw, by rw [← r1.length, ← r2.length]; exact hl, fun q => ?_, fun _ q => ?_, fun _ _ => P.tup w (r1.append r2)⟩))
      · subst q
        have := rls_of_nil r1; subst this
        exact P.val w (by rw [Rl]; exact ⟨b, ws, rfl, hw, r2⟩)
      · subst q
        have := rls_of_nil r2; subst this
        exact P.val w (by rw [Rl]; exact ⟨a, vs, rfl, hv, by simpa using r1⟩)
    · cases ho
  · split at ho
    · rename_i xs ys h1 h2
      split at ho
      · rename_i hl
        cases ho
        obtain ⟨a, vs, rfl, hv, r1⟩ := asW_ok w rd h1
        obtain ⟨b, ws, rfl, hw, r2⟩ := asW_ok w re h2
        exact .inr (.inr (.inr ⟨a, b, vs, ws, rfl, rfl, hv, hw, by rw [← r1.length, ← r2.length]; exact hl, P.new w (r1.append r2)⟩))
      · cases ho
    · cases ho

/-! ### is -/
def isBl (b : Bool) : D → Bool
  | .bl a => decide (a = b)
  | _ => false
def isNon : D → Bool
  | .non => true
  | _ => false
def oIs (neg : Bool) : Bop := fun d e _ => match e with
  | .non => some (.val (.bl (neg != isNon d)))
  | .bl b => some (.val (.bl (neg != isBl b d)))
  | _ => none
theorem plain_of {x : V} {v : Value} {b : Bool} (r : RelV x v) : plainIs v (.bool b) = true := by
  cases x with
  | non => cases r; rfl
  | bl _ => cases r; rfl
  | int _ => obtain ⟨t, rfl⟩ := r; rfl
  | str _ => obtain ⟨t, rfl⟩ := r; rfl
  | byt _ => obtain ⟨t, rfl⟩ := r; rfl
  | flt _ => obtain ⟨t, rfl⟩ := r; rfl
  | ref _ => cases r; rfl
  | ty _ => cases r; rfl
theorem beq_bl {x : V} {v : Value} {b : Bool} (r : RelV x v) : (v == Value.bool b) = decide (x = V.bl b) := by
  cases x with
  | non => cases r; rfl
  | bl a =>
    cases r
    by_cases e : a = b
    · subst e; simp
    · simp [e]
  | int _ => obtain ⟨t, rfl⟩ := r; rfl
  | str _ => obtain ⟨t, rfl⟩ := r; rfl
  | byt _ => obtain ⟨t, rfl⟩ := r; rfl
  | flt _ => obtain ⟨t, rfl⟩ := r; rfl
  | ref _ => cases r; rfl
  | ty _ => cases r; rfl
theorem op_isB : OpR X (compareOp .Is) (fun x y H Q => ∃ b, y = .bl b ∧ Q (.bl (decide (x = .bl b))) H) := by
  intro pins s σ H x y v u Q I rx ry h
  obtain ⟨b, rfl, q⟩ := h
  cases (show u = Value.bool b from ry)
  exact wpAny_is_plain (plain_of rx) ⟨.bl _, H, I, by rw [beq_bl rx]; rfl, q⟩
theorem op_notB : OpR X (compareOp .IsNot) (fun x y H Q => ∃ b, y = .bl b ∧ Q (.bl (!decide (x = .bl b))) H) := by
  intro pins s σ H x y v u Q I rx ry h
  obtain ⟨b, rfl, q⟩ := h
  cases (show u = Value.bool b from ry)
  exact wpAny_isNot_plain (plain_of rx) ⟨.bl _, H, I, by rw [beq_bl rx]; rfl, q⟩
theorem isNon_ok {K : PySem.W.Frag} {H : Hp} {m : List Addr} {d : D} {x : V} (rd : Rl K H m d x) : decide (x = V.non) = isNon d := by
  cases d <;> rw [Rl] at rd
  · simp [rd, isNon]
  all_goals first | (simp [rd, isNon]; done) | (obtain ⟨_, _, rfl, _⟩ := rd; simp [isNon]; done) | (obtain ⟨_, rfl, _⟩ := rd; simp [isNon]; done)
theorem isBl_ok {K : PySem.W.Frag} {H : Hp} {m : List Addr} {d : D} {x : V} {b : Bool} (rd : Rl K H m d x) : decide (x = V.bl b) = isBl b d := by
  cases d <;> rw [Rl] at rd
  all_goals first | (simp [rd, isBl]; done) | (obtain ⟨_, _, rfl, _⟩ := rd; simp [isBl]; done) | (obtain ⟨_, rfl, _⟩ := rd; simp [isBl]; done)
theorem ok_is : OpOk X (compareOp .Is) (oIs false) := by
  refine ⟨_, op_isN.or op_isB, fun H m M d e x y z Q w rd re ho P => ?_⟩
  unfold oIs at ho
  split at ho
  · cases ho
    rw [Rl] at re
    refine .inl ⟨re, ?_⟩
    rw [isNon_ok rd]
    exact P.val w (by rw [Rl]; cases isNon d <;> rfl)
  · rename_i b
    cases ho
    rw [Rl] at re
    refine .inr ⟨b, re, ?_⟩
    rw [isBl_ok rd]
    exact P.val w (by rw [Rl]; cases isBl b d <;> rfl)
  · cases ho
theorem ok_isnot : OpOk X (compareOp .IsNot) (oIs true) := by
  refine ⟨_, op_notN.or op_notB, fun H m M d e x y z Q w rd re ho P => ?_⟩
  unfold oIs at ho
  split at ho
  · cases ho
    rw [Rl] at re
    refine .inl ⟨re, ?_⟩
    rw [isNon_ok rd]
    exact P.val w (by rw [Rl]; cases isNon d <;> rfl)
  · rename_i b
    cases ho
    rw [Rl] at re
    refine .inr ⟨b, re, ?_⟩
    rw [isBl_ok rd]
    exact P.val w (by rw [Rl]; cases isBl b d <;> rfl)
  · cases ho

/-! ### == -/
mutual
def py0 : D → Option PyData
  | .non => some .none
  | .bl b => some (.bool b)
  | .int i => some (.int i)
  | .str x => some (.str x)
  | .tup ds => (py0s ds).map .tuple
  | .lst ds => (py0s ds).map .list
  | .scr ns => some (.list (ns.map .int))
  | .loc _ => none
def py0s : List D → Option (List PyData)
  | [] => some []
  | d :: ds => (py0 d).bind fun p => (py0s ds).bind fun ps => some (p :: ps)
end
def py (M : Mem) (d : D) : Option PyData := match d with
  | .loc k => match M[k]? with
    | some (.lst ds) => (py0s ds).map .list
    | _ => none
  | d => py0 d
section
variable {K : PySem.W.Frag} {H : Hp} {m : List Addr} {M : Mem}
mutual
theorem py0_ok : ∀ {d : D} {x : V} {p : PyData}, Rl K H m d x → py0 d = some p → Dp K H x p
  | .non, _, _, r, h => by rw [Rl] at r; subst r; cases h; exact .non
  | .bl b, _, _, r, h => by rw [Rl] at r; subst r; cases h; exact .bl b
  | .int b, _, _, r, h => by rw [Rl] at r; subst r; cases h; exact .int b
  | .str b, _, _, r, h => by rw [Rl] at r; subst r; cases h; exact .str b
  | .tup ds, _, p, r, h => by
    rw [Rl] at r
    obtain ⟨a, vs, rfl, h1, h2⟩ := r
    rw [py0] at h
    cases q : py0s ds with
    | none => rw [q] at h; cases h
    | some ps => rw [q] at h; cases h; exact .tup h1 (py0s_ok h2 q)
  | .lst ds, _, p, r, h => by
    rw [Rl] at r
    obtain ⟨a, vs, rfl, _, h1, h2⟩ := r
    rw [py0] at h
    cases q : py0s ds with
    | none => rw [q] at h; cases h
    | some ps => rw [q] at h; cases h; exact .lst (.of h1) (py0s_ok h2 q)
  | .scr ns, _, p, r, h => by
    rw [Rl] at r
    obtain ⟨a, rfl, h1⟩ := r
    rw [py0] at h
    cases h
    refine .lst h1.l ?_
    induction ns with
    | nil => exact .nil
    | cons n ns ih => exact .cons (.int n) (by
        clear h1 ih
        induction ns with
        | nil => exact .nil
        | cons n ns ih => exact .cons (.int n) ih)
  | .loc _, _, _, _, h => by cases h
theorem py0s_ok : ∀ {ds : List D} {vs : List V} {ps : List PyData}, Rls K H m ds vs → py0s ds = some ps → DpAll K H vs ps
  | [], _, _, r, h => by rw [Rls] at r; subst r; cases h; exact .nil
  | d :: ds, _, ps, r, h => by
    rw [Rls] at r
    obtain ⟨v, r', rfl, h1, h2⟩ := r
    rw [py0s] at h
    cases q : py0 d with
    | none => rw [q] at h; cases h
    | some p =>
      cases q2 : py0s ds with
      | none => rw [q, q2] at h; cases h
      | some ps2 => rw [q, q2] at h; cases h; exact .cons (py0_ok h1 q) (py0s_ok h2 q2)
end
theorem py_ok {d : D} {x : V} {p : PyData} (w : Wd K H m M) (r : Rl K H m d x) (h : py M d = some p) : Dp K H x p := by
  cases d with
  | loc k =>
    rw [Rl] at r
    obtain ⟨a, rfl, ha⟩ := r
    unfold py at h
    simp only at h
    split at h
    · rename_i ds hk
      cases q : py0s ds with
      | none => rw [q] at h; cases h
      | some ps =>
        rw [q] at h; cases h
        obtain ⟨b, hb, vs, h1, h2⟩ := w.get hk
        rw [ha] at hb; cases hb
        exact .lst (.of h1) (py0s_ok h2 q)
    · cases h
  | _ => exact py0_ok r h
end
def eqB (M : Mem) (d e : D) : Option Bool := match d, e with
  | .int i, .int j => some (decide (i = j))
  | .str i, .str j => some (decide (i = j))
  | .bl i, .bl j => some (decide (i = j))
  | d, e => match py M d, py M e with
    | some a, some b => if SeqAt.shaped a = true ∧ SeqAt.shaped b = true then some (PyData.eqv a b) else none
    | _, _ => none
def oEq : Bop := fun d e M => (eqB M d e).bind fun b => some (.val (.bl b))
def oNe : Bop := fun d e M => (eqB M d e).bind fun b => some (.val (.bl (!b)))
theorem eq_of {H : Hp} {m : List Addr} {M : Mem} {d e : D} {x y : V} {b : Bool} {K : PySem.W.Frag} (w : Wd K H m M) (rd : Rl K H m d x) (re : Rl K H m e y) (h : eqB M d e = some b) :
    (scal x y = true ∧ b = decide (x = y)) ∨ ∃ p q, Dp K H x p ∧ Dp K H y q ∧ SeqAt.shaped p = true ∧ SeqAt.shaped q = true ∧ b = PyData.eqv p q := by
  unfold eqB at h
  split at h
  · rw [Rl] at rd re; subst rd re; cases h; exact .inl ⟨rfl, by simp⟩
  · rw [Rl] at rd re; subst rd re; cases h; exact .inl ⟨rfl, by simp⟩
  · rw [Rl] at rd re; subst rd re; cases h; exact .inl ⟨rfl, by simp⟩
  · split at h
    · rename_i p q h1 h2
      split at h
      · rename_i hs
        cases h
        exact .inr ⟨p, q, py_ok w rd h1, py_ok w re h2, hs.1, hs.2, rfl⟩
      · cases h
    · cases h
theorem ok_eq (hu : X.A.units + 64 < cLine) : OpOk X (compareOp .Eq) oEq := by
  refine ⟨_, op_eq.or (op_eqD hu), fun H m M d e x y z Q w rd re ho P => ?_⟩
  unfold oEq at ho
  cases q : eqB M d e with
  | none => rw [q] at ho; cases ho
  | some b =>
    rw [q] at ho; cases ho
    rcases eq_of w rd re q with ⟨h1, rfl⟩ | ⟨p, p', h1, h2, h3, h4, rfl⟩
    · exact .inl ⟨h1, P.val w rl_bl⟩
    · exact .inr ⟨p, p', h1, h2, h3, h4, P.val w rl_bl⟩
theorem ok_ne (hu : X.A.units + 64 < cLine) : OpOk X (compareOp .NotEq) oNe := by
  refine ⟨_, op_ne.or (op_neD hu), fun H m M d e x y z Q w rd re ho P => ?_⟩
  unfold oNe at ho
  cases q : eqB M d e with
  | none => rw [q] at ho; cases ho
  | some b =>
    rw [q] at ho; cases ho
    rcases eq_of w rd re q with ⟨h1, rfl⟩ | ⟨p, p', h1, h2, h3, h4, rfl⟩
    · exact .inl ⟨h1, P.val w rl_bl⟩
    · exact .inr ⟨p, p', h1, h2, h3, h4, P.val w rl_bl⟩

/-! ### in -/
def fl : D → Bool
  | .non => true | .bl _ => true | .int _ => true | .str _ => true | _ => false
def eqF : D → D → Bool
  | .non, .non => true
  | .bl a, .bl b => a == b
  | .bl a, .int b => (if a then 1 else 0) == b
  | .int a, .bl b => a == (if b then 1 else 0)
  | .int a, .int b => a == b
  | .str a, .str b => a == b
  | _, _ => false
def inD (d : D) (ds : List D) : Bool := ds.any fun e => eqF e d
def oIn (neg : Bool) : Bop := fun d e M => (asS M e).bind fun ds => if fl d = true ∧ ds.all fl = true then some (.val (.bl (if neg then !inD d ds else inD d ds))) else none
theorem fl_ok {K : PySem.W.Frag} {H : Hp} {m : List Addr} {d : D} {x : V} (r : Rl K H m d x) (h : fl d = true) : flatV x = true := by
  cases d <;> first | (rw [Rl] at r; subst r; rfl) | cases h
theorem eqF_ok {K : PySem.W.Frag} {H : Hp} {m : List Addr} {d e : D} {x y : V} (r : Rl K H m d x) (r' : Rl K H m e y) (h : fl d = true) (h' : fl e = true) : eqF d e = eqV x y := by
  cases d <;> first | (cases h; done) | (cases e <;> first | (cases h'; done) | (rw [Rl] at r; rw [Rl] at r'; subst r r'; rfl))
theorem fls_ok {K : PySem.W.Frag} {H : Hp} {m : List Addr} : ∀ {ds : List D} {vs : List V}, Rls K H m ds vs → ds.all fl = true → vs.all flatV = true
  | [], _, r, _ => by rw [Rls] at r; subst r; rfl
  | d :: ds, _, r, h => by
    rw [Rls] at r
    obtain ⟨v, s, rfl, h1, h2⟩ := r
    rw [List.all_cons, Bool.and_eq_true] at h ⊢
    exact ⟨fl_ok h1 h.1, fls_ok h2 h.2⟩
theorem inD_ok {K : PySem.W.Frag} {H : Hp} {m : List Addr} {d : D} {x : V} (r : Rl K H m d x) (h : fl d = true) : ∀ {ds : List D} {vs : List V}, Rls K H m ds vs → ds.all fl = true → inD d ds = inV x vs
  | [], _, r, _ => by rw [Rls] at r; subst r; rfl
  | e :: ds, _, r', h' => by
    rw [Rls] at r'
    obtain ⟨v, s, rfl, h1, h2⟩ := r'
    rw [List.all_cons, Bool.and_eq_true] at h'
    show (eqF e d || inD d ds) = (eqV v x || inV x s)
    rw [eqF_ok h1 r h'.1 h, inD_ok r h h2 h'.2]
theorem in_of {neg : Bool} {H : Hp} {m : List Addr} {M : Mem} {d e : D} {x y : V} {z : Rz} {Q : VK} {K : PySem.W.Frag} (w : Wd K H m M) (rd : Rl K H m d x) (re : Rl K H m e y) (ho : oIn neg d e M = some z) (P : Post K H m z M Q) : rIn K neg x y H Q := by
  unfold oIn at ho
  cases q : asS M e with
  | none => rw [q] at ho; cases ho
  | some ds =>
    rw [q] at ho
    simp only [Option.bind_some] at ho
    split at ho
    · rename_i hh
      cases ho
      obtain ⟨a, vs, rfl, hs, hr⟩ := asS_ok w re q
      refine ⟨a, vs, rfl, hs, fl_ok rd hh.1, fls_ok hr hh.2, ?_⟩
      rw [← inD_ok rd hh.1 hr hh.2]
      exact P.val w rl_bl
    · cases ho
theorem ok_in : OpOk X (compareOp .In) (oIn false) := ⟨_, op_in_seq, fun H m M d e x y z Q w rd re ho P => in_of w rd re ho P⟩
theorem ok_notin : OpOk X (compareOp .NotIn) (oIn true) := ⟨_, op_notIn_seq, fun H m M d e x y z Q w rd re ho P => in_of w rd re ho P⟩
end
end CI

/-! Ci4: subscripts, slices, calls, attributes, methods -/
namespace CI
open PySem PySem.Spec PyProof.Rows L2

section
variable {K : PySem.W.Frag} {H : Hp} {m : List Addr} {M : Mem}
theorem Rls.atI {ds : List D} {vs : List V} (h : Rls K H m ds vs) {i : Int} {d : D} (q : L2.atI ds i = some d) : ∃ v, L2.atI vs i = some v ∧ Rl K H m d v := by
  unfold L2.atI at q ⊢
  rw [← h.length]
  cases e : ixN ds.length i with
  | none => rw [e] at q; cases q
  | some j =>
    rw [e] at q
    exact h.get (i := j) q
def cutD (xs : List D) (lo hi : Option Int) : List D := (xs.drop (HT.sIx xs.length 0 lo)).take (HT.sIx xs.length xs.length hi - HT.sIx xs.length 0 lo)
theorem Rls.cut {ds : List D} {vs : List V} (h : Rls K H m ds vs) (lo hi : Option Int) : Rls K H m (cutD ds lo hi) (cutV vs lo hi) := by
  unfold cutD cutV
  rw [← h.length]
  exact (h.drop _).take _
end

/-! ### subscripts -/
def oIx : Bop := fun d e M => match e with
  | .int i => match d with
    | .str z => if z.length ≤ sizeLine then (L2.atI z.cps.toList i).bind fun c => some (.val (.str ⟨#[c]⟩)) else none
    | d => (asS M d).bind fun ds => (L2.atI ds i).bind fun x => some (.val x)
  | _ => none
section
variable {X : Cx} {a b : Expr} {fa fb : Ef} {pos : Pos}
theorem ce_ix (ha : CEx X a fa) (hb : CEx X b fb) (hs : PlainIx b) : CEx X (.Subscript a b pos) (cBin oIx fa fb) := PE.imp (pe_ix ix_seq ha hb hs) fun σ H Q h => by
  refine bin_of (fun H m M d e x y z Q w rd re ho P => ?_) h
  unfold oIx at ho
  split at ho
  · rename_i i
    rw [Rl] at re; subst re
    split at ho
    · rename_i s
      rw [Rl] at rd; subst rd
      split at ho
      · rename_i hz
        cases q : L2.atI s.cps.toList i with
        | none => rw [q] at ho; cases ho
        | some c => rw [q] at ho; cases ho; exact .inr (.inr ⟨s, i, c, rfl, rfl, hz, q, P.val w rl_str⟩)
      · cases ho
    · cases q : asS M d with
      | none => rw [q] at ho; cases ho
      | some ds =>
        rw [q] at ho
        simp only [Option.bind_some] at ho
        cases q2 : L2.atI ds i with
        | none => rw [q2] at ho; cases ho
        | some c =>
          rw [q2] at ho; cases ho
          obtain ⟨p, vs, rfl, hs, hr⟩ := asS_ok w rd q
          obtain ⟨v, hv, rv⟩ := hr.atI q2
          rcases hs with hs | hs
          · exact .inl ⟨p, vs, i, v, rfl, rfl, hs, hv, P.val w rv⟩
          · exact .inr (.inl ⟨p, vs, i, v, rfl, rfl, hs, hv, P.val w rv⟩)
  · cases ho
end

/-! ### slices -/
abbrev Of := Slots → Mem → Option (Option Int × Mem)
def tO (K : PySem.W.Frag) (f : Of) : TO := fun σ H Q => ∃ ρ M m o M', Rs K H m ρ σ ∧ Wd K H m M ∧ f ρ M = some (o, M') ∧ ∀ H1 m1, Ext H m H1 m1 → Wd K H1 m1 M' → Q o H1
abbrev COx (X : Cx) (e : Option Expr) (f : Of) : Prop := PO X e (tO X.K f)
theorem PO.imp {X : Cx} {e : Option Expr} {t t' : TO} (h : PO X e t) (i : ∀ σ H Q, t' σ H Q → t σ H Q) : PO X e t' := ⟨fun pins s σ H Q I q => h.run pins s σ H Q I (i σ H Q q)⟩
def sNone : Of := fun _ M => some (none, M)
def sSome (f : Ef) : Of := fun ρ M => (f ρ M).bind fun p => match p.1.d with
  | .int i => some (some i, p.2)
  | _ => none
def oSl (lo hi : Option Int) (d : D) (M : Mem) : Option Rz := match d with
  | .tup ds => some (.val (.tup (cutD ds lo hi)))
  | .str z => if z.length ≤ sizeLine then some (.val (.str (cutS z lo hi))) else none
  | d => (asL M d).bind fun ds => some (.new (cutD ds lo hi))
def cSl (f : Ef) (l h : Of) : Ef := fun ρ M => (f ρ M).bind fun p => (l ρ p.2).bind fun q => (h ρ q.2).bind fun r => (oSl q.1 r.1 p.1.d r.2).bind fun z => some (z, r.2)
section
variable {X : Cx} {e : Expr} {lo hi : Option Expr} {f : Ef} {l h : Of} {pos p2 : Pos}
theorem co_none : COx X none sNone := PO.imp po_none fun σ H Q ⟨ρ, M, m, o, M', rs, w, hf, P⟩ => by cases hf; exact P H m .refl w
theorem co_some (he : CEx X e f) : COx X (some e) (sSome f) := PO.imp (po_some he) fun σ H Q ⟨ρ, M, m, o, M', rs, w, hf, P⟩ => by
  unfold sSome at hf
  cases ea : f ρ M with
  | none => rw [ea] at hf; cases hf
  | some p =>
    rw [ea] at hf
    simp only [Option.bind_some] at hf
    refine bindE rs w ea fun H1 m1 v e1 w1 rs1 r1 => ?_
    split at hf
    · rename_i i hi
      cases hf
      rw [hi, Rl] at r1
      exact ⟨i, r1, P H1 m1 e1 w1⟩
    · cases hf
theorem ce_sl (he : CEx X e f) (hl : COx X lo l) (hh : COx X hi h) : CEx X (.Subscript e (.Slice lo hi none p2) pos) (cSl f l h) := PE.imp (pe_slice (sl_tupA.or (sl_str.or sl_list)) he hl hh) fun σ H Q hq => by
  obtain ⟨ρ, M, m, z, M', rs, w, hf, P⟩ := hq
  unfold cSl at hf
  cases ea : f ρ M with
  | none => rw [ea] at hf; cases hf
  | some p =>
    cases el : l ρ p.2 with
    | none => simp [ea, el] at hf
    | some q =>
      cases eh : h ρ q.2 with
      | none => simp [ea, el, eh] at hf
      | some r =>
        cases ez : oSl q.1 r.1 p.1.d r.2 with
        | none => simp [ea, el, eh, ez] at hf
        | some z' =>
          simp [ea, el, eh, ez] at hf
          obtain ⟨rfl, rfl⟩ := hf
          refine bindE rs w ea fun H1 m1 v e1 w1 rs1 r1 => ?_
          refine ⟨ρ, p.2, m1, q.1, q.2, rs1, w1, el, fun H2 m2 e2 w2 => ?_⟩
          refine ⟨ρ, q.2, m2, r.1, r.2, rs1.ext e2, w2, eh, fun H3 m3 e3 w3 => ?_⟩
          have r3 := r1.ext (e2.trans e3)
          have P3 := P.ext ((e1.trans e2).trans e3)
          unfold oSl at ez
          split at ez
          · rename_i ds hd
            cases ez
            rw [hd, Rl] at r3
            obtain ⟨a, vs, rfl, hs, hr⟩ := r3
            refine .inl ⟨a, vs, rfl, hs, fun hw => ?_, fun _ => P3.tup w3 (hr.cut _ _)⟩
            refine P3.val w3 ?_
            rw [Rl]
            refine ⟨a, vs, rfl, hs, ?_⟩
            have e : cutD ds q.1 r.1 = ds := by
              unfold cutD
              rw [hr.length, hw.1, hw.2]
              rw [List.drop_zero, Nat.sub_zero, ← hr.length, List.take_length]
            rw [e]; exact hr
          · rename_i s hd
            split at ez
            · rename_i hz
              cases ez
              rw [hd, Rl] at r3; subst r3
              exact .inr (.inl ⟨s, rfl, hz, P3.val w3 rl_str⟩)
            · cases ez
          · cases eq : asL r.2 p.1.d with
            | none => simp [eq] at ez
            | some ds =>
              simp [eq] at ez
              subst ez
              obtain ⟨a, vs, rfl, hs, hr⟩ := asL_ok w3 r3 eq
              exact .inr (.inr ⟨a, vs, rfl, hs, P3.new w3 (hr.cut _ _)⟩)
end

/-! ### built-in calls -/
def Cop := List D → Mem → Option Rz
def ClOk (X : Cx) (f : Value) (o : Cop) : Prop := ∃ r, CallR X f r ∧ ∀ H m M ds xs z Q, Wd X.K H m M → Rls X.K H m ds xs → o ds M = some z → Post X.K H m z M Q → r xs H Q
def cCB (o : Cop) (g : Af) : Ef := fun ρ M => (g ρ M).bind fun p => (o p.1 p.2).bind fun r => some (r, p.2)
section
variable {X : Cx} {e : Expr} {es : List Expr} {g : Af} {o : Cop} {x : Str} {id T : String} {p pos : Pos}
theorem cb_of {r : List V → Hp → VK → Prop} (ho : ∀ H m M ds xs z Q, Wd X.K H m M → Rls X.K H m ds xs → o ds M = some z → Post X.K H m z M Q → r xs H Q) {σ : L2.St} {H : Hp} {Q : VK}
    (h : tE X.K (cCB o g) σ H Q) : tCB r (tA X.K g) σ H Q := by
  obtain ⟨ρ, M, m, z, M', rs, w, hf, P⟩ := h
  unfold cCB at hf
  cases ea : g ρ M with
  | none => rw [ea] at hf; cases hf
  | some p =>
    cases eb : o p.1 p.2 with
    | none => simp [ea, eb] at hf
    | some q =>
      simp [ea, eb] at hf
      obtain ⟨rfl, rfl⟩ := hf
      exact bindA rs w ea fun H1 m1 vs e1 w1 rs1 r1 => ho H1 m1 p.2 _ _ _ Q w1 r1 eb (P.ext e1)
theorem ce_callB (hc : ClOk X (.builtin id) o) (hg : Gl X x) (hm : X.mg x = none) (hv : bootBuiltins x = some (.builtin id)) (ha : CAx X (e :: es) g) (hn : x ≠ "__name__" := by decide) (hdb : (x == ("__debug__" : Str)) = false := by decide)
    (he : starEach (e :: es) X.env = (false, eval e X.env) :: starEach es X.env := by rfl) (hpl : (backTo pos (starEach es X.env)).any (·.1) = false := by rfl) : CEx X (.Call (.Name x p) (e :: es) [] pos) (cCB o g) := by
  obtain ⟨r, h1, h2⟩ := hc
  exact PE.imp (pe_callB h1 hg hm hv ha hn hdb he hpl) fun σ H Q h => cb_of h2 h
theorem ce_callTy (hc : ClOk X (.type T) o) (hg : Gl X x) (hm : X.mg x = none) (hv : bootBuiltins x = some (.type T)) (ha : CAx X (e :: es) g) (hn : x ≠ "__name__" := by decide) (hdb : (x == ("__debug__" : Str)) = false := by decide)
    (he : starEach (e :: es) X.env = (false, eval e X.env) :: starEach es X.env := by rfl) (hpl : (backTo pos (starEach es X.env)).any (·.1) = false := by rfl) : CEx X (.Call (.Name x p) (e :: es) [] pos) (cCB o g) := by
  obtain ⟨r, h1, h2⟩ := hc
  exact PE.imp (pe_callTy h1 hg hm hv ha hn hdb he hpl) fun σ H Q h => cb_of h2 h
def oLen : Cop := fun ds M => match ds with
  | [.str z] => if z.length ≤ sizeLine then some (.val (.int z.length)) else none
  | [d] => (asS M d).bind fun es => some (.val (.int es.length))
  | _ => none
theorem ok_len : ClOk X (.builtin "len") oLen := by
  refine ⟨_, call_len, fun H m M ds xs z Q w rd ho P => ?_⟩
  unfold oLen at ho
  split at ho
  · rename_i s
    split at ho
    · rename_i hz
      cases ho
      obtain ⟨v, rfl, r⟩ := rd.one
      rw [Rl] at r; subst r
      exact ⟨_, _, rfl, ⟨hz, rfl⟩, P.val w rl_int⟩
    · cases ho
  · rename_i d _
    obtain ⟨v, rfl, r⟩ := rd.one
    cases q : asS M d with
    | none => rw [q] at ho; cases ho
    | some es =>
      rw [q] at ho; cases ho
      obtain ⟨a, vs, rfl, hs, hr⟩ := asS_ok w r q
      refine ⟨_, vs.length, rfl, ?_, by rw [← hr.length]; exact P.val w rl_int⟩
      exact hs.elim (fun hs => .inl ⟨vs, hs, rfl⟩) fun hs => .inr ⟨vs, hs, rfl⟩
  · cases ho
def oInt : Cop := fun ds _ => match ds with
  | [.int i] => some (.val (.int i))
  | [.bl b] => some (.val (.int (if b then 1 else 0)))
  | _ => none
theorem ok_int : ClOk X (.type "int") oInt := by
  refine ⟨_, call_int1, fun H m M ds xs z Q w rd ho P => ?_⟩
  unfold oInt at ho
  split at ho
  · obtain ⟨v, rfl, r⟩ := rd.one
    rw [Rl] at r; subst r; cases ho
    exact .inl ⟨_, rfl, P.val w rl_int⟩
  · obtain ⟨v, rfl, r⟩ := rd.one
    rw [Rl] at r; subst r; cases ho
    exact .inr ⟨_, rfl, P.val w rl_int⟩
  · cases ho
def oTuple : Cop := fun ds M => match ds with
  | [d] => (asS M d).bind fun es => some (.val (.tup es))
  | _ => none
theorem ok_tuple : ClOk X (.type "tuple") oTuple := by
  refine ⟨_, call_tuple_of, fun H m M ds xs z Q w rd ho P => ?_⟩
  unfold oTuple at ho
  split at ho
  · rename_i d
    obtain ⟨v, rfl, r⟩ := rd.one
    cases q : asS M d with
    | none => rw [q] at ho; cases ho
    | some es =>
      rw [q] at ho; cases ho
      obtain ⟨a, vs, rfl, hs, hr⟩ := asS_ok w r q
      refine ⟨a, vs, rfl, ?_⟩
      rcases hs with hs | hs
      · exact .inl ⟨hs, P.tup w hr⟩
      · exact .inr ⟨hs, P.val w (by rw [Rl]; exact ⟨a, vs, rfl, hs, hr⟩)⟩
  · cases ho
def oList : Cop := fun ds M => match ds with
  | [d] => (asS M d).bind fun es => some (.new es)
  | _ => none
theorem ok_list : ClOk X (.type "list") oList := by
  refine ⟨_, call_list_of, fun H m M ds xs z Q w rd ho P => ?_⟩
  unfold oList at ho
  split at ho
  · rename_i d
    obtain ⟨v, rfl, r⟩ := rd.one
    cases q : asS M d with
    | none => rw [q] at ho; cases ho
    | some es =>
      rw [q] at ho; cases ho
      obtain ⟨a, vs, rfl, hs, hr⟩ := asS_ok w r q
      exact ⟨a, vs, rfl, hs, P.new w hr⟩
  · cases ho
def oMax2 : Cop := fun ds _ => match ds with
  | [.int i, .int j] => some (.val (.int (if j > i then j else i)))
  | _ => none
def oMin2 : Cop := fun ds _ => match ds with
  | [.int i, .int j] => some (.val (.int (if j < i then j else i)))
  | _ => none
theorem ok_max2 (hc : X.calm = true) : ClOk X (.builtin "max") oMax2 := by
  refine ⟨_, call_max2 hc, fun H m M ds xs z Q w rd ho P => ?_⟩
  unfold oMax2 at ho
  split at ho
  · obtain ⟨v, u, rfl, r, r'⟩ := rd.two
    rw [Rl] at r; rw [Rl] at r'; subst r r'; cases ho
    exact ⟨_, _, rfl, P.val w rl_int⟩
  · cases ho
theorem ok_min2 (hc : X.calm = true) : ClOk X (.builtin "min") oMin2 := by
  refine ⟨_, call_min2 hc, fun H m M ds xs z Q w rd ho P => ?_⟩
  unfold oMin2 at ho
  split at ho
  · obtain ⟨v, u, rfl, r, r'⟩ := rd.two
    rw [Rl] at r; rw [Rl] at r'; subst r r'; cases ho
    exact ⟨_, _, rfl, P.val w rl_int⟩
  · cases ho
def oStr : Cop := fun ds _ => match ds with
  | [.int i] => if i.natAbs.log2 < 1920 then some (.val (.str (toString i))) else none
  | _ => none
theorem ok_str : ClOk X (.type "str") oStr := by
  refine ⟨_, call_str_int, fun H m M ds xs z Q w rd ho P => ?_⟩
  unfold oStr at ho
  split at ho
  · obtain ⟨v, rfl, r⟩ := rd.one
    rw [Rl] at r; subst r
    split at ho
    · rename_i hz
      cases ho
      exact ⟨_, rfl, hz, P.val w rl_str⟩
    · cases ho
  · cases ho
def oOrd : Cop := fun ds _ => match ds with
  | [.str x] => if x.length = 1 then some (.val (.int (x.cps.getD 0 0 : Nat))) else none
  | _ => none
theorem ok_ord : ClOk X (.builtin "ord") oOrd := by
  refine ⟨_, call_ord, fun H m M ds xs z Q w rd ho P => ?_⟩
  unfold oOrd at ho
  split at ho
  · obtain ⟨v, rfl, r⟩ := rd.one
    rw [Rl] at r; subst r
    split at ho
    · rename_i hz
      cases ho
      exact ⟨_, rfl, hz, P.val w rl_int⟩
    · cases ho
  · cases ho
/-! sorted of ints -/
def sIns (a : Int) : List Int → List Int
  | [] => [a]
  | b :: l => if a ≤ b then a :: b :: l else b :: sIns a l
def isort (l : List Int) : List Int := l.foldr sIns []
theorem sIns_perm (a : Int) : ∀ l, (sIns a l).Perm (a :: l)
  | [] => .refl _
  | b :: l => by
    unfold sIns
    split
    · exact .refl _
    · exact ((sIns_perm a l).cons b).trans (.swap a b l)
theorem isort_perm : ∀ l, (isort l).Perm l
  | [] => .refl _
  | a :: l => (sIns_perm a (isort l)).trans ((isort_perm l).cons a)
theorem sIns_pw (a : Int) : ∀ l : List Int, l.Pairwise (· ≤ ·) → (sIns a l).Pairwise (· ≤ ·)
  | [], _ => by simp [sIns]
  | b :: l, h => by
    unfold sIns
    rw [List.pairwise_cons] at h
    split
    · rename_i hab
      rw [List.pairwise_cons, List.pairwise_cons]
      refine ⟨fun x hx => ?_, h.1, h.2⟩
      rcases List.mem_cons.mp hx with e | e
      · rw [e]; exact hab
      · exact Int.le_trans hab (h.1 x e)
    · rename_i hab
      rw [List.pairwise_cons]
      refine ⟨fun x hx => ?_, sIns_pw a l h.2⟩
      rcases List.mem_cons.mp ((sIns_perm a l).mem_iff.mp hx) with e | e
      · omega
      · exact h.1 x e
theorem isort_pw : ∀ l : List Int, (isort l).Pairwise (· ≤ ·)
  | [] => .nil
  | a :: l => sIns_pw a _ (isort_pw l)
theorem sorted_one : ∀ {l l' : List Int}, l.Perm l' → l.Pairwise (· ≤ ·) → l'.Pairwise (· ≤ ·) → l = l'
  | [], l', p, _, _ => by rw [List.nil_perm.mp p]
  | a :: l, [], p, _, _ => by simp at p
  | a :: l, b :: l', p, h, h' => by
    rw [List.pairwise_cons] at h h'
    have e : a = b := by
      have h1 : a ∈ b :: l' := p.mem_iff.mp List.mem_cons_self
      have h2 : b ∈ a :: l := p.mem_iff.mpr List.mem_cons_self
      rcases List.mem_cons.mp h1 with e | e
      · exact e
      · rcases List.mem_cons.mp h2 with e' | e'
        · exact e'.symm
        · have := h'.1 a e; have := h.1 b e'; omega
    subst e
    rw [sorted_one (List.Perm.cons_inv p) h.2 h'.2]
def intsD : List D → Option (List Int)
  | [] => some []
  | .int i :: ds => (intsD ds).bind fun is => some (i :: is)
  | _ => none
theorem intsD_eq : ∀ {ds : List D} {is : List Int}, intsD ds = some is → ds = is.map .int
  | [], _, h => by cases h; rfl
  | d :: ds, is, h => by
    cases d with
    | int i =>
      rw [intsD] at h
      cases q : intsD ds with
      | none => rw [q] at h; cases h
      | some js => rw [q] at h; cases h; rw [intsD_eq q]; rfl
    | _ => simp [intsD] at h
theorem intsD_map : ∀ is : List Int, intsD (is.map .int) = some is
  | [] => rfl
  | i :: is => by simp [intsD, intsD_map is]
theorem rls_ints {K : PySem.W.Frag} {H : Hp} {m : List Addr} : ∀ {is : List Int} {vs : List V}, Rls K H m (is.map .int) vs → vs = is.map V.int
  | [], _, h => rls_nil h
  | i :: is, _, h => by
    rw [List.map_cons, Rls] at h
    obtain ⟨v, r, rfl, h1, h2⟩ := h
    rw [Rl] at h1
    rw [h1, rls_ints h2]; rfl
def oSorted : Cop := fun ds M => match ds with
  | [d] => (asL M d).bind fun es => (intsD es).bind fun is => some (.new ((isort is).map .int))
  | _ => none
theorem ok_sorted : ClOk X (.builtin "sorted") oSorted := by
  refine ⟨_, cr_sortedI, fun H m M ds xs z Q w rd ho P => ?_⟩
  unfold oSorted at ho
  split at ho
  · rename_i d
    obtain ⟨v, rfl, r⟩ := rd.one
    cases q : asL M d with
    | none => rw [q] at ho; cases ho
    | some es =>
      cases q2 : intsD es with
      | none => simp [q, q2] at ho
      | some is =>
        simp [q, q2] at ho
        subst ho
        obtain ⟨a, vs, rfl, hs, hr⟩ := asL_ok w r q
        rw [intsD_eq q2] at hr
        have e := rls_ints hr
        subst e
        refine ⟨a, is, rfl, hs, fun ns' p hp hw hn => ?_⟩
        rw [sorted_one (hp.trans (isort_perm is).symm) hw (isort_pw is)]
        exact P.new w .ints p hn
  · cases ho

/-! ### isinstance -/
def tyOf (M : Mem) : D → Option String
  | .non => some "NoneType" | .bl _ => some "bool" | .int _ => some "int" | .str _ => some "str" | .tup _ => some "tuple" | .lst _ => some "list" | .scr _ => some "list"
  | .loc k => match M[k]? with
    | some (.lst _) => some "list"
    | some (.dct _) => some "dict"
    | _ => none
def cIsI (n : String) (f : Ef) : Ef := fun ρ M => (f ρ M).bind fun p => (tyOf p.2 p.1.d).bind fun t => (kitB t n).bind fun b => some (.val (.bl b), p.2)
theorem tyOf_ok {K : PySem.W.Frag} {H : Hp} {m : List Addr} {M : Mem} {d : D} {x : V} {t : String} (w : Wd K H m M) (r : Rl K H m d x) (h : tyOf M d = some t) : TyX K H x (.type t) := by
  cases d with
  | non => rw [Rl] at r; subst r; cases h; exact .base .non
  | bl b => rw [Rl] at r; subst r; cases h; exact .base (.bl b)
  | int b => rw [Rl] at r; subst r; cases h; exact .base (.int b)
  | str b => rw [Rl] at r; subst r; cases h; exact .base (.str b)
  | tup ds =>
    rw [Rl] at r
    obtain ⟨a, vs, rfl, hs, _⟩ := r
    cases h
    rcases hs with (hs | ⟨o, hs⟩) | ⟨o, its, n, hk, hc, _⟩
    · exact .base (.tup hs)
    · exact .fTuple hs
    · exact .kTuple hk hc
  | lst ds =>
    rw [Rl] at r
    obtain ⟨a, vs, rfl, _, hs, _⟩ := r
    cases h
    exact .base (.lst hs)
  | scr ns =>
    rw [Rl] at r
    obtain ⟨a, rfl, hs⟩ := r
    cases h
    rcases hs with ⟨o, hs⟩ | ⟨o, its, n, hk, hc, _⟩
    · exact .base (.frz hs)
    · exact .kList hk hc
  | loc k =>
    rw [Rl] at r
    obtain ⟨a, rfl, ha⟩ := r
    unfold tyOf at h
    simp only at h
    split at h
    · rename_i ds hk
      cases h
      obtain ⟨b, hb, vs, h1, h2⟩ := w.get hk
      rw [ha] at hb; cases hb
      exact .base (.lst h1)
    · rename_i ds hk
      cases h
      obtain ⟨b, hb, vs, h1, h2⟩ := w.get hk
      rw [ha] at hb; cases hb
      exact .base (.dK h1)
    · cases h
theorem ce_isi {b : Expr} {n : String} {f : Ef} (hg : Gl X "isinstance") (hm : X.mg "isinstance" = none) (ha : CEx X e f) (hb : PE X b (tC (.ty n)))
    (he : starEach [e, b] X.env = (false, eval e X.env) :: starEach [b] X.env := by rfl) (he2 : starEach [b] X.env = (false, eval b X.env) :: starEach [] X.env := by rfl) (hpl : (backTo pos (starEach [b] X.env)).any (·.1) = false := by rfl) :
    CEx X (.Call (.Name "isinstance" p) [e, b] [] pos) (cIsI n f) :=
  PE.imp (pe_callB call_isi hg hm (by decide +kernel) (pa_cons ha (pa_cons hb pa_nil he2) he) (by decide) (by decide) he hpl) fun σ H Q h => by
    obtain ⟨ρ, M, m, z, M', rs, w, hf, P⟩ := h
    unfold cIsI at hf
    cases ea : f ρ M with
    | none => rw [ea] at hf; cases hf
    | some p =>
      cases eb : tyOf p.2 p.1.d with
      | none => simp [ea, eb] at hf
      | some t =>
        cases ec : kitB t n with
        | none => simp [ea, eb, ec] at hf
        | some k =>
          simp [ea, eb, ec] at hf
          obtain ⟨rfl, rfl⟩ := hf
          refine bindE rs w ea fun H1 m1 v e1 w1 rs1 r1 => ?_
          exact ⟨v, .ty n, _, _, k, rfl, .ty n, tyOf_ok w1 r1 eb, kit_ty ec, (P.ext e1).val w1 rl_bl⟩
/-! ### truth -/
def trD (M : Mem) (d : D) : Option Bool := match d with
  | .non => some false
  | .bl b => some b
  | .int i => some (i != 0)
  | .str y => if y.length ≤ sizeLine then some ((y.length : Int) != 0) else none
  | d => (asS M d).bind fun ds => some (!ds.isEmpty)
def toTr (f : Ef) : Tf := fun ρ M => (f ρ M).bind fun p => (trD p.2 p.1.d).bind fun b => some (b, p.2)
theorem ct_truth {f : Ef} (ha : CEx X e f) (he : ∀ whole, isTrue e X.env whole = (do let v ← whole; standAt e.pos; holding [v] (truthy v))) : CTx X e (toTr f) := PT.imp (pt_truth ha he) fun σ H Q h => by
  obtain ⟨ρ, M, m, z, M', rs, w, hf, P⟩ := h
  unfold toTr at hf
  cases ea : f ρ M with
  | none => rw [ea] at hf; cases hf
  | some p =>
    cases eb : trD p.2 p.1.d with
    | none => simp [ea, eb] at hf
    | some b =>
      simp [ea, eb] at hf
      obtain ⟨rfl, rfl⟩ := hf
      refine bindE rs w ea fun H1 m1 v e1 w1 rs1 r1 => ⟨b, ?_, P H1 m1 e1 w1⟩
      unfold trD at eb
      split at eb
      · rename_i hd; rw [hd, Rl] at r1; subst r1; cases eb; rfl
      · rename_i hd; rw [hd, Rl] at r1; subst r1; cases eb; rfl
      · rename_i hd; rw [hd, Rl] at r1; subst r1; cases eb; rfl
      · rename_i hd
        rw [hd, Rl] at r1; subst r1
        split at eb
        · rename_i hz; cases eb; exact ⟨hz, rfl⟩
        · cases eb
      · cases q : asS p.2 p.1.d with
        | none => simp [q] at eb
        | some ds =>
          simp only [q, Option.bind_some, Option.some.injEq] at eb
          subst eb
          obtain ⟨a, vs, rfl, hs, hr⟩ := asS_ok w1 r1 q
          have e : ds.isEmpty = vs.isEmpty := by
            have := hr.length
            cases ds <;> cases vs <;> simp_all
          rcases hs with hs | hs
          · exact .inl ⟨vs, hs, by rw [e]⟩
          · exact .inr (.inl ⟨vs, hs, by rw [e]⟩)
end
end CI

/-! Ci5: calls of defs, attributes, methods, statements, loops -/
namespace CI
open PySem PySem.Spec PyProof.Rows L2

/-! ### what a def means -/
def Fn := List D → Mem → Option (Rz × Mem)
def spF (K : PySem.W.Frag) (F : Fn) : Sp := fun vs H Q _ => ∃ ds M m r M', Rls K H m ds vs ∧ Wd K H m M ∧ F ds M = some (r, M') ∧ Post K H m r M' Q
def cCall (F : Fn) (g : Af) : Ef := fun ρ M => (g ρ M).bind fun p => F p.1 p.2
def cNew (c : Str) (F : Fn) (g : Af) : Ef := fun ρ M => (g ρ M).bind fun p => (F (.loc p.2.length :: p.1) (p.2 ++ [.ins c []])).bind fun q => match q.1 with
  | .val .non => some (.val (.loc p.2.length), q.2)
  | _ => none
def cMeth (c m : Str) (F : Fn) (f : Ef) (g : Af) : Ef := fun ρ M => (f ρ M).bind fun p => match p.1.d with
  | .loc k => match p.2[k]? with
    | some (.ins c' fs) => if c' = c ∧ fs.lookup m = none then (g ρ p.2).bind fun q => F (.loc k :: q.1) q.2 else none
    | _ => none
  | _ => none
def cFld (cs : List Str) (f : Str) (fo : Ef) : Ef := fun ρ M => (fo ρ M).bind fun p => match p.1.d with
  | .loc k => match p.2[k]? with
    | some (.ins c fs) => if c ∈ cs then (fs.lookup f).bind fun d => some (.val d, p.2) else none
    | _ => none
  | _ => none
section
variable {X : Cx} {k : Nat} {f : Addr} {fd : FuncData} {ps : List Str} {x m c : Str} {p pos apos : Pos} {e o : Expr} {es : List Expr} {G : Fn} {fo : Ef} {g : Af}
theorem call_of {σ : L2.St} {H : Hp} {Q : VK} {E : XK} (h : tE X.K (cCall G g) σ H Q) : tCall (spF X.K G) [] E (tA X.K g) σ H Q := by
  obtain ⟨ρ, M, m, z, M', rs, w, hf, P⟩ := h
  unfold cCall at hf
  cases ea : g ρ M with
  | none => rw [ea] at hf; cases hf
  | some p =>
    rw [ea] at hf
    exact bindA rs w ea fun H1 m1 vs e1 w1 rs1 r1 => ⟨p.1, p.2, m1, z, M', by rw [List.append_nil]; exact r1, w1, hf, P.ext e1⟩
theorem ce_call (F : FnOk X.prog X.w X.K X.mg X.base CX0 k f fd ps (spF X.K G)) (hr : Room k X.A) (hg : Gl X x) (hm : X.mg x = some (.ref f)) (hk : PySem.W.keepIn X.K (.ref f) = true) (hb : Binds X.K fd ps [])
    (ha : CAx X (e :: es) g) (hdb : (x == ("__debug__" : Str)) = false := by decide) (he : starEach (e :: es) X.env = (false, eval e X.env) :: starEach es X.env := by rfl) (hpl : (backTo pos (starEach es X.env)).any (·.1) = false := by rfl) :
    CEx X (.Call (.Name x p) (e :: es) [] pos) (cCall G g) := PE.imp (pe_call F hr hg hm hk hb .nil pass0 ha hdb he hpl) fun _ _ _ h => call_of h
theorem ce_call0 (F : FnOk X.prog X.w X.K X.mg X.base CX0 k f fd ps (spF X.K G)) (hr : Room k X.A) (hg : Gl X x) (hm : X.mg x = some (.ref f)) (hk : PySem.W.keepIn X.K (.ref f) = true) (hb : Binds X.K fd ps [])
    (hdb : (x == ("__debug__" : Str)) = false := by decide) : CEx X (.Call (.Name x p) [] [] pos) (cCall G aNil) :=
  PE.imp (pe_call0 F hr hg hm hk hb .nil pass0 hdb) fun σ H Q ⟨ρ, M, m, z, M', rs, w, hf, P⟩ => ⟨[], M, m, z, M', by rw [Rls]; rfl, w, hf, P⟩
theorem new_of {σ : L2.St} {H : Hp} {Q : VK} {E : XK} (h : tE X.K (cNew c G g) σ H Q) : tMake (He.ga X.K c) (spF X.K G) [] E (tA X.K g) σ H Q := by
  obtain ⟨ρ, M, m, z, M', rs, w, hf, P⟩ := h
  unfold cNew at hf
  cases ea : g ρ M with
  | none => rw [ea] at hf; cases hf
  | some p =>
    rw [ea] at hf
    simp only [Option.bind_some] at hf
    cases eb : G (.loc p.2.length :: p.1) (p.2 ++ [.ins c []]) with
    | none => rw [eb] at hf; cases hf
    | some q =>
      rw [eb] at hf
      simp only [Option.bind_some] at hf
      refine bindA rs w ea fun H1 m1 vs e1 w1 rs1 r1 => fun x dx nx ndx ne => ?_
      have e2 : Ext H1 m1 (upd H1 dx (.own x)) m1 := .new ndx
      have w2 : Wd X.K (upd H1 dx (.own x)) m1 p.2 := w1.new ndx
      have nx2 : upd H1 dx (.own x) x = none := by rw [upd_ne (Ne.symm ne)]; exact nx
      obtain ⟨w3, e3⟩ := w2.push (o := .ins c []) (u := .ins (He.ga X.K c) dx []) nx2 ⟨dx, [], upd_same, rfl⟩
      split at hf
      · rename_i hq
        cases hf
        refine ⟨.loc p.2.length :: p.1, _, m1 ++ [x], q.1, q.2, ?_, w3, eb, Post.use fun H4 m4 v e4 w4 r4 => ?_⟩
        · rw [Rls]
          refine ⟨_, _, rfl, ?_, by rw [List.append_nil]; exact r1.ext (e2.trans e3)⟩
          rw [Rl]
          exact ⟨x, rfl, by rw [← w1.len, List.getElem?_append_right (Nat.le_refl _)]; simp⟩
        · rw [hq] at r4
          rw [show (Rz.val D.non).d = .non from rfl, Rl] at r4
          refine ⟨r4, (P.ext (((e1.trans e2).trans e3).trans e4)).val w4 ?_⟩
          rw [Rl]
          exact ⟨x, rfl, e4.get (by rw [← w1.len, List.getElem?_append_right (Nat.le_refl _)]; simp)⟩
      · cases hf
theorem ce_new (Mk' : Mk X.K (He.ga X.K c) f) (F : FnOk X.prog X.w X.K X.mg X.base CX0 k f fd ps (spF X.K G)) (hr : Room (k + 1) X.A) (hg : Gl X x) (hm : X.mg x = some (.ref (He.ga X.K c))) (hb : Binds X.K fd ps [])
    (ha : CAx X (e :: es) g) (hdb : (x == ("__debug__" : Str)) = false := by decide) (he : starEach (e :: es) X.env = (false, eval e X.env) :: starEach es X.env := by rfl) (hpl : (backTo pos (starEach es X.env)).any (·.1) = false := by rfl) :
    CEx X (.Call (.Name x p) (e :: es) [] pos) (cNew c G g) := PE.imp (pe_make Mk' F hr hg hm hb .nil pass0 ha hdb he hpl) fun _ _ _ h => new_of h
theorem ce_new0 (Mk' : Mk X.K (He.ga X.K c) f) (F : FnOk X.prog X.w X.K X.mg X.base CX0 k f fd ps (spF X.K G)) (hr : Room (k + 1) X.A) (hg : Gl X x) (hm : X.mg x = some (.ref (He.ga X.K c))) (hb : Binds X.K fd ps [])
    (hdb : (x == ("__debug__" : Str)) = false := by decide) : CEx X (.Call (.Name x p) [] [] pos) (cNew c G aNil) :=
  PE.imp (pe_make0 Mk' F hr hg hm hb .nil pass0 hdb) fun σ H Q h => by
    have h2 := new_of (E := E0) h
    obtain ⟨ρ, M, m, ds, M', rs, w, hf, P⟩ := h2
    cases hf
    exact P H m [] .refl w (by rw [Rls])
theorem meth_of {σ : L2.St} {H : Hp} {Q : VK} {E : XK} (h : tE X.K (cMeth c m G fo g) σ H Q) : tMeth (He.ga X.K c) m (spF X.K G) [] E (tE X.K fo) (tA X.K g) σ H Q := by
  obtain ⟨ρ, M, mm, z, M', rs, w, hf, P⟩ := h
  unfold cMeth at hf
  cases ea : fo ρ M with
  | none => rw [ea] at hf; cases hf
  | some p =>
    rw [ea] at hf
    simp only [Option.bind_some] at hf
    refine bindE rs w ea fun H1 m1 v e1 w1 rs1 r1 => ?_
    split at hf
    · rename_i k hk
      rw [hk, Rl] at r1
      obtain ⟨a, rfl, ha⟩ := r1
      split at hf
      · rename_i c' fs hfs
        split at hf
        · rename_i hc
          obtain ⟨rfl, hl⟩ := hc
          obtain ⟨b, hb, dx, gs, h1, h2⟩ := w1.get hfs
          rw [ha] at hb; cases hb
          refine ⟨a, dx, gs, rfl, h1, h2.lookup_none hl, ?_⟩
          cases eg : g ρ p.2 with
          | none => rw [eg] at hf; cases hf
          | some q =>
            rw [eg] at hf
            simp only [Option.bind_some] at hf
            refine bindA rs1 w1 eg fun H2 m2 vs e2 w2 rs2 r2 => ⟨.loc k :: q.1, q.2, m2, z, M', ?_, w2, hf, P.ext (e1.trans e2)⟩
            rw [Rls]
            refine ⟨_, _, rfl, ?_, by rw [List.append_nil]; exact r2⟩
            rw [Rl]
            exact ⟨a, rfl, e2.get ha⟩
        · cases hf
      · cases hf
    · cases hf
theorem ce_meth {pl : Sem Bool} (he : CEx X o fo) (c' : Cls X.K (He.ga X.K c)) (hm : Meth X.K (He.ga X.K c) m f) (F : FnOk X.prog X.w X.K X.mg X.base CX0 k f fd ps (spF X.K G)) (hr : Room k X.A) (hb : Binds X.K fd ps []) (ha : CAx X (e :: es) g)
    (hst : starEach (e :: es) X.env = (false, eval e X.env) :: starEach es X.env := by rfl) (hpl : (backTo pos (starEach es X.env)).any (·.1) = false := by rfl)
    (ht : eval (.Call (.Attribute o m apos) (e :: es) [] pos) X.env = (do
      let ov ← eval o X.env
      standAt apos.atName
      let (f, first) ← holding [ov] (getMethod ov m pl)
      callWith pos f first (backTo pos (starEach (e :: es) X.env)) (backToKw pos (keywordEach [] X.env))) := by rfl) :
    CEx X (.Call (.Attribute o m apos) (e :: es) [] pos) (cMeth c m G fo g) := PE.imp (pe_meth he c' hm F hr hb .nil pass0 ha hst hpl ht) fun _ _ _ h => meth_of h
theorem ce_meth0 {pl : Sem Bool} (he : CEx X o fo) (c' : Cls X.K (He.ga X.K c)) (hm : Meth X.K (He.ga X.K c) m f) (F : FnOk X.prog X.w X.K X.mg X.base CX0 k f fd ps (spF X.K G)) (hr : Room k X.A) (hb : Binds X.K fd ps [])
    (ht : eval (.Call (.Attribute o m apos) [] [] pos) X.env = (do
      let ov ← eval o X.env
      standAt apos.atName
      let (f, first) ← holding [ov] (getMethod ov m pl)
      callWith pos f first (backTo pos (starEach [] X.env)) (backToKw pos (keywordEach [] X.env))) := by rfl) :
    CEx X (.Call (.Attribute o m apos) [] [] pos) (cMeth c m G fo aNil) := PE.imp (pe_meth0 he c' hm F hr hb .nil pass0 ht) fun σ H Q h => by
  have h2 := meth_of (E := E0) h
  obtain ⟨ρ, M, mm, z, M', rs, w, hf, P⟩ := h2
  refine ⟨ρ, M, mm, z, M', rs, w, hf, fun H1 m1 e1 w1 => ?_⟩
  have P1 := P H1 m1 e1 w1
  cases z with
  | val d =>
    intro v rv
    obtain ⟨a, dx, fs, h1, h2, h3, ρ', M2, m2, ds, M3, _, w2, hf2, P2⟩ := P1 v rv
    cases hf2
    exact ⟨a, dx, fs, h1, h2, h3, P2 H1 m2 [] .refl w2 (by rw [Rls])⟩
  | new ds =>
    intro vs a rv n
    obtain ⟨a', dx, fs, h1, h2, h3, ρ', M2, m2, ds2, M3, _, w2, hf2, P2⟩ := P1 vs a rv n
    cases hf2
    exact ⟨a', dx, fs, h1, h2, h3, P2 _ m2 [] .refl w2 (by rw [Rls])⟩
theorem ce_fld {cs : List Str} {n : Str} (he : CEx X e fo) (hcs : ∀ c ∈ cs, Cls X.K (He.ga X.K c) ∧ NoAttr X.K (He.ga X.K c) n) (hb : attributeBase e n X.env (eval e X.env) = eval e X.env := by rfl) : CEx X (.Attribute e n pos) (cFld cs n fo) :=
  PE.imp (pe_fld he hb) fun σ H Q h => by
    obtain ⟨ρ, M, mm, z, M', rs, w, hf, P⟩ := h
    unfold cFld at hf
    cases ea : fo ρ M with
    | none => rw [ea] at hf; cases hf
    | some p =>
      rw [ea] at hf
      simp only [Option.bind_some] at hf
      refine bindE rs w ea fun H1 m1 v e1 w1 rs1 r1 => ?_
      split at hf
      · rename_i k hk
        rw [hk, Rl] at r1
        obtain ⟨a, rfl, ha⟩ := r1
        split at hf
        · rename_i c fs hfs
          split at hf
          · rename_i hc
            obtain ⟨b, hb, dx, gs, h1, h2⟩ := w1.get hfs
            rw [ha] at hb; cases hb
            cases q : fs.lookup n with
            | none => rw [q] at hf; cases hf
            | some d =>
              rw [q] at hf
              cases hf
              obtain ⟨v, hv, rv⟩ := h2.lookup q
              exact ⟨a, _, dx, gs, v, rfl, h1, (hcs c hc).1, (hcs c hc).2, hv, (P.ext e1).val w1 rv⟩
          · cases hf
        · cases hf
      · cases hf
end

/-! ### methods of lists -/
def Mop := D → List D → Mem → Option (Rz × Mem)
def MtOk (X : Cx) (T id : String) (o : Mop) : Prop := ∃ r, MtR X id r ∧ ∀ H m M d ds x xs z M' Q, Wd X.K H m M → Rl X.K H m d x → Rls X.K H m ds xs → o d ds M = some (z, M') → Post X.K H m z M' Q → r x xs H Q
def cBM (T : String) (o : Mop) (f : Ef) (g : Af) : Ef := fun ρ M => (f ρ M).bind fun p => if tyOf p.2 p.1.d = some T then (g ρ p.2).bind fun q => o p.1.d q.1 q.2 else none
section
variable {X : Cx} {o e : Expr} {es : List Expr} {fo : Ef} {g : Af} {name : Str} {apos cpos : Pos} {id : String} {op : Mop}
theorem tyV_list {K : PySem.W.Frag} {H : Hp} {m : List Addr} {M : Mem} {d : D} {x : V} (w : Wd K H m M) (r : Rl K H m d x) (h : tyOf M d = some "list") : tyV K "list" x H := by
  cases d with
  | lst ds => rw [Rl] at r; obtain ⟨a, vs, rfl, _, h1, _⟩ := r; exact .inl ⟨rfl, vs, .of h1⟩
  | scr ns => rw [Rl] at r; obtain ⟨a, rfl, h1⟩ := r; exact .inl ⟨rfl, _, h1.l⟩
  | loc k =>
    rw [Rl] at r
    obtain ⟨a, rfl, ha⟩ := r
    unfold tyOf at h
    simp only at h
    split at h
    · rename_i ds hk
      obtain ⟨b, hb, vs, h1, h2⟩ := w.get hk
      rw [ha] at hb; cases hb
      exact .inl ⟨rfl, vs, .of h1⟩
    · exact absurd (Option.some.inj h) (by decide)
    · cases h
  | non => exact absurd (Option.some.inj h) (by decide)
  | bl b => exact absurd (Option.some.inj h) (by decide)
  | int b => exact absurd (Option.some.inj h) (by decide)
  | str b => exact absurd (Option.some.inj h) (by decide)
  | tup b => exact absurd (Option.some.inj h) (by decide)
theorem bm_of {r : V → List V → Hp → VK → Prop} (ho : ∀ H m M d ds x xs z M' Q, Wd X.K H m M → Rl X.K H m d x → Rls X.K H m ds xs → op d ds M = some (z, M') → Post X.K H m z M' Q → r x xs H Q) {σ : L2.St} {H : Hp} {Q : VK}
    (h : tE X.K (cBM "list" op fo g) σ H Q) : tBM X.K "list" r (tE X.K fo) (tA X.K g) σ H Q := by
  obtain ⟨ρ, M, mm, z, M', rs, w, hf, P⟩ := h
  unfold cBM at hf
  cases ea : fo ρ M with
  | none => rw [ea] at hf; cases hf
  | some p =>
    rw [ea] at hf
    simp only [Option.bind_some] at hf
    refine bindE rs w ea fun H1 m1 v e1 w1 rs1 r1 => ?_
    split at hf
    · rename_i ht
      refine ⟨tyV_list w1 r1 ht, ?_⟩
      cases eg : g ρ p.2 with
      | none => rw [eg] at hf; cases hf
      | some q =>
        rw [eg] at hf
        simp only [Option.bind_some] at hf
        exact bindA rs1 w1 eg fun H2 m2 vs e2 w2 rs2 r2 => ho H2 m2 q.2 _ _ _ _ _ _ Q w2 (r1.ext e2) r2 hf (P.ext (e1.trans e2))
    · cases hf
theorem ce_bm (pa : PlainAttrs "list") (slot : Slot "list" name id) (hty : typeOf (.builtin id) = pure (.type "method_descriptor")) (hm : MtOk X "list" id op) (ho : CEx X o fo) (ha : CAx X (e :: es) g)
    (hbase : attributeBase o name X.env (eval o X.env) = eval o X.env := by rfl)
    (hfew : ((backTo cpos (starEach (e :: es) X.env)).all (fun x => !x.1) && (backToKw cpos (keywordEach [] X.env)).all (fun x => x.1.isSome)
      && decide ((e :: es).length + ([] : List Keyword).length + (if ([] : List Keyword).isEmpty then 0 else 1) < 30)) = true := by rfl)
    (hline : (apos.endLine == cpos.line) = true := by rfl) (hs : starEach (e :: es) X.env = (false, eval e X.env) :: starEach es X.env := by rfl) (hplain : (backTo cpos (starEach es X.env)).any (·.1) = false := by rfl) :
    CEx X (.Call (.Attribute o name apos) (e :: es) [] cpos) (cBM "list" op fo g) := by
  obtain ⟨r, h1, h2⟩ := hm
  exact PE.imp (pe_bm pa slot hty h1 ho ha hbase hfew hline hs hplain) fun _ _ _ h => bm_of h2 h
theorem ce_bm0 (pa : PlainAttrs "list") (slot : Slot "list" name id) (hty : typeOf (.builtin id) = pure (.type "method_descriptor")) (hm : MtOk X "list" id op) (ho : CEx X o fo)
    (hbase : attributeBase o name X.env (eval o X.env) = eval o X.env := by rfl) (hline : (apos.endLine == cpos.line) = true := by rfl) :
    CEx X (.Call (.Attribute o name apos) [] [] cpos) (cBM "list" op fo aNil) := by
  obtain ⟨r, h1, h2⟩ := hm
  refine PE.imp (pe_bm0 pa slot hty h1 ho hbase hline) fun σ H Q h => ?_
  obtain ⟨ρ, M, mm, z, M', rs, w, hf, P⟩ := h
  unfold cBM at hf
  cases ea : fo ρ M with
  | none => rw [ea] at hf; cases hf
  | some p =>
    rw [ea] at hf
    simp only [Option.bind_some] at hf
    refine bindE rs w ea fun H1 m1 v e1 w1 rs1 r1 => ?_
    split at hf
    · rename_i ht
      refine ⟨tyV_list w1 r1 ht, ?_⟩
      simp only [aNil, Option.bind_some] at hf
      exact h2 H1 m1 p.2 _ [] _ [] _ _ Q w1 r1 (by rw [Rls]) hf (P.ext e1)
    · cases hf
/-- the object k is changed: what follows -/
theorem Post.set {K : PySem.W.Frag} {H : Hp} {m : List Addr} {M : Mem} {k : Nat} {a : Addr} {ob : O} {u : HO} {z : D} {v : V} {Q : VK} (w : Wd K H m M) (hk : m[k]? = some a) (P : Post K H m (.val z) (M.set k ob) Q)
    (ho : Ro K (upd H a u) m a ob) (hz : Rl K (upd H a u) m z v) : Q v (upd H a u) := P _ m (w.ext_set hk) (w.set hk ho) v hz
def oAppend : Mop := fun d ds M => match d, ds with
  | .loc k, [x] => match M[k]? with
    | some (.lst es) => if es.length < sizeLine then some (.val .non, M.set k (.lst (es ++ [x]))) else none
    | _ => none
  | _, _ => none
theorem ok_append : MtOk X "list" "list.append" oAppend := by
  refine ⟨_, mt_append, fun H m M d ds x xs z M' Q w rd rds ho P => ?_⟩
  unfold oAppend at ho
  split at ho
  · rename_i k y
    split at ho
    · rename_i es hk
      split at ho
      · rename_i hz
        cases ho
        rw [Rl] at rd
        obtain ⟨a, rfl, ha⟩ := rd
        obtain ⟨b, hb, vs, h1, h2⟩ := w.get hk
        rw [ha] at hb; cases hb
        obtain ⟨v, rfl, rv⟩ := rds.one
        have e := w.ext_set (K := X.K) (u := .lst (vs ++ [v])) ha
        refine ⟨a, vs, v, rfl, rfl, h1, by rw [← h2.length]; exact hz, P.set w ha ⟨_, upd_same, ?_⟩ rl_non⟩
        exact (h2.ext e).append (by rw [Rls]; exact ⟨_, _, rfl, rv.ext e, by rw [Rls]⟩)
      · cases ho
    · cases ho
  · cases ho
end

/-! ### statements -/
inductive Fl where
  | nx | bk | ct | rt (r : Rz)
abbrev Sf := Slots → Mem → Option (Fl × Slots × Mem)
def PostN (K : PySem.W.Frag) (H : Hp) (m : List Addr) (ρ' : Slots) (M' : Mem) (N : L2.St → Hp → Prop) : Prop := ∀ H1 m1 σ1, Ext H m H1 m1 → Wd K H1 m1 M' → Rs K H1 m1 ρ' σ1 → N σ1 H1
def PostS (K : PySem.W.Frag) (H : Hp) (m : List Addr) (fl : Fl) (ρ' : Slots) (M' : Mem) (Dn : Ends) : Prop := match fl with
  | .nx => PostN K H m ρ' M' Dn.nx
  | .bk => PostN K H m ρ' M' Dn.bk
  | .ct => PostN K H m ρ' M' Dn.ct
  | .rt r => Post K H m r M' Dn.rt
def tS (K : PySem.W.Frag) (f : Sf) : TS := fun Dn σ H => ∃ ρ M m fl ρ' M', Rs K H m ρ σ ∧ Wd K H m M ∧ f ρ M = some (fl, ρ', M') ∧ PostS K H m fl ρ' M' Dn
abbrev CSx (X : Cx) (st : Stmt) (f : Sf) : Prop := PS X st (tS X.K f)
abbrev CBx (X : Cx) (st : List Stmt) (f : Sf) : Prop := PSs X st (tS X.K f)
theorem PS.imp {X : Cx} {e : Stmt} {t t' : TS} (h : PS X e t) (i : ∀ Dn σ H, t' Dn σ H → t Dn σ H) : PS X e t' := ⟨fun pins s σ H Q I q => h.run pins s σ H Q I (i Q σ H q)⟩
theorem PSs.imp {X : Cx} {e : List Stmt} {t t' : TS} (h : PSs X e t) (i : ∀ Dn σ H, t' Dn σ H → t Dn σ H) : PSs X e t' := ⟨fun pins s σ H Q I q => h.run pins s σ H Q I (i Q σ H q)⟩
section
variable {K : PySem.W.Frag} {H H1 : Hp} {m m1 : List Addr} {ρ' : Slots} {M' : Mem} {fl : Fl} {Dn : Ends}
theorem PostN.ext {N : L2.St → Hp → Prop} (P : PostN K H m ρ' M' N) (e : Ext H m H1 m1) : PostN K H1 m1 ρ' M' N := fun H2 m2 σ2 e2 w r => P H2 m2 σ2 (e.trans e2) w r
theorem PostS.ext (P : PostS K H m fl ρ' M' Dn) (e : Ext H m H1 m1) : PostS K H1 m1 fl ρ' M' Dn := by
  cases fl with
  | nx => exact PostN.ext P e
  | bk => exact PostN.ext P e
  | ct => exact PostN.ext P e
  | rt r => exact Post.ext P e
end
section
variable {X : Cx} {st : Stmt} {rest : List Stmt} {f g : Sf} {fe fo : Ef} {ft : Tf} {e : Expr} {pos : Pos}
def sNil : Sf := fun ρ M => some (.nx, ρ, M)
def sCons (f g : Sf) : Sf := fun ρ M => (f ρ M).bind fun p => match p.1 with
  | .nx => g p.2.1 p.2.2
  | fl => some (fl, p.2.1, p.2.2)
theorem nx_of {Dn : Ends} {σ : L2.St} {H : Hp} (h : tS X.K sNil Dn σ H) : Dn.nx σ H := by
  obtain ⟨ρ, M, m, fl, ρ', M', rs, w, hf, P⟩ := h
  cases hf
  exact P H m σ .refl w rs
theorem cb_nil : CBx X [] sNil := PSs.imp pss_nil fun _ _ _ h => nx_of h
theorem cb_cons (h1 : CSx X st f) (h2 : CBx X rest g) : CBx X (st :: rest) (sCons f g) := PSs.imp (pss_cons h1 h2) fun Dn σ H h => by
  obtain ⟨ρ, M, m, fl, ρ', M', rs, w, hf, P⟩ := h
  unfold sCons at hf
  cases ea : f ρ M with
  | none => rw [ea] at hf; cases hf
  | some p =>
    obtain ⟨fl1, ρ1, M1⟩ := p
    rw [ea] at hf
    simp only [Option.bind_some] at hf
    refine ⟨ρ, M, m, fl1, ρ1, M1, rs, w, ea, ?_⟩
    cases fl1 with
    | nx => exact fun H1 m1 σ1 e1 w1 r1 => ⟨ρ1, M1, m1, fl, ρ', M', r1, w1, hf, P.ext e1⟩
    | bk => cases hf; exact P
    | ct => cases hf; exact P
    | rt r => cases hf; exact P
theorem cb_one (h1 : CSx X st f) : CBx X [st] f := pss_one h1
theorem cs_pass : CSx X (.Pass pos) sNil := PS.imp ps_pass fun _ _ _ h => nx_of h
theorem cs_doc {x : Str} {j pos'} : CSx X (.Expr (.Constant (.str x) j pos') pos) sNil := PS.imp ps_doc fun _ _ _ h => nx_of h
def sBreak : Sf := fun ρ M => some (.bk, ρ, M)
def sCont : Sf := fun ρ M => some (.ct, ρ, M)
theorem cs_break : CSx X (.Break pos) sBreak := PS.imp ps_break fun Dn σ H h => by
  obtain ⟨ρ, M, m, fl, ρ', M', rs, w, hf, P⟩ := h
  cases hf
  exact P H m σ .refl w rs
theorem cs_continue : CSx X (.Continue pos) sCont := PS.imp ps_continue fun Dn σ H h => by
  obtain ⟨ρ, M, m, fl, ρ', M', rs, w, hf, P⟩ := h
  cases hf
  exact P H m σ .refl w rs
def sExpr (f : Ef) : Sf := fun ρ M => (f ρ M).bind fun p => some (.nx, ρ, p.2)
theorem cs_expr (he : CEx X e fe) (hs : swapsWith e none pos.line X.env = pure false := by rfl) : CSx X (.Expr e pos) (sExpr fe) := PS.imp (ps_expr he hs) fun Dn σ H h => by
  obtain ⟨ρ, M, m, fl, ρ', M', rs, w, hf, P⟩ := h
  unfold sExpr at hf
  cases ea : fe ρ M with
  | none => rw [ea] at hf; cases hf
  | some p =>
    rw [ea] at hf
    cases hf
    exact bindE rs w ea fun H1 m1 v e1 w1 rs1 r1 => P H1 m1 σ e1 w1 rs1
def sRet (f : Ef) : Sf := fun ρ M => (f ρ M).bind fun p => some (.rt p.1, ρ, p.2)
theorem cs_ret (he : CEx X e fe) : CSx X (.Return (some e) pos) (sRet fe) := PS.imp (ps_ret he) fun Dn σ H h => by
  obtain ⟨ρ, M, m, fl, ρ', M', rs, w, hf, P⟩ := h
  unfold sRet at hf
  cases ea : fe ρ M with
  | none => rw [ea] at hf; cases hf
  | some p =>
    rw [ea] at hf
    cases hf
    exact ⟨ρ, M, m, p.1, p.2, rs, w, ea, P⟩
def sRetN : Sf := fun ρ M => some (.rt (.val .non), ρ, M)
theorem cs_retN : CSx X (.Return none pos) sRetN := PS.imp ps_retN fun Dn σ H h => by
  obtain ⟨ρ, M, m, fl, ρ', M', rs, w, hf, P⟩ := h
  cases hf
  exact Post.val P w rl_non
def sIf (t : Tf) (f g : Sf) : Sf := fun ρ M => (t ρ M).bind fun p => if p.1 = true then f ρ p.2 else g ρ p.2
theorem cs_if {c : Expr} {a b : List Stmt} (hc : CTx X c ft) (ha : CBx X a f) (hb : CBx X b g) : CSx X (.If c a b pos) (sIf ft f g) := PS.imp (ps_if hc ha hb) fun Dn σ H h => by
  obtain ⟨ρ, M, m, fl, ρ', M', rs, w, hf, P⟩ := h
  unfold sIf at hf
  cases ea : ft ρ M with
  | none => rw [ea] at hf; cases hf
  | some p =>
    rw [ea] at hf
    simp only [Option.bind_some] at hf
    refine bindT rs w ea fun H1 m1 e1 w1 rs1 => ?_
    split at hf
    · rename_i e; rw [if_pos e]; exact ⟨ρ, p.2, m1, fl, ρ', M', rs1, w1, hf, P.ext e1⟩
    · rename_i e; rw [if_neg e]; exact ⟨ρ, p.2, m1, fl, ρ', M', rs1, w1, hf, P.ext e1⟩
/-- code that is never reached -/
def sNever : Sf := fun _ _ => none
theorem cs_never : CSx X st sNever := PS.imp ps_never fun Dn σ H h => by
  obtain ⟨ρ, M, m, fl, ρ', M', rs, w, hf, P⟩ := h
  cases hf
theorem cb_never {sts : List Stmt} : CBx X sts sNever := PSs.imp pss_never fun Dn σ H h => by
  obtain ⟨ρ, M, m, fl, ρ', M', rs, w, hf, P⟩ := h
  cases hf
/-- name = value -/
def sSet (i : Nat) (f : Ef) : Sf := fun ρ M => (f ρ M).bind fun p => some (.nx, ρ.set i (some p.1.d), p.2)
theorem cs_set {i : Nat} (h : PS X st (tAsg (tE X.K fe) (gName i))) : CSx X st (sSet i fe) := PS.imp h fun Dn σ H h => by
  obtain ⟨ρ, M, m, fl, ρ', M', rs, w, hf, P⟩ := h
  unfold sSet at hf
  cases ea : fe ρ M with
  | none => rw [ea] at hf; cases hf
  | some p =>
    rw [ea] at hf
    cases hf
    exact bindE rs w ea fun H1 m1 v e1 w1 rs1 r1 => P H1 m1 _ e1 w1 (rs1.set r1 i)
/-- name = value, a new list becomes an object of our own -/
def sSetM (i : Nat) (f : Ef) : Sf := fun ρ M => (f ρ M).bind fun p => match p.1 with
  | .new ds => some (.nx, ρ.set i (some (.loc p.2.length)), p.2 ++ [.lst ds])
  | .val d => some (.nx, ρ.set i (some d), p.2)
theorem cs_setM {i : Nat} (h : PS X st (tAsg (tE X.K fe) (gName i))) : CSx X st (sSetM i fe) := PS.imp h fun Dn σ H h => by
  obtain ⟨ρ, M, m, fl, ρ', M', rs, w, hf, P⟩ := h
  unfold sSetM at hf
  cases ea : fe ρ M with
  | none => rw [ea] at hf; cases hf
  | some p =>
    obtain ⟨r, M1⟩ := p
    rw [ea] at hf
    simp only [Option.bind_some] at hf
    refine ⟨ρ, M, m, r, M1, rs, w, ea, fun H1 m1 e1 w1 => ?_⟩
    cases r with
    | val d =>
      cases hf
      exact fun v r1 => P H1 m1 _ e1 w1 ((rs.ext e1).set r1 i)
    | new ds =>
      cases hf
      intro vs a r1 n
      obtain ⟨w2, e2⟩ := w1.push (o := .lst ds) (u := .lst vs) n (by
        refine ⟨vs, upd_same, ?_⟩
        have e1 : Ext H1 m1 (upd H1 a (.lst vs)) m1 := .new n
        exact r1.ext ⟨e1.tup, e1.frz, e1.lst, e1.trk, [a], rfl, fun b q => by simp at q; rw [q]; exact n⟩)
      refine P _ _ _ (e1.trans e2) w2 (((rs.ext e1).ext e2).set ?_ i)
      rw [Rl]
      exact ⟨a, rfl, by rw [← w1.len, List.getElem?_append_right (Nat.le_refl _)]; simp⟩
end

/-! ### fields stored -/
def putD (f : Str) (v : D) : List (Str × D) → List (Str × D)
  | [] => [(f, v)]
  | (g, x) :: r => if g = f then (g, v) :: r else (g, x) :: putD f v r
theorem Rfs.put {K : PySem.W.Frag} {H : Hp} {m : List Addr} {f : Str} {d : D} {v : V} (r : Rl K H m d v) : ∀ {fs : List (Str × D)} {gs : List (Str × V)}, Rfs K H m fs gs → Rfs K H m (putD f d fs) (putF f v gs)
  | [], _, h => by cases h; exact ⟨v, [], rfl, r, rfl⟩
  | (g, x) :: fs, _, h => by
    obtain ⟨u, s, rfl, h1, h2⟩ := h
    unfold putD putF
    split
    · exact ⟨v, s, rfl, r, h2⟩
    · exact ⟨u, _, rfl, h1, Rfs.put r h2⟩
def stFld (cs : List Str) (f : Str) (fo : Ef) (d : D) (ρ : Slots) (M : Mem) : Option (Fl × Slots × Mem) := (fo ρ M).bind fun q => match q.1.d with
  | .loc k => match q.2[k]? with
    | some (.ins c fs) => if c ∈ cs ∧ fs.length < 1000 then some (.nx, ρ, q.2.set k (.ins c (putD f d fs))) else none
    | _ => none
  | _ => none
def sFldS (cs : List Str) (f : Str) (fo fv : Ef) : Sf := fun ρ M => (fv ρ M).bind fun p => stFld cs f fo p.1.d ρ p.2
def sFldM (cs : List Str) (f : Str) (fo fv : Ef) : Sf := fun ρ M => (fv ρ M).bind fun p => match p.1 with
  | .new ds => stFld cs f fo (.loc p.2.length) ρ (p.2 ++ [.lst ds])
  | .val d => stFld cs f fo d ρ p.2
section
variable {X : Cx} {st : Stmt} {fe fo fv : Ef} {o value : Expr} {n : Str} {pos pos' : Pos} {cs : List Str}
theorem fld_of {ρ ρ' : Slots} {M M' : Mem} {fl : Fl} {d : D} {y : V} {H H0 : Hp} {m m0 : List Addr} {σ : L2.St} {Dn : Ends} (hcs : ∀ c ∈ cs, Cls X.K (He.ga X.K c) ∧ NoAttr X.K (He.ga X.K c) n) (e : Ext H0 m0 H m) (rs : Rs X.K H m ρ σ) (w : Wd X.K H m M) (r : Rl X.K H m d y)
    (hf : stFld cs n fo d ρ M = some (fl, ρ', M')) (P : PostS X.K H0 m0 fl ρ' M' Dn) :
    tE X.K fo σ H fun x H2 => ∃ a C dx fs, x = .ref a ∧ H2 a = some (.ins C dx fs) ∧ Cls X.K C ∧ NoAttr X.K C n ∧ fs.length < 1000 ∧ Dn.nx σ (upd H2 a (.ins C dx (putF n y fs))) := by
  unfold stFld at hf
  cases ea : fo ρ M with
  | none => rw [ea] at hf; cases hf
  | some q =>
    rw [ea] at hf
    simp only [Option.bind_some] at hf
    refine bindE rs w ea fun H1 m1 v e1 w1 rs1 r1 => ?_
    split at hf
    · rename_i k hk
      rw [hk, Rl] at r1
      obtain ⟨a, rfl, ha⟩ := r1
      split at hf
      · rename_i c fs hfs
        split at hf
        · rename_i hc
          cases hf
          obtain ⟨b, hb, dx, gs, h1, h2⟩ := w1.get hfs
          rw [ha] at hb; cases hb
          have e2 := w1.ext_set (u := .ins (He.ga X.K c) dx (putF n y gs)) ha
          refine ⟨a, _, dx, gs, rfl, h1, (hcs c hc.1).1, (hcs c hc.1).2, by rw [← h2.length]; exact hc.2, ?_⟩
          exact P _ m1 σ ((e.trans e1).trans e2) (w1.set ha ⟨dx, _, upd_same, Rfs.put ((r.ext e1).ext e2) (h2.ext e2)⟩) (rs1.ext e2)
        · cases hf
      · cases hf
    · cases hf
theorem cs_fld (ha : CEx X o fo) (hv : CEx X value fv) (hcs : ∀ c ∈ cs, Cls X.K (He.ga X.K c) ∧ NoAttr X.K (He.ga X.K c) n) (hs : swapsWith value (some (.Attribute o n pos')) pos.line X.env = pure false := by rfl) : CSx X (.Assign [.Attribute o n pos'] value pos) (sFldS cs n fo fv) :=
  PS.imp (ps_fld ha hv hs) fun Dn σ H h => by
    obtain ⟨ρ, M, m, fl, ρ', M', rs, w, hf, P⟩ := h
    unfold sFldS at hf
    cases ea : fv ρ M with
    | none => rw [ea] at hf; cases hf
    | some p =>
      rw [ea] at hf
      exact bindE rs w ea fun H1 m1 v e1 w1 rs1 r1 => fld_of hcs e1 rs1 w1 r1 hf P
theorem cs_fldM (ha : CEx X o fo) (hv : CEx X value fv) (hcs : ∀ c ∈ cs, Cls X.K (He.ga X.K c) ∧ NoAttr X.K (He.ga X.K c) n) (hs : swapsWith value (some (.Attribute o n pos')) pos.line X.env = pure false := by rfl) : CSx X (.Assign [.Attribute o n pos'] value pos) (sFldM cs n fo fv) :=
  PS.imp (ps_fld ha hv hs) fun Dn σ H h => by
    obtain ⟨ρ, M, m, fl, ρ', M', rs, w, hf, P⟩ := h
    unfold sFldM at hf
    cases ea : fv ρ M with
    | none => rw [ea] at hf; cases hf
    | some p =>
      obtain ⟨r, M1⟩ := p
      rw [ea] at hf
      simp only [Option.bind_some] at hf
      refine ⟨ρ, M, m, r, M1, rs, w, ea, fun H1 m1 e1 w1 => ?_⟩
      cases r with
      | val d => exact fun v r1 => fld_of hcs e1 (rs.ext e1) w1 r1 hf P
      | new ds =>
        intro vs a r1 nn
        obtain ⟨w2, e2⟩ := w1.push (o := .lst ds) (u := .lst vs) nn (by
          refine ⟨vs, upd_same, ?_⟩
          have e1 : Ext H1 m1 (upd H1 a (.lst vs)) m1 := .new nn
          exact r1.ext ⟨e1.tup, e1.frz, e1.lst, e1.trk, [a], rfl, fun b q => by simp at q; rw [q]; exact nn⟩)
        refine fld_of hcs (e1.trans e2) ((rs.ext e1).ext e2) w2 ?_ hf P
        rw [Rl]
        exact ⟨a, rfl, by rw [← w1.len, List.getElem?_append_right (Nat.le_refl _)]; simp⟩
end
end CI

/-! Ci6: targets, loops, defs -/
namespace CI
open PySem PySem.Spec PyProof.Rows L2

/-! ### targets -/
abbrev Gf := D → Slots → Mem → Option (Slots × Mem)
abbrev GsF := List D → Slots → Mem → Option (Slots × Mem)
def tG (K : PySem.W.Frag) (g : Gf) : TG := fun v σ H Q => ∃ d ρ M m ρ' M', Rl K H m d v ∧ Rs K H m ρ σ ∧ Wd K H m M ∧ g d ρ M = some (ρ', M') ∧ PostN K H m ρ' M' Q
def tGs (K : PySem.W.Frag) (g : GsF) : TGs := fun vs σ H Q => ∃ ds ρ M m ρ' M', Rls K H m ds vs ∧ Rs K H m ρ σ ∧ Wd K H m M ∧ g ds ρ M = some (ρ', M') ∧ PostN K H m ρ' M' Q
theorem PG.imp {X : Cx} {e : Expr} {t t' : TG} (h : PG X e t) (i : ∀ v σ H Q, t' v σ H Q → t v σ H Q) : PG X e t' := ⟨fun pins s σ H v u Q I r q => h.run pins s σ H v u Q I r (i v σ H Q q)⟩
theorem PGs.imp {X : Cx} {e : List Expr} {t t' : TGs} (h : PGs X e t) (i : ∀ v σ H Q, t' v σ H Q → t v σ H Q) : PGs X e t' := ⟨fun pins s σ H v u Q I r q => h.run pins s σ H v u Q I r (i v σ H Q q)⟩
abbrev CGx (X : Cx) (e : Expr) (g : Gf) : Prop := PG X e (tG X.K g)
abbrev CGsx (X : Cx) (es : List Expr) (g : GsF) : Prop := PGs X es (tGs X.K g)
def gNm (i : Nat) : Gf := fun d ρ M => some (ρ.set i (some d), M)
def gsNil : GsF := fun ds ρ M => match ds with
  | [] => some (ρ, M)
  | _ => none
def gsCons (g : Gf) (gs : GsF) : GsF := fun ds ρ M => match ds with
  | d :: ds => (g d ρ M).bind fun p => gs ds p.1 p.2
  | [] => none
def gTp (n : Nat) (gs : GsF) : Gf := fun d ρ M => match d with
  | .tup ds => if ds.length = n then gs ds ρ M else none
  | _ => none
section
variable {X : Cx} {e tg : Expr} {es : List Expr} {g : Gf} {gs : GsF} {pos : Pos} {fe : Ef} {st : Stmt}
theorem cg_of {i : Nat} (h : PG X e (gName i)) : CGx X e (gNm i) := PG.imp h fun v σ H Q ⟨d, ρ, M, m, ρ', M', r, rs, w, hf, P⟩ => by
  cases hf
  exact P H m _ .refl w (rs.set r i)
theorem cgs_nil : CGsx X [] gsNil := PGs.imp pgs_nil fun vs σ H Q ⟨ds, ρ, M, m, ρ', M', r, rs, w, hf, P⟩ => by
  unfold gsNil at hf
  split at hf
  · cases hf
    exact ⟨rls_nil r, P H m _ .refl w rs⟩
  · cases hf
theorem cgs_cons (h1 : CGx X e g) (h2 : CGsx X es gs) (hs : (assignEach (e :: es) X.env).map (·.2) = assign e X.env :: (assignEach es X.env).map (·.2) := by rfl) : CGsx X (e :: es) (gsCons g gs) :=
  PGs.imp (pgs_cons h1 h2 hs) fun vs σ H Q ⟨ds, ρ, M, m, ρ', M', r, rs, w, hf, P⟩ => by
    unfold gsCons at hf
    split at hf
    · rename_i d ds
      rw [Rls] at r
      obtain ⟨v, vr, rfl, r1, r2⟩ := r
      cases ea : g d ρ M with
      | none => rw [ea] at hf; cases hf
      | some p =>
        rw [ea] at hf
        simp only [Option.bind_some] at hf
        refine ⟨v, vr, rfl, d, ρ, M, m, p.1, p.2, r1, rs, w, ea, fun H1 m1 σ1 e1 w1 rs1 => ?_⟩
        exact ⟨ds, p.1, p.2, m1, ρ', M', r2.ext e1, rs1, w1, hf, P.ext e1⟩
    · cases hf
theorem cg_tup {k n : Nat} (hc : X.calm = true) (h : CGsx X es gs) (hn : (assignEach es X.env).length = n := by rfl) (hst : (assignEach es X.env).findIdx? (·.1) = none := by rfl) : CGx X (.Tuple es k pos) (gTp n gs) :=
  PG.imp (pg_tup hc h hn hst) fun v σ H Q ⟨d, ρ, M, m, ρ', M', r, rs, w, hf, P⟩ => by
    unfold gTp at hf
    split at hf
    · rename_i ds
      split at hf
      · rename_i hl
        rw [Rl] at r
        obtain ⟨a, vs, rfl, h1, h2⟩ := r
        exact ⟨a, vs, rfl, h1, by rw [← h2.length]; exact hl, ds, ρ, M, m, ρ', M', h2, rs, w, hf, P⟩
      · cases hf
    · cases hf
def sAsg (g : Gf) (f : Ef) : Sf := fun ρ M => (f ρ M).bind fun p => (g p.1.d ρ p.2).bind fun q => some (.nx, q.1, q.2)
theorem cs_asg (h : PS X st (tAsg (tE X.K fe) (tG X.K g))) : CSx X st (sAsg g fe) := PS.imp h fun Dn σ H h => by
  obtain ⟨ρ, M, m, fl, ρ', M', rs, w, hf, P⟩ := h
  unfold sAsg at hf
  cases ea : fe ρ M with
  | none => rw [ea] at hf; cases hf
  | some p =>
    cases eg : g p.1.d ρ p.2 with
    | none => simp [ea, eg] at hf
    | some q =>
      simp [ea, eg] at hf
      obtain ⟨rfl, rfl, rfl⟩ := hf
      exact bindE rs w ea fun H1 m1 v e1 w1 rs1 r1 => ⟨p.1.d, ρ, p.2, m1, q.1, q.2, r1, rs1, w1, eg, PostN.ext P e1⟩
end
/-- xs[i] = v as a target -/
def gIx (fo fi : Ef) : Gf := fun d ρ M => (fo ρ M).bind fun p => (fi ρ p.2).bind fun q => match p.1.d, q.1.d with
  | .loc k, .int i => match q.2[k]? with
    | some (.lst es) => (ixN es.length i).bind fun j => some (ρ, q.2.set k (.lst (es.set j d)))
    | _ => none
  | _, _ => none
theorem cg_ix {X : Cx} {o i : Expr} {fo fi : Ef} {pos : Pos} (ho : CEx X o fo) (hi : CEx X i fi) (ha : ∀ v, assign (.Subscript o i pos) X.env v = (do
      let ov ← holding [v] (eval o X.env)
      let iv ← holding [v, ov] (eval i X.env)
      standAt pos
      holding [v, ov, iv] (setItem ov iv v)
      release [v, ov, iv] []) := by intro _; rfl) : CGx X (.Subscript o i pos) (gIx fo fi) :=
  PG.imp (pg_sub ho hi set_list ha) fun v σ H Q ⟨d, ρ, M, m, ρ', M', r, rs, w, hf, P⟩ => by
    unfold gIx at hf
    cases ea : fo ρ M with
    | none => rw [ea] at hf; cases hf
    | some p =>
      cases ei : fi ρ p.2 with
      | none => simp [ea, ei] at hf
      | some q =>
        simp only [ea, ei, Option.bind_some] at hf
        refine bindE rs w ea fun H1 m1 v1 e1 w1 rs1 r1 => bindE rs1 w1 ei fun H2 m2 v2 e2 w2 rs2 r2 => ?_
        split at hf
        · rename_i k i hk hi
          split at hf
          · rename_i es hes
            cases ej : ixN es.length i with
            | none => rw [ej] at hf; cases hf
            | some j =>
              rw [ej] at hf
              cases hf
              have r1' := r1.ext e2
              rw [hk, Rl] at r1'
              rw [hi, Rl] at r2
              obtain ⟨a, rfl, ha⟩ := r1'
              subst r2
              obtain ⟨b, hb, vs, h1, h2⟩ := w2.get hes
              rw [ha] at hb; cases hb
              have e3 := w2.ext_set (u := .lst (vs.set j v)) ha
              refine ⟨a, vs, i, j, rfl, rfl, h1, by rw [← h2.length]; exact ej, ?_⟩
              exact P _ m2 _ ((e1.trans e2).trans e3) (w2.set ha ⟨_, upd_same, (h2.ext e3).set j (((r.ext e1).ext e2).ext e3)⟩) ((rs2).ext e3)
          · cases hf
        · cases hf

/-! ### what is walked -/
abbrev If := Slots → Mem → Option (List D × Option Nat × Mem)
def GdOk (K : PySem.W.Frag) (gk : Option Nat) (ds : List D) (H : Hp) (m : List Addr) : Prop := ∀ k, gk = some k → ∃ a vs, m[k]? = some a ∧ H a = some (.lst vs) ∧ Rls K H m ds vs
structure Yl (K : PySem.W.Frag) (H0 : Hp) (m0 : List Addr) (J : It) (ds : List D) (gk : Option Nat) : Prop where
  go : ∀ i H m, i < ds.length → Ext H0 m0 H m → GdOk K gk ds H m → J.go i H
  yld : ∀ i d H m M x H', ds[i]? = some d → Ext H0 m0 H m → GdOk K gk ds H m → Wd K H m M → J.yld i H x H' → Ext H m H' m ∧ Wd K H' m M ∧ Rl K H' m d x
  stop : ∀ H m, Ext H0 m0 H m → GdOk K gk ds H m → J.stop ds.length H
def tI (K : PySem.W.Frag) (f : If) : TI := fun σ H R => ∃ ρ M m ds gk M', Rs K H m ρ σ ∧ Wd K H m M ∧ f ρ M = some (ds, gk, M') ∧
  ∀ H1 m1 J, Ext H m H1 m1 → Wd K H1 m1 M' → GdOk K gk ds H1 m1 → Yl K H1 m1 J ds gk → R J H1
theorem PI.imp {X : Cx} {tg e : Expr} {t t' : TI} (h : PI X tg e t) (i : ∀ σ H R, t' σ H R → t σ H R) : PI X tg e t' := ⟨fun pins s σ H R I q => h.run pins s σ H R I (i σ H R q)⟩
theorem PI.or {X : Cx} {tg e : Expr} {t t' : TI} (h : PI X tg e t) (h' : PI X tg e t') : PI X tg e (fun σ H R => t σ H R ∨ t' σ H R) := ⟨fun pins s σ H R I q => q.elim (h.run pins s σ H R I) (h'.run pins s σ H R I)⟩
abbrev CIx (X : Cx) (tg e : Expr) (f : If) : Prop := PI X tg e (tI X.K f)
def gkOf : D → Option Nat
  | .loc k => some k
  | _ => none
def iSeq (f : Ef) : If := fun ρ M => (f ρ M).bind fun p => (asS p.2 p.1.d).bind fun ds => some (ds, gkOf p.1.d, p.2)
theorem gd_none {K : PySem.W.Frag} {ds : List D} {H : Hp} {m : List Addr} : GdOk K none ds H m := fun k e => by cases e

section
variable {K : PySem.W.Frag} {H : Hp} {m : List Addr} {M : Mem} {a : Addr} {ds : List D} {vs : List V}
theorem yl_tup (h : SqT K H a vs) (r : Rls K H m ds vs) : Yl K H m (Itt K a) ds none where
  go := fun i H1 m1 hi e _ => by
    have hl := r.length
    exact ⟨vs, vs[i], sqT_ext e h, List.getElem?_eq_getElem (by omega)⟩
  yld := fun i d H1 m1 M1 x H' q e _ w y => by
    obtain ⟨rfl, y⟩ := y
    obtain ⟨v, h1, h2⟩ := (r.ext e).get q
    have := y vs (sqT_ext e h)
    rw [h1] at this; cases this
    exact ⟨.refl, w, h2⟩
  stop := fun H1 m1 e _ => ⟨vs, sqT_ext e h, by rw [r.length]; exact Nat.le_refl _⟩
theorem yl_sq (h : ∀ H1 m1, Ext H m H1 m1 → SqL K H1 a vs) (r : Rls K H m ds vs) : Yl K H m (Itl K a) ds none where
  go := fun i H1 m1 hi e _ => by
    have hl := r.length
    exact ⟨vs, vs[i], h _ _ e, List.getElem?_eq_getElem (by omega)⟩
  yld := fun i d H1 m1 M1 x H' q e _ w y => by
    obtain ⟨rfl, y⟩ := y
    obtain ⟨v, h1, h2⟩ := (r.ext e).get q
    have := y vs (h _ _ e)
    rw [h1] at this; cases this
    exact ⟨.refl, w, h2⟩
  stop := fun H1 m1 e _ => ⟨vs, h _ _ e, by rw [r.length]; exact Nat.le_refl _⟩
theorem yl_loc {k : Nat} (h : m[k]? = some a) : Yl K H m (Itl K a) ds (some k) where
  go := fun i H1 m1 hi e g => by
    obtain ⟨b, vs, h1, h2, h3⟩ := g k rfl
    rw [e.get h] at h1; cases h1
    have hl := h3.length
    exact ⟨vs, vs[i], .of h2, List.getElem?_eq_getElem (by omega)⟩
  yld := fun i d H1 m1 M1 x H' q e g w y => by
    obtain ⟨rfl, y⟩ := y
    obtain ⟨b, vs, h1, h2, h3⟩ := g k rfl
    rw [e.get h] at h1; cases h1
    obtain ⟨v, h4, h5⟩ := h3.get q
    have := y vs (.of h2)
    rw [h4] at this; cases this
    exact ⟨.refl, w, h5⟩
  stop := fun H1 m1 e g => by
    obtain ⟨b, vs, h1, h2, h3⟩ := g k rfl
    rw [e.get h] at h1; cases h1
    exact ⟨vs, .of h2, by rw [h3.length]; exact Nat.le_refl _⟩
def rgD (lo : Int) (n : Nat) : List D := (List.range n).map fun (i : Nat) => D.int (lo + i)
theorem rgD_len {lo : Int} {n : Nat} : (rgD lo n).length = n := by unfold rgD; simp
theorem rgD_get {lo : Int} {n i : Nat} {d : D} (h : (rgD lo n)[i]? = some d) : i < n ∧ d = .int (lo + i) := by
  unfold rgD at h
  rw [List.getElem?_map] at h
  cases q : (List.range n)[i]? with
  | none => rw [q] at h; cases h
  | some j =>
    rw [q] at h
    cases h
    obtain ⟨h1, h2⟩ := List.getElem?_eq_some_iff.mp q
    simp at h1 h2
    exact ⟨h1, by rw [h2]⟩
theorem yl_rng {lo : Int} {n : Nat} : Yl K H m (Itr lo n) (rgD lo n) none where
  go := fun i H1 m1 hi e _ => by rw [rgD_len] at hi; exact hi
  yld := fun i d H1 m1 M1 x H' q e _ w y => by
    obtain ⟨rfl, rfl⟩ := y
    obtain ⟨_, rfl⟩ := rgD_get q
    exact ⟨.refl, w, by rw [Rl]⟩
  stop := fun H1 m1 e _ => by rw [rgD_len]; exact Nat.le_refl _
end
section
variable {X : Cx} {tg e a b : Expr} {f fa fb : Ef} {p pos : Pos}
theorem ci_seq (h : CEx X e f) : CIx X tg e (iSeq f) := PI.imp (PI.or (pi_list h) (pi_tup h)) fun σ H R ⟨ρ, M, m, ds, gk, M', rs, w, hf, P⟩ => by
  unfold iSeq at hf
  cases ea : f ρ M with
  | none => rw [ea] at hf; cases hf
  | some q =>
    obtain ⟨r, M1⟩ := q
    rw [ea] at hf
    simp only [Option.bind_some] at hf
    cases es : asS M1 r.d with
    | none => rw [es] at hf; cases hf
    | some ds' =>
      rw [es] at hf
      cases hf
      cases er : r.d with
      | tup es' =>
        refine .inr (bindE rs w ea fun H1 m1 v e1 w1 rs1 r1 => ?_)
        rw [er] at r1 es
        cases es
        rw [Rl] at r1
        obtain ⟨a, vs, rfl, h1, h2⟩ := r1
        rw [er] at P
        exact ⟨a, rfl, ⟨vs, h1⟩, P H1 m1 _ e1 w1 gd_none (yl_tup h1 h2)⟩
      | lst es' =>
        refine .inl (bindE rs w ea fun H1 m1 v e1 w1 rs1 r1 => ?_)
        rw [er] at r1 es
        cases es
        rw [Rl] at r1
        obtain ⟨a, vs, rfl, hn, h1, h2⟩ := r1
        rw [er] at P
        exact ⟨a, rfl, ⟨vs, .of h1⟩, P H1 m1 _ e1 w1 gd_none (yl_sq (fun H2 m2 e2 => .of (e2.lst _ _ hn h1)) h2)⟩
      | scr ns =>
        refine .inl (bindE rs w ea fun H1 m1 v e1 w1 rs1 r1 => ?_)
        rw [er] at r1 es
        cases es
        rw [Rl] at r1
        obtain ⟨a, rfl, h1⟩ := r1
        rw [er] at P
        exact ⟨a, rfl, ⟨_, h1.l⟩, P H1 m1 _ e1 w1 gd_none (yl_sq (fun H2 m2 e2 => (SqS.l (h1.imp (fun ⟨o, s⟩ => ⟨o, e2.frz _ _ _ s⟩) id))) .ints)⟩
      | loc k =>
        refine .inl (bindE rs w ea fun H1 m1 v e1 w1 rs1 r1 => ?_)
        rw [er] at r1 es
        have r2 := r1
        rw [Rl] at r1
        obtain ⟨a, rfl, ha⟩ := r1
        obtain ⟨b, vs, hb, h1, h2⟩ := asW_ok (d := .loc k) (ds := ds) w1 r2 es
        cases hb
        rw [er] at P
        exact ⟨a, rfl, ⟨vs, .of h1⟩, P H1 m1 _ e1 w1 (fun k' hk => by cases hk; exact ⟨a, vs, ha, h1, h2⟩) (yl_loc ha)⟩
      | _ => rw [er] at es; cases es
def rgB (i : Int) : Bool := decide (-(2 ^ 62) ≤ i) && decide (i < 2 ^ 62)
def iRg1 (fa : Ef) : If := fun ρ M => (fa ρ M).bind fun p => match p.1.d with
  | .int j => if rgB j = true then some (rgD 0 j.toNat, none, p.2) else none
  | _ => none
def iRg2 (fa fb : Ef) : If := fun ρ M => (fa ρ M).bind fun p => (fb ρ p.2).bind fun q => match p.1.d, q.1.d with
  | .int i, .int j => if rgB i = true ∧ rgB j = true then some (rgD i (j - i).toNat, none, q.2) else none
  | _, _ => none
theorem rgB_ok {i : Int} (h : rgB i = true) : -(2 ^ 62) ≤ i ∧ i < 2 ^ 62 := by
  unfold rgB at h
  simpa [Bool.and_eq_true] using h
theorem ci_rg1 (hg : Gl X "range") (hm : X.mg "range" = none) (ha : CEx X a fa) (hs : starEach [a] X.env = [(false, eval a X.env)] := by rfl) (hs' : starEach [a] X.env = (false, eval a X.env) :: starEach [] X.env := by rfl) : CIx X tg (.Call (.Name "range" p) [a] [] pos) (iRg1 fa) :=
  PI.imp (pi_range1 hg hm (pa_cons ha pa_nil hs') hs) fun σ H R ⟨ρ, M, m, ds, gk, M', rs, w, hf, P⟩ => by
    unfold iRg1 at hf
    cases ea : fa ρ M with
    | none => rw [ea] at hf; cases hf
    | some q =>
      rw [ea] at hf
      simp only [Option.bind_some] at hf
      refine bindE rs w ea fun H1 m1 v e1 w1 rs1 r1 => ?_
      split at hf
      · rename_i j hj
        split at hf
        · rename_i hb
          cases hf
          rw [hj, Rl] at r1; subst r1
          exact ⟨j, rfl, (rgB_ok hb).1, (rgB_ok hb).2, P H1 m1 _ e1 w1 gd_none yl_rng⟩
        · cases hf
      · cases hf
theorem ci_rg2 (hg : Gl X "range") (hm : X.mg "range" = none) (ha : CEx X a fa) (hb : CEx X b fb) (hs : starEach [a, b] X.env = [(false, eval a X.env), (false, eval b X.env)] := by rfl) (hs2 : starEach [b] X.env = [(false, eval b X.env)] := by rfl)
    (hs' : starEach [a, b] X.env = (false, eval a X.env) :: starEach [b] X.env := by rfl) (hs2' : starEach [b] X.env = (false, eval b X.env) :: starEach [] X.env := by rfl) : CIx X tg (.Call (.Name "range" p) [a, b] [] pos) (iRg2 fa fb) :=
  PI.imp (pi_range2 hg hm (pa_cons ha (pa_cons hb pa_nil hs2') hs') hs hs2) fun σ H R ⟨ρ, M, m, ds, gk, M', rs, w, hf, P⟩ => by
    unfold iRg2 at hf
    cases ea : fa ρ M with
    | none => rw [ea] at hf; cases hf
    | some q =>
      cases eb : fb ρ q.2 with
      | none => simp [ea, eb] at hf
      | some q2 =>
        simp only [ea, eb, Option.bind_some] at hf
        refine bindE rs w ea fun H1 m1 v e1 w1 rs1 r1 => bindE rs1 w1 eb fun H2 m2 v2 e2 w2 rs2 r2 => ?_
        split at hf
        · rename_i i j hi hj
          split at hf
          · rename_i hb
            cases hf
            rw [hi, Rl] at r1; subst r1
            rw [hj, Rl] at r2; subst r2
            exact ⟨i, j, rfl, ⟨(rgB_ok hb.1).1, (rgB_ok hb.1).2, (rgB_ok hb.2).1, (rgB_ok hb.2).2⟩, P H2 m2 _ (e1.trans e2) w2 gd_none yl_rng⟩
          · cases hf
        · cases hf
end

/-! ### for -/
def guard (gk : Option Nat) (ds : List D) (M : Mem) : Prop := ∀ k, gk = some k → M[k]? = some (.lst ds)
abbrev Stp := D → Slots → Mem → Option (Fl × Slots × Mem)
def loopF (step : Stp) : List D → Slots → Mem → Option (Fl × Slots × Mem)
  | [], ρ, M => some (.nx, ρ, M)
  | d :: ds, ρ, M => (step d ρ M).bind fun p => match p.1 with
    | .nx => loopF step ds p.2.1 p.2.2
    | .ct => loopF step ds p.2.1 p.2.2
    | .bk => some (.nx, p.2.1, p.2.2)
    | .rt r => some (.rt r, p.2.1, p.2.2)
open Classical in
noncomputable def stpF (gk : Option Nat) (ds : List D) (g : Gf) (body : Sf) : Stp := fun d ρ M => (g d ρ M).bind fun p => (body p.1 p.2).bind fun q => if guard gk ds q.2.2 then some q else none
noncomputable def sFor (it : If) (g : Gf) (body : Sf) : Sf := fun ρ M => (it ρ M).bind fun p => loopF (stpF p.2.1 p.1 g body) p.1 ρ p.2.2
theorem gd_of {K : PySem.W.Frag} {H : Hp} {m : List Addr} {M : Mem} {gk : Option Nat} {ds : List D} (w : Wd K H m M) (h : guard gk ds M) : GdOk K gk ds H m := fun k e => by
  obtain ⟨a, h1, vs, h2, h3⟩ := w.get (h k e)
  exact ⟨a, vs, h1, h2, h3⟩
section
variable {X : Cx} {tg iter : Expr} {body : List Stmt} {it : If} {g : Gf} {fb : Sf} {pos : Pos}
theorem cs_for (hp : PassesOwn (model X.prog X.w) X.A X.env X.xe) (hc : X.calm = true) (hi : CIx X tg iter it) (hg : CGx X tg g) (hb : CBx X body fb)
    (hs : ∀ x, foldedSetIterable iter X.env x = pure x := by intro _; rfl) : CSx X (.For tg iter body [] pos) (sFor it g fb) := PS.imp (ps_for hp hc hi hg hb hs) fun Dn σ H h => by
  obtain ⟨ρ, M, m, fl, ρ', M', rs, w, hf, P⟩ := h
  unfold sFor at hf
  cases ea : it ρ M with
  | none => rw [ea] at hf; cases hf
  | some p =>
    obtain ⟨ds, gk, M1⟩ := p
    rw [ea] at hf
    simp only [Option.bind_some] at hf
    refine ⟨ρ, M, m, ds, gk, M1, rs, w, ea, fun H1 m1 J e1 w1 gd1 Y => ?_⟩
    refine ⟨fun i n σ H => n = ds.length - i ∧ i ≤ ds.length ∧ ∃ ρ2 M2 m2, Ext H1 m1 H m2 ∧ Rs X.K H m2 ρ2 σ ∧ Wd X.K H m2 M2 ∧ GdOk X.K gk ds H m2 ∧ loopF (stpF gk ds g fb) (ds.drop i) ρ2 M2 = some (fl, ρ', M'),
      ⟨ds.length, by simp, Nat.zero_le _, ρ, M1, m1, .refl, rs.ext e1, w1, gd1, by simpa using hf⟩, ?_⟩
    rintro i n σ H ⟨rfl, hle, ρ2, M2, m2, e2, rs2, w2, gd2, hl⟩
    by_cases hlt : i < ds.length
    · refine .inr ⟨Y.go i H m2 hlt e2 gd2, ?_⟩
      have hd : ds.drop i = ds[i] :: ds.drop (i + 1) := List.drop_eq_getElem_cons hlt
      rw [hd] at hl
      unfold loopF at hl
      cases es : stpF gk ds g fb ds[i] ρ2 M2 with
      | none => rw [es] at hl; cases hl
      | some q =>
        obtain ⟨fl1, ρ3, M3⟩ := q
        rw [es] at hl
        simp only [Option.bind_some] at hl
        refine ⟨fun σ' H' => ∃ m3, Ext H m2 H' m3 ∧ Rs X.K H' m3 ρ3 σ' ∧ Wd X.K H' m3 M3 ∧ GdOk X.K gk ds H' m3 ∧ loopF (stpF gk ds g fb) (ds.drop (i + 1)) ρ3 M3 = some (fl, ρ', M'),
          fun σ' H' ⟨m3, e3, rs3, w3, gd3, hl3⟩ => ⟨ds.length - (i + 1), by omega, rfl, hlt, ρ3, M3, m3, e2.trans e3, rs3, w3, gd3, hl3⟩, fun x H' y => ?_⟩
        obtain ⟨e3, w3, r3⟩ := Y.yld i ds[i] H m2 M2 x H' (List.getElem?_eq_getElem hlt) e2 gd2 w2 y
        unfold stpF at es
        cases eg : g ds[i] ρ2 M2 with
        | none => rw [eg] at es; cases es
        | some q =>
          rw [eg] at es
          simp only [Option.bind_some] at es
          cases eb : fb q.1 q.2 with
          | none => rw [eb] at es; cases es
          | some q2 =>
            rw [eb] at es
            simp only [Option.bind_some] at es
            split at es
            · rename_i hgd
              cases es
              refine ⟨ds[i], ρ2, M2, m2, q.1, q.2, r3, rs2.ext e3, w3, eg, fun H4 m4 σ4 e4 w4 rs4 => ?_⟩
              refine ⟨q.1, q.2, m4, fl1, ρ3, M3, rs4, w4, eb, ?_⟩
              have eT : Ext H m2 H4 m4 := e3.trans e4
              have PT := P.ext ((e1.trans e2).trans eT)
              cases fl1 with
              | nx => exact fun H5 m5 σ5 e5 w5 rs5 => ⟨m5, eT.trans e5, rs5, w5, gd_of w5 hgd, hl⟩
              | ct => exact fun H5 m5 σ5 e5 w5 rs5 => ⟨m5, eT.trans e5, rs5, w5, gd_of w5 hgd, hl⟩
              | bk =>
                simp only [Option.some.injEq, Prod.mk.injEq] at hl
                obtain ⟨rfl, rfl, rfl⟩ := hl
                exact PT
              | rt r =>
                simp only [Option.some.injEq, Prod.mk.injEq] at hl
                obtain ⟨rfl, rfl, rfl⟩ := hl
                exact PT
            · cases es
    · have e : i = ds.length := by omega
      subst e
      rw [List.drop_length] at hl
      cases hl
      exact .inl ⟨Y.stop H m2 e2 gd2, P H m2 σ (e1.trans e2) w2 rs2⟩
end

/-! ### while -/
def whF (t : Tf) (body : Sf) : Nat → Slots → Mem → Option (Fl × Slots × Mem)
  | 0, _, _ => none
  | n + 1, ρ, M => (t ρ M).bind fun p => if p.1 = true then (body ρ p.2).bind fun q => (match q.1 with
      | .nx => whF t body n q.2.1 q.2.2
      | .ct => whF t body n q.2.1 q.2.2
      | .bk => some (.nx, q.2.1, q.2.2)
      | .rt r => some (.rt r, q.2.1, q.2.2)) else some (.nx, ρ, p.2)
def sWhile (n : Nat) (t : Tf) (body : Sf) : Sf := whF t body n
section
variable {X : Cx} {c : Expr} {body : List Stmt} {t : Tf} {fb : Sf} {pos : Pos}
theorem cs_while {n : Nat} (hp : PassesOwn (model X.prog X.w) X.A X.env X.xe) (hc : CTx X c t) (hb : CBx X body fb) : CSx X (.While c body [] pos) (sWhile n t fb) := PS.imp (ps_while hp hc hb) fun Dn σ H h => by
  obtain ⟨ρ, M, m, fl, ρ', M', rs, w, hf, P⟩ := h
  refine ⟨fun n σ H1 => ∃ ρ2 M2 m2, Ext H m H1 m2 ∧ Rs X.K H1 m2 ρ2 σ ∧ Wd X.K H1 m2 M2 ∧ whF t fb n ρ2 M2 = some (fl, ρ', M'), ⟨n, ρ, M, m, .refl, rs, w, hf⟩, ?_⟩
  rintro n σ H1 ⟨ρ2, M2, m2, e2, rs2, w2, hl⟩
  cases n with
  | zero => cases hl
  | succ n =>
    unfold whF at hl
    cases et : t ρ2 M2 with
    | none => rw [et] at hl; cases hl
    | some p =>
      rw [et] at hl
      simp only [Option.bind_some] at hl
      refine bindT rs2 w2 et fun H3 m3 e3 w3 rs3 => ?_
      split at hl
      · rename_i hb1
        rw [if_pos hb1]
        cases eb : fb ρ2 p.2 with
        | none => rw [eb] at hl; cases hl
        | some q =>
          obtain ⟨fl1, ρ3, M3⟩ := q
          rw [eb] at hl
          simp only [Option.bind_some] at hl
          refine ⟨fun σ' H' => ∃ m4, Ext H3 m3 H' m4 ∧ Rs X.K H' m4 ρ3 σ' ∧ Wd X.K H' m4 M3 ∧ whF t fb n ρ3 M3 = some (fl, ρ', M'),
            fun σ' H' ⟨m4, e4, rs4, w4, hl4⟩ => ⟨n, Nat.lt_succ_self _, ρ3, M3, m4, (e2.trans e3).trans e4, rs4, w4, hl4⟩, ρ2, p.2, m3, fl1, ρ3, M3, rs3, w3, eb, ?_⟩
          have PT := P.ext (e2.trans e3)
          cases fl1 with
          | nx => exact fun H5 m5 σ5 e5 w5 rs5 => ⟨m5, e5, rs5, w5, hl⟩
          | ct => exact fun H5 m5 σ5 e5 w5 rs5 => ⟨m5, e5, rs5, w5, hl⟩
          | bk =>
            simp only [Option.some.injEq, Prod.mk.injEq] at hl
            obtain ⟨rfl, rfl, rfl⟩ := hl
            exact PT
          | rt r =>
            simp only [Option.some.injEq, Prod.mk.injEq] at hl
            obtain ⟨rfl, rfl, rfl⟩ := hl
            exact PT
      · rename_i hb1
        rw [if_neg hb1]
        cases hl
        exact P H3 m3 σ (e2.trans e3) w3 rs3
end

/-! ### a def -/
mutual
def nl (n : Nat) : D → Bool
  | .loc k => decide (k < n)
  | .tup ds => nls n ds
  | .lst ds => nls n ds
  | _ => true
def nls (n : Nat) : List D → Bool
  | [] => true
  | d :: ds => nl n d && nls n ds
end
section
variable {K : PySem.W.Frag} {H : Hp} {m l : List Addr} {a : Addr}
mutual
theorem Rl.cut : ∀ {d : D} {v : V}, Rl K H (m ++ l) d v → nl m.length d = true → Rl K H m d v
  | .non, _, h, _ => by rw [Rl] at h ⊢; exact h
  | .bl _, _, h, _ => by rw [Rl] at h ⊢; exact h
  | .int _, _, h, _ => by rw [Rl] at h ⊢; exact h
  | .str _, _, h, _ => by rw [Rl] at h ⊢; exact h
  | .scr _, _, h, _ => by rw [Rl] at h ⊢; exact h
  | .tup ds, _, h, n => by
    rw [Rl] at h ⊢
    rw [nl] at n
    obtain ⟨a, vs, r, s, t⟩ := h
    exact ⟨a, vs, r, s, Rls.cut' t n⟩
  | .lst ds, _, h, n => by
    rw [Rl] at h ⊢
    rw [nl] at n
    obtain ⟨a, vs, r, z, s, t⟩ := h
    exact ⟨a, vs, r, fun q => z (List.mem_append_left _ q), s, Rls.cut' t n⟩
  | .loc k, _, h, n => by
    rw [Rl] at h ⊢
    rw [nl] at n
    obtain ⟨a, r, s⟩ := h
    exact ⟨a, r, by rw [List.getElem?_append_left (of_decide_eq_true n)] at s; exact s⟩
theorem Rls.cut' : ∀ {ds : List D} {vs : List V}, Rls K H (m ++ l) ds vs → nls m.length ds = true → Rls K H m ds vs
  | [], _, h, _ => by rw [Rls] at h ⊢; exact h
  | d :: ds, _, h, n => by
    rw [Rls] at h ⊢
    rw [nls, Bool.and_eq_true] at n
    obtain ⟨v, r, q, h1, h2⟩ := h
    exact ⟨v, r, q, Rl.cut h1 n.1, Rls.cut' h2 n.2⟩
end
/-- the heap without a -/
def del (H : Hp) (a : Addr) : Hp := fun b => if b = a then none else H b
theorem del_ne {b : Addr} (h : b ≠ a) : del H a b = H b := if_neg h
theorem del_same : del H a a = none := if_pos rfl
theorem upd_del {o : HO} (h : H a = some o) : upd (del H a) a o = H := by
  funext b
  by_cases q : b = a
  · rw [q, upd_same, h]
  · rw [upd_ne q, del_ne q]
mutual
theorem Rl.del {ws : List V} (ha : H a = some (.lst ws)) (hm : a ∈ l) : ∀ {d : D} {v : V}, Rl K H (m ++ l) d v → nl m.length d = true → Rl K (del H a) m d v
  | .non, _, h, _ => by rw [Rl] at h ⊢; exact h
  | .bl _, _, h, _ => by rw [Rl] at h ⊢; exact h
  | .int _, _, h, _ => by rw [Rl] at h ⊢; exact h
  | .str _, _, h, _ => by rw [Rl] at h ⊢; exact h
  | .scr _, _, h, _ => by
    rw [Rl] at h ⊢
    obtain ⟨b, r, s⟩ := h
    exact ⟨b, r, s.imp (fun ⟨o, s⟩ => ⟨o, by rw [del_ne (fun z => by rw [z, ha] at s; cases s)]; exact s⟩) id⟩
  | .tup ds, _, h, n => by
    rw [Rl] at h ⊢
    rw [nl] at n
    obtain ⟨b, vs, r, s, t⟩ := h
    refine ⟨b, vs, r, ?_, Rls.del ha hm t n⟩
    rcases s with (s | ⟨o, s⟩) | s
    · exact .inl (.inl (by rw [del_ne (fun z => by rw [z, ha] at s; cases s)]; exact s))
    · exact .inl (.inr ⟨o, by rw [del_ne (fun z => by rw [z, ha] at s; cases s)]; exact s⟩)
    · exact .inr s
  | .lst ds, _, h, n => by
    rw [Rl] at h ⊢
    rw [nl] at n
    obtain ⟨b, vs, r, z, s, t⟩ := h
    exact ⟨b, vs, r, fun q => z (List.mem_append_left _ q), by rw [del_ne (fun q => z (List.mem_append_right _ (by rw [q]; exact hm)))]; exact s, Rls.del ha hm t n⟩
  | .loc k, _, h, n => by
    rw [Rl] at h ⊢
    rw [nl] at n
    obtain ⟨b, r, s⟩ := h
    exact ⟨b, r, by rw [List.getElem?_append_left (of_decide_eq_true n)] at s; exact s⟩
theorem Rls.del {ws : List V} (ha : H a = some (.lst ws)) (hm : a ∈ l) : ∀ {ds : List D} {vs : List V}, Rls K H (m ++ l) ds vs → nls m.length ds = true → Rls K (del H a) m ds vs
  | [], _, h, _ => by rw [Rls] at h ⊢; exact h
  | d :: ds, _, h, n => by
    rw [Rls] at h ⊢
    rw [nls, Bool.and_eq_true] at n
    obtain ⟨v, r, q, h1, h2⟩ := h
    exact ⟨v, r, q, Rl.del ha hm h1 n.1, Rls.del ha hm h2 n.2⟩
end
end
end CI

/-! Ci7: a def as a function, comprehensions -/
namespace CI
open PySem PySem.Spec PyProof.Rows L2

def nlF (n : Nat) : List (Str × D) → Bool
  | [] => true
  | (_, d) :: fs => nl n d && nlF n fs
def nlK (n : Nat) : List (Key × D) → Bool
  | [] => true
  | (_, d) :: fs => nl n d && nlK n fs
def nlO (n : Nat) : O → Bool
  | .lst ds => nls n ds
  | .ins _ fs => nlF n fs
  | .dct kvs => nlK n kvs
def nlM (n : Nat) : Mem → Bool
  | [] => true
  | o :: M => nlO n o && nlM n M
section
variable {K : PySem.W.Frag} {H H0 : Hp} {m l : List Addr} {M Me : Mem} {a b : Addr}
mutual
theorem Rl.nl : ∀ {d : D} {v : V}, Rl K H m d v → CI.nl m.length d = true
  | .non, _, _ => rfl
  | .bl _, _, _ => rfl
  | .int _, _, _ => rfl
  | .str _, _, _ => rfl
  | .scr _, _, _ => rfl
  | .tup ds, _, h => by
    rw [Rl] at h
    obtain ⟨a, vs, r, s, t⟩ := h
    rw [CI.nl]; exact Rls.nl t
  | .lst ds, _, h => by
    rw [Rl] at h
    obtain ⟨a, vs, r, _, s, t⟩ := h
    rw [CI.nl]; exact Rls.nl t
  | .loc k, _, h => by
    rw [Rl] at h
    obtain ⟨a, r, s⟩ := h
    rw [CI.nl]
    exact decide_eq_true (List.getElem?_eq_some_iff.mp s).1
theorem Rls.nl : ∀ {ds : List D} {vs : List V}, Rls K H m ds vs → nls m.length ds = true
  | [], _, _ => rfl
  | d :: ds, _, h => by
    rw [Rls] at h
    obtain ⟨v, r, q, h1, h2⟩ := h
    rw [nls, Rl.nl h1, Rls.nl h2]; rfl
end
theorem Rfs.nl : ∀ {fs : List (Str × D)} {gs : List (Str × V)}, Rfs K H m fs gs → nlF m.length fs = true
  | [], _, _ => rfl
  | (f, d) :: fs, _, h => by
    obtain ⟨v, r, q, h1, h2⟩ := h
    rw [nlF, h1.nl, Rfs.nl h2]; rfl
theorem Rks.nl : ∀ {fs : List (Key × D)} {gs : List (Key × V)}, Rks K H m fs gs → nlK m.length fs = true
  | [], _, _ => rfl
  | (f, d) :: fs, _, h => by
    obtain ⟨v, r, q, h1, h2⟩ := h
    rw [nlK, h1.nl, Rks.nl h2]; rfl
theorem Ro.nl {o : O} (h : Ro K H m a o) : nlO m.length o = true := by
  cases o with
  | lst ds => obtain ⟨vs, _, h⟩ := h; exact h.nl
  | ins c fs => obtain ⟨dx, gs, _, h⟩ := h; exact h.nl
  | dct kvs => obtain ⟨gs, _, h⟩ := h; exact h.nl
theorem Wd.nl (w : Wd K H m M) : ∀ o ∈ M, nlO m.length o = true := fun o ho => by
  obtain ⟨k, hk, e⟩ := List.mem_iff_getElem.mp ho
  obtain ⟨a, _, r⟩ := w.get (k := k) (by rw [List.getElem?_eq_getElem hk, e])
  exact r.nl
theorem nlM_ok {n : Nat} : ∀ {M : Mem}, nlM n M = true → ∀ o ∈ M, nlO n o = true
  | [], _, o, h => nomatch h
  | p :: M, h, o, ho => by
    rw [nlM, Bool.and_eq_true] at h
    rcases List.mem_cons.mp ho with e | e
    · rw [e]; exact h.1
    · exact nlM_ok h.2 o e
theorem Rfs.cut : ∀ {fs : List (Str × D)} {gs : List (Str × V)}, Rfs K H (m ++ l) fs gs → nlF m.length fs = true → Rfs K H m fs gs
  | [], _, h, _ => h
  | (f, d) :: fs, _, h, n => by
    obtain ⟨v, r, q, h1, h2⟩ := h
    rw [nlF, Bool.and_eq_true] at n
    exact ⟨v, r, q, h1.cut n.1, Rfs.cut h2 n.2⟩
theorem Rks.cut : ∀ {fs : List (Key × D)} {gs : List (Key × V)}, Rks K H (m ++ l) fs gs → nlK m.length fs = true → Rks K H m fs gs
  | [], _, h, _ => h
  | (f, d) :: fs, _, h, n => by
    obtain ⟨v, r, q, h1, h2⟩ := h
    rw [nlK, Bool.and_eq_true] at n
    exact ⟨v, r, q, h1.cut n.1, Rks.cut h2 n.2⟩
theorem Rfs.del {ws : List V} (ha : H a = some (.lst ws)) (hm : a ∈ l) : ∀ {fs : List (Str × D)} {gs : List (Str × V)}, Rfs K H (m ++ l) fs gs → nlF m.length fs = true → Rfs K (CI.del H a) m fs gs
  | [], _, h, _ => h
  | (f, d) :: fs, _, h, n => by
    obtain ⟨v, r, q, h1, h2⟩ := h
    rw [nlF, Bool.and_eq_true] at n
    exact ⟨v, r, q, h1.del ha hm n.1, Rfs.del ha hm h2 n.2⟩
theorem Rks.del {ws : List V} (ha : H a = some (.lst ws)) (hm : a ∈ l) : ∀ {fs : List (Key × D)} {gs : List (Key × V)}, Rks K H (m ++ l) fs gs → nlK m.length fs = true → Rks K (CI.del H a) m fs gs
  | [], _, h, _ => h
  | (f, d) :: fs, _, h, n => by
    obtain ⟨v, r, q, h1, h2⟩ := h
    rw [nlK, Bool.and_eq_true] at n
    exact ⟨v, r, q, h1.del ha hm n.1, Rks.del ha hm h2 n.2⟩
theorem Ro.cut {o : O} (h : Ro K H (m ++ l) b o) (n : nlO m.length o = true) : Ro K H m b o := by
  cases o with
  | lst ds => obtain ⟨vs, h1, h2⟩ := h; exact ⟨vs, h1, Rls.cut' h2 n⟩
  | ins c fs => obtain ⟨dx, gs, h1, h2⟩ := h; exact ⟨dx, gs, h1, h2.cut n⟩
  | dct kvs => obtain ⟨gs, h1, h2⟩ := h; exact ⟨gs, h1, h2.cut n⟩
theorem Ro.del {o : O} {ws : List V} (ha : H a = some (.lst ws)) (hm : a ∈ l) (hb : b ≠ a) (h : Ro K H (m ++ l) b o) (n : nlO m.length o = true) : Ro K (CI.del H a) m b o := by
  cases o with
  | lst ds => obtain ⟨vs, h1, h2⟩ := h; exact ⟨vs, by rw [del_ne hb]; exact h1, Rls.del ha hm h2 n⟩
  | ins c fs => obtain ⟨dx, gs, h1, h2⟩ := h; exact ⟨dx, gs, by rw [del_ne hb]; exact h1, h2.del ha hm n⟩
  | dct kvs => obtain ⟨gs, h1, h2⟩ := h; exact ⟨gs, by rw [del_ne hb]; exact h1, h2.del ha hm n⟩
theorem Ext.back (e : Ext H0 m H (m ++ l)) : Ext H0 m H m := ⟨e.tup, e.frz, e.lst, e.trk, [], by simp, fun _ h => nomatch h⟩
theorem Ext.fresh (e : Ext H0 m H (m ++ l)) (h : a ∈ l) : H0 a = none := by
  obtain ⟨l', q, hl⟩ := e.pre
  rw [List.append_cancel_left q] at h
  exact hl a h
theorem Ext.del {ws : List V} (e : Ext H0 m H (m ++ l)) (h : a ∈ l) : Ext H0 m (CI.del H a) m := by
  have hf := e.fresh h
  have ne : ∀ b o, H0 b = some o → b ≠ a := fun b o q z => by rw [z, hf] at q; cases q
  refine ⟨fun b xs q => by rw [del_ne (ne b _ q)]; exact e.tup b xs q, fun b o u q => by rw [del_ne (ne b _ q)]; exact e.frz b o u q, fun b xs n q => by rw [del_ne (ne b _ q)]; exact e.lst b xs n q, fun b q => ?_, [], by simp, fun _ h => nomatch h⟩
  by_cases z : b = a
  · rw [z]; exact hf
  · rw [del_ne z] at q; exact e.trk b q
theorem take_get {M Me : Mem} {n k : Nat} {o : O} (t : Me.take n = M) (h : M[k]? = some o) : Me[k]? = some o := by
  rw [← t, List.getElem?_take] at h
  split at h
  · exact h
  · cases h
theorem Wd.cut (w : Wd K H (m ++ l) Me) (t : Me.take m.length = M) (hl : m.length = M.length) (n : ∀ o ∈ M, nlO m.length o = true) : Wd K H m M := by
  refine ⟨hl, (List.nodup_append.mp w.nd).1, fun k b o h1 h2 => ?_⟩
  have hk : k < m.length := (List.getElem?_eq_some_iff.mp h1).1
  exact (w.at_ k b o (by rw [List.getElem?_append_left hk]; exact h1) (take_get t h2)).cut (n o (List.mem_of_getElem? h2))
theorem Wd.del {ws : List V} (w : Wd K H (m ++ l) Me) (t : Me.take m.length = M) (hl : m.length = M.length) (n : ∀ o ∈ M, nlO m.length o = true) (ha : H a = some (.lst ws)) (hm : a ∈ l) : Wd K (CI.del H a) m M := by
  refine ⟨hl, (List.nodup_append.mp w.nd).1, fun k b o h1 h2 => ?_⟩
  have hk : k < m.length := (List.getElem?_eq_some_iff.mp h1).1
  refine (w.at_ k b o (by rw [List.getElem?_append_left hk]; exact h1) (take_get t h2)).del ha hm (fun z => ?_) (n o (List.mem_of_getElem? h2))
  exact (List.nodup_append.mp w.nd).2.2 b (List.mem_of_getElem? h1) a hm z
end

/-! ### what a def hands back -/
open Classical in
noncomputable def finish (M : Mem) (r : Rz) (Me : Mem) : Rz × Mem :=
  if Me.length = M.length then (r, Me) else if Me.take M.length = M then (match r with
    | .val (.loc k) => if k < M.length then (r, M) else match Me[k]? with
      | some (.lst ds) => if nls M.length ds = true then (.new ds, M) else (r, Me)
      | _ => (r, Me)
    | .val d => if nl M.length d = true then (r, M) else (r, Me)
    | .new ds => if nls M.length ds = true then (r, M) else (r, Me)) else (r, Me)
theorem finish_ok {K : PySem.W.Frag} {H0 : Hp} {m : List Addr} {M Me : Mem} {r : Rz} {Q : VK} (w0 : Wd K H0 m M) (P : Post K H0 m (finish M r Me).1 (finish M r Me).2 Q) : Post K H0 m r Me Q := by
  unfold finish at P
  split at P
  · exact P
  · split at P
    · rename_i hne ht
      have hn := w0.nl
      have hlen := w0.len
      rw [← hlen] at P ht
      cases r with
      | new ds =>
        simp only at P
        split at P
        · rename_i hd
          intro H1 m1 e1 w1 vs a r1 na
          obtain ⟨l, rfl, _⟩ := id e1.pre
          exact P H1 m e1.back (w1.cut ht hlen hn) vs a (Rls.cut' r1 hd) na
        · exact P
      | val d =>
        have plain : ∀ d, nl m.length d = true → Post K H0 m (.val d) M Q → Post K H0 m (.val d) Me Q := fun d hd P => by
          intro H1 m1 e1 w1 v r1
          obtain ⟨l, rfl, _⟩ := id e1.pre
          exact P H1 m e1.back (w1.cut ht hlen hn) v (r1.cut hd)
        cases d with
        | loc k =>
          simp only at P
          split at P
          · rename_i hk
            exact plain _ (by rw [nl]; exact decide_eq_true hk) P
          · rename_i hk
            split at P
            · rename_i ds hds
              split at P
              · rename_i hd
                intro H1 m1 e1 w1 v r1
                obtain ⟨l, rfl, _⟩ := id e1.pre
                rw [Rl] at r1
                obtain ⟨a, rfl, ha⟩ := r1
                obtain ⟨b, hb, vs, h1, h2⟩ := w1.get hds
                rw [ha] at hb; cases hb
                have hal : a ∈ l := by
                  rw [List.getElem?_append_right (by omega)] at ha
                  exact List.mem_of_getElem? ha
                have := P (del H1 a) m (e1.del (ws := vs) hal) (w1.del ht hlen hn h1 hal) vs a (Rls.del h1 hal h2 hd) del_same
                rw [upd_del h1] at this
                exact this
              · exact P
            · exact P
        | non => exact plain _ rfl (by simpa [nl] using P)
        | bl b => exact plain _ rfl (by simpa [nl] using P)
        | int b => exact plain _ rfl (by simpa [nl] using P)
        | str b => exact plain _ rfl (by simpa [nl] using P)
        | scr b => exact plain _ rfl (by simpa [nl] using P)
        | tup ds =>
          simp only at P
          split at P
          · rename_i hd; exact plain _ hd P
          · exact P
        | lst ds =>
          simp only at P
          split at P
          · rename_i hd; exact plain _ hd P
          · exact P
    · exact P

noncomputable def mkFn (np ns : Nat) (body : Sf) : Fn := fun ds M => if ds.length = np then (match body (ds.map some ++ List.replicate (ns - ds.length) none) M with
  | some (.rt r, _, Me) => some (finish M r Me)
  | some (.nx, _, Me) => some (finish M (.val .non) Me)
  | _ => none) else none
theorem rs_start {K : PySem.W.Frag} {H : Hp} {m : List Addr} {N : List Str} {ds : List D} {vs : List V} (r : Rls K H m ds vs) : Rs K H m (ds.map some ++ List.replicate (N.length - ds.length) none) (L2.start N vs) := by
  unfold L2.start
  have hl := r.length
  refine ⟨by simp [hl], fun i d q => ?_⟩
  by_cases h : i < ds.length
  · rw [List.getElem?_append_left (by simpa using h), List.getElem?_map] at q
    rw [List.getElem?_append_left (by simpa [← hl] using h), List.getElem?_map]
    cases e : ds[i]? with
    | none => rw [e] at q; cases q
    | some d' =>
      rw [e] at q
      simp at q; subst q
      obtain ⟨v, h1, h2⟩ := r.get e
      exact ⟨v, by rw [h1]; rfl, h2⟩
  · rw [List.getElem?_append_right (by simpa using h), List.getElem?_replicate] at q
    split at q
    · simp at q
    · cases q
theorem run_ok {K : PySem.W.Frag} {N : List Str} {np : Nat} {fb : Sf} {vs : List V} {H : Hp} {Q : VK} {E : XK} (h : spF K (mkFn np N.length fb) vs H Q E) : tS K fb { nx := fun _ H' => Q .non H', rt := Q } (L2.start N vs) H := by
  obtain ⟨ds, M, m, r, M', rd, w, hf, P⟩ := h
  unfold mkFn at hf
  split at hf
  · split at hf
    · rename_i r' ρ' Me hb
      cases e : finish M r' Me with | mk a b =>
      rw [e] at hf; cases hf
      refine ⟨_, M, m, _, _, _, rs_start rd, w, hb, ?_⟩
      refine finish_ok w ?_
      rw [e]; exact P
    · rename_i ρ' Me hb
      cases e : finish M (.val .non) Me with | mk a b =>
      rw [e] at hf; cases hf
      refine ⟨_, M, m, _, _, _, rs_start rd, w, hb, fun H1 m1 σ1 e1 w1 rs1 => ?_⟩
      have P2 : Post K H m (.val .non) Me Q := finish_ok w (by rw [e]; exact P)
      exact P2 H1 m1 e1 w1 .non (by rw [Rl])
    · cases hf
  · cases hf
theorem spF_len {K : PySem.W.Frag} {np ns : Nat} {fb : Sf} {vs : List V} {H : Hp} {Q : VK} {E : XK} (h : spF K (mkFn np ns fb) vs H Q E) : vs.length = np := by
  obtain ⟨ds, M, m, r, M', rd, w, hf, P⟩ := h
  unfold mkFn at hf
  split at hf
  · rename_i hl; rw [← rd.length]; exact hl
  · cases hf
section
variable {P : Program} {w : World} {K : PySem.W.Frag} {mg : Str → Option Value} {base : Heap} {x qual : Str} {params : Arguments} {body : List Stmt} {scope : Scope} {f : Addr} {fd : FuncData}
/-- a def whose body means fb -/
theorem fn_ok {N ps : List Str} {k : Nat} {fb : Sf} (F : FunD K x qual params body scope [] [] f fd) (S : FnScope N ps scope)
    (hb : ∀ (cdv : Value) (A : Around) (outer : List Env) (s : Shared) (H : Hp) (E : XK), Room k (A.deeper (envOfC qual scope s.heap.objs.size f cdv)) → CBx (cxOf CX0 P w K mg base N qual scope f cdv A outer s H E).nox body fb) :
    FnOk P w K mg base CX0 (k + 1) f fd ps (spF K (mkFn ps.length N.length fb)) :=
  F.ok S (fun vs H Q E h => spF_len h) fun cdv A outer s H vs Q E hr h => ⟨_, PSs.nox (hb cdv A outer s H E hr), run_ok h⟩
end
/-- a law: called with the script it gives True -/
theorem law_sp {K : PySem.W.Frag} {F : Fn} (h : ∀ ns : List Int, ns.length ≤ 63 → ∃ M, F [.scr ns] [] = some (.val (.bl true), M)) (H : Hp) (a : Addr) (ns : List Int) (hl : ns.length ≤ 63) (hO : Only H) (hS : SqL K H a (ns.map V.int)) :
    spF K F [.ref a] H (fun v _ => v = .bl true) fun _ _ _ => False := by
  obtain ⟨M, hM⟩ := h ns hl
  refine ⟨[.scr ns], [], [], _, M, ?_, ⟨rfl, .nil, fun k a o h _ => by simp at h⟩, hM, fun H1 m1 e1 w1 v r => by rw [Rl] at r; exact r⟩
  rw [Rls]
  refine ⟨_, [], rfl, ?_, by rw [Rls]⟩
  rw [Rl]
  refine ⟨a, rfl, ?_⟩
  rcases hS with (h | h) | h
  · rcases hO a with q | ⟨o, xs, q⟩
    · rw [q] at h; cases h
    · rw [q] at h; cases h
  · exact .inl h
  · exact .inr h
end CI

/-! Ci8: reckoning with the functions -/
namespace CI
open PySem PySem.Spec PyProof.Rows L2
@[simp] theorem Rz_d_val {d : D} : (Rz.val d).d = d := rfl
@[simp] theorem Rz_d_new {ds : List D} : (Rz.new ds).d = .lst ds := rfl
@[simp] theorem cVar_ap {i : Nat} {ρ : Slots} {M : Mem} : (cVar i) ρ M = ((slot ρ i).bind fun d => some (.val d, M)) := rfl
@[simp] theorem cVal_ap {d : D} {ρ : Slots} {M : Mem} : (cVal d) ρ M = (some (.val d, M)) := rfl
@[simp] theorem cBin_ap {o : Bop} {fa fb : Ef} {ρ : Slots} {M : Mem} : (cBin o fa fb) ρ M = ((fa ρ M).bind fun p => (fb ρ p.2).bind fun q => (o p.1.d q.1.d q.2).bind fun r => some (r, q.2)) := rfl
@[simp] theorem toB_ap {f : Ef} {ρ : Slots} {M : Mem} : (toB f) ρ M = ((f ρ M).bind fun p => match p.1.d with | .bl b => some (b, p.2) | _ => none) := rfl
@[simp] theorem cChain_ap {o o' : Bop} {fa fb fc : Ef} {ρ : Slots} {M : Mem} : (cChain o o' fa fb fc) ρ M = ((fa ρ M).bind fun p => (fb ρ p.2).bind fun q => (o p.1.d q.1.d q.2).bind fun r => match r with | .val (.bl true) => (fc ρ q.2).bind fun s => (o' q.1.d s.1.d s.2).bind fun z => some (z, s.2) | .val (.bl false) => some (.val (.bl false), q.2) | _ => none) := rfl
@[simp] theorem kAnd_ap {ta tb : Tf} {ρ : Slots} {M : Mem} : (kAnd ta tb) ρ M = ((ta ρ M).bind fun p => if p.1 = true then tb ρ p.2 else some (false, p.2)) := rfl
@[simp] theorem kOr_ap {ta tb : Tf} {ρ : Slots} {M : Mem} : (kOr ta tb) ρ M = ((ta ρ M).bind fun p => if p.1 = true then some (true, p.2) else tb ρ p.2) := rfl
@[simp] theorem kNot_ap {ta : Tf} {ρ : Slots} {M : Mem} : (kNot ta) ρ M = ((ta ρ M).bind fun p => some (!p.1, p.2)) := rfl
@[simp] theorem cAnd_ap {fa fb : Ef} {ρ : Slots} {M : Mem} : (cAnd fa fb) ρ M = ((fa ρ M).bind fun p => match p.1.d with | .bl true => fb ρ p.2 | .bl false => some (.val (.bl false), p.2) | _ => none) := rfl
@[simp] theorem cOr_ap {fa fb : Ef} {ρ : Slots} {M : Mem} : (cOr fa fb) ρ M = ((fa ρ M).bind fun p => match p.1.d with | .bl true => some (.val (.bl true), p.2) | .bl false => fb ρ p.2 | _ => none) := rfl
@[simp] theorem cNot_ap {fa : Ef} {ρ : Slots} {M : Mem} : (cNot fa) ρ M = ((fa ρ M).bind fun p => match p.1.d with | .bl b => some (.val (.bl (!b)), p.2) | _ => none) := rfl
@[simp] theorem cIf_ap {t : Tf} {fa fb : Ef} {ρ : Slots} {M : Mem} : (cIf t fa fb) ρ M = ((t ρ M).bind fun p => if p.1 = true then fa ρ p.2 else fb ρ p.2) := rfl
@[simp] theorem aNil_ap  {ρ : Slots} {M : Mem} : aNil ρ M = (some ([], M)) := rfl
@[simp] theorem aCons_ap {f : Ef} {g : Af} {ρ : Slots} {M : Mem} : (aCons f g) ρ M = ((f ρ M).bind fun p => (g ρ p.2).bind fun q => some (p.1.d :: q.1, q.2)) := rfl
@[simp] theorem cTup_ap {g : Af} {ρ : Slots} {M : Mem} : (cTup g) ρ M = ((g ρ M).bind fun p => if p.1.length ≤ sizeLine then some (.val (.tup p.1), p.2) else none) := rfl
@[simp] theorem cLst_ap {g : Af} {ρ : Slots} {M : Mem} : (cLst g) ρ M = ((g ρ M).bind fun p => if p.1.length ≤ sizeLine then some (.new p.1, p.2) else none) := rfl
@[simp] theorem sNone_ap  {ρ : Slots} {M : Mem} : sNone ρ M = (some (none, M)) := rfl
@[simp] theorem sSome_ap {f : Ef} {ρ : Slots} {M : Mem} : (sSome f) ρ M = ((f ρ M).bind fun p => match p.1.d with | .int i => some (some i, p.2) | _ => none) := rfl
@[simp] theorem cSl_ap {f : Ef} {l h : Of} {ρ : Slots} {M : Mem} : (cSl f l h) ρ M = ((f ρ M).bind fun p => (l ρ p.2).bind fun q => (h ρ q.2).bind fun r => (oSl q.1 r.1 p.1.d r.2).bind fun z => some (z, r.2)) := rfl
@[simp] theorem cCB_ap {o : Cop} {g : Af} {ρ : Slots} {M : Mem} : (cCB o g) ρ M = ((g ρ M).bind fun p => (o p.1 p.2).bind fun r => some (r, p.2)) := rfl
@[simp] theorem cIsI_ap {n : String} {f : Ef} {ρ : Slots} {M : Mem} : (cIsI n f) ρ M = ((f ρ M).bind fun p => (tyOf p.2 p.1.d).bind fun t => (kitB t n).bind fun b => some (.val (.bl b), p.2)) := rfl
@[simp] theorem toTr_ap {f : Ef} {ρ : Slots} {M : Mem} : (toTr f) ρ M = ((f ρ M).bind fun p => (trD p.2 p.1.d).bind fun b => some (b, p.2)) := rfl
@[simp] theorem cCall_ap {F : Fn} {g : Af} {ρ : Slots} {M : Mem} : (cCall F g) ρ M = ((g ρ M).bind fun p => F p.1 p.2) := rfl
@[simp] theorem cNew_ap {c : Str} {F : Fn} {g : Af} {ρ : Slots} {M : Mem} : (cNew c F g) ρ M = ((g ρ M).bind fun p => (F (.loc p.2.length :: p.1) (p.2 ++ [.ins c []])).bind fun q => match q.1 with | .val .non => some (.val (.loc p.2.length), q.2) | _ => none) := rfl
@[simp] theorem cMeth_ap {c m : Str} {F : Fn} {f : Ef} {g : Af} {ρ : Slots} {M : Mem} : (cMeth c m F f g) ρ M = ((f ρ M).bind fun p => match p.1.d with | .loc k => (match p.2[k]? with | some (.ins c' fs) => if c' = c ∧ fs.lookup m = none then (g ρ p.2).bind fun q => F (.loc k :: q.1) q.2 else none | _ => none) | _ => none) := rfl
@[simp] theorem cFld_ap {cs : List Str} {n : Str} {f : Ef} {ρ : Slots} {M : Mem} : (cFld cs n f) ρ M = ((f ρ M).bind fun p => match p.1.d with | .loc k => (match p.2[k]? with | some (.ins c fs) => if c ∈ cs then (fs.lookup n).bind fun d => some (.val d, p.2) else none | _ => none) | _ => none) := rfl
@[simp] theorem cBM_ap {T : String} {o : Mop} {f : Ef} {g : Af} {ρ : Slots} {M : Mem} : (cBM T o f g) ρ M = ((f ρ M).bind fun p => if tyOf p.2 p.1.d = some T then (g ρ p.2).bind fun q => o p.1.d q.1 q.2 else none) := rfl
@[simp] theorem sNil_ap  {ρ : Slots} {M : Mem} : sNil ρ M = (some (.nx, ρ, M)) := rfl
@[simp] theorem sCons_ap {f g : Sf} {ρ : Slots} {M : Mem} : (sCons f g) ρ M = ((f ρ M).bind fun p => match p.1 with | .nx => g p.2.1 p.2.2 | fl => some (fl, p.2.1, p.2.2)) := rfl
@[simp] theorem sBreak_ap  {ρ : Slots} {M : Mem} : sBreak ρ M = (some (.bk, ρ, M)) := rfl
@[simp] theorem sCont_ap  {ρ : Slots} {M : Mem} : sCont ρ M = (some (.ct, ρ, M)) := rfl
@[simp] theorem sExpr_ap {f : Ef} {ρ : Slots} {M : Mem} : (sExpr f) ρ M = ((f ρ M).bind fun p => some (.nx, ρ, p.2)) := rfl
@[simp] theorem sRet_ap {f : Ef} {ρ : Slots} {M : Mem} : (sRet f) ρ M = ((f ρ M).bind fun p => some (.rt p.1, ρ, p.2)) := rfl
@[simp] theorem sRetN_ap  {ρ : Slots} {M : Mem} : sRetN ρ M = (some (.rt (.val .non), ρ, M)) := rfl
@[simp] theorem sIf_ap {t : Tf} {f g : Sf} {ρ : Slots} {M : Mem} : (sIf t f g) ρ M = ((t ρ M).bind fun p => if p.1 = true then f ρ p.2 else g ρ p.2) := rfl
@[simp] theorem sSet_ap {i : Nat} {f : Ef} {ρ : Slots} {M : Mem} : (sSet i f) ρ M = ((f ρ M).bind fun p => some (.nx, ρ.set i (some p.1.d), p.2)) := rfl
@[simp] theorem sSetM_ap {i : Nat} {f : Ef} {ρ : Slots} {M : Mem} : (sSetM i f) ρ M = ((f ρ M).bind fun p => match p.1 with | .new ds => some (.nx, ρ.set i (some (.loc p.2.length)), p.2 ++ [.lst ds]) | .val d => some (.nx, ρ.set i (some d), p.2)) := rfl
@[simp] theorem sFldS_ap {cs : List Str} {n : Str} {fo fv : Ef} {ρ : Slots} {M : Mem} : (sFldS cs n fo fv) ρ M = ((fv ρ M).bind fun p => stFld cs n fo p.1.d ρ p.2) := rfl
@[simp] theorem sFldM_ap {cs : List Str} {n : Str} {fo fv : Ef} {ρ : Slots} {M : Mem} : (sFldM cs n fo fv) ρ M = ((fv ρ M).bind fun p => match p.1 with | .new ds => stFld cs n fo (.loc p.2.length) ρ (p.2 ++ [.lst ds]) | .val d => stFld cs n fo d ρ p.2) := rfl
@[simp] theorem iSeq_ap {f : Ef} {ρ : Slots} {M : Mem} : (iSeq f) ρ M = ((f ρ M).bind fun p => (asS p.2 p.1.d).bind fun ds => some (ds, gkOf p.1.d, p.2)) := rfl
@[simp] theorem iRg1_ap {fa : Ef} {ρ : Slots} {M : Mem} : (iRg1 fa) ρ M = ((fa ρ M).bind fun p => match p.1.d with | .int j => if rgB j = true then some (rgD 0 j.toNat, none, p.2) else none | _ => none) := rfl
@[simp] theorem iRg2_ap {fa fb : Ef} {ρ : Slots} {M : Mem} : (iRg2 fa fb) ρ M = ((fa ρ M).bind fun p => (fb ρ p.2).bind fun q => match p.1.d, q.1.d with | .int i, .int j => if rgB i = true ∧ rgB j = true then some (rgD i (j - i).toNat, none, q.2) else none | _, _ => none) := rfl
@[simp] theorem sFor_ap {it : If} {g : Gf} {body : Sf} {ρ : Slots} {M : Mem} : (sFor it g body) ρ M = ((it ρ M).bind fun p => loopF (stpF p.2.1 p.1 g body) p.1 ρ p.2.2) := rfl
@[simp] theorem sAsg_ap {g : Gf} {f : Ef} {ρ : Slots} {M : Mem} : (sAsg g f) ρ M = ((f ρ M).bind fun p => (g p.1.d ρ p.2).bind fun q => some (.nx, q.1, q.2)) := rfl
@[simp] theorem slot_zero {o : Option D} {ρ : Slots} : slot (o :: ρ) 0 = o := rfl
@[simp] theorem slot_succ {o : Option D} {ρ : Slots} {i : Nat} : slot (o :: ρ) (i + 1) = slot ρ i := rfl
@[simp] theorem gNm_ap {i : Nat} {d : D} {ρ : Slots} {M : Mem} : gNm i d ρ M = some (ρ.set i (some d), M) := rfl
@[simp] theorem line_le {n : Nat} : (n ≤ sizeLine) = (n ≤ 16777216) := by rw [sizeLine_eq]
@[simp] theorem line_lt {n : Nat} : (n < sizeLine) = (n < 16777216) := by rw [sizeLine_eq]
@[simp] theorem guard_none {ds : List D} {M : Mem} : guard none ds M = True := by
  unfold guard; simp
@[simp] theorem stp_none {ds : List D} {g : Gf} {body : Sf} {d : D} {ρ : Slots} {M : Mem} : stpF none ds g body d ρ M = (g d ρ M).bind fun p => body p.1 p.2 := by
  unfold stpF
  cases g d ρ M with
  | none => rfl
  | some p =>
    simp only [Option.bind_some, guard_none, if_true]
    cases body p.1 p.2 <;> rfl
@[simp] theorem set_end {M : Mem} {a b : O} : (M ++ [a]).set M.length b = M ++ [b] := by
  rw [List.set_append_right _ _ (Nat.le_refl _)]; simp
@[simp] theorem get_end {M : Mem} {a : O} : (M ++ [a])[M.length]? = some a := by simp
@[simp] theorem nls_ints {n : Nat} : ∀ {ns : List Int}, nls n (ns.map .int) = true
  | [] => rfl
  | _ :: ns => by rw [List.map_cons, nls, nls_ints, Bool.and_true]; simp [nl]
@[simp] theorem finish_same {M : Mem} {r : Rz} : finish M r M = (r, M) := by
  unfold finish; simp
@[simp] theorem finish_list {M : Mem} {ds : List D} : finish M (.val (.loc M.length)) (M ++ [.lst ds]) = if nls M.length ds = true then (.new ds, M) else (.val (.loc M.length), M ++ [.lst ds]) := by
  unfold finish; simp
@[simp] theorem oI_int {g : Int → Int → D} {i j : Int} {M : Mem} : oI g (.int i) (.int j) M = some (.val (g i j)) := rfl
@[simp] theorem oIc_int {C : Int → Int → Bool} {g : Int → Int → D} {i j : Int} {M : Mem} : oIc C g (.int i) (.int j) M = if C i j = true then some (.val (g i j)) else none := rfl
@[simp] theorem oAdd_int {i j : Int} {M : Mem} : oAdd (.int i) (.int j) M = some (.val (.int (i + j))) := rfl
@[simp] theorem oAdd_tup {xs ys : List D} {M : Mem} : oAdd (.tup xs) (.tup ys) M = if xs.length + ys.length ≤ sizeLine then some (.val (.tup (xs ++ ys))) else none := rfl
@[simp] theorem oAdd_lst {xs ys : List D} {M : Mem} : oAdd (.lst xs) (.lst ys) M = if xs.length + ys.length ≤ sizeLine then some (.new (xs ++ ys)) else none := rfl
@[simp] theorem oEq_int {i j : Int} {M : Mem} : oEq (.int i) (.int j) M = some (.val (.bl (decide (i = j)))) := rfl
@[simp] theorem oNe_int {i j : Int} {M : Mem} : oNe (.int i) (.int j) M = some (.val (.bl (!decide (i = j)))) := rfl
@[simp] theorem oEq_str {i j : Str} {M : Mem} : oEq (.str i) (.str j) M = some (.val (.bl (decide (i = j)))) := rfl
@[simp] theorem oNe_str {i j : Str} {M : Mem} : oNe (.str i) (.str j) M = some (.val (.bl (!decide (i = j)))) := rfl
@[simp] theorem oSub_int {i j : Int} {M : Mem} : oSub (.int i) (.int j) M = some (.val (.int (i - j))) := rfl
@[simp] theorem oLt_int {i j : Int} {M : Mem} : oLt (.int i) (.int j) M = some (.val (.bl (decide (i < j)))) := rfl
@[simp] theorem oLe_int {i j : Int} {M : Mem} : oLe (.int i) (.int j) M = some (.val (.bl (decide (i ≤ j)))) := rfl
@[simp] theorem oGt_int {i j : Int} {M : Mem} : oGt (.int i) (.int j) M = some (.val (.bl (decide (j < i)))) := rfl
@[simp] theorem oGe_int {i j : Int} {M : Mem} : oGe (.int i) (.int j) M = some (.val (.bl (decide (j ≤ i)))) := rfl
@[simp] theorem oMul_int {i j : Int} {M : Mem} : oMulI (.int i) (.int j) M = if bMul i j = true then some (.val (.int (i * j))) else none := rfl
@[simp] theorem oDiv_int {i j : Int} {M : Mem} : oDiv (.int i) (.int j) M = if bDiv i j = true then some (.val (.int (i / j))) else none := rfl
@[simp] theorem oMod_int {i j : Int} {M : Mem} : oMod (.int i) (.int j) M = if bMod i j = true then some (.val (.int (i % j))) else none := rfl
@[simp] theorem oPow_int {i j : Int} {M : Mem} : oPow (.int i) (.int j) M = if bPow i j = true then some (.val (.int (i ^ j.toNat))) else none := rfl
@[simp] theorem oInt_int {i : Int} {M : Mem} : oInt [.int i] M = some (.val (.int i)) := rfl
@[simp] theorem bMul_eq {i j : Int} : bMul i j = (sm64 i || sm64 j) := rfl
theorem p64 : (2 : Int) ^ 64 = 18446744073709551616 := by decide
theorem sm64_of {i : Int} (h0 : -1000000000000000000 < i) (h1 : i < 1000000000000000000) : sm64 i = true := by
  unfold sm64
  rw [p64]
  simp only [Bool.and_eq_true, decide_eq_true_eq]
  omega
@[simp] theorem sm64_lit {n : Nat} (h : n < 1000000000000000000) : sm64 (no_index (@OfNat.ofNat Int n instOfNat)) = true := sm64_of (by show (-1000000000000000000 : Int) < (n : Int); omega) (by show (n : Int) < 1000000000000000000; omega)
@[simp] theorem bDiv_eq {i j : Int} : bDiv i j = (decide (0 < j) && decide (j < 1073741824)) := rfl
@[simp] theorem bMod_eq {i j : Int} : bMod i j = decide (0 < j) := rfl
@[simp] theorem bPow_eq {i j : Int} : bPow i j = (decide (0 ≤ j) && decide (j ≤ 1000000) && decide (i.natAbs < 2 ^ 64)) := rfl
@[simp] theorem asS_lst {ds : List D} {M : Mem} : asS M (.lst ds) = some ds := rfl
@[simp] theorem asS_tup {ds : List D} {M : Mem} : asS M (.tup ds) = some ds := rfl
@[simp] theorem asS_scr {ns : List Int} {M : Mem} : asS M (.scr ns) = some (ns.map .int) := rfl
@[simp] theorem asL_lst {ds : List D} {M : Mem} : asL M (.lst ds) = some ds := rfl
@[simp] theorem asL_scr {ns : List Int} {M : Mem} : asL M (.scr ns) = some (ns.map .int) := rfl
theorem asS_loc {k : Nat} {M : Mem} {ds : List D} (h : M[k]? = some (.lst ds)) : asS M (.loc k) = some ds := by
  show (match M[k]? with | some (.lst ds) => some ds | _ => none) = some ds
  rw [h]
@[simp] theorem asS_end {M : Mem} {ds : List D} : asS (M ++ [.lst ds]) (.loc M.length) = some ds := asS_loc get_end
@[simp] theorem tyOf_end {M : Mem} {ds : List D} : tyOf (M ++ [.lst ds]) (.loc M.length) = some "list" := by
  show (match (M ++ [O.lst ds])[M.length]? with | some (.lst _) => some "list" | some (.dct _) => some "dict" | _ => none) = _
  rw [get_end]
@[simp] theorem oLen_lst {ds : List D} {M : Mem} : oLen [.lst ds] M = some (.val (.int ds.length)) := rfl
@[simp] theorem oLen_tup {ds : List D} {M : Mem} : oLen [.tup ds] M = some (.val (.int ds.length)) := rfl
@[simp] theorem oLen_scr {ns : List Int} {M : Mem} : oLen [.scr ns] M = some (.val (.int ns.length)) := by
  show some (Rz.val (.int (ns.map D.int).length)) = _
  rw [List.length_map]
theorem oLen_loc {k : Nat} {M : Mem} {ds : List D} (h : M[k]? = some (.lst ds)) : oLen [.loc k] M = some (.val (.int ds.length)) := by
  show ((asS M (.loc k)).bind fun es => some (Rz.val (.int es.length))) = _
  rw [asS_loc h]; rfl
@[simp] theorem oLen_end {M : Mem} {ds : List D} : oLen [.loc M.length] (M ++ [.lst ds]) = some (.val (.int ds.length)) := oLen_loc get_end
theorem oAppend_loc {k : Nat} {M : Mem} {ds : List D} {d : D} (h : M[k]? = some (.lst ds)) (hl : ds.length < 16777216) : oAppend (.loc k) [d] M = some (.val .non, M.set k (.lst (ds ++ [d]))) := by
  show (match M[k]? with | some (.lst es) => if es.length < sizeLine then some (Rz.val D.non, M.set k (.lst (es ++ [d]))) else none | _ => none) = _
  rw [h]
  simp [hl]
theorem oAppend_end {M : Mem} {ds : List D} {d : D} (hl : ds.length < 16777216) : oAppend (.loc M.length) [d] (M ++ [.lst ds]) = some (.val .non, M ++ [.lst (ds ++ [d])]) := by
  rw [oAppend_loc get_end hl, set_end]
theorem rgB_nat {n : Nat} (h : n < 16777216) : rgB (n : Int) = true := by
  unfold rgB; simp; omega
/-- a loop by an invariant -/
theorem loop_inv {step : Stp} (I : List D → Slots → Mem → Prop) (hs : ∀ d ds ρ M, I (d :: ds) ρ M → ∃ fl ρ' M', step d ρ M = some (fl, ρ', M') ∧ (fl = .nx ∨ fl = .ct) ∧ I ds ρ' M') :
    ∀ ds ρ M, I ds ρ M → ∃ ρ' M', loopF step ds ρ M = some (.nx, ρ', M') ∧ I [] ρ' M'
  | [], ρ, M, h => ⟨ρ, M, rfl, h⟩
  | d :: ds, ρ, M, h => by
    obtain ⟨fl, ρ1, M1, e, hf, h1⟩ := hs d ds ρ M h
    obtain ⟨ρ2, M2, e2, h2⟩ := loop_inv I hs ds ρ1 M1 h1
    refine ⟨ρ2, M2, ?_, h2⟩
    unfold loopF
    rw [e]
    rcases hf with rfl | rfl <;> exact e2
/-- .. counted -/
theorem loop_rg {step : Stp} {lo : Int} {n : Nat} {ρ : Slots} {M : Mem} (I : Nat → Slots → Mem → Prop) (h0 : I 0 ρ M) (hs : ∀ (i : Nat) ρ M, i < n → I i ρ M → ∃ fl ρ' M', step (.int (lo + i)) ρ M = some (fl, ρ', M') ∧ (fl = .nx ∨ fl = .ct) ∧ I (i + 1) ρ' M') :
    ∃ ρ' M', loopF step (rgD lo n) ρ M = some (.nx, ρ', M') ∧ I n ρ' M' := by
  have key : ∀ (k : Nat) ds ρ M, (rgD lo n).drop k = ds → k ≤ n → I k ρ M → ∃ ρ' M', loopF step ds ρ M = some (.nx, ρ', M') ∧ I n ρ' M' := by
    intro k ds
    induction ds generalizing k with
    | nil =>
      intro ρ M e hk h
      have : k = n := by
        have := congrArg List.length e
        rw [List.length_drop, rgD_len] at this
        simp at this; omega
      subst this
      exact ⟨ρ, M, rfl, h⟩
    | cons d ds ih =>
      intro ρ M e hk h
      have hd : (rgD lo n)[k]? = some d := by
        have := congrArg (fun l => l[0]?) e
        simpa [List.getElem?_drop] using this
      obtain ⟨hkn, rfl⟩ := rgD_get hd
      obtain ⟨fl, ρ1, M1, e1, hf, h1⟩ := hs k ρ M hkn h
      obtain ⟨ρ2, M2, e2, h2⟩ := ih (k + 1) ρ1 M1 (by rw [← List.tail_drop, e]; rfl) hkn h1
      refine ⟨ρ2, M2, ?_, h2⟩
      unfold loopF
      rw [e1]
      rcases hf with rfl | rfl <;> exact e2
  exact key 0 _ ρ M rfl (Nat.zero_le _) h0
end CI

/-! Ci9: the laws' common defs: draws, same -/
namespace CI
open PySem PySem.Spec PyProof.Rows L2
@[simp] theorem kit_NoneType_bool : kitB "NoneType" "bool" = some false := by decide +kernel
@[simp] theorem kit_NoneType_int : kitB "NoneType" "int" = some false := by decide +kernel
@[simp] theorem kit_NoneType_str : kitB "NoneType" "str" = some false := by decide +kernel
@[simp] theorem kit_NoneType_tuple : kitB "NoneType" "tuple" = some false := by decide +kernel
@[simp] theorem kit_NoneType_list : kitB "NoneType" "list" = some false := by decide +kernel
@[simp] theorem kit_NoneType_dict : kitB "NoneType" "dict" = some false := by decide +kernel
@[simp] theorem kit_bool_bool : kitB "bool" "bool" = some true := by decide +kernel
@[simp] theorem kit_bool_int : kitB "bool" "int" = some true := by decide +kernel
@[simp] theorem kit_bool_str : kitB "bool" "str" = some false := by decide +kernel
@[simp] theorem kit_bool_tuple : kitB "bool" "tuple" = some false := by decide +kernel
@[simp] theorem kit_bool_list : kitB "bool" "list" = some false := by decide +kernel
@[simp] theorem kit_bool_dict : kitB "bool" "dict" = some false := by decide +kernel
@[simp] theorem kit_int_bool : kitB "int" "bool" = some false := by decide +kernel
@[simp] theorem kit_int_int : kitB "int" "int" = some true := by decide +kernel
@[simp] theorem kit_int_str : kitB "int" "str" = some false := by decide +kernel
@[simp] theorem kit_int_tuple : kitB "int" "tuple" = some false := by decide +kernel
@[simp] theorem kit_int_list : kitB "int" "list" = some false := by decide +kernel
@[simp] theorem kit_int_dict : kitB "int" "dict" = some false := by decide +kernel
@[simp] theorem kit_str_bool : kitB "str" "bool" = some false := by decide +kernel
@[simp] theorem kit_str_int : kitB "str" "int" = some false := by decide +kernel
@[simp] theorem kit_str_str : kitB "str" "str" = some true := by decide +kernel
@[simp] theorem kit_str_tuple : kitB "str" "tuple" = some false := by decide +kernel
@[simp] theorem kit_str_list : kitB "str" "list" = some false := by decide +kernel
@[simp] theorem kit_str_dict : kitB "str" "dict" = some false := by decide +kernel
@[simp] theorem kit_tuple_bool : kitB "tuple" "bool" = some false := by decide +kernel
@[simp] theorem kit_tuple_int : kitB "tuple" "int" = some false := by decide +kernel
@[simp] theorem kit_tuple_str : kitB "tuple" "str" = some false := by decide +kernel
@[simp] theorem kit_tuple_tuple : kitB "tuple" "tuple" = some true := by decide +kernel
@[simp] theorem kit_tuple_list : kitB "tuple" "list" = some false := by decide +kernel
@[simp] theorem kit_tuple_dict : kitB "tuple" "dict" = some false := by decide +kernel
@[simp] theorem kit_list_bool : kitB "list" "bool" = some false := by decide +kernel
@[simp] theorem kit_list_int : kitB "list" "int" = some false := by decide +kernel
@[simp] theorem kit_list_str : kitB "list" "str" = some false := by decide +kernel
@[simp] theorem kit_list_tuple : kitB "list" "tuple" = some false := by decide +kernel
@[simp] theorem kit_list_list : kitB "list" "list" = some true := by decide +kernel
@[simp] theorem kit_list_dict : kitB "list" "dict" = some false := by decide +kernel
@[simp] theorem kit_dict_bool : kitB "dict" "bool" = some false := by decide +kernel
@[simp] theorem kit_dict_int : kitB "dict" "int" = some false := by decide +kernel
@[simp] theorem kit_dict_str : kitB "dict" "str" = some false := by decide +kernel
@[simp] theorem kit_dict_tuple : kitB "dict" "tuple" = some false := by decide +kernel
@[simp] theorem kit_dict_list : kitB "dict" "list" = some false := by decide +kernel
@[simp] theorem kit_dict_dict : kitB "dict" "dict" = some true := by decide +kernel
def dr1 : Sf := (sIf (toB (cBin oGt (cVar 3) (cInt (0))))
    (sCons (sExpr (cBM "list" oAppend (cVar 2) (aCons (cBin oMod (cCB oInt (aCons (cVar 3) aNil)) (cInt (1000))) aNil)))
    (sSet 3 (cBin oDiv (cVar 3) (cInt (1000)))))
    sNil)
def dr2 : Sf := (sCons (sSet 4 (cBin oMod (cCB oInt (aCons (cBin oAdd (cBin oAdd (cBin oMulI (cVar 4) (cInt (48271))) (cBin oMulI (cVar 5) (cInt (69621)))) (cInt (7))) aNil)) (cInt (2147483647))))
    (sIf (toB (cBin oLt (cCB oLen (aCons (cVar 2) aNil)) (cVar 1)))
    (sExpr (cBM "list" oAppend (cVar 2) (aCons (cBin oMod (cCB oInt (aCons (cBin oMod (cCB oInt (aCons (cBin oAdd (cBin oMulI (cVar 4) (cInt (69621))) (cInt (5))) aNil)) (cInt (2147483629))) aNil)) (cInt (1000))) aNil)))
    sNil))
noncomputable def B_draws : Sf :=
    (sCons (sSetM 2 (cLst aNil))
    (sCons (sSet 3 (cCB oInt (aCons (cVar 0) aNil)))
    (sCons (sIf (toB (cBin oGe (cVar 3) (cBin oPow (cInt (10)) (cInt (18)))))
    (sFor (iRg1 (cVar 1)) (gNm 5)
    dr1)
    sNil)
    (sCons (sSet 4 (cBin oMod (cCB oInt (aCons (cBin oAdd (cBin oMulI (cCB oInt (aCons (cVar 0) aNil)) (cInt (48271))) (cInt (11))) aNil)) (cInt (2147483647))))
    (sCons (sFor (iRg1 (cVar 1)) (gNm 5)
    dr2)
    (sRet (cVar 2)))))))
noncomputable def F_draws : Fn := mkFn 2 6 B_draws
noncomputable def B_big : Sf :=
    (sCons (sIf (toB (cBin oEq (cBin oMod (cCB oInt (aCons (cVar 0) aNil)) (cInt (4))) (cInt (0))))
    (sRet (cBin oIx (cLst (aCons (cInt (0)) (aCons (cInt (1)) (aCons (cInt (255)) (aCons (cInt (256)) (aCons (cInt (65535)) (aCons (cInt (65536)) (aCons (cInt (16777216)) (aCons (cInt (4294967295)) aNil))))))))) (cBin oMod (cCB oInt (aCons (cVar 1) aNil)) (cInt (8)))))
    sNil)
    (sRet (cBin oMod (cCB oInt (aCons (cBin oAdd (cBin oMulI (cCB oInt (aCons (cVar 0) aNil)) (cInt (4294967))) (cBin oMulI (cCB oInt (aCons (cVar 1) aNil)) (cInt (65537)))) aNil)) (cInt (4294967296)))))
noncomputable def F_big : Fn := mkFn 2 2 B_big
noncomputable def B_OctetReader_init : Sf :=
    (sCons (sFldS ["OctetReader"] "_octets" (cVar 0) (cCB oList (aCons (cVar 1) aNil)))
    (sFldS ["OctetReader"] "_place" (cVar 0) (cInt (0))))
noncomputable def F_OctetReader_init : Fn := mkFn 2 2 B_OctetReader_init
noncomputable def B_same (F : Fn) : Sf :=
    (sCons (sIf (toB (cBin (oIs false) (cVar 1) cNon))
    (sRet (cBin (oIs false) (cVar 0) cNon))
    sNil)
    (sCons (sIf (toB (cBin (oIs false) (cVar 1) (cBl true)))
    (sRet (cBin (oIs false) (cVar 0) (cBl true)))
    sNil)
    (sCons (sIf (toB (cBin (oIs false) (cVar 1) (cBl false)))
    (sRet (cBin (oIs false) (cVar 0) (cBl false)))
    sNil)
    (sCons (sIf (toTr (cIsI "int" (cVar 1)))
    (sRet (cAnd (cIsI "int" (cVar 0)) (cAnd (cNot (cIsI "bool" (cVar 0))) (cBin oEq (cVar 0) (cVar 1)))))
    sNil)
    (sCons (sIf (toTr (cIsI "str" (cVar 1)))
    (sRet (cAnd (cIsI "str" (cVar 0)) (cBin oEq (cVar 0) (cVar 1))))
    sNil)
    (sCons (sIf (kAnd (toTr (cIsI "tuple" (cVar 1))) (kNot (toTr (cIsI "tuple" (cVar 0)))))
    (sRet (cBl false))
    sNil)
    (sCons (sIf (kAnd (toTr (cIsI "list" (cVar 1))) (kNot (toTr (cIsI "list" (cVar 0)))))
    (sRet (cBl false))
    sNil)
    (sCons (sIf (toB (cBin oNe (cCB oLen (aCons (cVar 0) aNil)) (cCB oLen (aCons (cVar 1) aNil))))
    (sRet (cBl false))
    sNil)
    (sCons (sFor (iRg1 (cCB oLen (aCons (cVar 1) aNil))) (gNm 2)
    (sIf (kNot (toTr (cCall (F) (aCons (cBin oIx (cVar 0) (cVar 2)) (aCons (cBin oIx (cVar 1) (cVar 2)) aNil)))))
    (sRet (cBl false))
    sNil))
    (sRet (cBl true)))))))))))
noncomputable def F_same : Nat → Fn
  | 0 => fun _ _ => none
  | n + 1 => mkFn 2 3 (B_same (F_same n))
@[simp] theorem oIs_non {b : Bool} {d : D} {M : Mem} : oIs b d .non M = some (.val (.bl (b != isNon d))) := rfl
@[simp] theorem oIs_bl {b c : Bool} {d : D} {M : Mem} : oIs b d (.bl c) M = some (.val (.bl (b != isBl c d))) := rfl
@[simp] theorem trD_bl {b : Bool} {M : Mem} : trD M (.bl b) = some b := rfl
@[simp] theorem ge_nat {n : Nat} : ((n : Int) < 0) = False := by simp
/-- draws: so many numbers below 1000 -/
theorem draws_l1 (cell : Int) (many : Nat) (hm : many < 1000) (M : Mem) : ∀ (rest : Int) (x y : Option D), ∃ (rows : List Int) (rest' : Int) (y' : Option D), rows.length ≤ many ∧ (∀ r ∈ rows, 0 ≤ r ∧ r < 1000) ∧
    loopF (stpF none (rgD 0 many) (gNm 5) dr1) (rgD 0 many) [some (.int cell), some (.int many), some (.loc M.length), some (.int rest), x, y] (M ++ [.lst []]) =
    some (.nx, [some (.int cell), some (.int many), some (.loc M.length), some (.int rest'), x, y'], M ++ [.lst (rows.map .int)]) := by
  intro rest x y
  obtain ⟨ρ', M', e, rows, rest', y', h1, h2, rfl, rfl⟩ := loop_rg (step := stpF none (rgD 0 many) (gNm 5) dr1) (lo := 0) (n := many) (ρ := [some (.int cell), some (.int many), some (.loc M.length), some (.int rest), x, y]) (M := M ++ [.lst []])
    (fun i ρ M' => ∃ (rows : List Int) (rest' : Int) (y' : Option D), rows.length ≤ i ∧ (∀ r ∈ rows, 0 ≤ r ∧ r < 1000) ∧ ρ = [some (.int cell), some (.int many), some (.loc M.length), some (.int rest'), x, y'] ∧ M' = M ++ [.lst (rows.map .int)])
    ⟨[], rest, y, by simp, by simp, rfl, rfl⟩ (by
      rintro i ρ M' hi ⟨rows, rest', y', h1, h2, rfl, rfl⟩
      by_cases hr : 0 < rest'
      · refine ⟨.nx, _, _, ?_, .inl rfl, rows ++ [rest' % 1000], rest' / 1000, some (.int (0 + i)), by simp; omega, ?_, rfl, rfl⟩
        · simp [dr1, hr, oAppend_end (ds := rows.map D.int) (show (rows.map D.int).length < 16777216 by simp; omega)]
        · intro r hr'
          rcases List.mem_append.mp hr' with q | q
          · exact h2 r q
          · simp at q; subst q; omega
      · refine ⟨.nx, _, _, ?_, .inl rfl, rows, rest', some (.int (0 + i)), by omega, h2, rfl, rfl⟩
        simp [dr1, hr])
  exact ⟨rows, rest', y', h1, h2, e⟩
theorem draws_l2 (cell : Int) (many : Nat) (hm : many < 1000) (M : Mem) : ∀ (rest st : Int) (rows : List Int) (y : Option D), rows.length ≤ many → (∀ r ∈ rows, 0 ≤ r ∧ r < 1000) → 0 ≤ st → st < 2147483647 → ∃ (rows' : List Int) (ρ' : Slots), rows'.length = many ∧ (∀ r ∈ rows', 0 ≤ r ∧ r < 1000) ∧ slot ρ' 2 = some (.loc M.length) ∧
    loopF (stpF none (rgD 0 many) (gNm 5) dr2) (rgD 0 many) [some (.int cell), some (.int many), some (.loc M.length), some (.int rest), some (.int st), y] (M ++ [.lst (rows.map .int)]) =
    some (.nx, ρ', M ++ [.lst (rows'.map .int)]) := by
  intro rest st rows y hl hb hs0 hs1
  obtain ⟨ρ', M', e, rows', st', y', h1, h2, h3, rfl, rfl⟩ := loop_rg (step := stpF none (rgD 0 many) (gNm 5) dr2) (lo := 0) (n := many) (ρ := [some (.int cell), some (.int many), some (.loc M.length), some (.int rest), some (.int st), y]) (M := M ++ [.lst (rows.map .int)])
    (fun i ρ M' => ∃ (rows' : List Int) (st' : Int) (y' : Option D), rows'.length ≤ many ∧ i ≤ rows'.length ∧ (∀ r ∈ rows', 0 ≤ r ∧ r < 1000) ∧ ρ = [some (.int cell), some (.int many), some (.loc M.length), some (.int rest), some (.int st'), y'] ∧ M' = M ++ [.lst (rows'.map .int)])
    ⟨rows, st, y, hl, Nat.zero_le _, hb, rfl, rfl⟩ (by
      rintro i ρ M' hi ⟨rows', st', y', h1, h2, h3, rfl, rfl⟩
      have hst : ∃ st2 : Int, st2 = (st' * 48271 + (i : Int) * 69621 + 7) % 2147483647 := ⟨_, rfl⟩
      obtain ⟨st2, est⟩ := hst
      by_cases hr : rows'.length < many
      · refine ⟨.nx, _, _, ?_, .inl rfl, rows' ++ [(st2 * 69621 + 5) % 2147483629 % 1000], st2, some (.int (0 + i)), by simp; omega, by simp; omega, ?_, rfl, rfl⟩
        · simp -implicitDefEqProofs [dr2, hr, ← est, oAppend_end (ds := rows'.map D.int) (show (rows'.map D.int).length < 16777216 by simp; omega)]
        · intro r hr'
          rcases List.mem_append.mp hr' with q | q
          · exact h3 r q
          · simp at q; subst q; omega
      · refine ⟨.nx, _, _, ?_, .inl rfl, rows', st2, some (.int (0 + i)), by omega, by omega, h3, rfl, rfl⟩
        simp -implicitDefEqProofs [dr2, hr, ← est])
  exact ⟨rows', _, by omega, h3, rfl, e⟩
theorem draws_ok (cell : Int) (many : Nat) (hm : many < 1000) (M : Mem) :
    ∃ rows : List Int, rows.length = many ∧ (∀ r ∈ rows, 0 ≤ r ∧ r < 1000) ∧ F_draws [.int cell, .int many] M = some (.new (rows.map .int), M) := by
  have hrg : rgB (many : Int) = true := rgB_nat (by omega)
  -- the first loop
  unfold F_draws mkFn B_draws
  by_cases hc : (1000000000000000000 : Int) ≤ cell
  · obtain ⟨rows, rest', y', h1, h2, e1⟩ := draws_l1 cell many hm M cell none none
    obtain ⟨rows', ρ', h3, h4, h5, e2⟩ := draws_l2 cell many hm M rest' ((cell * 48271 + 11) % 2147483647) rows y' h1 h2 (by omega) (by omega)
    refine ⟨rows', h3, h4, ?_⟩
    simp -implicitDefEqProofs [hc, hrg, e1, e2, h5]
  · obtain ⟨rows', ρ', h3, h4, h5, e2⟩ := draws_l2 cell many hm M cell ((cell * 48271 + 11) % 2147483647) [] none (Nat.zero_le _) (fun _ h => nomatch h) (by omega) (by omega)
    refine ⟨rows', h3, h4, ?_⟩
    simp only [List.map_nil] at e2
    simp -implicitDefEqProofs [hc, hrg, e2, h5]
end CI

/-! Ci10: same -/
namespace CI
open PySem PySem.Spec PyProof.Rows L2
@[simp] theorem isNon_non : isNon .non = true := rfl
@[simp] theorem isNon_bl {b} : isNon (.bl b) = false := rfl
@[simp] theorem isNon_int {b} : isNon (.int b) = false := rfl
@[simp] theorem isNon_str {b} : isNon (.str b) = false := rfl
@[simp] theorem isNon_tup {b} : isNon (.tup b) = false := rfl
@[simp] theorem isNon_lst {b} : isNon (.lst b) = false := rfl
@[simp] theorem isNon_scr {b} : isNon (.scr b) = false := rfl
@[simp] theorem isNon_loc {b} : isNon (.loc b) = false := rfl
@[simp] theorem isBl_bl {b c} : isBl b (.bl c) = decide (c = b) := rfl
@[simp] theorem isBl_non {b} : isBl b .non = false := rfl
@[simp] theorem isBl_int {b c} : isBl b (.int c) = false := rfl
@[simp] theorem isBl_str {b c} : isBl b (.str c) = false := rfl
@[simp] theorem isBl_tup {b c} : isBl b (.tup c) = false := rfl
@[simp] theorem isBl_lst {b c} : isBl b (.lst c) = false := rfl
@[simp] theorem isBl_scr {b c} : isBl b (.scr c) = false := rfl
@[simp] theorem isBl_loc {b c} : isBl b (.loc c) = false := rfl
@[simp] theorem tyOf_non {M} : tyOf M .non = some "NoneType" := rfl
@[simp] theorem tyOf_bl {M b} : tyOf M (.bl b) = some "bool" := rfl
@[simp] theorem tyOf_int {M b} : tyOf M (.int b) = some "int" := rfl
@[simp] theorem tyOf_str {M b} : tyOf M (.str b) = some "str" := rfl
@[simp] theorem tyOf_tup {M b} : tyOf M (.tup b) = some "tuple" := rfl
@[simp] theorem tyOf_lst {M b} : tyOf M (.lst b) = some "list" := rfl
@[simp] theorem tyOf_scr {M b} : tyOf M (.scr b) = some "list" := rfl
theorem tyOf_loc {k : Nat} {M : Mem} {ds : List D} (h : M[k]? = some (.lst ds)) : tyOf M (.loc k) = some "list" := by
  show (match M[k]? with | some (.lst _) => some "list" | some (.dct _) => some "dict" | _ => none) = _
  rw [h]
/-- a sequence: is it a tuple, its items -/
def sh (M : Mem) : D → Option (Bool × List D)
  | .tup ds => some (true, ds)
  | .lst ds => some (false, ds)
  | .scr ns => some (false, ns.map .int)
  | .loc k => match M[k]? with
    | some (.lst ds) => some (false, ds)
    | _ => none
  | _ => none
theorem sh_asS {M : Mem} {d : D} {b : Bool} {ds : List D} (h : sh M d = some (b, ds)) : asS M d = some ds ∧ tyOf M d = some (if b then "tuple" else "list") ∧ isNon d = false ∧ (∀ c, isBl c d = false) ∧ oLen [d] M = some (.val (.int ds.length)) := by
  cases d with
  | tup es => cases h; exact ⟨rfl, rfl, rfl, fun _ => rfl, rfl⟩
  | lst es => cases h; exact ⟨rfl, rfl, rfl, fun _ => rfl, rfl⟩
  | scr es => cases h; exact ⟨rfl, rfl, rfl, fun _ => rfl, by rw [oLen_scr]; simp⟩
  | loc k =>
    unfold sh at h
    simp only at h
    split at h
    · rename_i es hk
      cases h
      exact ⟨asS_loc hk, tyOf_loc hk, rfl, fun _ => rfl, oLen_loc hk⟩
    · cases h
  | _ => cases h
/-- the same to a depth of n -/
def Sm (M : Mem) : Nat → D → D → Prop
  | 0, _, _ => False
  | n + 1, d, e => (d = e ∧ (d = .non ∨ (∃ b, d = .bl b) ∨ (∃ i, d = .int i) ∨ ∃ x, d = .str x)) ∨
    ∃ b ds es, sh M d = some (b, ds) ∧ sh M e = some (b, es) ∧ ds.length < 10000 ∧ ds.length = es.length ∧ ∀ (i : Nat) (x y : D), ds[i]? = some x → es[i]? = some y → Sm M n x y
theorem oIx_of {M : Mem} {d : D} {ds : List D} {i : Nat} {x : D} (h : asS M d = some ds) (hx : ds[i]? = some x) : oIx d (.int i) M = some (.val x) := by
  have e : ((asS M d).bind fun ds => (L2.atI ds (i : Int)).bind fun x => some (Rz.val x)) = some (.val x) := by
    rw [h]
    simp only [Option.bind_some]
    rw [atI_nat hx]; rfl
  cases d <;> first | exact e | cases h
theorem same_ok : ∀ (n : Nat) (M : Mem) (d e : D), Sm M n d e → F_same n [d, e] M = some (.val (.bl true), M)
  | 0, _, _, _, h => h.elim
  | n + 1, M, d, e, h => by
    unfold F_same mkFn B_same
    rcases h with ⟨rfl, h⟩ | ⟨b, ds, es, h1, h2, hl, hle, hs⟩
    · rcases h with rfl | ⟨b, rfl⟩ | ⟨i, rfl⟩ | ⟨x, rfl⟩
      · simp -implicitDefEqProofs
      · cases b <;> simp -implicitDefEqProofs
      · simp -implicitDefEqProofs
      · simp -implicitDefEqProofs
    · obtain ⟨a1, a2, a3, a4, a5⟩ := sh_asS h1
      obtain ⟨b1, b2, b3, b4, b5⟩ := sh_asS h2
      have hrg : rgB (es.length : Int) = true := rgB_nat (by omega)
      have lp : ∀ x, ∃ y, loopF (stpF none (rgD 0 es.length) (gNm 2) (sIf (kNot (toTr (cCall (F_same n) (aCons (cBin oIx (cVar 0) (cVar 2)) (aCons (cBin oIx (cVar 1) (cVar 2)) aNil)))))
    (sRet (cBl false)) sNil)) (rgD 0 es.length) [some d, some e, x] M = some (.nx, [some d, some e, y], M) := by
        intro x
        obtain ⟨ρ', M', e1, y, rfl, rfl⟩ := loop_rg (step := stpF none (rgD 0 es.length) (gNm 2) (sIf (kNot (toTr (cCall (F_same n) (aCons (cBin oIx (cVar 0) (cVar 2)) (aCons (cBin oIx (cVar 1) (cVar 2)) aNil)))))
    (sRet (cBl false)) sNil)) (lo := 0) (n := es.length) (ρ := [some d, some e, x]) (M := M)
          (fun i ρ M' => ∃ y, ρ = [some d, some e, y] ∧ M' = M) ⟨x, rfl, rfl⟩ (by
            rintro i ρ M' hi ⟨y, rfl, rfl⟩
            have i1 : ds[i]? = some ds[i] := List.getElem?_eq_getElem (by omega)
            have i2 : es[i]? = some es[i] := List.getElem?_eq_getElem hi
            have q := same_ok n _ _ _ (hs i _ _ i1 i2)
            refine ⟨.nx, [some d, some e, some (.int i)], _, ?_, .inl rfl, _, rfl, rfl⟩
            simp -implicitDefEqProofs only [stp_none, gNm_ap, Option.bind_some, Int.zero_add, sIf_ap, kNot_ap, toTr_ap, cCall_ap, aCons_ap, cBin_ap, cVar_ap, slot_zero, slot_succ, List.set_cons_succ, List.set_cons_zero, Rz_d_val, oIx_of a1 i1, oIx_of b1 i2, aNil_ap, q, trD_bl]
            simp -implicitDefEqProofs)
        exact ⟨y, e1⟩
      obtain ⟨y, e1⟩ := lp none
      cases b
      · simp -implicitDefEqProofs at a2 b2
        simp -implicitDefEqProofs [a2, a3, a4, a5, b2, b3, b4, b5, hle, hrg, e1]
      · simp -implicitDefEqProofs at a2 b2
        simp -implicitDefEqProofs [a2, a3, a4, a5, b2, b3, b4, b5, hle, hrg, e1]
end CI

namespace K40
open PySem PySem.Spec PyProof.Rows L2 CI
noncomputable def B__law_draws : Sf :=
    (sCons (sSetM 2 (cLst aNil))
    (sCons (sSet 3 (cCB oInt (aCons (cVar 0) aNil)))
    (sCons (sIf (toB (cBin oGe (cVar 3) (cBin oPow (cInt (10)) (cInt (18)))))
    (sFor (iRg1 (cVar 1)) (gNm 5)
    (sIf (toB (cBin oGt (cVar 3) (cInt (0))))
    (sCons (sExpr (cBM "list" oAppend (cVar 2) (aCons (cBin oMod (cCB oInt (aCons (cVar 3) aNil)) (cInt (1000))) aNil)))
    (sSet 3 (cBin oDiv (cVar 3) (cInt (1000)))))
    sNil))
    sNil)
    (sCons (sSet 4 (cBin oMod (cCB oInt (aCons (cBin oAdd (cBin oMulI (cCB oInt (aCons (cVar 0) aNil)) (cInt (48271))) (cInt (11))) aNil)) (cInt (2147483647))))
    (sCons (sFor (iRg1 (cVar 1)) (gNm 5)
    (sCons (sSet 4 (cBin oMod (cCB oInt (aCons (cBin oAdd (cBin oAdd (cBin oMulI (cVar 4) (cInt (48271))) (cBin oMulI (cVar 5) (cInt (69621)))) (cInt (7))) aNil)) (cInt (2147483647))))
    (sIf (toB (cBin oLt (cCB oLen (aCons (cVar 2) aNil)) (cVar 1)))
    (sExpr (cBM "list" oAppend (cVar 2) (aCons (cBin oMod (cCB oInt (aCons (cBin oMod (cCB oInt (aCons (cBin oAdd (cBin oMulI (cVar 4) (cInt (69621))) (cInt (5))) aNil)) (cInt (2147483629))) aNil)) (cInt (1000))) aNil)))
    sNil)))
    (sRet (cVar 2)))))))
noncomputable def F__law_draws : Fn := mkFn 2 6 B__law_draws
noncomputable def B__law_big : Sf :=
    (sCons (sIf (toB (cBin oEq (cBin oMod (cCB oInt (aCons (cVar 0) aNil)) (cInt (4))) (cInt (0))))
    (sRet (cBin oIx (cLst (aCons (cInt (0)) (aCons (cInt (1)) (aCons (cInt (255)) (aCons (cInt (256)) (aCons (cInt (65535)) (aCons (cInt (65536)) (aCons (cInt (16777216)) (aCons (cInt (4294967295)) aNil))))))))) (cBin oMod (cCB oInt (aCons (cVar 1) aNil)) (cInt (8)))))
    sNil)
    (sRet (cBin oMod (cCB oInt (aCons (cBin oAdd (cBin oMulI (cCB oInt (aCons (cVar 0) aNil)) (cInt (4294967))) (cBin oMulI (cCB oInt (aCons (cVar 1) aNil)) (cInt (65537)))) aNil)) (cInt (4294967296)))))
noncomputable def F__law_big : Fn := mkFn 2 2 B__law_big
noncomputable def B_OctetReader_init : Sf :=
    (sCons (sFldS ["OctetReader"] "_octets" (cVar 0) (cCB oList (aCons (cVar 1) aNil)))
    (sFldS ["OctetReader"] "_place" (cVar 0) (cInt (0))))
noncomputable def F_OctetReader_init : Fn := mkFn 2 2 B_OctetReader_init
noncomputable def B__law_same (F : Fn) : Sf :=
    (sCons (sIf (toB (cBin (oIs false) (cVar 1) cNon))
    (sRet (cBin (oIs false) (cVar 0) cNon))
    sNil)
    (sCons (sIf (toB (cBin (oIs false) (cVar 1) (cBl true)))
    (sRet (cBin (oIs false) (cVar 0) (cBl true)))
    sNil)
    (sCons (sIf (toB (cBin (oIs false) (cVar 1) (cBl false)))
    (sRet (cBin (oIs false) (cVar 0) (cBl false)))
    sNil)
    (sCons (sIf (toTr (cIsI "int" (cVar 1)))
    (sRet (cAnd (cIsI "int" (cVar 0)) (cAnd (cNot (cIsI "bool" (cVar 0))) (cBin oEq (cVar 0) (cVar 1)))))
    sNil)
    (sCons (sIf (toTr (cIsI "str" (cVar 1)))
    (sRet (cAnd (cIsI "str" (cVar 0)) (cBin oEq (cVar 0) (cVar 1))))
    sNil)
    (sCons (sIf (kAnd (toTr (cIsI "tuple" (cVar 1))) (kNot (toTr (cIsI "tuple" (cVar 0)))))
    (sRet (cBl false))
    sNil)
    (sCons (sIf (kAnd (toTr (cIsI "list" (cVar 1))) (kNot (toTr (cIsI "list" (cVar 0)))))
    (sRet (cBl false))
    sNil)
    (sCons (sIf (toB (cBin oNe (cCB oLen (aCons (cVar 0) aNil)) (cCB oLen (aCons (cVar 1) aNil))))
    (sRet (cBl false))
    sNil)
    (sCons (sFor (iRg1 (cCB oLen (aCons (cVar 1) aNil))) (gNm 2)
    (sIf (kNot (toTr (cCall (F) (aCons (cBin oIx (cVar 0) (cVar 2)) (aCons (cBin oIx (cVar 1) (cVar 2)) aNil)))))
    (sRet (cBl false))
    sNil))
    (sRet (cBl true)))))))))))
noncomputable def F__law_same : Nat → Fn
  | 0 => fun _ _ => none
  | n + 1 => mkFn 2 3 (B__law_same (F__law_same n))
noncomputable def B_two_octets : Sf :=
    (sRet (cLst (aCons (cBin oDiv (cVar 0) (cInt (256))) (aCons (cBin oMod (cCB oInt (aCons (cVar 0) aNil)) (cInt (256))) aNil))))
noncomputable def F_two_octets : Fn := mkFn 1 1 B_two_octets
noncomputable def B_four_octets : Sf :=
    (sRet (cBin oAdd (cCall F_two_octets (aCons (cBin oDiv (cVar 0) (cInt (65536))) aNil)) (cCall F_two_octets (aCons (cBin oMod (cCB oInt (aCons (cVar 0) aNil)) (cInt (65536))) aNil))))
noncomputable def F_four_octets : Fn := mkFn 1 1 B_four_octets
noncomputable def B__law_fours : Sf :=
    (sRet (cLst (aCons (cBin oMod (cCB oInt (aCons (cBin oDiv (cVar 0) (cInt (16777216))) aNil)) (cInt (256))) (aCons (cBin oMod (cCB oInt (aCons (cBin oDiv (cVar 0) (cInt (65536))) aNil)) (cInt (256))) (aCons (cBin oMod (cCB oInt (aCons (cBin oDiv (cVar 0) (cInt (256))) aNil)) (cInt (256))) (aCons (cBin oMod (cCB oInt (aCons (cVar 0) aNil)) (cInt (256))) aNil))))))
noncomputable def F__law_fours : Fn := mkFn 1 1 B__law_fours
noncomputable def B_OctetReader_one : Sf :=
    (sCons (sIf (toB (cBin oGe (cFld ["OctetReader"] "_place" (cVar 0)) (cCB oLen (aCons (cFld ["OctetReader"] "_octets" (cVar 0)) aNil))))
    sNever
    sNil)
    (sCons (sFldS ["OctetReader"] "_place" (cVar 0) (cBin oAdd (cFld ["OctetReader"] "_place" (cVar 0)) (cInt (1))))
    (sRet (cBin oIx (cFld ["OctetReader"] "_octets" (cVar 0)) (cBin oSub (cFld ["OctetReader"] "_place" (cVar 0)) (cInt (1)))))))
noncomputable def F_OctetReader_one : Fn := mkFn 1 1 B_OctetReader_one
noncomputable def B_OctetReader_two : Sf :=
    (sCons (sSet 1 (cMeth "OctetReader" "one" F_OctetReader_one (cVar 0) aNil))
    (sRet (cBin oAdd (cBin oMulI (cVar 1) (cInt (256))) (cMeth "OctetReader" "one" F_OctetReader_one (cVar 0) aNil))))
noncomputable def F_OctetReader_two : Fn := mkFn 1 2 B_OctetReader_two
noncomputable def B_OctetReader_four : Sf :=
    (sCons (sSet 1 (cMeth "OctetReader" "two" F_OctetReader_two (cVar 0) aNil))
    (sRet (cBin oAdd (cBin oMulI (cVar 1) (cInt (65536))) (cMeth "OctetReader" "two" F_OctetReader_two (cVar 0) aNil))))
noncomputable def F_OctetReader_four : Fn := mkFn 1 2 B_OctetReader_four
noncomputable def B_OctetReader_place : Sf :=
    (sRet (cFld ["OctetReader"] "_place" (cVar 0)))
noncomputable def F_OctetReader_place : Fn := mkFn 1 1 B_OctetReader_place
noncomputable def B_law : Sf :=
    (sCons (sFor (iSeq (cBin oAdd (cLst (aCons (cInt (0)) (aCons (cInt (255)) (aCons (cInt (256)) (aCons (cInt (65535)) (aCons (cInt (4294967295)) aNil)))))) (cCB oList (aCons (cVar 0) aNil)))) (gNm 1)
    (sCons (sSet 2 (cCall F__law_draws (aCons (cVar 1) (aCons (cInt (2)) aNil))))
    (sFor (iSeq (cLst (aCons (cBin oMod (cCB oInt (aCons (cVar 1) aNil)) (cInt (4294967296))) (aCons (cCall F__law_big (aCons (cBin oIx (cVar 2) (cInt (0))) (aCons (cBin oIx (cVar 2) (cInt (1))) aNil))) aNil)))) (gNm 3)
    (sCons (sSet 4 (cBin oMod (cCB oInt (aCons (cVar 3) aNil)) (cInt (65536))))
    (sCons (sIf (kOr (kNot (toTr (cCall (F__law_same 8) (aCons (cCall F_four_octets (aCons (cVar 3) aNil)) (aCons (cCall F__law_fours (aCons (cVar 3) aNil)) aNil))))) (kNot (toTr (cCall (F__law_same 8) (aCons (cCall F_two_octets (aCons (cVar 4) aNil)) (aCons (cSl (cCall F__law_fours (aCons (cVar 4) aNil)) (sSome (cInt (2))) sNone) aNil))))))
    (sRet (cBl false))
    sNil)
    (sCons (sSet 5 (cNew "OctetReader" F_OctetReader_init (aCons (cCB oTuple (aCons (cBin oAdd (cCall F__law_fours (aCons (cVar 3) aNil)) (cSl (cCall F__law_fours (aCons (cVar 4) aNil)) (sSome (cInt (2))) sNone)) aNil)) aNil)))
    (sIf (kNot (toTr (cCall (F__law_same 8) (aCons (cLst (aCons (cMeth "OctetReader" "four" F_OctetReader_four (cVar 5) aNil) (aCons (cMeth "OctetReader" "two" F_OctetReader_two (cVar 5) aNil) (aCons (cMeth "OctetReader" "place" F_OctetReader_place (cVar 5) aNil) aNil)))) (aCons (cLst (aCons (cVar 3) (aCons (cVar 4) (aCons (cInt (6)) aNil)))) aNil)))))
    (sRet (cBl false))
    sNil)))))))
    (sRet (cBl true)))
noncomputable def F_law : Fn := mkFn 1 6 B_law
end K40
namespace K40
open PySem PySem.Spec PyProof.Rows L2 CI
theorem draws_eq : F__law_draws = F_draws := rfl
theorem same_eq : ∀ n, F__law_same n = F_same n
  | 0 => rfl
  | n + 1 => by
    show mkFn 2 3 (B__law_same (F__law_same n)) = mkFn 2 3 (B_same (F_same n))
    rw [same_eq n]; rfl
theorem two_eq (n : Int) (M : Mem) : F_two_octets [.int n] M = some (.new [.int (n / 256), .int (n % 256)], M) := by
  unfold F_two_octets mkFn B_two_octets
  simp -implicitDefEqProofs
theorem four_eq (n : Int) (M : Mem) : F_four_octets [.int n] M = some (.new [.int (n / 65536 / 256), .int (n / 65536 % 256), .int (n % 65536 / 256), .int (n % 65536 % 256)], M) := by
  unfold F_four_octets mkFn B_four_octets
  simp -implicitDefEqProofs [two_eq]
theorem fours_eq (n : Int) (M : Mem) : F__law_fours [.int n] M = some (.new [.int (n / 16777216 % 256), .int (n / 65536 % 256), .int (n / 256 % 256), .int (n % 256)], M) := by
  unfold F__law_fours mkFn B__law_fours
  simp -implicitDefEqProofs
def rd (os : List D) (p : Int) : O := .ins "OctetReader" [("_octets", .lst os), ("_place", .int p)]
theorem get_set {M : Mem} {k : Nat} {o : O} (h : M[k]? = some o) (x : O) : (M.set k x)[k]? = some x := List.getElem?_set_self (List.getElem?_eq_some_iff.mp h).1
theorem fin_set {M : Mem} {k : Nat} {o : O} {r : Rz} : CI.finish M r (M.set k o) = (r, M.set k o) := by
  unfold CI.finish; simp
theorem init_eq (os : List D) (k : Nat) (M : Mem) (h : M[k]? = some (.ins "OctetReader" [])) : F_OctetReader_init [.loc k, .tup os] M = some (.val .non, M.set k (rd os 0)) := by
  have hs := get_set h
  unfold F_OctetReader_init mkFn B_OctetReader_init
  simp -implicitDefEqProofs [stFld, h, oList, hs, putD, fin_set, rd]
  rfl
theorem lk_p {a b : D} : List.lookup ("_place" : Str) [(("_octets" : Str), a), (("_place" : Str), b)] = some b := rfl
theorem lk_o {a b : D} : List.lookup ("_octets" : Str) [(("_octets" : Str), a), (("_place" : Str), b)] = some a := rfl
theorem pt_p {a b c : D} : putD ("_place" : Str) c [(("_octets" : Str), a), (("_place" : Str), b)] = [(("_octets" : Str), a), (("_place" : Str), c)] := rfl
theorem one_eq (os : List D) (p : Nat) (x : D) (k : Nat) (M : Mem) (h : M[k]? = some (rd os p)) (hx : os[p]? = some x) : F_OctetReader_one [.loc k] M = some (.val x, M.set k (rd os (p + 1))) := by
  have hs := get_set h
  have hp : p < os.length := (List.getElem?_eq_some_iff.mp hx).1
  unfold F_OctetReader_one mkFn B_OctetReader_one
  unfold rd at h
  have e : ((p : Int) + 1 - 1) = (p : Int) := by omega
  have e2 : ¬ ((os.length : Int) ≤ (p : Int)) := by omega
  have e3 : ∀ M, oIx (.lst os) (.int (p : Int)) M = some (.val x) := fun M => oIx_of (d := .lst os) (ds := os) rfl hx
  simp -implicitDefEqProofs [stFld, h, hs, fin_set, rd, lk_p, lk_o, pt_p, e2, e, e3]
theorem two_r (os : List D) (p : Nat) (a b : Int) (k : Nat) (M : Mem) (h : M[k]? = some (rd os p)) (ha : os[p]? = some (.int a)) (hb : os[p + 1]? = some (.int b)) : F_OctetReader_two [.loc k] M = some (.val (.int (a * 256 + b)), M.set k (rd os (p + 2))) := by
  have hs := get_set h
  have h2 : (M.set k (rd os ((p + 1 : Nat) : Int)))[k]? = some (rd os ((p + 1 : Nat) : Int)) := hs _
  have e1 := one_eq os p _ k M h ha
  have e2 := one_eq os (p + 1) _ k _ h2 hb
  have e : (((p + 1 : Nat) : Int) + 1) = (p : Int) + 2 := by omega
  have ee : (((p + 1 : Nat) : Int)) = (p : Int) + 1 := by omega
  rw [e, ee] at e2
  unfold F_OctetReader_two mkFn B_OctetReader_two
  have h' := h
  unfold rd at h'
  have h2' := h2
  rw [ee] at h2'
  have l : List.lookup ("one" : Str) [(("_octets" : Str), D.lst os), (("_place" : Str), D.int p)] = none := rfl
  have l' : List.lookup ("one" : Str) [(("_octets" : Str), D.lst os), (("_place" : Str), D.int (p + 1))] = none := rfl
  have h3 : ∀ x, (M.set k x)[k]? = some x := hs
  have e2' := e2
  unfold rd at e1 e2'
  simp -implicitDefEqProofs [h', hs, l, l', e1, e2', fin_set, rd, List.set_set]
theorem four_r (os : List D) (p : Nat) (a b c d : Int) (k : Nat) (M : Mem) (h : M[k]? = some (rd os p)) (ha : os[p]? = some (.int a)) (hb : os[p + 1]? = some (.int b)) (hc : os[p + 2]? = some (.int c)) (hd : os[p + 3]? = some (.int d)) :
    F_OctetReader_four [.loc k] M = some (.val (.int ((a * 256 + b) * 65536 + (c * 256 + d))), M.set k (rd os (p + 4))) := by
  have hs := get_set h
  have h2 : (M.set k (rd os ((p + 2 : Nat) : Int)))[k]? = some (rd os ((p + 2 : Nat) : Int)) := hs _
  have e1 := two_r os p a b k M h ha hb
  have e2 := two_r os (p + 2) c d k _ h2 hc hd
  have e : (((p + 2 : Nat) : Int) + 2) = (p : Int) + 4 := by omega
  have ee : (((p + 2 : Nat) : Int)) = (p : Int) + 2 := by omega
  rw [e, ee] at e2
  unfold F_OctetReader_four mkFn B_OctetReader_four
  have h' := h
  unfold rd at h'
  have l : List.lookup ("two" : Str) [(("_octets" : Str), D.lst os), (("_place" : Str), D.int p)] = none := rfl
  have l' : List.lookup ("two" : Str) [(("_octets" : Str), D.lst os), (("_place" : Str), D.int (p + 2))] = none := rfl
  unfold rd at e1 e2
  simp -implicitDefEqProofs [h', hs, l, l', e1, e2, fin_set, rd, List.set_set]
theorem place_r (os : List D) (p : Int) (k : Nat) (M : Mem) (h : M[k]? = some (rd os p)) : F_OctetReader_place [.loc k] M = some (.val (.int p), M) := by
  unfold F_OctetReader_place mkFn B_OctetReader_place
  unfold rd at h
  simp -implicitDefEqProofs [h, lk_p]
theorem tab_ix (b : Int) : ∃ v : Int, 0 ≤ v ∧ v < 4294967296 ∧ ∀ M, oIx (.lst [D.int 0, .int 1, .int 255, .int 256, .int 65535, .int 65536, .int 16777216, .int 4294967295]) (.int (b % 8)) M = some (.val (.int v)) := by
  have hb : ∃ j : Nat, j < 8 ∧ b % 8 = j := ⟨(b % 8).toNat, by omega, by omega⟩
  obtain ⟨j, hj, e⟩ := hb
  rw [e]
  have hx : j = 0 ∨ j = 1 ∨ j = 2 ∨ j = 3 ∨ j = 4 ∨ j = 5 ∨ j = 6 ∨ j = 7 := by omega
  rcases hx with rfl | rfl | rfl | rfl | rfl | rfl | rfl | rfl
  · exact ⟨0, by decide, by decide, fun M => oIx_of (i := 0) rfl rfl⟩
  · exact ⟨1, by decide, by decide, fun M => oIx_of (i := 1) rfl rfl⟩
  · exact ⟨255, by decide, by decide, fun M => oIx_of (i := 2) rfl rfl⟩
  · exact ⟨256, by decide, by decide, fun M => oIx_of (i := 3) rfl rfl⟩
  · exact ⟨65535, by decide, by decide, fun M => oIx_of (i := 4) rfl rfl⟩
  · exact ⟨65536, by decide, by decide, fun M => oIx_of (i := 5) rfl rfl⟩
  · exact ⟨16777216, by decide, by decide, fun M => oIx_of (i := 6) rfl rfl⟩
  · exact ⟨4294967295, by decide, by decide, fun M => oIx_of (i := 7) rfl rfl⟩
theorem big_eq (a b : Int) (M : Mem) : ∃ n : Int, 0 ≤ n ∧ n < 4294967296 ∧ F__law_big [.int a, .int b] M = some (.val (.int n), M) := by
  unfold F__law_big mkFn B__law_big
  by_cases h : a % 4 = 0
  · obtain ⟨v, h0, h1, hv⟩ := tab_ix b
    refine ⟨v, h0, h1, ?_⟩
    simp -implicitDefEqProofs [h, hv]
  · refine ⟨(a * 4294967 + b * 65537) % 4294967296, by omega, by omega, ?_⟩
    simp -implicitDefEqProofs [h]
theorem sm_int {M : Mem} {n : Nat} {i : Int} : Sm M (n + 1) (.int i) (.int i) := .inl ⟨rfl, .inr (.inr (.inl ⟨i, rfl⟩))⟩
/-- equal lists of ints -/
theorem sm_ints {M : Mem} {n : Nat} {b : Bool} {d e : D} {is : List Int} (h1 : sh M d = some (b, is.map .int)) (h2 : sh M e = some (b, is.map .int)) (hl : is.length < 10000) : Sm M (n + 2) d e := by
  refine .inr ⟨b, _, _, h1, h2, by simpa using hl, rfl, fun i x y hx hy => ?_⟩
  rw [hx] at hy; cases hy
  rw [List.getElem?_map] at hx
  cases q : is[i]? with
  | none => rw [q] at hx; cases hx
  | some j => rw [q] at hx; cases hx; exact sm_int
theorem same_ints (is js : List Int) (M : Mem) (h : is = js) (hl : is.length < 10000) : F__law_same 8 [.lst (is.map .int), .lst (js.map .int)] M = some (.val (.bl true), M) := by
  subst h
  rw [same_eq]
  exact same_ok 8 M _ _ (sm_ints (n := 6) rfl rfl hl)
/-- one number -/
noncomputable def inner : Sf := (sCons (sSet 4 (cBin oMod (cCB oInt (aCons (cVar 3) aNil)) (cInt (65536))))
    (sCons (sIf (kOr (kNot (toTr (cCall (F__law_same 8) (aCons (cCall F_four_octets (aCons (cVar 3) aNil)) (aCons (cCall F__law_fours (aCons (cVar 3) aNil)) aNil))))) (kNot (toTr (cCall (F__law_same 8) (aCons (cCall F_two_octets (aCons (cVar 4) aNil)) (aCons (cSl (cCall F__law_fours (aCons (cVar 4) aNil)) (sSome (cInt (2))) sNone) aNil))))))
    (sRet (cBl false))
    sNil)
    (sCons (sSet 5 (cNew "OctetReader" F_OctetReader_init (aCons (cCB oTuple (aCons (cBin oAdd (cCall F__law_fours (aCons (cVar 3) aNil)) (cSl (cCall F__law_fours (aCons (cVar 4) aNil)) (sSome (cInt (2))) sNone)) aNil)) aNil)))
    (sIf (kNot (toTr (cCall (F__law_same 8) (aCons (cLst (aCons (cMeth "OctetReader" "four" F_OctetReader_four (cVar 5) aNil) (aCons (cMeth "OctetReader" "two" F_OctetReader_two (cVar 5) aNil) (aCons (cMeth "OctetReader" "place" F_OctetReader_place (cVar 5) aNil) aNil)))) (aCons (cLst (aCons (cVar 3) (aCons (cVar 4) (aCons (cInt (6)) aNil)))) aNil)))))
    (sRet (cBl false))
    sNil))))
theorem cut2 (a b c d : D) : cutD [a, b, c, d] (some 2) none = [c, d] := rfl
theorem reads (n : Int) (h0 : 0 ≤ n) (h1 : n < 4294967296) (low : Int) (el : low = n % 65536) : ∃ A B C Dd E os : List D,
    (∀ M, F_four_octets [.int n] M = some (.new A, M)) ∧ (∀ M, F__law_fours [.int n] M = some (.new B, M)) ∧ (∀ M, F_two_octets [.int low] M = some (.new C, M)) ∧ (∀ M, F__law_fours [.int low] M = some (.new Dd, M)) ∧
    (∀ M, oSl (some 2) none (.lst Dd) M = some (.new E)) ∧ (∀ M, F__law_same 8 [.lst A, .lst B] M = some (.val (.bl true), M)) ∧ (∀ M, F__law_same 8 [.lst C, .lst E] M = some (.val (.bl true), M)) ∧
    (∀ M, oAdd (.lst B) (.lst E) M = some (.new os)) ∧
    (∀ M : Mem, F_OctetReader_four [.loc M.length] (M ++ [rd os 0]) = some (.val (.int n), M ++ [rd os 4])) ∧ (∀ M : Mem, F_OctetReader_two [.loc M.length] (M ++ [rd os 4]) = some (.val (.int low), M ++ [rd os 6])) := by
  subst el
  refine ⟨_, _, _, _, _, _, four_eq n, fours_eq n, two_eq _, fours_eq _, fun _ => rfl, fun M => ?_, fun M => ?_, fun M => oAdd_lst.trans (if_pos (by show 4 + 2 ≤ sizeLine; rw [sizeLine_eq]; decide)), fun M => ?_, fun M => ?_⟩
  · exact same_ints [n / 65536 / 256, n / 65536 % 256, n % 65536 / 256, n % 65536 % 256] [n / 16777216 % 256, n / 65536 % 256, n / 256 % 256, n % 256] M (by
      have e1 : n / 65536 / 256 = n / 16777216 % 256 := by omega
      have e2 : n % 65536 / 256 = n / 256 % 256 := by omega
      have e3 : n % 65536 % 256 = n % 256 := by omega
      rw [e1, e2, e3]) (by simp)
  · exact same_ints [n % 65536 / 256, n % 65536 % 256] [n % 65536 / 256 % 256, n % 65536 % 256] M (by
      have e1 : n % 65536 / 256 = n % 65536 / 256 % 256 := by omega
      rw [← e1]) (by simp)
  · have f4 := four_r [D.int (n / 16777216 % 256), .int (n / 65536 % 256), .int (n / 256 % 256), .int (n % 256), .int (n % 65536 / 256 % 256), .int (n % 65536 % 256)] 0 (n / 16777216 % 256) (n / 65536 % 256) (n / 256 % 256) (n % 256) M.length (M ++ [rd _ 0]) get_end rfl rfl rfl rfl
    rw [set_end] at f4
    have e4 : ((n / 16777216 % 256 * 256 + n / 65536 % 256) * 65536 + (n / 256 % 256 * 256 + n % 256)) = n := by omega
    rw [e4] at f4
    exact f4
  · have f2 := two_r [D.int (n / 16777216 % 256), .int (n / 65536 % 256), .int (n / 256 % 256), .int (n % 256), .int (n % 65536 / 256 % 256), .int (n % 65536 % 256)] 4 (n % 65536 / 256 % 256) (n % 65536 % 256) M.length (M ++ [rd _ 4]) get_end rfl rfl
    rw [set_end] at f2
    have e2 : (n % 65536 / 256 % 256 * 256 + n % 65536 % 256) = n % 65536 := by omega
    rw [e2] at f2
    exact f2
theorem inner_ok (s0 s1 s2 s4 s5 : Option D) (n : Int) (h0 : 0 ≤ n) (h1 : n < 4294967296) (M : Mem) :
    ∃ s4' s5' M', inner [s0, s1, s2, some (.int n), s4, s5] M = some (.nx, [s0, s1, s2, some (.int n), s4', s5'], M') := by
  obtain ⟨low, el⟩ : ∃ low : Int, low = n % 65536 := ⟨_, rfl⟩
  obtain ⟨A, B, C, Dd, E, os, hA, hB, hC, hD, hE, a1, a2, hos, f4, f2⟩ := reads n h0 h1 low el
  have f4 := f4 M
  have f2 := f2 M
  have f0 := place_r os 6 M.length (M ++ [rd os 6]) get_end
  have fi := init_eq os M.length (M ++ [.ins "OctetReader" []]) get_end
  rw [set_end] at fi
  have a3 := fun M => same_ints [n, low, 6] [n, low, 6] M rfl (by simp)
  simp only [List.map_cons, List.map_nil] at a3
  have ot : ∀ M, oTuple [.lst os] M = some (.val (.tup os)) := fun _ => rfl
  have l4 : ∀ p : Int, List.lookup ("four" : Str) [(("_octets" : Str), D.lst os), (("_place" : Str), D.int p)] = none := fun _ => rfl
  have l2 : ∀ p : Int, List.lookup ("two" : Str) [(("_octets" : Str), D.lst os), (("_place" : Str), D.int p)] = none := fun _ => rfl
  have l0 : ∀ p : Int, List.lookup ("place" : Str) [(("_octets" : Str), D.lst os), (("_place" : Str), D.int p)] = none := fun _ => rfl
  refine ⟨some (.int low), some (.loc M.length), M ++ [rd os 6], ?_⟩
  unfold inner
  unfold rd at f4 f2 f0 fi
  simp -implicitDefEqProofs [← el, hA, hB, hC, hD, hE, a1, a2, hos, ot, fi, l4, l2, l0, f4, f2, f0, a3, rd]
theorem outer_ok (sc : Option D) (x1 x2 x3 x4 x5 : Option D) (cell : Int) (M : Mem) : ∃ y1 y2 y3 y4 y5 M', (sCons (sSet 2 (cCall F__law_draws (aCons (cVar 1) (aCons (cInt (2)) aNil))))
    (sFor (iSeq (cLst (aCons (cBin oMod (cCB oInt (aCons (cVar 1) aNil)) (cInt (4294967296))) (aCons (cCall F__law_big (aCons (cBin oIx (cVar 2) (cInt (0))) (aCons (cBin oIx (cVar 2) (cInt (1))) aNil))) aNil)))) (gNm 3) inner))
    [sc, some (.int cell), x2, x3, x4, x5] M = some (.nx, [sc, y1, y2, y3, y4, y5], M') := by
  obtain ⟨rows, hl, hb, hd⟩ := draws_ok cell 2 (by decide) M
  obtain ⟨a, b, rfl⟩ : ∃ a b, rows = [a, b] := by
    match rows, hl with
    | [a, b], _ => exact ⟨a, b, rfl⟩
  obtain ⟨n, h0, h1, hn⟩ := big_eq a b M
  have hd' : F__law_draws [.int cell, .int 2] M = some (.new [.int a, .int b], M) := by rw [draws_eq]; exact hd
  have i0 : oIx (.lst [.int a, .int b]) (.int 0) M = some (.val (.int a)) := oIx_of (i := 0) rfl rfl
  have i1 : oIx (.lst [.int a, .int b]) (.int 1) M = some (.val (.int b)) := oIx_of (i := 1) rfl rfl
  obtain ⟨c, hc⟩ : ∃ c : Int, c = cell % 4294967296 := ⟨_, rfl⟩
  obtain ⟨u4, u5, M1, e1⟩ := inner_ok sc (some (.int cell)) (some (.lst [.int a, .int b])) x4 x5 c (by omega) (by omega) M
  obtain ⟨v4, v5, M2, e2⟩ := inner_ok sc (some (.int cell)) (some (.lst [.int a, .int b])) u4 u5 n h0 h1 M1
  refine ⟨some (.int cell), some (.lst [.int a, .int b]), some (.int n), v4, v5, M2, ?_⟩
  simp -implicitDefEqProofs [hd', i0, i1, hn, ← hc, gkOf, loopF, e1, e2]
theorem law_true (ns : List Int) (hl : ns.length ≤ 63) : ∃ M, F_law [.scr ns] [] = some (.val (.bl true), M) := by
  obtain ⟨ρ', M', e, _, y1, y2, y3, y4, y5, rfl⟩ := loop_inv (step := stpF none ([D.int 0, .int 255, .int 256, .int 65535, .int 4294967295] ++ ns.map .int) (gNm 1) (sCons (sSet 2 (cCall F__law_draws (aCons (cVar 1) (aCons (cInt (2)) aNil))))
    (sFor (iSeq (cLst (aCons (cBin oMod (cCB oInt (aCons (cVar 1) aNil)) (cInt (4294967296))) (aCons (cCall F__law_big (aCons (cBin oIx (cVar 2) (cInt (0))) (aCons (cBin oIx (cVar 2) (cInt (1))) aNil))) aNil)))) (gNm 3) inner)))
    (fun ds ρ M => (∀ d ∈ ds, ∃ i, d = D.int i) ∧ ∃ y1 y2 y3 y4 y5, ρ = [some (.scr ns), y1, y2, y3, y4, y5]) (by
      rintro d ds ρ M ⟨hd, y1, y2, y3, y4, y5, rfl⟩
      obtain ⟨i, rfl⟩ := hd d List.mem_cons_self
      obtain ⟨z1, z2, z3, z4, z5, M', e⟩ := outer_ok (some (.scr ns)) y1 y2 y3 y4 y5 i M
      refine ⟨.nx, _, M', ?_, .inl rfl, fun d hd' => hd d (List.mem_cons_of_mem _ hd'), z1, z2, z3, z4, z5, rfl⟩
      rw [stp_none]
      simp only [gNm_ap, Option.bind_some, List.set_cons_succ, List.set_cons_zero]
      exact e) ([D.int 0, .int 255, .int 256, .int 65535, .int 4294967295] ++ ns.map .int) [some (.scr ns), none, none, none, none, none] [] ⟨by
        intro d hd
        rcases List.mem_append.mp hd with h | h
        · simp at h; rcases h with rfl | rfl | rfl | rfl | rfl <;> exact ⟨_, rfl⟩
        · obtain ⟨i, _, rfl⟩ := List.mem_map.mp h; exact ⟨i, rfl⟩, none, none, none, none, none, rfl⟩
  refine ⟨(CI.finish [] (.val (.bl true)) M').2, ?_⟩
  have hle : 5 + ns.length ≤ 16777216 := by omega
  have e' := e
  unfold inner at e'
  have fin : ∀ M', (CI.finish [] (.val (.bl true)) M').1 = .val (.bl true) := fun M' => by
    unfold CI.finish; simp [nl]; split <;> rfl
  unfold F_law mkFn B_law
  have ol : ∀ M, oList [.scr ns] M = some (.new (ns.map .int)) := fun _ => rfl
  simp only [List.cons_append, List.nil_append] at e'
  simp -implicitDefEqProofs [ol, hle, gkOf, e']
  exact Prod.ext (fin _) rfl
end K40

namespace K40
open PySem PySem.Spec PyProof.Rows L2 CI
def top (i : Nat) : Stmt := PySem.Challenge.pw_fardesk_k40_octets_numbers.main.body.getD i (.Pass ⟨0, 0, 0, 0⟩)
abbrev s_two_octets : Stmt := top 5
def d_two_octets : He.DefD := ⟨("two_octets", none), "two_octets", "two_octets", defArgs s_two_octets, defBody s_two_octets, defScope s_two_octets, [], []⟩
abbrev s_four_octets : Stmt := top 6
def d_four_octets : He.DefD := ⟨("four_octets", none), "four_octets", "four_octets", defArgs s_four_octets, defBody s_four_octets, defScope s_four_octets, [], []⟩
abbrev s_OctetReader_init : Stmt := inClass (top 7) 0
def d_OctetReader_init : He.DefD := ⟨("OctetReader", some "__init__"), "__init__", "OctetReader.__init__", defArgs s_OctetReader_init, defBody s_OctetReader_init, defScope s_OctetReader_init, [], []⟩
abbrev s_OctetReader_place : Stmt := inClass (top 7) 1
def d_OctetReader_place : He.DefD := ⟨("OctetReader", some "place"), "place", "OctetReader.place", defArgs s_OctetReader_place, defBody s_OctetReader_place, defScope s_OctetReader_place, [], []⟩
abbrev s_OctetReader_one : Stmt := inClass (top 7) 2
def d_OctetReader_one : He.DefD := ⟨("OctetReader", some "one"), "one", "OctetReader.one", defArgs s_OctetReader_one, defBody s_OctetReader_one, defScope s_OctetReader_one, [], []⟩
abbrev s_OctetReader_two : Stmt := inClass (top 7) 3
def d_OctetReader_two : He.DefD := ⟨("OctetReader", some "two"), "two", "OctetReader.two", defArgs s_OctetReader_two, defBody s_OctetReader_two, defScope s_OctetReader_two, [], []⟩
abbrev s_OctetReader_four : Stmt := inClass (top 7) 4
def d_OctetReader_four : He.DefD := ⟨("OctetReader", some "four"), "four", "OctetReader.four", defArgs s_OctetReader_four, defBody s_OctetReader_four, defScope s_OctetReader_four, [], []⟩
abbrev s__law_draws : Stmt := top 9
def d__law_draws : He.DefD := ⟨("_law_draws", none), "_law_draws", "_law_draws", defArgs s__law_draws, defBody s__law_draws, defScope s__law_draws, [], []⟩
abbrev s__law_same : Stmt := top 10
def d__law_same : He.DefD := ⟨("_law_same", none), "_law_same", "_law_same", defArgs s__law_same, defBody s__law_same, defScope s__law_same, [], []⟩
abbrev s__law_fours : Stmt := top 11
def d__law_fours : He.DefD := ⟨("_law_fours", none), "_law_fours", "_law_fours", defArgs s__law_fours, defBody s__law_fours, defScope s__law_fours, [], []⟩
abbrev s__law_big : Stmt := top 12
def d__law_big : He.DefD := ⟨("_law_big", none), "_law_big", "_law_big", defArgs s__law_big, defBody s__law_big, defScope s__law_big, [], []⟩
abbrev s_law : Stmt := top 13
def d_law : He.DefD := ⟨("law", none), "law", "law", defArgs s_law, defBody s_law, defScope s_law, [], []⟩
def fn : List He.DefD := [d_two_octets, d_four_octets, d_OctetReader_init, d_OctetReader_place, d_OctetReader_one, d_OctetReader_two, d_OctetReader_four, d__law_draws, d__law_same, d__law_fours, d__law_big, d_law]
def fa : List He.Fa := ([.cls "OctetReader", .mkr "OctetReader", .meth "OctetReader" "place", .meth "OctetReader" "one", .meth "OctetReader" "two", .meth "OctetReader" "four", .meth "OctetReader" "limited", .meth "OctetReader" "many", .meth "OctetReader" "fours", .meth "OctetReader" "finish", .noat "OctetReader" "_octets", .noat "OctetReader" "_place", .glo "_wall", .glo "two_octets", .glo "four_octets", .glo "_law_draws", .glo "_law_same", .glo "_law_fours", .glo "_law_big", .glo "law", .glo "OctetReader", .free "len", .free "int", .free "tuple", .free "list", .free "str", .free "range", .free "isinstance", .free "bool"] : List He.Fa)
theorem sc__law_draws : FnScope ["_law_cell", "_law_many", "_law_rows", "_law_rest", "_law_state", "_law_k"] ["_law_cell", "_law_many"] (defScope s__law_draws) := ⟨rfl, rfl, rfl, by decide +kernel, rfl, by decide +kernel, by decide +kernel⟩
theorem ok__law_draws {P : Program} {w : World} {K : PySem.W.Frag} {h : Heap} {mg : Str → Option Value} {base : Heap} (KX : K.In h) (G : h.Ns mainGlobals mg) (c : He.SaysD fa fn K) {fd : FuncData} (FD : FunD K "_law_draws" "_law_draws" (defArgs s__law_draws) (defBody s__law_draws) (defScope s__law_draws) [] [] (He.fAd K ("_law_draws", none)) fd) : FnOk P w K mg base CX0 1 (He.fAd K ("_law_draws", none)) fd ["_law_cell", "_law_many"] (spF K F__law_draws) := by
  unfold F__law_draws
  exact fn_ok FD sc__law_draws fun cdv A outer s H E hr => by
    unfold B__law_draws
    exact (cb_cons (cs_setM (ps_set (i := 2) sc__law_draws.nd rfl (by first | exact Or.inl rfl | exact Or.inr rfl) (ce_lst ca_nil)))
    (cb_cons (cs_set (ps_set (i := 3) sc__law_draws.nd rfl (by first | exact Or.inl rfl | exact Or.inr rfl) (ce_callTy ok_int (by rfl) (He.free_ok KX G (c.fact 22 rfl)) (by decide +kernel) (ca_cons (ce_var (pv 0)) ca_nil))))
    (cb_cons (cs_if (ct_cmp ok_ge (ce_var (pv 3)) (ce_bin ok_pow ce_int ce_int) (nomark _))
    (cb_one (cs_for PassesOwn.never rfl (ci_rg1 (by rfl) (He.free_ok KX G (c.fact 26 rfl)) (ce_var (pv 1))) (cg_of (pg_name (i := 5) sc__law_draws.nd rfl (by first | exact Or.inl rfl | exact Or.inr rfl)))
    (cb_one (cs_if (ct_cmp ok_gt (ce_var (pv 3)) ce_int (nomark _))
    (cb_cons (cs_expr (ce_bm PySem.F.plainAttrs_list PySem.F.slot_list_append PySem.F.type_list_append ok_append (ce_var (pv 2)) (ca_cons (ce_bin ok_mod (ce_callTy ok_int (by rfl) (He.free_ok KX G (c.fact 22 rfl)) (by decide +kernel) (ca_cons (ce_var (pv 3)) ca_nil)) ce_int) ca_nil)))
    (cb_one (cs_set (ps_set (i := 3) sc__law_draws.nd rfl (by first | exact Or.inl rfl | exact Or.inr rfl) (ce_bin ok_div (ce_var (pv 3)) ce_int)))))
    cb_nil))))
    cb_nil)
    (cb_cons (cs_set (ps_set (i := 4) sc__law_draws.nd rfl (by first | exact Or.inl rfl | exact Or.inr rfl) (ce_bin ok_mod (ce_callTy ok_int (by rfl) (He.free_ok KX G (c.fact 22 rfl)) (by decide +kernel) (ca_cons (ce_bin ok_add (ce_bin ok_mulI (ce_callTy ok_int (by rfl) (He.free_ok KX G (c.fact 22 rfl)) (by decide +kernel) (ca_cons (ce_var (pv 0)) ca_nil)) ce_int) ce_int) ca_nil)) ce_int)))
    (cb_cons (cs_for PassesOwn.never rfl (ci_rg1 (by rfl) (He.free_ok KX G (c.fact 26 rfl)) (ce_var (pv 1))) (cg_of (pg_name (i := 5) sc__law_draws.nd rfl (by first | exact Or.inl rfl | exact Or.inr rfl)))
    (cb_cons (cs_set (ps_set (i := 4) sc__law_draws.nd rfl (by first | exact Or.inl rfl | exact Or.inr rfl) (ce_bin ok_mod (ce_callTy ok_int (by rfl) (He.free_ok KX G (c.fact 22 rfl)) (by decide +kernel) (ca_cons (ce_bin ok_add (ce_bin ok_add (ce_bin ok_mulI (ce_var (pv 4)) ce_int) (ce_bin ok_mulI (ce_var (pv 5)) ce_int)) ce_int) ca_nil)) ce_int)))
    (cb_one (cs_if (ct_cmp ok_lt (ce_callB ok_len (by rfl) (He.free_ok KX G (c.fact 21 rfl)) (by decide +kernel) (ca_cons (ce_var (pv 2)) ca_nil)) (ce_var (pv 1)) (nomark _))
    (cb_one (cs_expr (ce_bm PySem.F.plainAttrs_list PySem.F.slot_list_append PySem.F.type_list_append ok_append (ce_var (pv 2)) (ca_cons (ce_bin ok_mod (ce_callTy ok_int (by rfl) (He.free_ok KX G (c.fact 22 rfl)) (by decide +kernel) (ca_cons (ce_bin ok_mod (ce_callTy ok_int (by rfl) (He.free_ok KX G (c.fact 22 rfl)) (by decide +kernel) (ca_cons (ce_bin ok_add (ce_bin ok_mulI (ce_var (pv 4)) ce_int) ce_int) ca_nil)) ce_int) ca_nil)) ce_int) ca_nil))))
    cb_nil))))
    (cb_one (cs_ret (ce_var (pv 2)))))))))
theorem sc__law_big : FnScope ["_law_first", "_law_second"] ["_law_first", "_law_second"] (defScope s__law_big) := ⟨rfl, rfl, rfl, by decide +kernel, rfl, by decide +kernel, by decide +kernel⟩
theorem ok__law_big {P : Program} {w : World} {K : PySem.W.Frag} {h : Heap} {mg : Str → Option Value} {base : Heap} (KX : K.In h) (G : h.Ns mainGlobals mg) (c : He.SaysD fa fn K) {fd : FuncData} (FD : FunD K "_law_big" "_law_big" (defArgs s__law_big) (defBody s__law_big) (defScope s__law_big) [] [] (He.fAd K ("_law_big", none)) fd) : FnOk P w K mg base CX0 1 (He.fAd K ("_law_big", none)) fd ["_law_first", "_law_second"] (spF K F__law_big) := by
  unfold F__law_big
  exact fn_ok FD sc__law_big fun cdv A outer s H E hr => by
    unfold B__law_big
    exact (cb_cons (cs_if (ct_cmp (ok_eq hr.units) (ce_bin ok_mod (ce_callTy ok_int (by rfl) (He.free_ok KX G (c.fact 22 rfl)) (by decide +kernel) (ca_cons (ce_var (pv 0)) ca_nil)) ce_int) ce_int (nomark _))
    (cb_one (cs_ret (ce_ix (ce_lst (ca_cons ce_int (ca_cons ce_int (ca_cons ce_int (ca_cons ce_int (ca_cons ce_int (ca_cons ce_int (ca_cons ce_int (ca_cons ce_int ca_nil))))))))) (ce_bin ok_mod (ce_callTy ok_int (by rfl) (He.free_ok KX G (c.fact 22 rfl)) (by decide +kernel) (ca_cons (ce_var (pv 1)) ca_nil)) ce_int) (fun _ _ => rfl))))
    cb_nil)
    (cb_one (cs_ret (ce_bin ok_mod (ce_callTy ok_int (by rfl) (He.free_ok KX G (c.fact 22 rfl)) (by decide +kernel) (ca_cons (ce_bin ok_add (ce_bin ok_mulI (ce_callTy ok_int (by rfl) (He.free_ok KX G (c.fact 22 rfl)) (by decide +kernel) (ca_cons (ce_var (pv 0)) ca_nil)) ce_int) (ce_bin ok_mulI (ce_callTy ok_int (by rfl) (He.free_ok KX G (c.fact 22 rfl)) (by decide +kernel) (ca_cons (ce_var (pv 1)) ca_nil)) ce_int)) ca_nil)) ce_int))))
theorem sc_OctetReader_init : FnScope ["self", "octets"] ["self", "octets"] (defScope s_OctetReader_init) := ⟨rfl, rfl, rfl, by decide +kernel, rfl, by decide +kernel, by decide +kernel⟩
theorem ok_OctetReader_init {P : Program} {w : World} {K : PySem.W.Frag} {h : Heap} {mg : Str → Option Value} {base : Heap} (KX : K.In h) (G : h.Ns mainGlobals mg) (c : He.SaysD fa fn K) {fd : FuncData} (FD : FunD K "__init__" "OctetReader.__init__" (defArgs s_OctetReader_init) (defBody s_OctetReader_init) (defScope s_OctetReader_init) [] [] (He.fAd K ("OctetReader", some "__init__")) fd) : FnOk P w K mg base CX0 1 (He.fAd K ("OctetReader", some "__init__")) fd ["self", "octets"] (spF K F_OctetReader_init) := by
  unfold F_OctetReader_init
  exact fn_ok FD sc_OctetReader_init fun cdv A outer s H E hr => by
    unfold B_OctetReader_init
    exact (cb_cons (cs_fld (ce_var (pv 0)) (ce_callTy ok_list (by rfl) (He.free_ok KX G (c.fact 24 rfl)) (by decide +kernel) (ca_cons (ce_var (pv 1)) ca_nil)) (by
      intro c0 hc0
      simp only [List.mem_cons, List.not_mem_nil, or_false] at hc0
      subst hc0; exact ⟨He.cls_ok (c.fact 0 rfl), He.noat_ok (c.fact 10 rfl)⟩))
    (cb_one (cs_fld (ce_var (pv 0)) ce_int (by
      intro c0 hc0
      simp only [List.mem_cons, List.not_mem_nil, or_false] at hc0
      subst hc0; exact ⟨He.cls_ok (c.fact 0 rfl), He.noat_ok (c.fact 11 rfl)⟩))))
theorem sc__law_same : FnScope ["_law_told", "_law_due", "_law_k"] ["_law_told", "_law_due"] (defScope s__law_same) := ⟨rfl, rfl, rfl, by decide +kernel, rfl, by decide +kernel, by decide +kernel⟩
theorem ok__law_same {P : Program} {w : World} {K : PySem.W.Frag} {h : Heap} {mg : Str → Option Value} {base : Heap} (KX : K.In h) (G : h.Ns mainGlobals mg) (c : He.SaysD fa fn K) {fd : FuncData} (FD : FunD K "_law_same" "_law_same" (defArgs s__law_same) (defBody s__law_same) (defScope s__law_same) [] [] (He.fAd K ("_law_same", none)) fd) : ∀ n, FnOk P w K mg base CX0 (n + 1) (He.fAd K ("_law_same", none)) fd ["_law_told", "_law_due"] (spF K (F__law_same n))
  | 0 => ⟨fun vs H Q E ⟨_, _, _, _, _, _, _, h, _⟩ => (nomatch h), fun A outer s H args us vs Q E _ _ _ _ ⟨_, _, _, _, _, _, _, h, _⟩ => (nomatch h)⟩
  | n + 1 => by
    have GS := ok__law_same (P := P) (w := w) (base := base) KX G c FD n
    have bS : Binds K fd ["_law_told", "_law_due"] [] := FD.bindsN fun _ _ _ _ _ _ us hl => match us, hl with | [_, _], _ => rfl
    have kp__law_same := FD.kp
    have e : n + 1 + 1 = (n + 1) + 1 := by omega
    rw [e]
    unfold F__law_same
    exact fn_ok FD sc__law_same fun cdv A outer s H E hr => by
      unfold B__law_same
      exact (cb_cons (cs_if (ct_cmp ok_is (ce_var (pv 1)) ce_non (nomark _))
      (cb_one (cs_ret (ce_cmp ok_is (ce_var (pv 0)) ce_non (nomark _))))
      cb_nil)
      (cb_cons (cs_if (ct_cmp ok_is (ce_var (pv 1)) ce_bl (nomark _))
      (cb_one (cs_ret (ce_cmp ok_is (ce_var (pv 0)) ce_bl (nomark _))))
      cb_nil)
      (cb_cons (cs_if (ct_cmp ok_is (ce_var (pv 1)) ce_bl (nomark _))
      (cb_one (cs_ret (ce_cmp ok_is (ce_var (pv 0)) ce_bl (nomark _))))
      cb_nil)
      (cb_cons (cs_if (ct_truth (ce_isi (by rfl) (He.free_ok KX G (c.fact 27 rfl)) (ce_var (pv 1)) (pe_bltn (by rfl) (He.free_ok KX G (c.fact 22 rfl)) (by decide +kernel) rfl)) (fun _ => rfl))
      (cb_one (cs_ret (ce_and (ce_isi (by rfl) (He.free_ok KX G (c.fact 27 rfl)) (ce_var (pv 0)) (pe_bltn (by rfl) (He.free_ok KX G (c.fact 22 rfl)) (by decide +kernel) rfl)) (ce_and (ce_not (ce_isi (by rfl) (He.free_ok KX G (c.fact 27 rfl)) (ce_var (pv 0)) (pe_bltn (by rfl) (He.free_ok KX G (c.fact 28 rfl)) (by decide +kernel) rfl))) (ce_one (ce_cmp (ok_eq hr.units) (ce_var (pv 0)) (ce_var (pv 1)) (nomark _)))))))
      cb_nil)
      (cb_cons (cs_if (ct_truth (ce_isi (by rfl) (He.free_ok KX G (c.fact 27 rfl)) (ce_var (pv 1)) (pe_bltn (by rfl) (He.free_ok KX G (c.fact 25 rfl)) (by decide +kernel) rfl)) (fun _ => rfl))
      (cb_one (cs_ret (ce_and (ce_isi (by rfl) (He.free_ok KX G (c.fact 27 rfl)) (ce_var (pv 0)) (pe_bltn (by rfl) (He.free_ok KX G (c.fact 25 rfl)) (by decide +kernel) rfl)) (ce_one (ce_cmp (ok_eq hr.units) (ce_var (pv 0)) (ce_var (pv 1)) (nomark _))))))
      cb_nil)
      (cb_cons (cs_if (ct_w (cw_and (ct_truth (ce_isi (by rfl) (He.free_ok KX G (c.fact 27 rfl)) (ce_var (pv 1)) (pe_bltn (by rfl) (He.free_ok KX G (c.fact 23 rfl)) (by decide +kernel) rfl)) (fun _ => rfl)) (cw_and1 (ct_not (ct_truth (ce_isi (by rfl) (He.free_ok KX G (c.fact 27 rfl)) (ce_var (pv 0)) (pe_bltn (by rfl) (He.free_ok KX G (c.fact 23 rfl)) (by decide +kernel) rfl)) (fun _ => rfl))))))
      (cb_one (cs_ret ce_bl))
      cb_nil)
      (cb_cons (cs_if (ct_w (cw_and (ct_truth (ce_isi (by rfl) (He.free_ok KX G (c.fact 27 rfl)) (ce_var (pv 1)) (pe_bltn (by rfl) (He.free_ok KX G (c.fact 24 rfl)) (by decide +kernel) rfl)) (fun _ => rfl)) (cw_and1 (ct_not (ct_truth (ce_isi (by rfl) (He.free_ok KX G (c.fact 27 rfl)) (ce_var (pv 0)) (pe_bltn (by rfl) (He.free_ok KX G (c.fact 24 rfl)) (by decide +kernel) rfl)) (fun _ => rfl))))))
      (cb_one (cs_ret ce_bl))
      cb_nil)
      (cb_cons (cs_if (ct_cmp (ok_ne hr.units) (ce_callB ok_len (by rfl) (He.free_ok KX G (c.fact 21 rfl)) (by decide +kernel) (ca_cons (ce_var (pv 0)) ca_nil)) (ce_callB ok_len (by rfl) (He.free_ok KX G (c.fact 21 rfl)) (by decide +kernel) (ca_cons (ce_var (pv 1)) ca_nil)) (nomark _))
      (cb_one (cs_ret ce_bl))
      cb_nil)
      (cb_cons (cs_for PassesOwn.never rfl (ci_rg1 (by rfl) (He.free_ok KX G (c.fact 26 rfl)) (ce_callB ok_len (by rfl) (He.free_ok KX G (c.fact 21 rfl)) (by decide +kernel) (ca_cons (ce_var (pv 1)) ca_nil))) (cg_of (pg_name (i := 2) sc__law_same.nd rfl (by first | exact Or.inl rfl | exact Or.inr rfl)))
      (cb_one (cs_if (ct_not (ct_truth (ce_call GS hr (by rfl) (He.glo_ok KX G (c.fact 16 rfl)) kp__law_same bS (ca_cons (ce_ix (ce_var (pv 0)) (ce_var (pv 2)) (fun _ _ => rfl)) (ca_cons (ce_ix (ce_var (pv 1)) (ce_var (pv 2)) (fun _ _ => rfl)) ca_nil))) (fun _ => rfl)))
      (cb_one (cs_ret ce_bl))
      cb_nil)))
      (cb_one (cs_ret ce_bl)))))))))))
theorem sc_two_octets : FnScope ["n"] ["n"] (defScope s_two_octets) := ⟨rfl, rfl, rfl, by decide +kernel, rfl, by decide +kernel, by decide +kernel⟩
theorem ok_two_octets {P : Program} {w : World} {K : PySem.W.Frag} {h : Heap} {mg : Str → Option Value} {base : Heap} (KX : K.In h) (G : h.Ns mainGlobals mg) (c : He.SaysD fa fn K) {fd : FuncData} (FD : FunD K "two_octets" "two_octets" (defArgs s_two_octets) (defBody s_two_octets) (defScope s_two_octets) [] [] (He.fAd K ("two_octets", none)) fd) : FnOk P w K mg base CX0 1 (He.fAd K ("two_octets", none)) fd ["n"] (spF K F_two_octets) := by
  unfold F_two_octets
  exact fn_ok FD sc_two_octets fun cdv A outer s H E hr => by
    unfold B_two_octets
    exact (cb_one (cs_ret (ce_lst (ca_cons (ce_bin ok_div (ce_var (pv 0)) ce_int) (ca_cons (ce_bin ok_mod (ce_callTy ok_int (by rfl) (He.free_ok KX G (c.fact 22 rfl)) (by decide +kernel) (ca_cons (ce_var (pv 0)) ca_nil)) ce_int) ca_nil)))))
theorem sc_four_octets : FnScope ["n"] ["n"] (defScope s_four_octets) := ⟨rfl, rfl, rfl, by decide +kernel, rfl, by decide +kernel, by decide +kernel⟩
theorem ok_four_octets {P : Program} {w : World} {K : PySem.W.Frag} {h : Heap} {mg : Str → Option Value} {base : Heap} (KX : K.In h) (G : h.Ns mainGlobals mg) (c : He.SaysD fa fn K) {fd : FuncData} (FD : FunD K "four_octets" "four_octets" (defArgs s_four_octets) (defBody s_four_octets) (defScope s_four_octets) [] [] (He.fAd K ("four_octets", none)) fd) : FnOk P w K mg base CX0 2 (He.fAd K ("four_octets", none)) fd ["n"] (spF K F_four_octets) := by
  obtain ⟨fd_two_octets, FD_two_octets⟩ := c.def_ 0 (d := d_two_octets) rfl
  have G_two_octets := ok_two_octets (P := P) (w := w) (base := base) KX G c FD_two_octets
  have b_two_octets : Binds K fd_two_octets ["n"] [] := FD_two_octets.bindsN fun _ _ _ _ _ _ us hl => match us, hl with | [_], _ => rfl
  have kp_two_octets := FD_two_octets.kp
  unfold F_four_octets
  exact fn_ok FD sc_four_octets fun cdv A outer s H E hr => by
    unfold B_four_octets
    exact (cb_one (cs_ret (ce_bin ok_add (ce_call G_two_octets hr (by rfl) (He.glo_ok KX G (c.fact 13 rfl)) kp_two_octets b_two_octets (ca_cons (ce_bin ok_div (ce_var (pv 0)) ce_int) ca_nil)) (ce_call G_two_octets hr (by rfl) (He.glo_ok KX G (c.fact 13 rfl)) kp_two_octets b_two_octets (ca_cons (ce_bin ok_mod (ce_callTy ok_int (by rfl) (He.free_ok KX G (c.fact 22 rfl)) (by decide +kernel) (ca_cons (ce_var (pv 0)) ca_nil)) ce_int) ca_nil)))))
theorem sc__law_fours : FnScope ["_law_n"] ["_law_n"] (defScope s__law_fours) := ⟨rfl, rfl, rfl, by decide +kernel, rfl, by decide +kernel, by decide +kernel⟩
theorem ok__law_fours {P : Program} {w : World} {K : PySem.W.Frag} {h : Heap} {mg : Str → Option Value} {base : Heap} (KX : K.In h) (G : h.Ns mainGlobals mg) (c : He.SaysD fa fn K) {fd : FuncData} (FD : FunD K "_law_fours" "_law_fours" (defArgs s__law_fours) (defBody s__law_fours) (defScope s__law_fours) [] [] (He.fAd K ("_law_fours", none)) fd) : FnOk P w K mg base CX0 1 (He.fAd K ("_law_fours", none)) fd ["_law_n"] (spF K F__law_fours) := by
  unfold F__law_fours
  exact fn_ok FD sc__law_fours fun cdv A outer s H E hr => by
    unfold B__law_fours
    exact (cb_one (cs_ret (ce_lst (ca_cons (ce_bin ok_mod (ce_callTy ok_int (by rfl) (He.free_ok KX G (c.fact 22 rfl)) (by decide +kernel) (ca_cons (ce_bin ok_div (ce_var (pv 0)) ce_int) ca_nil)) ce_int) (ca_cons (ce_bin ok_mod (ce_callTy ok_int (by rfl) (He.free_ok KX G (c.fact 22 rfl)) (by decide +kernel) (ca_cons (ce_bin ok_div (ce_var (pv 0)) ce_int) ca_nil)) ce_int) (ca_cons (ce_bin ok_mod (ce_callTy ok_int (by rfl) (He.free_ok KX G (c.fact 22 rfl)) (by decide +kernel) (ca_cons (ce_bin ok_div (ce_var (pv 0)) ce_int) ca_nil)) ce_int) (ca_cons (ce_bin ok_mod (ce_callTy ok_int (by rfl) (He.free_ok KX G (c.fact 22 rfl)) (by decide +kernel) (ca_cons (ce_var (pv 0)) ca_nil)) ce_int) ca_nil)))))))
theorem sc_OctetReader_one : FnScope ["self"] ["self"] (defScope s_OctetReader_one) := ⟨rfl, rfl, rfl, by decide +kernel, rfl, by decide +kernel, by decide +kernel⟩
theorem ok_OctetReader_one {P : Program} {w : World} {K : PySem.W.Frag} {h : Heap} {mg : Str → Option Value} {base : Heap} (KX : K.In h) (G : h.Ns mainGlobals mg) (c : He.SaysD fa fn K) {fd : FuncData} (FD : FunD K "one" "OctetReader.one" (defArgs s_OctetReader_one) (defBody s_OctetReader_one) (defScope s_OctetReader_one) [] [] (He.fAd K ("OctetReader", some "one")) fd) : FnOk P w K mg base CX0 1 (He.fAd K ("OctetReader", some "one")) fd ["self"] (spF K F_OctetReader_one) := by
  unfold F_OctetReader_one
  exact fn_ok FD sc_OctetReader_one fun cdv A outer s H E hr => by
    unfold B_OctetReader_one
    exact (cb_cons (cs_if (ct_cmp ok_ge (ce_fld (ce_var (pv 0)) (by
      intro c0 hc0
      simp only [List.mem_cons, List.not_mem_nil, or_false] at hc0
      subst hc0; exact ⟨He.cls_ok (c.fact 0 rfl), He.noat_ok (c.fact 11 rfl)⟩)) (ce_callB ok_len (by rfl) (He.free_ok KX G (c.fact 21 rfl)) (by decide +kernel) (ca_cons (ce_fld (ce_var (pv 0)) (by
      intro c0 hc0
      simp only [List.mem_cons, List.not_mem_nil, or_false] at hc0
      subst hc0; exact ⟨He.cls_ok (c.fact 0 rfl), He.noat_ok (c.fact 10 rfl)⟩)) ca_nil)) (nomark _))
    (cb_one cs_never)
    cb_nil)
    (cb_cons (cs_fld (ce_var (pv 0)) (ce_bin ok_add (ce_fld (ce_var (pv 0)) (by
      intro c0 hc0
      simp only [List.mem_cons, List.not_mem_nil, or_false] at hc0
      subst hc0; exact ⟨He.cls_ok (c.fact 0 rfl), He.noat_ok (c.fact 11 rfl)⟩)) ce_int) (by
      intro c0 hc0
      simp only [List.mem_cons, List.not_mem_nil, or_false] at hc0
      subst hc0; exact ⟨He.cls_ok (c.fact 0 rfl), He.noat_ok (c.fact 11 rfl)⟩))
    (cb_one (cs_ret (ce_ix (ce_fld (ce_var (pv 0)) (by
      intro c0 hc0
      simp only [List.mem_cons, List.not_mem_nil, or_false] at hc0
      subst hc0; exact ⟨He.cls_ok (c.fact 0 rfl), He.noat_ok (c.fact 10 rfl)⟩)) (ce_bin ok_sub (ce_fld (ce_var (pv 0)) (by
      intro c0 hc0
      simp only [List.mem_cons, List.not_mem_nil, or_false] at hc0
      subst hc0; exact ⟨He.cls_ok (c.fact 0 rfl), He.noat_ok (c.fact 11 rfl)⟩)) ce_int) (fun _ _ => rfl))))))
theorem sc_OctetReader_two : FnScope ["self", "high"] ["self"] (defScope s_OctetReader_two) := ⟨rfl, rfl, rfl, by decide +kernel, rfl, by decide +kernel, by decide +kernel⟩
theorem ok_OctetReader_two {P : Program} {w : World} {K : PySem.W.Frag} {h : Heap} {mg : Str → Option Value} {base : Heap} (KX : K.In h) (G : h.Ns mainGlobals mg) (c : He.SaysD fa fn K) {fd : FuncData} (FD : FunD K "two" "OctetReader.two" (defArgs s_OctetReader_two) (defBody s_OctetReader_two) (defScope s_OctetReader_two) [] [] (He.fAd K ("OctetReader", some "two")) fd) : FnOk P w K mg base CX0 2 (He.fAd K ("OctetReader", some "two")) fd ["self"] (spF K F_OctetReader_two) := by
  obtain ⟨fd_OctetReader_one, FD_OctetReader_one⟩ := c.def_ 4 (d := d_OctetReader_one) rfl
  have G_OctetReader_one := ok_OctetReader_one (P := P) (w := w) (base := base) KX G c FD_OctetReader_one
  have b_OctetReader_one : Binds K fd_OctetReader_one ["self"] [] := FD_OctetReader_one.bindsN fun _ _ _ _ _ _ us hl => match us, hl with | [_], _ => rfl
  have kp_OctetReader_one := FD_OctetReader_one.kp
  unfold F_OctetReader_two
  exact fn_ok FD sc_OctetReader_two fun cdv A outer s H E hr => by
    unfold B_OctetReader_two
    exact (cb_cons (cs_set (ps_set (i := 1) sc_OctetReader_two.nd rfl (by first | exact Or.inl rfl | exact Or.inr rfl) (ce_meth0 (ce_var (pv 0)) (He.cls_ok (c.fact 0 rfl)) (He.meth_ok (c.fact 3 rfl)) G_OctetReader_one hr b_OctetReader_one)))
    (cb_one (cs_ret (ce_bin ok_add (ce_bin ok_mulI (ce_var (pv 1)) ce_int) (ce_meth0 (ce_var (pv 0)) (He.cls_ok (c.fact 0 rfl)) (He.meth_ok (c.fact 3 rfl)) G_OctetReader_one hr b_OctetReader_one)))))
theorem sc_OctetReader_four : FnScope ["self", "high"] ["self"] (defScope s_OctetReader_four) := ⟨rfl, rfl, rfl, by decide +kernel, rfl, by decide +kernel, by decide +kernel⟩
theorem ok_OctetReader_four {P : Program} {w : World} {K : PySem.W.Frag} {h : Heap} {mg : Str → Option Value} {base : Heap} (KX : K.In h) (G : h.Ns mainGlobals mg) (c : He.SaysD fa fn K) {fd : FuncData} (FD : FunD K "four" "OctetReader.four" (defArgs s_OctetReader_four) (defBody s_OctetReader_four) (defScope s_OctetReader_four) [] [] (He.fAd K ("OctetReader", some "four")) fd) : FnOk P w K mg base CX0 3 (He.fAd K ("OctetReader", some "four")) fd ["self"] (spF K F_OctetReader_four) := by
  obtain ⟨fd_OctetReader_two, FD_OctetReader_two⟩ := c.def_ 5 (d := d_OctetReader_two) rfl
  have G_OctetReader_two := ok_OctetReader_two (P := P) (w := w) (base := base) KX G c FD_OctetReader_two
  have b_OctetReader_two : Binds K fd_OctetReader_two ["self"] [] := FD_OctetReader_two.bindsN fun _ _ _ _ _ _ us hl => match us, hl with | [_], _ => rfl
  have kp_OctetReader_two := FD_OctetReader_two.kp
  unfold F_OctetReader_four
  exact fn_ok FD sc_OctetReader_four fun cdv A outer s H E hr => by
    unfold B_OctetReader_four
    exact (cb_cons (cs_set (ps_set (i := 1) sc_OctetReader_four.nd rfl (by first | exact Or.inl rfl | exact Or.inr rfl) (ce_meth0 (ce_var (pv 0)) (He.cls_ok (c.fact 0 rfl)) (He.meth_ok (c.fact 4 rfl)) G_OctetReader_two hr b_OctetReader_two)))
    (cb_one (cs_ret (ce_bin ok_add (ce_bin ok_mulI (ce_var (pv 1)) ce_int) (ce_meth0 (ce_var (pv 0)) (He.cls_ok (c.fact 0 rfl)) (He.meth_ok (c.fact 4 rfl)) G_OctetReader_two hr b_OctetReader_two)))))
theorem sc_OctetReader_place : FnScope ["self"] ["self"] (defScope s_OctetReader_place) := ⟨rfl, rfl, rfl, by decide +kernel, rfl, by decide +kernel, by decide +kernel⟩
theorem ok_OctetReader_place {P : Program} {w : World} {K : PySem.W.Frag} {h : Heap} {mg : Str → Option Value} {base : Heap} (KX : K.In h) (G : h.Ns mainGlobals mg) (c : He.SaysD fa fn K) {fd : FuncData} (FD : FunD K "place" "OctetReader.place" (defArgs s_OctetReader_place) (defBody s_OctetReader_place) (defScope s_OctetReader_place) [] [] (He.fAd K ("OctetReader", some "place")) fd) : FnOk P w K mg base CX0 1 (He.fAd K ("OctetReader", some "place")) fd ["self"] (spF K F_OctetReader_place) := by
  unfold F_OctetReader_place
  exact fn_ok FD sc_OctetReader_place fun cdv A outer s H E hr => by
    unfold B_OctetReader_place
    exact (cb_one (cs_ret (ce_fld (ce_var (pv 0)) (by
      intro c0 hc0
      simp only [List.mem_cons, List.not_mem_nil, or_false] at hc0
      subst hc0; exact ⟨He.cls_ok (c.fact 0 rfl), He.noat_ok (c.fact 11 rfl)⟩))))
theorem sc_law : FnScope ["_law_script", "_law_cell", "_law_draws_here", "_law_n", "_law_low", "_law_reader"] ["_law_script"] (defScope s_law) := ⟨rfl, rfl, rfl, by decide +kernel, rfl, by decide +kernel, by decide +kernel⟩
theorem ok_law {P : Program} {w : World} {K : PySem.W.Frag} {h : Heap} {mg : Str → Option Value} {base : Heap} (KX : K.In h) (G : h.Ns mainGlobals mg) (c : He.SaysD fa fn K) {fd : FuncData} (FD : FunD K "law" "law" (defArgs s_law) (defBody s_law) (defScope s_law) [] [] (He.fAd K ("law", none)) fd) : FnOk P w K mg base CX0 10 (He.fAd K ("law", none)) fd ["_law_script"] (spF K F_law) := by
  obtain ⟨fd__law_draws, FD__law_draws⟩ := c.def_ 7 (d := d__law_draws) rfl
  have G__law_draws := ok__law_draws (P := P) (w := w) (base := base) KX G c FD__law_draws
  have b__law_draws : Binds K fd__law_draws ["_law_cell", "_law_many"] [] := FD__law_draws.bindsN fun _ _ _ _ _ _ us hl => match us, hl with | [_, _], _ => rfl
  have kp__law_draws := FD__law_draws.kp
  obtain ⟨fd__law_big, FD__law_big⟩ := c.def_ 10 (d := d__law_big) rfl
  have G__law_big := ok__law_big (P := P) (w := w) (base := base) KX G c FD__law_big
  have b__law_big : Binds K fd__law_big ["_law_first", "_law_second"] [] := FD__law_big.bindsN fun _ _ _ _ _ _ us hl => match us, hl with | [_, _], _ => rfl
  have kp__law_big := FD__law_big.kp
  obtain ⟨fd_OctetReader_init, FD_OctetReader_init⟩ := c.def_ 2 (d := d_OctetReader_init) rfl
  have G_OctetReader_init := ok_OctetReader_init (P := P) (w := w) (base := base) KX G c FD_OctetReader_init
  have b_OctetReader_init : Binds K fd_OctetReader_init ["self", "octets"] [] := FD_OctetReader_init.bindsN fun _ _ _ _ _ _ us hl => match us, hl with | [_, _], _ => rfl
  have kp_OctetReader_init := FD_OctetReader_init.kp
  obtain ⟨fd__law_same, FD__law_same⟩ := c.def_ 8 (d := d__law_same) rfl
  have G__law_same := ok__law_same (P := P) (w := w) (base := base) KX G c FD__law_same 8
  have b__law_same : Binds K fd__law_same ["_law_told", "_law_due"] [] := FD__law_same.bindsN fun _ _ _ _ _ _ us hl => match us, hl with | [_, _], _ => rfl
  have kp__law_same := FD__law_same.kp
  obtain ⟨fd_four_octets, FD_four_octets⟩ := c.def_ 1 (d := d_four_octets) rfl
  have G_four_octets := ok_four_octets (P := P) (w := w) (base := base) KX G c FD_four_octets
  have b_four_octets : Binds K fd_four_octets ["n"] [] := FD_four_octets.bindsN fun _ _ _ _ _ _ us hl => match us, hl with | [_], _ => rfl
  have kp_four_octets := FD_four_octets.kp
  obtain ⟨fd__law_fours, FD__law_fours⟩ := c.def_ 9 (d := d__law_fours) rfl
  have G__law_fours := ok__law_fours (P := P) (w := w) (base := base) KX G c FD__law_fours
  have b__law_fours : Binds K fd__law_fours ["_law_n"] [] := FD__law_fours.bindsN fun _ _ _ _ _ _ us hl => match us, hl with | [_], _ => rfl
  have kp__law_fours := FD__law_fours.kp
  obtain ⟨fd_two_octets, FD_two_octets⟩ := c.def_ 0 (d := d_two_octets) rfl
  have G_two_octets := ok_two_octets (P := P) (w := w) (base := base) KX G c FD_two_octets
  have b_two_octets : Binds K fd_two_octets ["n"] [] := FD_two_octets.bindsN fun _ _ _ _ _ _ us hl => match us, hl with | [_], _ => rfl
  have kp_two_octets := FD_two_octets.kp
  obtain ⟨fd_OctetReader_four, FD_OctetReader_four⟩ := c.def_ 6 (d := d_OctetReader_four) rfl
  have G_OctetReader_four := ok_OctetReader_four (P := P) (w := w) (base := base) KX G c FD_OctetReader_four
  have b_OctetReader_four : Binds K fd_OctetReader_four ["self"] [] := FD_OctetReader_four.bindsN fun _ _ _ _ _ _ us hl => match us, hl with | [_], _ => rfl
  have kp_OctetReader_four := FD_OctetReader_four.kp
  obtain ⟨fd_OctetReader_two, FD_OctetReader_two⟩ := c.def_ 5 (d := d_OctetReader_two) rfl
  have G_OctetReader_two := ok_OctetReader_two (P := P) (w := w) (base := base) KX G c FD_OctetReader_two
  have b_OctetReader_two : Binds K fd_OctetReader_two ["self"] [] := FD_OctetReader_two.bindsN fun _ _ _ _ _ _ us hl => match us, hl with | [_], _ => rfl
  have kp_OctetReader_two := FD_OctetReader_two.kp
  obtain ⟨fd_OctetReader_place, FD_OctetReader_place⟩ := c.def_ 3 (d := d_OctetReader_place) rfl
  have G_OctetReader_place := ok_OctetReader_place (P := P) (w := w) (base := base) KX G c FD_OctetReader_place
  have b_OctetReader_place : Binds K fd_OctetReader_place ["self"] [] := FD_OctetReader_place.bindsN fun _ _ _ _ _ _ us hl => match us, hl with | [_], _ => rfl
  have kp_OctetReader_place := FD_OctetReader_place.kp
  unfold F_law
  exact fn_ok FD sc_law fun cdv A outer s H E hr => by
    unfold B_law
    exact (cb_cons (cs_for PassesOwn.never rfl (ci_seq (ce_bin ok_add (ce_lst (ca_cons ce_int (ca_cons ce_int (ca_cons ce_int (ca_cons ce_int (ca_cons ce_int ca_nil)))))) (ce_callTy ok_list (by rfl) (He.free_ok KX G (c.fact 24 rfl)) (by decide +kernel) (ca_cons (ce_var (pv 0)) ca_nil)))) (cg_of (pg_name (i := 1) sc_law.nd rfl (by first | exact Or.inl rfl | exact Or.inr rfl)))
    (cb_cons (cs_set (ps_set (i := 2) sc_law.nd rfl (by first | exact Or.inl rfl | exact Or.inr rfl) (ce_call G__law_draws (hr.mono (by decide)) (by rfl) (He.glo_ok KX G (c.fact 15 rfl)) kp__law_draws b__law_draws (ca_cons (ce_var (pv 1)) (ca_cons ce_int ca_nil)))))
    (cb_one (cs_for PassesOwn.never rfl (ci_seq (ce_lst (ca_cons (ce_bin ok_mod (ce_callTy ok_int (by rfl) (He.free_ok KX G (c.fact 22 rfl)) (by decide +kernel) (ca_cons (ce_var (pv 1)) ca_nil)) ce_int) (ca_cons (ce_call G__law_big (hr.mono (by decide)) (by rfl) (He.glo_ok KX G (c.fact 18 rfl)) kp__law_big b__law_big (ca_cons (ce_ix (ce_var (pv 2)) ce_int (fun _ _ => rfl)) (ca_cons (ce_ix (ce_var (pv 2)) ce_int (fun _ _ => rfl)) ca_nil))) ca_nil)))) (cg_of (pg_name (i := 3) sc_law.nd rfl (by first | exact Or.inl rfl | exact Or.inr rfl)))
    (cb_cons (cs_set (ps_set (i := 4) sc_law.nd rfl (by first | exact Or.inl rfl | exact Or.inr rfl) (ce_bin ok_mod (ce_callTy ok_int (by rfl) (He.free_ok KX G (c.fact 22 rfl)) (by decide +kernel) (ca_cons (ce_var (pv 3)) ca_nil)) ce_int)))
    (cb_cons (cs_if (ct_w (cw_or (ct_not (ct_truth (ce_call G__law_same hr (by rfl) (He.glo_ok KX G (c.fact 16 rfl)) kp__law_same b__law_same (ca_cons (ce_call G_four_octets (hr.mono (by decide)) (by rfl) (He.glo_ok KX G (c.fact 14 rfl)) kp_four_octets b_four_octets (ca_cons (ce_var (pv 3)) ca_nil)) (ca_cons (ce_call G__law_fours (hr.mono (by decide)) (by rfl) (He.glo_ok KX G (c.fact 17 rfl)) kp__law_fours b__law_fours (ca_cons (ce_var (pv 3)) ca_nil)) ca_nil))) (fun _ => rfl))) (cw_or1 (ct_not (ct_truth (ce_call G__law_same hr (by rfl) (He.glo_ok KX G (c.fact 16 rfl)) kp__law_same b__law_same (ca_cons (ce_call G_two_octets (hr.mono (by decide)) (by rfl) (He.glo_ok KX G (c.fact 13 rfl)) kp_two_octets b_two_octets (ca_cons (ce_var (pv 4)) ca_nil)) (ca_cons (ce_sl (ce_call G__law_fours (hr.mono (by decide)) (by rfl) (He.glo_ok KX G (c.fact 17 rfl)) kp__law_fours b__law_fours (ca_cons (ce_var (pv 4)) ca_nil)) (co_some ce_int) co_none) ca_nil))) (fun _ => rfl))))))
    (cb_one (cs_ret ce_bl))
    cb_nil)
    (cb_cons (cs_set (ps_set (i := 5) sc_law.nd rfl (by first | exact Or.inl rfl | exact Or.inr rfl) (ce_new (He.mkr_ok (c.fact 1 rfl)) G_OctetReader_init (hr.mono (by decide)) (by rfl) (He.glo_ok KX G (c.fact 20 rfl)) b_OctetReader_init (ca_cons (ce_callTy ok_tuple (by rfl) (He.free_ok KX G (c.fact 23 rfl)) (by decide +kernel) (ca_cons (ce_bin ok_add (ce_call G__law_fours (hr.mono (by decide)) (by rfl) (He.glo_ok KX G (c.fact 17 rfl)) kp__law_fours b__law_fours (ca_cons (ce_var (pv 3)) ca_nil)) (ce_sl (ce_call G__law_fours (hr.mono (by decide)) (by rfl) (He.glo_ok KX G (c.fact 17 rfl)) kp__law_fours b__law_fours (ca_cons (ce_var (pv 4)) ca_nil)) (co_some ce_int) co_none)) ca_nil)) ca_nil))))
    (cb_one (cs_if (ct_not (ct_truth (ce_call G__law_same hr (by rfl) (He.glo_ok KX G (c.fact 16 rfl)) kp__law_same b__law_same (ca_cons (ce_lst (ca_cons (ce_meth0 (ce_var (pv 5)) (He.cls_ok (c.fact 0 rfl)) (He.meth_ok (c.fact 5 rfl)) G_OctetReader_four (hr.mono (by decide)) b_OctetReader_four) (ca_cons (ce_meth0 (ce_var (pv 5)) (He.cls_ok (c.fact 0 rfl)) (He.meth_ok (c.fact 4 rfl)) G_OctetReader_two (hr.mono (by decide)) b_OctetReader_two) (ca_cons (ce_meth0 (ce_var (pv 5)) (He.cls_ok (c.fact 0 rfl)) (He.meth_ok (c.fact 2 rfl)) G_OctetReader_place (hr.mono (by decide)) b_OctetReader_place) ca_nil)))) (ca_cons (ce_lst (ca_cons (ce_var (pv 3)) (ca_cons (ce_var (pv 4)) (ca_cons ce_int ca_nil)))) ca_nil))) (fun _ => rfl)))
    (cb_one (cs_ret ce_bl))
    cb_nil)))))))))
    (cb_one (cs_ret ce_bl)))
abbrev R : PySem.W.OpenRow := PySem.W.OpenLaw.row PySem.Challenge.rw_fardesk_k40_octets_numbers
abbrev hk : PySem.W.Hook := He.hookD 4 fa fn
def ob (s : PySem.W.SharedT) : He.AlD := He.obsDG 4 fa fn (HandSHeadRun.getT s)
theorem ob_eq (s : PySem.W.SharedT) : ob s = hk.obs s.abs := He.obsDG_eq (HandSHeadRun.getT_eq s)
def loose : List Str := (["_wall", "DeskError", "MalformedPacket", "two_octets", "four_octets", "OctetReader", "_law_draws", "_law_same", "_law_fours", "_law_big"] : List PySem.Str)
theorem run (w : World) : HandSHeadRun.RunEq R (PySem.W.view R.prog [13]) hk ob 20000 loose w := by
  intro os
  kernel_rfl
theorem facts {P : Program} {w : World} {K : PySem.W.Frag} {h : Heap} {mg : Str → Option Value} {f : Addr} (X : K.In h) (G : h.Ns mainGlobals mg) (hfa : mg ("law" : Str) = some (.ref f)) (c : He.SaysD fa fn K) :
    ∃ fd : FuncData, (∀ (s : Shared) (v : Value), BindsTo s fd ⟨[v], []⟩ [("_law_script", v)]) ∧ ∀ base : Heap, K.In base → base.Ns mainGlobals mg → FnOk P w K mg base CX0 10 f fd ["_law_script"] (spF K F_law) := by
  obtain ⟨fd, FD⟩ := c.def_ 11 (d := d_law) rfl
  have e := hfa.symm.trans (He.glo_ok X G (c.fact 19 rfl))
  cases e
  have b := FunD.bindsA (ps := ["_law_script"]) FD fun _ _ _ _ _ _ us hl => match us, hl with | [_], _ => rfl
  exact ⟨fd, fun s v => b s [v] rfl, fun base _ _ => ok_law X G c FD⟩
end K40
open PySem PySem.W PySem.Calls PyProof.Rows
theorem PySem.Challenge.cw_fardesk_k40_octets_numbers_holds : PySem.Challenge.rw_fardesk_k40_octets_numbers.Holds := by
  w_on; o_law
  refine HandSHeadRun.head_any (r := OpenLaw.row PySem.Challenge.rw_fardesk_k40_octets_numbers) (q := view (OpenLaw.row PySem.Challenge.rw_fardesk_k40_octets_numbers).prog [13]) (H := K40.hk) (ob := K40.ob) (M := 20000) (loose := K40.loose) (d := HandSHeadRun.topDef (OpenLaw.row PySem.Challenge.rw_fardesk_k40_octets_numbers).prog 13) (kwd := []) K40.ob_eq
    (by kernel_rfl) (fun s => by kernel_rfl) K40.run (by kernel_rfl) (by kernel_rfl) (by kernel_rfl) (by rfl) (by first | assumption | decide +kernel) (by decide +kernel) ⟨rfl, rfl, rfl, rfl, rfl, by decide +kernel⟩ ?hw ?hc
  case hw => w_witness2
  case hc =>
    refine L2.walk_ofE (l := PySem.Challenge.rw_fardesk_k40_octets_numbers) (n := 63) (k := 10) (x := "_law_script") (CX := L2.CX0) rfl (by decide) (by kernel_rfl) ⟨rfl, by decide, by decide⟩ ?F (fun _ _ _ _ z => z)
    intro w mg fa h Y G hmg0
    obtain ⟨K, KX, c⟩ := Y
    have hmg : mg ("law" : PySem.Str) = some (.ref fa) := by
      have e : (HandSHeadRun.topDef (OpenLaw.row PySem.Challenge.rw_fardesk_k40_octets_numbers).prog 13).name = ("law" : PySem.Str) := by kernel_rfl
      rw [← e]
      exact hmg0
    obtain ⟨fd, hb, hF⟩ := K40.facts (P := (PySem.Challenge.rw_fardesk_k40_octets_numbers).prog) (w := w) KX G hmg c
    exact ⟨K, fd, _, KX, hb, CI.law_sp K40.law_true, hF⟩
