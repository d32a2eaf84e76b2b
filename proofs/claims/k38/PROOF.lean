import PyProof.Rows.All
import Wide.All
import OpenK.AllK
import Wide.FinOn
import KE.KStateDown
import Lean
import HandS.ForMost
import HandS.WordsExc
import HandS.Defaults
import HandS.Head0
import HandS.Head1
import HandS.Head2
import HandS.HeadEnd
import HandS.HeadHook1
import HandS.HeadHook2
import HandS.TupAny
import HandS.Style
import HandS.Conv
import HandS.IsInst
import HandS.SortInts
import HandS.Star
import HandS.TupMul
import HandS.Iter
import HandS.Text
import HandS.Sort
import KE.KIntText
import HandS.SetFor
import PySem.Challenge.RW_fardesk_k38_screens_characters
set_option Elab.async false
set_option linter.all false
set_option maxRecDepth 100000
set_option maxHeartbeats 0

/-! Ci1: values as trees, objects by numbers, what represents them -/
namespace CI
open PySem PySem.Spec PyProof.Rows L2

inductive D where
  | non | bl (b : Bool) | int (i : Int) | str (x : Str) | tup (ds : List D) | lst (ds : List D) | scr (ns : List Int) | loc (k : Nat)
inductive O where
  | lst (ds : List D) | ins (c : Str) (fs : List (Str × D)) | dct (kvs : List (Key × D))
abbrev Mem := List O
abbrev Slots := List (Option D)
/-- a result: a value, or a list that nobody else holds -/
inductive Rz where
  | val (d : D) | new (ds : List D)
def Rz.d : Rz → D
  | .val d => d
  | .new ds => .lst ds

/-- a list that never changes: frozen, or of the written part -/
def SqS (K : PySem.W.Frag) (H : Hp) (a : Addr) (xs : List V) : Prop := (∃ o, H a = some (.frz o (.lst xs))) ∨
  ∃ (o : Obj) (its : Array Value) (n : Nat), K.lookup a = some o ∧ o.cls = .type "list" ∧ o.dict = none ∧ o.data = .seq its n ∧ its.size ≤ sizeLine ∧ Vals xs its.toList
theorem SqS.l {K : PySem.W.Frag} {H : Hp} {a : Addr} {xs : List V} (h : SqS K H a xs) : SqL K H a xs := h.elim (fun h => .inl (.inr h)) .inr
mutual
def Rl (K : PySem.W.Frag) (H : Hp) (m : List Addr) : D → V → Prop
  | .non, v => v = .non
  | .bl b, v => v = .bl b
  | .int i, v => v = .int i
  | .str x, v => v = .str x
  | .tup ds, v => ∃ a vs, v = .ref a ∧ SqT K H a vs ∧ Rls K H m ds vs
  | .lst ds, v => ∃ a vs, v = .ref a ∧ a ∉ m ∧ H a = some (.lst vs) ∧ Rls K H m ds vs
  | .scr ns, v => ∃ a, v = .ref a ∧ SqS K H a (ns.map V.int)
  | .loc k, v => ∃ a, v = .ref a ∧ m[k]? = some a
def Rls (K : PySem.W.Frag) (H : Hp) (m : List Addr) : List D → List V → Prop
  | [], vs => vs = []
  | d :: ds, vs => ∃ v r, vs = v :: r ∧ Rl K H m d v ∧ Rls K H m ds r
end
def Rfs (K : PySem.W.Frag) (H : Hp) (m : List Addr) : List (Str × D) → List (Str × V) → Prop
  | [], gs => gs = []
  | (f, d) :: fs, gs => ∃ v r, gs = (f, v) :: r ∧ Rl K H m d v ∧ Rfs K H m fs r
def Rks (K : PySem.W.Frag) (H : Hp) (m : List Addr) : List (Key × D) → List (Key × V) → Prop
  | [], gs => gs = []
  | (f, d) :: fs, gs => ∃ v r, gs = (f, v) :: r ∧ Rl K H m d v ∧ Rks K H m fs r
def Ro (K : PySem.W.Frag) (H : Hp) (m : List Addr) (a : Addr) : O → Prop
  | .lst ds => ∃ vs, H a = some (.lst vs) ∧ Rls K H m ds vs
  | .ins c fs => ∃ dx gs, H a = some (.ins (He.ga K c) dx gs) ∧ Rfs K H m fs gs
  | .dct kvs => ∃ gs, H a = some (.dK gs) ∧ Rks K H m kvs gs

structure Ext (H : Hp) (m : List Addr) (H' : Hp) (m' : List Addr) : Prop where
  tup : ∀ a xs, H a = some (.tup xs) → H' a = some (.tup xs)
  frz : ∀ a o u, H a = some (.frz o u) → H' a = some (.frz o u)
  oth : ∀ a u, a ∉ m → H a = some u → H' a = some u
  trk : ∀ a, H' a = none → H a = none
  pre : ∃ l, m' = m ++ l ∧ ∀ a ∈ l, H a = none
structure Wd (K : PySem.W.Frag) (H : Hp) (m : List Addr) (M : Mem) : Prop where
  len : m.length = M.length
  nd : m.Nodup
  at_ : ∀ (k : Nat) (a : Addr) (o : O), m[k]? = some a → M[k]? = some o → Ro K H m a o
def Rs (K : PySem.W.Frag) (H : Hp) (m : List Addr) (ρ : Slots) (σ : L2.St) : Prop :=
  ρ.length = σ.length ∧ ∀ (i : Nat) (d : D), ρ[i]? = some (some d) → ∃ v, σ[i]? = some (some v) ∧ Rl K H m d v

section
variable {K : PySem.W.Frag} {H H1 H2 H' : Hp} {m m1 m2 m' : List Addr} {M M1 : Mem} {a p : Addr}
theorem Ext.lst (e : Ext H m H1 m1) (a : Addr) (xs : List V) (n : a ∉ m) (h : H a = some (.lst xs)) : H1 a = some (.lst xs) := e.oth a _ n h
theorem Ext.refl : Ext H m H m := ⟨fun _ _ h => h, fun _ _ _ h => h, fun _ _ _ h => h, fun _ h => h, [], by simp, fun _ h => nomatch h⟩
theorem Ext.notin (e : Ext H m H1 m1) {o : HO} (h : H a = some o) (n : a ∉ m) : a ∉ m1 := by
  obtain ⟨l, rfl, hl⟩ := e.pre
  intro q
  rcases List.mem_append.mp q with q | q
  · exact n q
  · rw [hl a q] at h; cases h
theorem Ext.trans (e : Ext H m H1 m1) (e' : Ext H1 m1 H2 m2) : Ext H m H2 m2 := by
  refine ⟨fun a xs h => e'.tup a xs (e.tup a xs h), fun a o u h => e'.frz a o u (e.frz a o u h), fun a u n h => e'.oth a u (e.notin h n) (e.oth a u n h), fun a h => e.trk a (e'.trk a h), ?_⟩
  obtain ⟨l, rfl, hl⟩ := e.pre
  obtain ⟨l', rfl, hl'⟩ := e'.pre
  exact ⟨l ++ l', by rw [List.append_assoc], fun a q => (List.mem_append.mp q).elim (hl a) fun q => e.trk a (hl' a q)⟩
/-- a new object -/
theorem Ext.new {o : HO} (n : H p = none) : Ext H m (upd H p o) m := by
  have ne : ∀ a u, H a = some u → a ≠ p := fun a u h => ne_of_none h n
  refine ⟨fun a xs h => by rw [upd_ne (ne a _ h)]; exact h, fun a o u h => by rw [upd_ne (ne a _ h)]; exact h, fun a xs _ h => by rw [upd_ne (ne a _ h)]; exact h, fun a h => ?_, [], by simp, fun _ h => nomatch h⟩
  by_cases q : a = p
  · rw [q]; exact n
  · rw [upd_ne q] at h; exact h
/-- an own object is changed -/
theorem Ext.set {o u : HO} (h : H p = some u) (hm : p ∈ m) (nt : ∀ xs, u ≠ .tup xs) (nf : ∀ o u', u ≠ .frz o u') : Ext H m (upd H p o) m := by
  refine ⟨fun a xs q => ?_, fun a o u' q => ?_, fun a xs n q => ?_, fun a q => ?_, [], by simp, fun _ h => nomatch h⟩
  · rw [upd_ne (fun z => by subst z; rw [h] at q; cases q; exact nt xs rfl)]; exact q
  · rw [upd_ne (fun z => by subst z; rw [h] at q; cases q; exact nf _ _ rfl)]; exact q
  · rw [upd_ne (fun z => n (by rw [z]; exact hm))]; exact q
  · by_cases z : a = p
    · rw [z, upd_same] at q; cases q
    · rw [upd_ne z] at q; exact q
theorem Ext.get (e : Ext H m H1 m1) {k : Nat} (h : m[k]? = some a) : m1[k]? = some a := by
  obtain ⟨l, rfl, _⟩ := e.pre
  obtain ⟨h1, _⟩ := List.getElem?_eq_some_iff.mp h
  rw [List.getElem?_append_left h1]; exact h
theorem sqT_ext (e : Ext H m H1 m1) {vs : List V} (h : SqT K H a vs) : SqT K H1 a vs := by
  rcases h with (h | ⟨o, h⟩) | h
  · exact .inl (.inl (e.tup _ _ h))
  · exact .inl (.inr ⟨o, e.frz _ _ _ h⟩)
  · exact .inr h
mutual
theorem Rl.ext (e : Ext H m H1 m1) : ∀ {d : D} {v : V}, Rl K H m d v → Rl K H1 m1 d v
  | .non, _, h => h
  | .bl _, _, h => h
  | .int _, _, h => h
  | .str _, _, h => h
  | .tup ds, _, h => by
    rw [Rl] at h ⊢
    obtain ⟨a, vs, r, s, t⟩ := h
    exact ⟨a, vs, r, sqT_ext e s, Rls.ext e t⟩
  | .lst ds, _, h => by
    rw [Rl] at h ⊢
    obtain ⟨a, vs, r, n, s, t⟩ := h
    exact ⟨a, vs, r, e.notin s n, e.lst _ _ n s, Rls.ext e t⟩
  | .scr ns, _, h => by
    rw [Rl] at h ⊢
    obtain ⟨a, r, s⟩ := h
    exact ⟨a, r, s.imp (fun ⟨o, s⟩ => ⟨o, e.frz _ _ _ s⟩) id⟩
  | .loc k, _, h => by
    rw [Rl] at h ⊢
    obtain ⟨a, r, s⟩ := h
    exact ⟨a, r, e.get s⟩
theorem Rls.ext (e : Ext H m H1 m1) : ∀ {ds : List D} {vs : List V}, Rls K H m ds vs → Rls K H1 m1 ds vs
  | [], _, h => by rw [Rls] at h ⊢; exact h
  | d :: ds, _, h => by
    rw [Rls] at h ⊢
    obtain ⟨v, r, q, h1, h2⟩ := h
    exact ⟨v, r, q, Rl.ext e h1, Rls.ext e h2⟩
end
theorem Rfs.ext (e : Ext H m H1 m1) : ∀ {fs : List (Str × D)} {gs : List (Str × V)}, Rfs K H m fs gs → Rfs K H1 m1 fs gs
  | [], _, h => h
  | (f, d) :: fs, _, h => by
    obtain ⟨v, r, q, h1, h2⟩ := h
    exact ⟨v, r, q, Rl.ext e h1, Rfs.ext e h2⟩
theorem Rks.ext (e : Ext H m H1 m1) : ∀ {fs : List (Key × D)} {gs : List (Key × V)}, Rks K H m fs gs → Rks K H1 m1 fs gs
  | [], _, h => h
  | (f, d) :: fs, _, h => by
    obtain ⟨v, r, q, h1, h2⟩ := h
    exact ⟨v, r, q, Rl.ext e h1, Rks.ext e h2⟩
theorem Ro.ext (e : Ext H m H1 m1) {o : O} (hs : H1 a = H a) (h : Ro K H m a o) : Ro K H1 m1 a o := by
  cases o with
  | lst ds => obtain ⟨vs, h1, h2⟩ := h; exact ⟨vs, hs.trans h1, h2.ext e⟩
  | ins c fs => obtain ⟨dx, gs, h1, h2⟩ := h; exact ⟨dx, gs, hs.trans h1, h2.ext e⟩
  | dct kvs => obtain ⟨gs, h1, h2⟩ := h; exact ⟨gs, hs.trans h1, h2.ext e⟩
theorem Ro.there {o : O} (h : Ro K H m a o) : ∃ u, H a = some u ∧ (∀ xs, u ≠ .tup xs) ∧ ∀ o' u', u ≠ .frz o' u' := by
  cases o with
  | lst ds => obtain ⟨vs, h1, h2⟩ := h; exact ⟨_, h1, (by intro _ z; cases z), (by intro _ _ z; cases z)⟩
  | ins c fs => obtain ⟨dx, gs, h1, h2⟩ := h; exact ⟨_, h1, (by intro _ z; cases z), (by intro _ _ z; cases z)⟩
  | dct kvs => obtain ⟨gs, h1, h2⟩ := h; exact ⟨_, h1, (by intro _ z; cases z), (by intro _ _ z; cases z)⟩
theorem Wd.there (w : Wd K H m M) (h : a ∈ m) : ∃ u, H a = some u ∧ (∀ xs, u ≠ .tup xs) ∧ ∀ o' u', u ≠ .frz o' u' := by
  obtain ⟨k, hk, e⟩ := List.mem_iff_getElem.mp h
  have h2 : k < M.length := by rw [← w.len]; exact hk
  exact (w.at_ k a M[k] (by rw [List.getElem?_eq_getElem hk, e]) (List.getElem?_eq_getElem h2)).there
theorem Wd.fresh (w : Wd K H m M) (n : H p = none) : p ∉ m := fun h => by
  obtain ⟨u, q, _⟩ := w.there h
  rw [n] at q; cases q
theorem Wd.same (w : Wd K H m M) (e : Ext H m H1 m) (hs : ∀ a ∈ m, H1 a = H a) : Wd K H1 m M :=
  ⟨w.len, w.nd, fun k a o h1 h2 => (w.at_ k a o h1 h2).ext e (hs a (List.mem_of_getElem? h1))⟩
theorem Wd.new {o : HO} (w : Wd K H m M) (n : H p = none) : Wd K (upd H p o) m M :=
  w.same (.new n) fun a h => upd_ne fun z => w.fresh n (z ▸ h)
theorem nodup_at {m : List Addr} (nd : m.Nodup) {i j : Nat} (a : m[i]? = some p) (b : m[j]? = some p) : i = j := by
  obtain ⟨h1, e1⟩ := List.getElem?_eq_some_iff.mp a
  obtain ⟨h2, e2⟩ := List.getElem?_eq_some_iff.mp b
  exact (List.getElem_inj nd).mp (e1.trans e2.symm)
/-- the object k is changed -/
theorem Wd.set {k : Nat} {o : O} {u : HO} (w : Wd K H m M) (hk : m[k]? = some p) (h : Ro K (upd H p u) m p o) : Wd K (upd H p u) m (M.set k o) := by
  obtain ⟨v, hv, nt, nf⟩ := w.there (List.mem_of_getElem? hk)
  have e : Ext H m (upd H p u) m := .set hv (List.mem_of_getElem? hk) nt nf
  refine ⟨by rw [List.length_set]; exact w.len, w.nd, fun j a o' h1 h2 => ?_⟩
  by_cases q : j = k
  · subst q
    rw [hk] at h1; cases h1
    obtain ⟨z, _⟩ := List.getElem?_eq_some_iff.mp h2
    rw [List.length_set] at z
    rw [List.getElem?_set_self z] at h2
    cases h2; exact h
  · rw [List.getElem?_set_ne (Ne.symm q)] at h2
    exact (w.at_ j a o' h1 h2).ext e (upd_ne fun z => q (nodup_at w.nd (z ▸ h1) hk))
theorem Wd.ext_set {k : Nat} {u : HO} (w : Wd K H m M) (hk : m[k]? = some p) : Ext H m (upd H p u) m := by
  obtain ⟨v, hv, nt, nf⟩ := w.there (List.mem_of_getElem? hk)
  exact .set hv (List.mem_of_getElem? hk) nt nf
theorem Wd.get (w : Wd K H m M) {k : Nat} {o : O} (h : M[k]? = some o) : ∃ a, m[k]? = some a ∧ Ro K H m a o := by
  obtain ⟨h1, _⟩ := List.getElem?_eq_some_iff.mp h
  have h2 : k < m.length := by rw [w.len]; exact h1
  exact ⟨m[k], List.getElem?_eq_getElem h2, w.at_ k _ o (List.getElem?_eq_getElem h2) h⟩
/-- a new own object -/
theorem Wd.push {o : O} {u : HO} (w : Wd K H m M) (n : H p = none) (h : Ro K (upd H p u) (m ++ [p]) p o) : Wd K (upd H p u) (m ++ [p]) (M ++ [o]) ∧ Ext H m (upd H p u) (m ++ [p]) := by
  have hp := w.fresh n
  have e1 : Ext H m (upd H p u) m := .new n
  have e : Ext H m (upd H p u) (m ++ [p]) := ⟨e1.tup, e1.frz, e1.oth, e1.trk, [p], rfl, fun a q => by simp at q; rw [q]; exact n⟩
  refine ⟨⟨by simp [w.len], ?_, fun k a o' h1 h2 => ?_⟩, e⟩
  · rw [List.nodup_append]
    exact ⟨w.nd, by simp, fun a ha b hb z => by simp at hb; subst hb; exact hp (z ▸ ha)⟩
  · by_cases q : k < m.length
    · rw [List.getElem?_append_left q] at h1
      rw [List.getElem?_append_left (by rw [← w.len]; exact q)] at h2
      exact (w.at_ k a o' h1 h2).ext e (upd_ne fun z => hp (z ▸ List.mem_of_getElem? h1))
    · have hk : k = m.length := by
        obtain ⟨z, _⟩ := List.getElem?_eq_some_iff.mp h1
        simp at z; omega
      subst hk
      rw [List.getElem?_append_right (Nat.le_refl _)] at h1
      rw [w.len, List.getElem?_append_right (Nat.le_refl _)] at h2
      simp at h1 h2
      subst h1 h2
      exact h
theorem Rs.ext (e : Ext H m H1 m1) {ρ : Slots} {σ : L2.St} (h : Rs K H m ρ σ) : Rs K H1 m1 ρ σ :=
  ⟨h.1, fun i d q => let ⟨v, a, b⟩ := h.2 i d q; ⟨v, a, b.ext e⟩⟩
theorem Rs.set {ρ : Slots} {σ : L2.St} {d : D} {v : V} (h : Rs K H m ρ σ) (r : Rl K H m d v) (i : Nat) : Rs K H m (ρ.set i (some d)) (σ.set i (some v)) := by
  refine ⟨by simp [h.1], fun j e q => ?_⟩
  by_cases z : j = i
  · subst z
    obtain ⟨z, _⟩ := List.getElem?_eq_some_iff.mp q
    rw [List.length_set] at z
    rw [List.getElem?_set_self z] at q
    cases q
    exact ⟨v, List.getElem?_set_self (by rw [← h.1]; exact z), r⟩
  · rw [List.getElem?_set_ne (Ne.symm z)] at q
    rw [List.getElem?_set_ne (Ne.symm z)]
    exact h.2 j e q
theorem Rls.length : ∀ {ds : List D} {vs : List V}, Rls K H m ds vs → ds.length = vs.length
  | [], _, h => by rw [Rls] at h; subst h; rfl
  | d :: ds, _, h => by
    rw [Rls] at h
    obtain ⟨v, r, rfl, _, h2⟩ := h
    simp [h2.length]
theorem Rls.get : ∀ {ds : List D} {vs : List V}, Rls K H m ds vs → ∀ {i : Nat} {d : D}, ds[i]? = some d → ∃ v, vs[i]? = some v ∧ Rl K H m d v
  | [], _, h, i, d, q => by simp at q
  | e :: ds, _, h, i, d, q => by
    rw [Rls] at h
    obtain ⟨v, r, rfl, h1, h2⟩ := h
    cases i with
    | zero => simp at q; subst q; exact ⟨v, rfl, h1⟩
    | succ i => simpa using Rls.get h2 (i := i) (d := d) (by simpa using q)
theorem Rls.getR : ∀ {ds : List D} {vs : List V}, Rls K H m ds vs → ∀ {i : Nat} {v : V}, vs[i]? = some v → ∃ d, ds[i]? = some d ∧ Rl K H m d v
  | [], _, h, i, d, q => by rw [Rls] at h; subst h; simp at q
  | e :: ds, _, h, i, d, q => by
    rw [Rls] at h
    obtain ⟨v, r, rfl, h1, h2⟩ := h
    cases i with
    | zero => simp at q; subst q; exact ⟨e, rfl, h1⟩
    | succ i => simpa using Rls.getR h2 (i := i) (v := d) (by simpa using q)
theorem Rls.append : ∀ {ds es : List D} {vs ws : List V}, Rls K H m ds vs → Rls K H m es ws → Rls K H m (ds ++ es) (vs ++ ws)
  | [], _, _, _, h, g => by rw [Rls] at h; subst h; exact g
  | d :: ds, _, _, _, h, g => by
    rw [Rls] at h
    obtain ⟨v, r, rfl, h1, h2⟩ := h
    show Rls K H m (d :: (ds ++ _)) (v :: (r ++ _))
    rw [Rls]
    exact ⟨v, _, rfl, h1, h2.append g⟩
theorem Rls.take : ∀ {ds : List D} {vs : List V} (n : Nat), Rls K H m ds vs → Rls K H m (ds.take n) (vs.take n)
  | _, _, 0, _ => by simp [Rls]
  | [], _, n + 1, h => by rw [Rls] at h; subst h; simp [Rls]
  | d :: ds, _, n + 1, h => by
    rw [Rls] at h
    obtain ⟨v, r, rfl, h1, h2⟩ := h
    show Rls K H m (d :: ds.take n) (v :: r.take n)
    rw [Rls]
    exact ⟨v, _, rfl, h1, h2.take n⟩
theorem Rls.drop : ∀ {ds : List D} {vs : List V} (n : Nat), Rls K H m ds vs → Rls K H m (ds.drop n) (vs.drop n)
  | _, _, 0, h => by simpa using h
  | [], _, n + 1, h => by rw [Rls] at h; subst h; simp [Rls]
  | d :: ds, _, n + 1, h => by
    rw [Rls] at h
    obtain ⟨v, r, rfl, h1, h2⟩ := h
    exact h2.drop n
theorem Rls.one {d : D} {vs : List V} (h : Rls K H m [d] vs) : ∃ v, vs = [v] ∧ Rl K H m d v := by
  rw [Rls] at h
  obtain ⟨v, r, rfl, h1, h2⟩ := h
  rw [Rls] at h2
  subst h2
  exact ⟨v, rfl, h1⟩
theorem Rls.two {d e : D} {vs : List V} (h : Rls K H m [d, e] vs) : ∃ v w, vs = [v, w] ∧ Rl K H m d v ∧ Rl K H m e w := by
  rw [Rls] at h
  obtain ⟨v, r, rfl, h1, h2⟩ := h
  obtain ⟨w, rfl, h3⟩ := h2.one
  exact ⟨v, w, rfl, h1, h3⟩
theorem Rls.ints : ∀ {ns : List Int}, Rls K H m (ns.map D.int) (ns.map V.int)
  | [] => by simp [Rls]
  | n :: ns => by
    show Rls K H m (D.int n :: ns.map D.int) (V.int n :: ns.map V.int)
    rw [Rls]
    exact ⟨_, _, rfl, by rw [Rl], Rls.ints⟩
theorem Rls.set : ∀ {ds : List D} {vs : List V} {d : D} {v : V} (i : Nat), Rls K H m ds vs → Rl K H m d v → Rls K H m (ds.set i d) (vs.set i v)
  | [], _, _, _, _, h, _ => by rw [Rls] at h; subst h; simp [Rls]
  | e :: ds, _, d, v, 0, h, g => by
    rw [Rls] at h
    obtain ⟨w, r, rfl, h1, h2⟩ := h
    show Rls K H m (d :: ds) (v :: r)
    rw [Rls]
    exact ⟨_, _, rfl, g, h2⟩
  | e :: ds, _, d, v, i + 1, h, g => by
    rw [Rls] at h
    obtain ⟨w, r, rfl, h1, h2⟩ := h
    show Rls K H m (e :: ds.set i d) (w :: r.set i v)
    rw [Rls]
    exact ⟨_, _, rfl, h1, h2.set i g⟩
theorem Rls.eraseIdx : ∀ {ds : List D} {vs : List V} (i : Nat), Rls K H m ds vs → Rls K H m (ds.eraseIdx i) (vs.eraseIdx i)
  | [], _, _, h => by rw [Rls] at h; subst h; simp [Rls]
  | e :: ds, _, 0, h => by
    rw [Rls] at h
    obtain ⟨w, r, rfl, h1, h2⟩ := h
    exact h2
  | e :: ds, _, i + 1, h => by
    rw [Rls] at h
    obtain ⟨w, r, rfl, h1, h2⟩ := h
    show Rls K H m (e :: ds.eraseIdx i) (w :: r.eraseIdx i)
    rw [Rls]
    exact ⟨_, _, rfl, h1, h2.eraseIdx i⟩
theorem Rfs.lookup {f : Str} {d : D} : ∀ {fs : List (Str × D)} {gs : List (Str × V)}, Rfs K H m fs gs → fs.lookup f = some d → ∃ v, gs.lookup f = some v ∧ Rl K H m d v
  | [], _, h, q => by simp at q
  | (g, e) :: fs, _, h, q => by
    obtain ⟨v, r, rfl, h1, h2⟩ := h
    rw [List.lookup_cons] at q ⊢
    by_cases z : f == g
    · simp [z] at q ⊢; subst q; exact h1
    · simp [z] at q ⊢; exact h2.lookup q
theorem Rfs.lookup_none {f : Str} : ∀ {fs : List (Str × D)} {gs : List (Str × V)}, Rfs K H m fs gs → fs.lookup f = none → gs.lookup f = none
  | [], _, h, q => by cases h; simp
  | (g, e) :: fs, _, h, q => by
    obtain ⟨v, r, rfl, h1, h2⟩ := h
    rw [List.lookup_cons] at q ⊢
    by_cases z : f == g
    · rw [z] at q; cases q
    · rw [show (f == g) = false from by simpa using z] at q ⊢; exact h2.lookup_none q
theorem Rfs.length : ∀ {fs : List (Str × D)} {gs : List (Str × V)}, Rfs K H m fs gs → fs.length = gs.length
  | [], _, h => by cases h; rfl
  | (g, e) :: fs, _, h => by
    obtain ⟨v, r, rfl, h1, h2⟩ := h
    simp [h2.length]
end
end CI

/-! Ci2: readings of expressions -/
namespace CI
open PySem PySem.Spec PyProof.Rows L2

abbrev Ef := Slots → Mem → Option (Rz × Mem)
abbrev Tf := Slots → Mem → Option (Bool × Mem)
abbrev Af := Slots → Mem → Option (List D × Mem)

def Post (K : PySem.W.Frag) (H : Hp) (m : List Addr) (r : Rz) (M' : Mem) (Q : VK) : Prop := ∀ H1 m1, Ext H m H1 m1 → Wd K H1 m1 M' → match r with
  | .val d => ∀ v, Rl K H1 m1 d v → Q v H1
  | .new ds => ∀ vs a, Rls K H1 m1 ds vs → H1 a = none → Q (.ref a) (upd H1 a (.lst vs))
def tE (K : PySem.W.Frag) (f : Ef) : TE := fun σ H Q => ∃ ρ M m r M', Rs K H m ρ σ ∧ Wd K H m M ∧ f ρ M = some (r, M') ∧ Post K H m r M' Q
def tT (K : PySem.W.Frag) (f : Tf) : TT := fun σ H Q => ∃ ρ M m b M', Rs K H m ρ σ ∧ Wd K H m M ∧ f ρ M = some (b, M') ∧ ∀ H1 m1, Ext H m H1 m1 → Wd K H1 m1 M' → Q b H1
def tA (K : PySem.W.Frag) (f : Af) : TA := fun σ H Q => ∃ ρ M m ds M', Rs K H m ρ σ ∧ Wd K H m M ∧ f ρ M = some (ds, M') ∧ ∀ H1 m1 vs, Ext H m H1 m1 → Wd K H1 m1 M' → Rls K H1 m1 ds vs → Q vs H1
abbrev CEx (X : Cx) (e : Expr) (f : Ef) : Prop := PE X e (tE X.K f)
abbrev CTx (X : Cx) (e : Expr) (f : Tf) : Prop := PT X e (tT X.K f)
abbrev CWx (X : Cx) (e : Expr) (f : Tf) : Prop := PW X e (tT X.K f)
abbrev CAx (X : Cx) (es : List Expr) (f : Af) : Prop := PA X es (tA X.K f)

theorem PE.imp {X : Cx} {e : Expr} {t t' : TE} (h : PE X e t) (i : ∀ σ H Q, t' σ H Q → t σ H Q) : PE X e t' := ⟨fun pins s σ H Q I q => h.run pins s σ H Q I (i σ H Q q)⟩
theorem PT.imp {X : Cx} {e : Expr} {t t' : TT} (h : PT X e t) (i : ∀ σ H Q, t' σ H Q → t σ H Q) : PT X e t' := ⟨fun pins s σ H Q I q => h.run pins s σ H Q I (i σ H Q q)⟩
theorem PW.imp {X : Cx} {e : Expr} {t t' : TT} (h : PW X e t) (i : ∀ σ H Q, t' σ H Q → t σ H Q) : PW X e t' := ⟨fun w pins s σ H Q I q => h.run w pins s σ H Q I (i σ H Q q)⟩
theorem PA.imp {X : Cx} {es : List Expr} {t t' : TA} (h : PA X es t) (i : ∀ σ H Q, t' σ H Q → t σ H Q) : PA X es t' := ⟨fun p pins s σ H Q I q => h.run p pins s σ H Q I (i σ H Q q)⟩
theorem PE.or {X : Cx} {e : Expr} {t t' : TE} (h : PE X e t) (h' : PE X e t') : PE X e (fun σ H Q => t σ H Q ∨ t' σ H Q) :=
  ⟨fun pins s σ H Q I q => q.elim (h.run pins s σ H Q I) (h'.run pins s σ H Q I)⟩

section
variable {K : PySem.W.Frag} {H H1 H2 : Hp} {m m1 m2 : List Addr} {M M1 M2 : Mem} {Q : VK} {r : Rz}
theorem Post.use (P : ∀ H1 m1 v, Ext H m H1 m1 → Wd K H1 m1 M1 → Rl K H1 m1 r.d v → Q v H1) : Post K H m r M1 Q := by
  intro H1 m1 e w
  cases r with
  | val d => exact fun v r => P H1 m1 v e w r
  | new ds =>
    intro vs a r n
    have e2 : Ext H1 m1 (upd H1 a (.lst vs)) m1 := .new n
    refine P _ m1 _ (e.trans e2) (w.new n) ?_
    show Rl K _ m1 (.lst ds) _
    rw [Rl]
    exact ⟨a, vs, rfl, w.fresh n, upd_same, r.ext e2⟩
theorem Post.ext (P : Post K H m r M1 Q) (e : Ext H m H2 m2) : Post K H2 m2 r M1 Q := fun H1 m1 e1 w => P H1 m1 (e.trans e1) w
theorem Post.val {d : D} {v : V} (P : Post K H m (.val d) M1 Q) (w : Wd K H m M1) (r : Rl K H m d v) : Q v H := P H m .refl w v r
theorem Post.new {ds : List D} {vs : List V} (P : Post K H m (.new ds) M1 Q) (w : Wd K H m M1) (r : Rls K H m ds vs) : ∀ p, H p = none → Q (.ref p) (upd H p (.lst vs)) :=
  fun p n => P H m .refl w vs p r n
theorem Post.tup {ds : List D} {vs : List V} (P : Post K H m (.val (.tup ds)) M1 Q) (w : Wd K H m M1) (r : Rls K H m ds vs) : ∀ p, H p = none → Q (.ref p) (upd H p (.tup vs)) :=
  fun p n => P _ m (.new n) (w.new n) _ (by rw [Rl]; exact ⟨p, vs, rfl, .of upd_same, r.ext (.new n)⟩)
theorem bindE {f : Ef} {ρ : Slots} {σ : L2.St} (rs : Rs K H m ρ σ) (w : Wd K H m M) (h : f ρ M = some (r, M1))
    (P : ∀ H1 m1 v, Ext H m H1 m1 → Wd K H1 m1 M1 → Rs K H1 m1 ρ σ → Rl K H1 m1 r.d v → Q v H1) : tE K f σ H Q :=
  ⟨ρ, M, m, r, M1, rs, w, h, Post.use fun H1 m1 v e w' r' => P H1 m1 v e w' (rs.ext e) r'⟩
theorem bindT {f : Tf} {ρ : Slots} {σ : L2.St} {b : Bool} {Q : Bool → Hp → Prop} (rs : Rs K H m ρ σ) (w : Wd K H m M) (h : f ρ M = some (b, M1))
    (P : ∀ H1 m1, Ext H m H1 m1 → Wd K H1 m1 M1 → Rs K H1 m1 ρ σ → Q b H1) : tT K f σ H Q :=
  ⟨ρ, M, m, b, M1, rs, w, h, fun H1 m1 e w' => P H1 m1 e w' (rs.ext e)⟩
theorem bindA {f : Af} {ρ : Slots} {σ : L2.St} {ds : List D} {Q : List V → Hp → Prop} (rs : Rs K H m ρ σ) (w : Wd K H m M) (h : f ρ M = some (ds, M1))
    (P : ∀ H1 m1 vs, Ext H m H1 m1 → Wd K H1 m1 M1 → Rs K H1 m1 ρ σ → Rls K H1 m1 ds vs → Q vs H1) : tA K f σ H Q :=
  ⟨ρ, M, m, ds, M1, rs, w, h, fun H1 m1 vs e w' r' => P H1 m1 vs e w' (rs.ext e) r'⟩
end

/-! ### names and constants -/
def slot (ρ : Slots) (i : Nat) : Option D := ρ.getD i none
def cVar (i : Nat) : Ef := fun ρ M => (slot ρ i).bind fun d => some (.val d, M)
def cVal (d : D) : Ef := fun _ M => some (.val d, M)
abbrev cInt (i : Int) : Ef := cVal (.int i)
abbrev cBl (b : Bool) : Ef := cVal (.bl b)
abbrev cNon : Ef := cVal .non
abbrev cStr (x : Str) : Ef := cVal (.str x)
theorem slot_some {ρ : Slots} {i : Nat} {d : D} (h : slot ρ i = some d) : ρ[i]? = some (some d) := by
  unfold slot at h
  rw [List.getD_eq_getElem?_getD] at h
  cases q : ρ[i]? with
  | none => rw [q] at h; cases h
  | some o => rw [q] at h; simp at h; rw [h]
section
variable {X : Cx}
theorem ce_var {e : Expr} {i : Nat} (h : PE X e (tVar i)) : CEx X e (cVar i) := PE.imp h fun σ H Q ⟨ρ, M, m, r, M', rs, w, hf, P⟩ => by
  unfold cVar at hf
  cases q : slot ρ i with
  | none => rw [q] at hf; cases hf
  | some d =>
    rw [q] at hf
    cases hf
    obtain ⟨v, h1, h2⟩ := rs.2 i d (slot_some q)
    exact ⟨v, h1, P.val w h2⟩
theorem ce_val {e : Expr} {d : D} {v : V} (h : PE X e (tC v)) (hr : ∀ H m, Rl X.K H m d v) : CEx X e (cVal d) := PE.imp h fun σ H Q ⟨ρ, M, m, r, M', rs, w, hf, P⟩ => by
  cases hf
  exact P.val w (hr H m)
theorem ce_int {i : Int} {j pos} : CEx X (.Constant (.int i) j pos) (cInt i) := ce_val pe_int fun _ _ => by rw [Rl]
theorem ce_bl {b : Bool} {j pos} : CEx X (.Constant (.bool b) j pos) (cBl b) := ce_val pe_bl fun _ _ => by rw [Rl]
theorem ce_non {j pos} : CEx X (.Constant .none j pos) cNon := ce_val pe_non fun _ _ => by rw [Rl]
theorem ce_str {x : Str} {j pos} : CEx X (.Constant (.str x) j pos) (cStr x) := ce_val pe_str fun _ _ => by rw [Rl]
end

/-! ### operators -/
def Bop := D → D → Mem → Option Rz
def OpOk (X : Cx) (f : Value → Value → Sem Value) (o : Bop) : Prop := ∃ r : R2, OpR X f r ∧
  ∀ H m M d e x y z Q, Wd X.K H m M → Rl X.K H m d x → Rl X.K H m e y → o d e M = some z → Post X.K H m z M Q → r x y H Q
def cBin (o : Bop) (fa fb : Ef) : Ef := fun ρ M => (fa ρ M).bind fun p => (fb ρ p.2).bind fun q => (o p.1.d q.1.d q.2).bind fun r => some (r, q.2)
theorem bin_of {X : Cx} {o : Bop} {fa fb : Ef} {r : R2} (ho : ∀ H m M d e x y z Q, Wd X.K H m M → Rl X.K H m d x → Rl X.K H m e y → o d e M = some z → Post X.K H m z M Q → r x y H Q)
    {σ : L2.St} {H : Hp} {Q : VK} (h : tE X.K (cBin o fa fb) σ H Q) : tOp r (tE X.K fa) (tE X.K fb) σ H Q := by
  obtain ⟨ρ, M, m, z, M', rs, w, hf, P⟩ := h
  unfold cBin at hf
  cases ea : fa ρ M with
  | none => rw [ea] at hf; cases hf
  | some p =>
    rw [ea] at hf
    cases eb : fb ρ p.2 with
    | none => simp [eb] at hf
    | some q =>
      cases ec : o p.1.d q.1.d q.2 with
      | none => simp [eb, ec] at hf
      | some z' =>
        simp [eb, ec] at hf
        obtain ⟨rfl, rfl⟩ := hf
        refine bindE rs w ea fun H1 m1 v e1 w1 rs1 r1 => ?_
        refine bindE rs1 w1 eb fun H2 m2 u e2 w2 rs2 r2 => ?_
        exact ho H2 m2 q.2 _ _ v u _ Q w2 (r1.ext e2) r2 ec (P.ext (e1.trans e2))
section
variable {X : Cx} {a b c : Expr} {fa fb fc : Ef} {pos : Pos} {o o' : Bop}
theorem ce_bin {op : Operator} (ho : OpOk X (binaryOp op) o) (ha : CEx X a fa) (hb : CEx X b fb) : CEx X (.BinOp a op b pos) (cBin o fa fb) := by
  obtain ⟨r, h1, h2⟩ := ho
  exact PE.imp (pe_op h1 ha hb) fun σ H Q h => bin_of h2 h
theorem ce_cmp {op : CmpOp} (ho : OpOk X (compareOp op) o) (ha : CEx X a fa) (hb : CEx X b fb) (hm : behindInMarks op b = false) : CEx X (.Compare a [op] [b] pos) (cBin o fa fb) := by
  obtain ⟨r, h1, h2⟩ := ho
  exact PE.imp (pe_cmpR h1 ha hb hm) fun σ H Q h => bin_of h2 h
/-- a value that must be a bool, as a test -/
def toB (f : Ef) : Tf := fun ρ M => (f ρ M).bind fun p => match p.1.d with
  | .bl b => some (b, p.2)
  | _ => none
theorem tst_of {f : Ef} {σ : L2.St} {H : Hp} {Q : Bool → Hp → Prop} (h : tT X.K (toB f) σ H Q) : tE X.K f σ H fun x H' => ∃ k, x = .bl k ∧ Q k H' := by
  obtain ⟨ρ, M, m, z, M', rs, w, hf, P⟩ := h
  unfold toB at hf
  cases ea : f ρ M with
  | none => rw [ea] at hf; cases hf
  | some p =>
    rw [ea] at hf
    simp only [Option.bind_some] at hf
    refine bindE rs w ea fun H1 m1 v e1 w1 rs1 r1 => ?_
    split at hf
    · rename_i b hb
      cases hf
      rw [hb, Rl] at r1
      exact ⟨_, r1, P H1 m1 e1 w1⟩
    · cases hf
theorem ct_cmp {op : CmpOp} (ho : OpOk X (compareOp op) o) (ha : CEx X a fa) (hb : CEx X b fb) (hm : behindInMarks op b = false) : CTx X (.Compare a [op] [b] pos) (toB (cBin o fa fb)) := by
  obtain ⟨r, h1, h2⟩ := ho
  exact PT.imp (pt_cmpR h1 ha hb hm) fun σ H Q h => bin_of h2 (tst_of h)
/-- a op b op' c -/
def cChain (o o' : Bop) (fa fb fc : Ef) : Ef := fun ρ M => (fa ρ M).bind fun p => (fb ρ p.2).bind fun q => (o p.1.d q.1.d q.2).bind fun r => match r with
  | .val (.bl true) => (fc ρ q.2).bind fun s => (o' q.1.d s.1.d s.2).bind fun z => some (z, s.2)
  | .val (.bl false) => some (.val (.bl false), q.2)
  | _ => none
theorem chain_of {r r' : R2} (ho : ∀ H m M d e x y z Q, Wd X.K H m M → Rl X.K H m d x → Rl X.K H m e y → o d e M = some z → Post X.K H m z M Q → r x y H Q)
    (ho' : ∀ H m M d e x y z Q, Wd X.K H m M → Rl X.K H m d x → Rl X.K H m e y → o' d e M = some z → Post X.K H m z M Q → r' x y H Q)
    {σ : L2.St} {H : Hp} {Q : VK} (h : tE X.K (cChain o o' fa fb fc) σ H Q) : tChain r r' (tE X.K fa) (tE X.K fb) (tE X.K fc) σ H Q := by
  obtain ⟨ρ, M, m, z, M', rs, w, hf, P⟩ := h
  unfold cChain at hf
  cases ea : fa ρ M with
  | none => rw [ea] at hf; cases hf
  | some p =>
    rw [ea] at hf
    cases eb : fb ρ p.2 with
    | none => simp [eb] at hf
    | some q =>
      cases ec : o p.1.d q.1.d q.2 with
      | none => simp [eb, ec] at hf
      | some z' =>
        simp only [Option.bind_some, eb, ec] at hf
        refine bindE rs w ea fun H1 m1 v e1 w1 rs1 r1 => ?_
        refine bindE rs1 w1 eb fun H2 m2 u e2 w2 rs2 r2 => ?_
        refine ho H2 m2 q.2 _ _ v u _ _ w2 (r1.ext e2) r2 ec ?_
        split at hf
        · refine Post.use fun H3 m3 t e3 w3 r3 => ?_
          rw [show (Rz.val (D.bl true)).d = .bl true from rfl, Rl] at r3
          refine ⟨true, r3, ?_⟩
          rw [if_pos rfl]
          cases es : fc ρ q.2 with
          | none => simp [es] at hf
          | some s =>
            cases et : o' q.1.d s.1.d s.2 with
            | none => simp [es, et] at hf
            | some z2 =>
              simp [es, et] at hf
              obtain ⟨rfl, rfl⟩ := hf
              refine bindE (rs2.ext e3) w3 es fun H4 m4 t' e4 w4 rs4 r4 => ?_
              exact ho' H4 m4 s.2 _ _ u t' _ Q w4 (r2.ext (e3.trans e4)) r4 et (P.ext (((e1.trans e2).trans e3).trans e4))
        · refine Post.use fun H3 m3 t e3 w3 r3 => ?_
          rw [show (Rz.val (D.bl false)).d = .bl false from rfl, Rl] at r3
          refine ⟨false, r3, ?_⟩
          rw [if_neg Bool.false_ne_true]
          cases hf
          exact P.ext ((e1.trans e2).trans e3) |>.val w3 (by rw [Rl])
        · cases hf
theorem ce_chain {op op' : CmpOp} (ho : OpOk X (compareOp op) o) (ho' : OpOk X (compareOp op') o') (ha : CEx X a fa) (hb : CEx X b fb) (hc : CEx X c fc)
    (hm : lastMarks [op, op'] [b, c] = false := by with_unfolding_all rfl) : CEx X (.Compare a [op, op'] [b, c] pos) (cChain o o' fa fb fc) := by
  obtain ⟨r, h1, h2⟩ := ho
  obtain ⟨r', h1', h2'⟩ := ho'
  exact PE.imp (pe_chain h1 h1' ha hb hc hm) fun σ H Q h => chain_of h2 h2' h
theorem ct_chain {op op' : CmpOp} (ho : OpOk X (compareOp op) o) (ho' : OpOk X (compareOp op') o') (ha : CEx X a fa) (hb : CEx X b fb) (hc : CEx X c fc)
    (hm : lastMarks [op, op'] [b, c] = false := by with_unfolding_all rfl) : CTx X (.Compare a [op, op'] [b, c] pos) (toB (cChain o o' fa fb fc)) := by
  obtain ⟨r, h1, h2⟩ := ho
  obtain ⟨r', h1', h2'⟩ := ho'
  exact PT.imp (pt_chain h1 h1' ha hb hc hm) fun σ H Q h => chain_of h2 h2' (tst_of h)
end

/-! ### and, or, not, if else -/
section
variable {X : Cx} {a b c : Expr} {rest : List Expr} {fa fb : Ef} {ta tb : Tf} {pos : Pos}
def kAnd (ta tb : Tf) : Tf := fun ρ M => (ta ρ M).bind fun p => if p.1 = true then tb ρ p.2 else some (false, p.2)
def kOr (ta tb : Tf) : Tf := fun ρ M => (ta ρ M).bind fun p => if p.1 = true then some (true, p.2) else tb ρ p.2
def kNot (ta : Tf) : Tf := fun ρ M => (ta ρ M).bind fun p => some (!p.1, p.2)
theorem cw_and1 (ha : CTx X a ta) : CWx X (.BoolOp .And [a] pos) ta := pw_and1 ha
theorem cw_or1 (ha : CTx X a ta) : CWx X (.BoolOp .Or [a] pos) ta := pw_or1 ha
theorem cw_and (ha : CTx X a ta) (hb : CWx X (.BoolOp .And (b :: rest) pos) tb) : CWx X (.BoolOp .And (a :: b :: rest) pos) (kAnd ta tb) := PW.imp (pw_and ha hb) fun σ H Q h => by
  obtain ⟨ρ, M, m, z, M', rs, w, hf, P⟩ := h
  unfold kAnd at hf
  cases ea : ta ρ M with
  | none => rw [ea] at hf; cases hf
  | some p =>
    rw [ea] at hf
    simp only [Option.bind_some] at hf
    refine bindT rs w ea fun H1 m1 e1 w1 rs1 => ?_
    split at hf
    · rename_i e; rw [if_pos e]
      exact ⟨ρ, p.2, m1, z, M', rs1, w1, hf, fun H2 m2 e2 w2 => P H2 m2 (e1.trans e2) w2⟩
    · rename_i e; rw [if_neg e]
      cases hf
      exact P H1 m1 e1 w1
theorem cw_or (ha : CTx X a ta) (hb : CWx X (.BoolOp .Or (b :: rest) pos) tb) : CWx X (.BoolOp .Or (a :: b :: rest) pos) (kOr ta tb) := PW.imp (pw_or ha hb) fun σ H Q h => by
  obtain ⟨ρ, M, m, z, M', rs, w, hf, P⟩ := h
  unfold kOr at hf
  cases ea : ta ρ M with
  | none => rw [ea] at hf; cases hf
  | some p =>
    rw [ea] at hf
    simp only [Option.bind_some] at hf
    refine bindT rs w ea fun H1 m1 e1 w1 rs1 => ?_
    split at hf
    · rename_i e; rw [if_pos e]
      cases hf
      exact P H1 m1 e1 w1
    · rename_i e; rw [if_neg e]
      exact ⟨ρ, p.2, m1, z, M', rs1, w1, hf, fun H2 m2 e2 w2 => P H2 m2 (e1.trans e2) w2⟩
theorem ct_w (h : CWx X a ta) : CTx X a ta := h.pt
theorem ct_not (ha : CTx X a ta) : CTx X (.UnaryOp .Not a pos) (kNot ta) := PT.imp (pt_not ha) fun σ H Q h => by
  obtain ⟨ρ, M, m, z, M', rs, w, hf, P⟩ := h
  unfold kNot at hf
  cases ea : ta ρ M with
  | none => rw [ea] at hf; cases hf
  | some p =>
    rw [ea] at hf
    cases hf
    exact bindT rs w ea fun H1 m1 e1 w1 rs1 => P H1 m1 e1 w1
/-- .. as values -/
def cAnd (fa fb : Ef) : Ef := fun ρ M => (fa ρ M).bind fun p => match p.1.d with
  | .bl true => fb ρ p.2
  | .bl false => some (.val (.bl false), p.2)
  | _ => none
def cOr (fa fb : Ef) : Ef := fun ρ M => (fa ρ M).bind fun p => match p.1.d with
  | .bl true => some (.val (.bl true), p.2)
  | .bl false => fb ρ p.2
  | _ => none
def cNot (fa : Ef) : Ef := fun ρ M => (fa ρ M).bind fun p => match p.1.d with
  | .bl b => some (.val (.bl (!b)), p.2)
  | _ => none
theorem ce_one {op} (h : CEx X a fa) : CEx X (.BoolOp op [a] pos) fa := pe_one h
theorem ce_and (ha : CEx X a fa) (hb : CEx X (.BoolOp .And (b :: rest) pos) fb) : CEx X (.BoolOp .And (a :: b :: rest) pos) (cAnd fa fb) := PE.imp (pe_and ha hb) fun σ H Q h => by
  obtain ⟨ρ, M, m, z, M', rs, w, hf, P⟩ := h
  unfold cAnd at hf
  cases ea : fa ρ M with
  | none => rw [ea] at hf; cases hf
  | some p =>
    rw [ea] at hf
    simp only [Option.bind_some] at hf
    refine bindE rs w ea fun H1 m1 v e1 w1 rs1 r1 => ?_
    split at hf
    · rename_i e; rw [e, Rl] at r1
      refine ⟨true, r1, ?_⟩; rw [if_pos rfl]
      exact ⟨ρ, p.2, m1, z, M', rs1, w1, hf, P.ext e1⟩
    · rename_i e; rw [e, Rl] at r1
      refine ⟨false, r1, ?_⟩; rw [if_neg Bool.false_ne_true]
      cases hf
      exact (P.ext e1).val w1 (by rw [Rl])
    · cases hf
theorem ce_or (ha : CEx X a fa) (hb : CEx X (.BoolOp .Or (b :: rest) pos) fb) : CEx X (.BoolOp .Or (a :: b :: rest) pos) (cOr fa fb) := PE.imp (pe_or ha hb) fun σ H Q h => by
  obtain ⟨ρ, M, m, z, M', rs, w, hf, P⟩ := h
  unfold cOr at hf
  cases ea : fa ρ M with
  | none => rw [ea] at hf; cases hf
  | some p =>
    rw [ea] at hf
    simp only [Option.bind_some] at hf
    refine bindE rs w ea fun H1 m1 v e1 w1 rs1 r1 => ?_
    split at hf
    · rename_i e; rw [e, Rl] at r1
      refine ⟨true, r1, ?_⟩; rw [if_pos rfl]
      cases hf
      exact (P.ext e1).val w1 (by rw [Rl])
    · rename_i e; rw [e, Rl] at r1
      refine ⟨false, r1, ?_⟩; rw [if_neg Bool.false_ne_true]
      exact ⟨ρ, p.2, m1, z, M', rs1, w1, hf, P.ext e1⟩
    · cases hf
theorem ce_not (ha : CEx X a fa) : CEx X (.UnaryOp .Not a pos) (cNot fa) := PE.imp (pe_not ha) fun σ H Q h => by
  obtain ⟨ρ, M, m, z, M', rs, w, hf, P⟩ := h
  unfold cNot at hf
  cases ea : fa ρ M with
  | none => rw [ea] at hf; cases hf
  | some p =>
    rw [ea] at hf
    simp only [Option.bind_some] at hf
    refine bindE rs w ea fun H1 m1 v e1 w1 rs1 r1 => ?_
    split at hf
    · rename_i b e; rw [e, Rl] at r1
      cases hf
      exact ⟨b, r1, (P.ext e1).val w1 (by rw [Rl])⟩
    · cases hf
def cIf (t : Tf) (fa fb : Ef) : Ef := fun ρ M => (t ρ M).bind fun p => if p.1 = true then fa ρ p.2 else fb ρ p.2
theorem ce_if (hc : CTx X c ta) (ha : CEx X a fa) (hb : CEx X b fb) : CEx X (.IfExp c a b pos) (cIf ta fa fb) := PE.imp (pe_ifExp hc ha hb) fun σ H Q h => by
  obtain ⟨ρ, M, m, z, M', rs, w, hf, P⟩ := h
  unfold cIf at hf
  cases ea : ta ρ M with
  | none => rw [ea] at hf; cases hf
  | some p =>
    rw [ea] at hf
    simp only [Option.bind_some] at hf
    refine bindT rs w ea fun H1 m1 e1 w1 rs1 => ?_
    split at hf
    · rename_i e; rw [if_pos e]; exact ⟨ρ, p.2, m1, z, M', rs1, w1, hf, P.ext e1⟩
    · rename_i e; rw [if_neg e]; exact ⟨ρ, p.2, m1, z, M', rs1, w1, hf, P.ext e1⟩
end

/-! ### argument lists, displays -/
section
variable {X : Cx} {e : Expr} {es : List Expr} {f : Ef} {g : Af} {pos : Pos}
def aNil : Af := fun _ M => some ([], M)
def aCons (f : Ef) (g : Af) : Af := fun ρ M => (f ρ M).bind fun p => (g ρ p.2).bind fun q => some (p.1.d :: q.1, q.2)
theorem ca_nil : CAx X [] aNil := PA.imp pa_nil fun σ H Q ⟨ρ, M, m, ds, M', rs, w, hf, P⟩ => by
  cases hf
  exact P H m [] .refl w (by rw [Rls])
theorem ca_cons (ha : CEx X e f) (hr : CAx X es g) (hs : starEach (e :: es) X.env = (false, eval e X.env) :: starEach es X.env := by rfl) : CAx X (e :: es) (aCons f g) := PA.imp (pa_cons ha hr hs) fun σ H Q ⟨ρ, M, m, ds, M', rs, w, hf, P⟩ => by
  unfold aCons at hf
  cases ea : f ρ M with
  | none => rw [ea] at hf; cases hf
  | some p =>
    cases eb : g ρ p.2 with
    | none => simp [ea, eb] at hf
    | some q =>
      simp [ea, eb] at hf
      obtain ⟨rfl, rfl⟩ := hf
      refine bindE rs w ea fun H1 m1 v e1 w1 rs1 r1 => ?_
      refine bindA rs1 w1 eb fun H2 m2 vs e2 w2 rs2 r2 => ?_
      exact P H2 m2 _ (e1.trans e2) w2 (by rw [Rls]; exact ⟨_, _, rfl, r1.ext e2, r2⟩)
def cTup (g : Af) : Ef := fun ρ M => (g ρ M).bind fun p => if p.1.length ≤ sizeLine then some (.val (.tup p.1), p.2) else none
def cLst (g : Af) : Ef := fun ρ M => (g ρ M).bind fun p => if p.1.length ≤ sizeLine then some (.new p.1, p.2) else none
theorem ce_tup {x1} (h : CAx X es g) : CEx X (.Tuple es x1 pos) (cTup g) := PE.imp (pe_tup h) fun σ H Q ⟨ρ, M, m, z, M', rs, w, hf, P⟩ => by
  unfold cTup at hf
  cases ea : g ρ M with
  | none => rw [ea] at hf; cases hf
  | some p =>
    rw [ea] at hf
    simp only [Option.bind_some] at hf
    split at hf
    · cases hf
      refine bindA rs w ea fun H1 m1 vs e1 w1 rs1 r1 => ⟨by rw [← r1.length]; assumption, (P.ext e1).tup w1 r1⟩
    · cases hf
theorem ce_lst (h : CAx X es g) : CEx X (.List es pos) (cLst g) := PE.imp (pe_lst h) fun σ H Q ⟨ρ, M, m, z, M', rs, w, hf, P⟩ => by
  unfold cLst at hf
  cases ea : g ρ M with
  | none => rw [ea] at hf; cases hf
  | some p =>
    rw [ea] at hf
    simp only [Option.bind_some] at hf
    split at hf
    · cases hf
      refine bindA rs w ea fun H1 m1 vs e1 w1 rs1 r1 => ⟨by rw [← r1.length]; assumption, (P.ext e1).new w1 r1⟩
    · cases hf
end
end CI

/-! Ci3: operators by values, subscripts, slices, calls, attributes -/
namespace CI
open PySem PySem.Spec PyProof.Rows L2

/-! ### sequences -/
/-- a list that can be read; that can be written; a tuple -/
def asL (M : Mem) : D → Option (List D)
  | .lst ds => some ds
  | .scr ns => some (ns.map .int)
  | .loc k => match M[k]? with
    | some (.lst ds) => some ds
    | _ => none
  | _ => none
def asW (M : Mem) : D → Option (List D)
  | .lst ds => some ds
  | .loc k => match M[k]? with
    | some (.lst ds) => some ds
    | _ => none
  | _ => none
def asT : D → Option (List D)
  | .tup ds => some ds
  | _ => none
/-- any sequence -/
def asS (M : Mem) (d : D) : Option (List D) := match d with
  | .tup ds => some ds
  | d => asL M d
section
variable {K : PySem.W.Frag} {H : Hp} {m : List Addr} {M : Mem} {d : D} {ds : List D} {x : V}
theorem asW_ok (w : Wd K H m M) (r : Rl K H m d x) (h : asW M d = some ds) : ∃ a vs, x = .ref a ∧ H a = some (.lst vs) ∧ Rls K H m ds vs := by
  cases d with
  | lst es => cases h; rw [Rl] at r; obtain ⟨a, vs, r1, _, r2, r3⟩ := r; exact ⟨a, vs, r1, r2, r3⟩
  | loc k =>
    rw [Rl] at r
    obtain ⟨a, rfl, ha⟩ := r
    unfold asW at h
    simp only at h
    split at h
    · rename_i es hk
      cases h
      obtain ⟨b, hb, vs, h1, h2⟩ := w.get hk
      rw [ha] at hb; cases hb
      exact ⟨a, vs, rfl, h1, h2⟩
    · cases h
  | _ => cases h
theorem asL_ok (w : Wd K H m M) (r : Rl K H m d x) (h : asL M d = some ds) : ∃ a vs, x = .ref a ∧ SqL K H a vs ∧ Rls K H m ds vs := by
  cases d with
  | lst es => obtain ⟨a, vs, h1, h2, h3⟩ := asW_ok w r (d := .lst es) h; exact ⟨a, vs, h1, .of h2, h3⟩
  | loc k => obtain ⟨a, vs, h1, h2, h3⟩ := asW_ok w r (d := .loc k) h; exact ⟨a, vs, h1, .of h2, h3⟩
  | scr ns =>
    cases h
    rw [Rl] at r
    obtain ⟨a, rfl, ha⟩ := r
    exact ⟨a, _, rfl, ha.l, .ints⟩
  | _ => cases h
theorem asT_ok (r : Rl K H m d x) (h : asT d = some ds) : ∃ a vs, x = .ref a ∧ SqT K H a vs ∧ Rls K H m ds vs := by
  cases d with
  | tup es => cases h; rw [Rl] at r; exact r
  | _ => cases h
theorem asS_ok (w : Wd K H m M) (r : Rl K H m d x) (h : asS M d = some ds) : ∃ a vs, x = .ref a ∧ (SqL K H a vs ∨ SqT K H a vs) ∧ Rls K H m ds vs := by
  cases d with
  | tup es => obtain ⟨a, vs, h1, h2, h3⟩ := asT_ok r (d := .tup es) h; exact ⟨a, vs, h1, .inr h2, h3⟩
  | lst es => obtain ⟨a, vs, h1, h2, h3⟩ := asL_ok w r (d := .lst es) h; exact ⟨a, vs, h1, .inl h2, h3⟩
  | loc k => obtain ⟨a, vs, h1, h2, h3⟩ := asL_ok w r (d := .loc k) h; exact ⟨a, vs, h1, .inl h2, h3⟩
  | scr k => obtain ⟨a, vs, h1, h2, h3⟩ := asL_ok w r (d := .scr k) h; exact ⟨a, vs, h1, .inl h2, h3⟩
  | _ => cases h
end

/-! ### int operators -/
section
variable {X : Cx}
def oI (g : Int → Int → D) : Bop := fun d e _ => match d, e with
  | .int i, .int j => some (.val (g i j))
  | _, _ => none
def oIc (C : Int → Int → Bool) (g : Int → Int → D) : Bop := fun d e _ => match d, e with
  | .int i, .int j => if C i j = true then some (.val (g i j)) else none
  | _, _ => none
theorem opOk_I {f : Value → Value → Sem Value} {g : Int → Int → D} {gv : Int → Int → V} (h : OpR X f (rI0 gv)) (hg : ∀ i j H m, Rl X.K H m (g i j) (gv i j)) : OpOk X f (oI g) :=
  ⟨_, h, fun H m M d e x y z Q w rd re ho P => by
    unfold oI at ho
    split at ho
    · rename_i i j
      cases ho
      rw [Rl] at rd re
      exact ⟨i, j, rd, re, P.val w (hg i j H m)⟩
    · cases ho⟩
theorem opOk_Ic {f : Value → Value → Sem Value} {C : Int → Int → Prop} {Cb : Int → Int → Bool} {g : Int → Int → D} {gv : Int → Int → V} (h : OpR X f (rI C gv)) (hg : ∀ i j H m, Rl X.K H m (g i j) (gv i j)) (hc : ∀ i j, Cb i j = true → C i j) : OpOk X f (oIc Cb g) :=
  ⟨_, h, fun H m M d e x y z Q w rd re ho P => by
    unfold oIc at ho
    split at ho
    · rename_i i j
      split at ho
      · rename_i hcb
        cases ho
        rw [Rl] at rd re
        exact ⟨i, j, rd, re, hc i j hcb, P.val w (hg i j H m)⟩
      · cases ho
    · cases ho⟩
theorem OpOk.or {f : Value → Value → Sem Value} {o o' : Bop} (h : OpOk X f o) (h' : OpOk X f o') : OpOk X f (fun d e M => (o d e M).orElse fun _ => o' d e M) := by
  obtain ⟨r, h1, h2⟩ := h
  obtain ⟨r', h1', h2'⟩ := h'
  refine ⟨_, h1.or h1', fun H m M d e x y z Q w rd re ho P => ?_⟩
  cases q : o d e M with
  | some z' => simp [q] at ho; subst ho; exact .inl (h2 H m M d e x y z' Q w rd re q P)
  | none => simp [q] at ho; exact .inr (h2' H m M d e x y z Q w rd re ho P)
def sm64 (i : Int) : Bool := decide (-(2 ^ 64) < i) && decide (i < 2 ^ 64)
def bMul (i j : Int) : Bool := sm64 i || sm64 j
def bDiv (_ j : Int) : Bool := decide (0 < j) && decide (j < 1073741824)
def bMod (_ j : Int) : Bool := decide (0 < j)
def bPow (i j : Int) : Bool := decide (0 ≤ j) && decide (j ≤ 1000000) && decide (i.natAbs < 2 ^ 64)
theorem rl_int {K : PySem.W.Frag} {H : Hp} {m : List Addr} {i : Int} : Rl K H m (.int i) (.int i) := by rw [Rl]
theorem rl_bl {K : PySem.W.Frag} {H : Hp} {m : List Addr} {i : Bool} : Rl K H m (.bl i) (.bl i) := by rw [Rl]
theorem rl_str {K : PySem.W.Frag} {H : Hp} {m : List Addr} {i : Str} : Rl K H m (.str i) (.str i) := by rw [Rl]
theorem rl_non {K : PySem.W.Frag} {H : Hp} {m : List Addr} : Rl K H m .non .non := by rw [Rl]
def oSub : Bop := oI fun i j => .int (i - j)
theorem ok_sub : OpOk X (binaryOp .Sub) oSub := opOk_I op_sub fun _ _ _ _ => rl_int
def oMulI : Bop := oIc bMul fun i j => .int (i * j)
theorem ok_mulI : OpOk X (binaryOp .Mult) oMulI := opOk_Ic op_mul (fun _ _ _ _ => rl_int) fun i j h => by
  unfold bMul sm64 at h
  simp only [Bool.or_eq_true, Bool.and_eq_true, decide_eq_true_eq] at h
  exact h
def oDiv : Bop := oIc bDiv fun i j => .int (i / j)
theorem ok_div : OpOk X (binaryOp .FloorDiv) oDiv := opOk_Ic op_fdiv (fun _ _ _ _ => rl_int) fun i j h => by
  unfold bDiv at h
  simp only [Bool.and_eq_true, decide_eq_true_eq] at h
  exact h
def oMod : Bop := oIc bMod fun i j => .int (i % j)
theorem ok_mod : OpOk X (binaryOp .Mod) oMod := opOk_Ic op_mod (fun _ _ _ _ => rl_int) fun i j h => by
  unfold bMod at h
  simpa using h
def oPow : Bop := oIc bPow fun i j => .int (i ^ j.toNat)
theorem ok_pow : OpOk X (binaryOp .Pow) oPow := opOk_Ic op_pow (fun _ _ _ _ => rl_int) fun i j h => by
  unfold bPow at h
  simp only [Bool.and_eq_true, decide_eq_true_eq] at h
  exact ⟨h.1.1, h.1.2, h.2⟩
def oLt : Bop := oI fun i j => .bl (decide (i < j))
theorem ok_lt : OpOk X (compareOp .Lt) oLt := opOk_I op_lt fun _ _ _ _ => rl_bl
def oLe : Bop := oI fun i j => .bl (decide (i ≤ j))
theorem ok_le : OpOk X (compareOp .LtE) oLe := opOk_I op_le fun _ _ _ _ => rl_bl
def oGt : Bop := oI fun i j => .bl (decide (j < i))
theorem ok_gt : OpOk X (compareOp .Gt) oGt := opOk_I op_gt fun _ _ _ _ => rl_bl
def oGe : Bop := oI fun i j => .bl (decide (j ≤ i))
theorem ok_ge : OpOk X (compareOp .GtE) oGe := opOk_I op_ge fun _ _ _ _ => rl_bl
/-! ### + -/
def oAdd : Bop := fun d e M => match d, e with
  | .int i, .int j => some (.val (.int (i + j)))
  | .str i, .str j => if i.length + j.length ≤ sizeLine then some (.val (.str (i ++ j))) else none
  | .tup xs, .tup ys => if xs.length + ys.length ≤ sizeLine then some (.val (.tup (xs ++ ys))) else none
  | d, e => match asW M d, asW M e with
    | some xs, some ys => if xs.length + ys.length ≤ sizeLine then some (.new (xs ++ ys)) else none
    | _, _ => none
theorem rls_nil {K : PySem.W.Frag} {H : Hp} {m : List Addr} {vs : List V} (h : Rls K H m [] vs) : vs = [] := by rw [Rls] at h; exact h
theorem rls_of_nil {K : PySem.W.Frag} {H : Hp} {m : List Addr} {ds : List D} (h : Rls K H m ds []) : ds = [] := by
  have := h.length
  exact List.eq_nil_of_length_eq_zero (by simpa using this)
theorem ok_add : OpOk X (binaryOp .Add) oAdd := by
  refine ⟨_, op_add.or (op_add_str.or (op_catA.or op_cat)), fun H m M d e x y z Q w rd re ho P => ?_⟩
  unfold oAdd at ho
  split at ho
  · rename_i i j
    cases ho
    rw [Rl] at rd re
    exact .inl ⟨i, j, rd, re, P.val w rl_int⟩
  · rename_i i j
    rw [Rl] at rd re
    split at ho
    · rename_i hl
      cases ho
      exact .inr (.inl ⟨i, j, rd, re, hl, P.val w rl_str⟩)
    · cases ho
  · rename_i xs ys
    split at ho
    · rename_i hl
      cases ho
      rw [Rl] at rd re
      obtain ⟨a, vs, rfl, hv, r1⟩ := rd
      obtain ⟨b, ws, rfl, hw, r2⟩ := re
      refine .inr (.inr (.inl ⟨a, b, vs, ws, rfl, rfl, hv, hw, by rw [← r1.length, ← r2.length]; exact hl, fun q => ?_, fun _ q => ?_, fun _ _ => P.tup w (r1.append r2)⟩))
      · subst q
        have := rls_of_nil r1; subst this
        exact P.val w (by rw [Rl]; exact ⟨b, ws, rfl, hw, r2⟩)
      · subst q
        have := rls_of_nil r2; subst this
        exact P.val w (by rw [Rl]; exact ⟨a, vs, rfl, hv, by simpa using r1⟩)
    · cases ho
  · split at ho
    · rename_i xs ys h1 h2
      split at ho
      · rename_i hl
        cases ho
        obtain ⟨a, vs, rfl, hv, r1⟩ := asW_ok w rd h1
        obtain ⟨b, ws, rfl, hw, r2⟩ := asW_ok w re h2
        exact .inr (.inr (.inr ⟨a, b, vs, ws, rfl, rfl, hv, hw, by rw [← r1.length, ← r2.length]; exact hl, P.new w (r1.append r2)⟩))
      · cases ho
    · cases ho

/-! ### is -/
def isBl (b : Bool) : D → Bool
  | .bl a => decide (a = b)
  | _ => false
def isNon : D → Bool
  | .non => true
  | _ => false
def oIs (neg : Bool) : Bop := fun d e _ => match e with
  | .non => some (.val (.bl (neg != isNon d)))
  | .bl b => some (.val (.bl (neg != isBl b d)))
  | _ => none
theorem plain_of {x : V} {v : Value} {b : Bool} (r : RelV x v) : plainIs v (.bool b) = true := by
  cases x with
  | non => cases r; rfl
  | bl _ => cases r; rfl
  | int _ => obtain ⟨t, rfl⟩ := r; rfl
  | str _ => obtain ⟨t, rfl⟩ := r; rfl
  | byt _ => obtain ⟨t, rfl⟩ := r; rfl
  | flt _ => obtain ⟨t, rfl⟩ := r; rfl
  | ref _ => cases r; rfl
  | ty _ => cases r; rfl
theorem beq_bl {x : V} {v : Value} {b : Bool} (r : RelV x v) : (v == Value.bool b) = decide (x = V.bl b) := by
  cases x with
  | non => cases r; rfl
  | bl a =>
    cases r
    by_cases e : a = b
    · subst e; simp
    · simp [e]
  | int _ => obtain ⟨t, rfl⟩ := r; rfl
  | str _ => obtain ⟨t, rfl⟩ := r; rfl
  | byt _ => obtain ⟨t, rfl⟩ := r; rfl
  | flt _ => obtain ⟨t, rfl⟩ := r; rfl
  | ref _ => cases r; rfl
  | ty _ => cases r; rfl
theorem op_isB : OpR X (compareOp .Is) (fun x y H Q => ∃ b, y = .bl b ∧ Q (.bl (decide (x = .bl b))) H) := by
  intro pins s σ H x y v u Q I rx ry h
  obtain ⟨b, rfl, q⟩ := h
  cases (show u = Value.bool b from ry)
  exact wpAny_is_plain (plain_of rx) ⟨.bl _, H, I, by rw [beq_bl rx]; rfl, q⟩
theorem op_notB : OpR X (compareOp .IsNot) (fun x y H Q => ∃ b, y = .bl b ∧ Q (.bl (!decide (x = .bl b))) H) := by
  intro pins s σ H x y v u Q I rx ry h
  obtain ⟨b, rfl, q⟩ := h
  cases (show u = Value.bool b from ry)
  exact wpAny_isNot_plain (plain_of rx) ⟨.bl _, H, I, by rw [beq_bl rx]; rfl, q⟩
theorem isNon_ok {K : PySem.W.Frag} {H : Hp} {m : List Addr} {d : D} {x : V} (rd : Rl K H m d x) : decide (x = V.non) = isNon d := by
  cases d <;> rw [Rl] at rd
  · simp [rd, isNon]
  all_goals first | (simp [rd, isNon]; done) | (obtain ⟨_, _, rfl, _⟩ := rd; simp [isNon]; done) | (obtain ⟨_, rfl, _⟩ := rd; simp [isNon]; done)
theorem isBl_ok {K : PySem.W.Frag} {H : Hp} {m : List Addr} {d : D} {x : V} {b : Bool} (rd : Rl K H m d x) : decide (x = V.bl b) = isBl b d := by
  cases d <;> rw [Rl] at rd
  all_goals first | (simp [rd, isBl]; done) | (obtain ⟨_, _, rfl, _⟩ := rd; simp [isBl]; done) | (obtain ⟨_, rfl, _⟩ := rd; simp [isBl]; done)
theorem ok_is : OpOk X (compareOp .Is) (oIs false) := by
  refine ⟨_, op_isN.or op_isB, fun H m M d e x y z Q w rd re ho P => ?_⟩
  unfold oIs at ho
  split at ho
  · cases ho
    rw [Rl] at re
    refine .inl ⟨re, ?_⟩
    rw [isNon_ok rd]
    exact P.val w (by rw [Rl]; cases isNon d <;> rfl)
  · rename_i b
    cases ho
    rw [Rl] at re
    refine .inr ⟨b, re, ?_⟩
    rw [isBl_ok rd]
    exact P.val w (by rw [Rl]; cases isBl b d <;> rfl)
  · cases ho
theorem ok_isnot : OpOk X (compareOp .IsNot) (oIs true) := by
  refine ⟨_, op_notN.or op_notB, fun H m M d e x y z Q w rd re ho P => ?_⟩
  unfold oIs at ho
  split at ho
  · cases ho
    rw [Rl] at re
    refine .inl ⟨re, ?_⟩
    rw [isNon_ok rd]
    exact P.val w (by rw [Rl]; cases isNon d <;> rfl)
  · rename_i b
    cases ho
    rw [Rl] at re
    refine .inr ⟨b, re, ?_⟩
    rw [isBl_ok rd]
    exact P.val w (by rw [Rl]; cases isBl b d <;> rfl)
  · cases ho

/-! ### == -/
mutual
def py0 : D → Option PyData
  | .non => some .none
  | .bl b => some (.bool b)
  | .int i => some (.int i)
  | .str x => some (.str x)
  | .tup ds => (py0s ds).map .tuple
  | .lst ds => (py0s ds).map .list
  | .scr ns => some (.list (ns.map .int))
  | .loc _ => none
def py0s : List D → Option (List PyData)
  | [] => some []
  | d :: ds => (py0 d).bind fun p => (py0s ds).bind fun ps => some (p :: ps)
end
def py (M : Mem) (d : D) : Option PyData := match d with
  | .loc k => match M[k]? with
    | some (.lst ds) => (py0s ds).map .list
    | _ => none
  | d => py0 d
section
variable {K : PySem.W.Frag} {H : Hp} {m : List Addr} {M : Mem}
mutual
theorem py0_ok : ∀ {d : D} {x : V} {p : PyData}, Rl K H m d x → py0 d = some p → Dp K H x p
  | .non, _, _, r, h => by rw [Rl] at r; subst r; cases h; exact .non
  | .bl b, _, _, r, h => by rw [Rl] at r; subst r; cases h; exact .bl b
  | .int b, _, _, r, h => by rw [Rl] at r; subst r; cases h; exact .int b
  | .str b, _, _, r, h => by rw [Rl] at r; subst r; cases h; exact .str b
  | .tup ds, _, p, r, h => by
    rw [Rl] at r
    obtain ⟨a, vs, rfl, h1, h2⟩ := r
    rw [py0] at h
    cases q : py0s ds with
    | none => rw [q] at h; cases h
    | some ps => rw [q] at h; cases h; exact .tup h1 (py0s_ok h2 q)
  | .lst ds, _, p, r, h => by
    rw [Rl] at r
    obtain ⟨a, vs, rfl, _, h1, h2⟩ := r
    rw [py0] at h
    cases q : py0s ds with
    | none => rw [q] at h; cases h
    | some ps => rw [q] at h; cases h; exact .lst (.of h1) (py0s_ok h2 q)
  | .scr ns, _, p, r, h => by
    rw [Rl] at r
    obtain ⟨a, rfl, h1⟩ := r
    rw [py0] at h
    cases h
    refine .lst h1.l ?_
    induction ns with
    | nil => exact .nil
    | cons n ns ih => exact .cons (.int n) (by
        clear h1 ih
        induction ns with
        | nil => exact .nil
        | cons n ns ih => exact .cons (.int n) ih)
  | .loc _, _, _, _, h => by cases h
theorem py0s_ok : ∀ {ds : List D} {vs : List V} {ps : List PyData}, Rls K H m ds vs → py0s ds = some ps → DpAll K H vs ps
  | [], _, _, r, h => by rw [Rls] at r; subst r; cases h; exact .nil
  | d :: ds, _, ps, r, h => by
    rw [Rls] at r
    obtain ⟨v, r', rfl, h1, h2⟩ := r
    rw [py0s] at h
    cases q : py0 d with
    | none => rw [q] at h; cases h
    | some p =>
      cases q2 : py0s ds with
      | none => rw [q, q2] at h; cases h
      | some ps2 => rw [q, q2] at h; cases h; exact .cons (py0_ok h1 q) (py0s_ok h2 q2)
end
theorem py_ok {d : D} {x : V} {p : PyData} (w : Wd K H m M) (r : Rl K H m d x) (h : py M d = some p) : Dp K H x p := by
  cases d with
  | loc k =>
    rw [Rl] at r
    obtain ⟨a, rfl, ha⟩ := r
    unfold py at h
    simp only at h
    split at h
    · rename_i ds hk
      cases q : py0s ds with
      | none => rw [q] at h; cases h
      | some ps =>
        rw [q] at h; cases h
        obtain ⟨b, hb, vs, h1, h2⟩ := w.get hk
        rw [ha] at hb; cases hb
        exact .lst (.of h1) (py0s_ok h2 q)
    · cases h
  | _ => exact py0_ok r h
end
def eqB (M : Mem) (d e : D) : Option Bool := match d, e with
  | .int i, .int j => some (decide (i = j))
  | .str i, .str j => some (decide (i = j))
  | .bl i, .bl j => some (decide (i = j))
  | d, e => match py M d, py M e with
    | some a, some b => if SeqAt.shaped a = true ∧ SeqAt.shaped b = true then some (PyData.eqv a b) else none
    | _, _ => none
def oEq : Bop := fun d e M => (eqB M d e).bind fun b => some (.val (.bl b))
def oNe : Bop := fun d e M => (eqB M d e).bind fun b => some (.val (.bl (!b)))
theorem eq_of {H : Hp} {m : List Addr} {M : Mem} {d e : D} {x y : V} {b : Bool} {K : PySem.W.Frag} (w : Wd K H m M) (rd : Rl K H m d x) (re : Rl K H m e y) (h : eqB M d e = some b) :
    (scal x y = true ∧ b = decide (x = y)) ∨ ∃ p q, Dp K H x p ∧ Dp K H y q ∧ SeqAt.shaped p = true ∧ SeqAt.shaped q = true ∧ b = PyData.eqv p q := by
  unfold eqB at h
  split at h
  · rw [Rl] at rd re; subst rd re; cases h; exact .inl ⟨rfl, by simp⟩
  · rw [Rl] at rd re; subst rd re; cases h; exact .inl ⟨rfl, by simp⟩
  · rw [Rl] at rd re; subst rd re; cases h; exact .inl ⟨rfl, by simp⟩
  · split at h
    · rename_i p q h1 h2
      split at h
      · rename_i hs
        cases h
        exact .inr ⟨p, q, py_ok w rd h1, py_ok w re h2, hs.1, hs.2, rfl⟩
      · cases h
    · cases h
theorem ok_eq (hu : X.A.units + 64 < cLine) : OpOk X (compareOp .Eq) oEq := by
  refine ⟨_, op_eq.or (op_eqD hu), fun H m M d e x y z Q w rd re ho P => ?_⟩
  unfold oEq at ho
  cases q : eqB M d e with
  | none => rw [q] at ho; cases ho
  | some b =>
    rw [q] at ho; cases ho
    rcases eq_of w rd re q with ⟨h1, rfl⟩ | ⟨p, p', h1, h2, h3, h4, rfl⟩
    · exact .inl ⟨h1, P.val w rl_bl⟩
    · exact .inr ⟨p, p', h1, h2, h3, h4, P.val w rl_bl⟩
theorem ok_ne (hu : X.A.units + 64 < cLine) : OpOk X (compareOp .NotEq) oNe := by
  refine ⟨_, op_ne.or (op_neD hu), fun H m M d e x y z Q w rd re ho P => ?_⟩
  unfold oNe at ho
  cases q : eqB M d e with
  | none => rw [q] at ho; cases ho
  | some b =>
    rw [q] at ho; cases ho
    rcases eq_of w rd re q with ⟨h1, rfl⟩ | ⟨p, p', h1, h2, h3, h4, rfl⟩
    · exact .inl ⟨h1, P.val w rl_bl⟩
    · exact .inr ⟨p, p', h1, h2, h3, h4, P.val w rl_bl⟩

/-! ### in -/
def fl : D → Bool
  | .non => true | .bl _ => true | .int _ => true | .str _ => true | _ => false
def eqF : D → D → Bool
  | .non, .non => true
  | .bl a, .bl b => a == b
  | .bl a, .int b => (if a then 1 else 0) == b
  | .int a, .bl b => a == (if b then 1 else 0)
  | .int a, .int b => a == b
  | .str a, .str b => a == b
  | _, _ => false
def inD (d : D) (ds : List D) : Bool := ds.any fun e => eqF e d
def oIn (neg : Bool) : Bop := fun d e M => (asS M e).bind fun ds => if fl d = true ∧ ds.all fl = true then some (.val (.bl (if neg then !inD d ds else inD d ds))) else none
theorem fl_ok {K : PySem.W.Frag} {H : Hp} {m : List Addr} {d : D} {x : V} (r : Rl K H m d x) (h : fl d = true) : flatV x = true := by
  cases d <;> first | (rw [Rl] at r; subst r; rfl) | cases h
theorem eqF_ok {K : PySem.W.Frag} {H : Hp} {m : List Addr} {d e : D} {x y : V} (r : Rl K H m d x) (r' : Rl K H m e y) (h : fl d = true) (h' : fl e = true) : eqF d e = eqV x y := by
  cases d <;> first | (cases h; done) | (cases e <;> first | (cases h'; done) | (rw [Rl] at r; rw [Rl] at r'; subst r r'; rfl))
theorem fls_ok {K : PySem.W.Frag} {H : Hp} {m : List Addr} : ∀ {ds : List D} {vs : List V}, Rls K H m ds vs → ds.all fl = true → vs.all flatV = true
  | [], _, r, _ => by rw [Rls] at r; subst r; rfl
  | d :: ds, _, r, h => by
    rw [Rls] at r
    obtain ⟨v, s, rfl, h1, h2⟩ := r
    rw [List.all_cons, Bool.and_eq_true] at h ⊢
    exact ⟨fl_ok h1 h.1, fls_ok h2 h.2⟩
theorem inD_ok {K : PySem.W.Frag} {H : Hp} {m : List Addr} {d : D} {x : V} (r : Rl K H m d x) (h : fl d = true) : ∀ {ds : List D} {vs : List V}, Rls K H m ds vs → ds.all fl = true → inD d ds = inV x vs
  | [], _, r, _ => by rw [Rls] at r; subst r; rfl
  | e :: ds, _, r', h' => by
    rw [Rls] at r'
    obtain ⟨v, s, rfl, h1, h2⟩ := r'
    rw [List.all_cons, Bool.and_eq_true] at h'
    show (eqF e d || inD d ds) = (eqV v x || inV x s)
    rw [eqF_ok h1 r h'.1 h, inD_ok r h h2 h'.2]
theorem in_of {neg : Bool} {H : Hp} {m : List Addr} {M : Mem} {d e : D} {x y : V} {z : Rz} {Q : VK} {K : PySem.W.Frag} (w : Wd K H m M) (rd : Rl K H m d x) (re : Rl K H m e y) (ho : oIn neg d e M = some z) (P : Post K H m z M Q) : rIn K neg x y H Q := by
  unfold oIn at ho
  cases q : asS M e with
  | none => rw [q] at ho; cases ho
  | some ds =>
    rw [q] at ho
    simp only [Option.bind_some] at ho
    split at ho
    · rename_i hh
      cases ho
      obtain ⟨a, vs, rfl, hs, hr⟩ := asS_ok w re q
      refine ⟨a, vs, rfl, hs, fl_ok rd hh.1, fls_ok hr hh.2, ?_⟩
      rw [← inD_ok rd hh.1 hr hh.2]
      exact P.val w rl_bl
    · cases ho
theorem ok_in : OpOk X (compareOp .In) (oIn false) := ⟨_, op_in_seq, fun H m M d e x y z Q w rd re ho P => in_of w rd re ho P⟩
theorem ok_notin : OpOk X (compareOp .NotIn) (oIn true) := ⟨_, op_notIn_seq, fun H m M d e x y z Q w rd re ho P => in_of w rd re ho P⟩
end
end CI

/-! Ci4: subscripts, slices, calls, attributes, methods -/
namespace CI
open PySem PySem.Spec PyProof.Rows L2

section
variable {K : PySem.W.Frag} {H : Hp} {m : List Addr} {M : Mem}
theorem Rls.atI {ds : List D} {vs : List V} (h : Rls K H m ds vs) {i : Int} {d : D} (q : L2.atI ds i = some d) : ∃ v, L2.atI vs i = some v ∧ Rl K H m d v := by
  unfold L2.atI at q ⊢
  rw [← h.length]
  cases e : ixN ds.length i with
  | none => rw [e] at q; cases q
  | some j =>
    rw [e] at q
    exact h.get (i := j) q
def cutD (xs : List D) (lo hi : Option Int) : List D := (xs.drop (HT.sIx xs.length 0 lo)).take (HT.sIx xs.length xs.length hi - HT.sIx xs.length 0 lo)
theorem Rls.cut {ds : List D} {vs : List V} (h : Rls K H m ds vs) (lo hi : Option Int) : Rls K H m (cutD ds lo hi) (cutV vs lo hi) := by
  unfold cutD cutV
  rw [← h.length]
  exact (h.drop _).take _
end

/-! ### subscripts -/
def oIx : Bop := fun d e M => match e with
  | .int i => match d with
    | .str z => if z.length ≤ sizeLine then (L2.atI z.cps.toList i).bind fun c => some (.val (.str ⟨#[c]⟩)) else none
    | d => (asS M d).bind fun ds => (L2.atI ds i).bind fun x => some (.val x)
  | _ => none
section
variable {X : Cx} {a b : Expr} {fa fb : Ef} {pos : Pos}
theorem ce_ix (ha : CEx X a fa) (hb : CEx X b fb) (hs : PlainIx b) : CEx X (.Subscript a b pos) (cBin oIx fa fb) := PE.imp (pe_ix ix_seq ha hb hs) fun σ H Q h => by
  refine bin_of (fun H m M d e x y z Q w rd re ho P => ?_) h
  unfold oIx at ho
  split at ho
  · rename_i i
    rw [Rl] at re; subst re
    split at ho
    · rename_i s
      rw [Rl] at rd; subst rd
      split at ho
      · rename_i hz
        cases q : L2.atI s.cps.toList i with
        | none => rw [q] at ho; cases ho
        | some c => rw [q] at ho; cases ho; exact .inr (.inr ⟨s, i, c, rfl, rfl, hz, q, P.val w rl_str⟩)
      · cases ho
    · cases q : asS M d with
      | none => rw [q] at ho; cases ho
      | some ds =>
        rw [q] at ho
        simp only [Option.bind_some] at ho
        cases q2 : L2.atI ds i with
        | none => rw [q2] at ho; cases ho
        | some c =>
          rw [q2] at ho; cases ho
          obtain ⟨p, vs, rfl, hs, hr⟩ := asS_ok w rd q
          obtain ⟨v, hv, rv⟩ := hr.atI q2
          rcases hs with hs | hs
          · exact .inl ⟨p, vs, i, v, rfl, rfl, hs, hv, P.val w rv⟩
          · exact .inr (.inl ⟨p, vs, i, v, rfl, rfl, hs, hv, P.val w rv⟩)
  · cases ho
end

/-! ### slices -/
abbrev Of := Slots → Mem → Option (Option Int × Mem)
def tO (K : PySem.W.Frag) (f : Of) : TO := fun σ H Q => ∃ ρ M m o M', Rs K H m ρ σ ∧ Wd K H m M ∧ f ρ M = some (o, M') ∧ ∀ H1 m1, Ext H m H1 m1 → Wd K H1 m1 M' → Q o H1
abbrev COx (X : Cx) (e : Option Expr) (f : Of) : Prop := PO X e (tO X.K f)
theorem PO.imp {X : Cx} {e : Option Expr} {t t' : TO} (h : PO X e t) (i : ∀ σ H Q, t' σ H Q → t σ H Q) : PO X e t' := ⟨fun pins s σ H Q I q => h.run pins s σ H Q I (i σ H Q q)⟩
def sNone : Of := fun _ M => some (none, M)
def sSome (f : Ef) : Of := fun ρ M => (f ρ M).bind fun p => match p.1.d with
  | .int i => some (some i, p.2)
  | _ => none
def oSl (lo hi : Option Int) (d : D) (M : Mem) : Option Rz := match d with
  | .tup ds => some (.val (.tup (cutD ds lo hi)))
  | .str z => if z.length ≤ sizeLine then some (.val (.str (cutS z lo hi))) else none
  | d => (asL M d).bind fun ds => some (.new (cutD ds lo hi))
def cSl (f : Ef) (l h : Of) : Ef := fun ρ M => (f ρ M).bind fun p => (l ρ p.2).bind fun q => (h ρ q.2).bind fun r => (oSl q.1 r.1 p.1.d r.2).bind fun z => some (z, r.2)
section
variable {X : Cx} {e : Expr} {lo hi : Option Expr} {f : Ef} {l h : Of} {pos p2 : Pos}
theorem co_none : COx X none sNone := PO.imp po_none fun σ H Q ⟨ρ, M, m, o, M', rs, w, hf, P⟩ => by cases hf; exact P H m .refl w
theorem co_some (he : CEx X e f) : COx X (some e) (sSome f) := PO.imp (po_some he) fun σ H Q ⟨ρ, M, m, o, M', rs, w, hf, P⟩ => by
  unfold sSome at hf
  cases ea : f ρ M with
  | none => rw [ea] at hf; cases hf
  | some p =>
    rw [ea] at hf
    simp only [Option.bind_some] at hf
    refine bindE rs w ea fun H1 m1 v e1 w1 rs1 r1 => ?_
    split at hf
    · rename_i i hi
      cases hf
      rw [hi, Rl] at r1
      exact ⟨i, r1, P H1 m1 e1 w1⟩
    · cases hf
theorem ce_sl (he : CEx X e f) (hl : COx X lo l) (hh : COx X hi h) : CEx X (.Subscript e (.Slice lo hi none p2) pos) (cSl f l h) := PE.imp (pe_slice (sl_tupA.or (sl_str.or sl_list)) he hl hh) fun σ H Q hq => by
  obtain ⟨ρ, M, m, z, M', rs, w, hf, P⟩ := hq
  unfold cSl at hf
  cases ea : f ρ M with
  | none => rw [ea] at hf; cases hf
  | some p =>
    cases el : l ρ p.2 with
    | none => simp [ea, el] at hf
    | some q =>
      cases eh : h ρ q.2 with
      | none => simp [ea, el, eh] at hf
      | some r =>
        cases ez : oSl q.1 r.1 p.1.d r.2 with
        | none => simp [ea, el, eh, ez] at hf
        | some z' =>
          simp [ea, el, eh, ez] at hf
          obtain ⟨rfl, rfl⟩ := hf
          refine bindE rs w ea fun H1 m1 v e1 w1 rs1 r1 => ?_
          refine ⟨ρ, p.2, m1, q.1, q.2, rs1, w1, el, fun H2 m2 e2 w2 => ?_⟩
          refine ⟨ρ, q.2, m2, r.1, r.2, rs1.ext e2, w2, eh, fun H3 m3 e3 w3 => ?_⟩
          have r3 := r1.ext (e2.trans e3)
          have P3 := P.ext ((e1.trans e2).trans e3)
          unfold oSl at ez
          split at ez
          · rename_i ds hd
            cases ez
            rw [hd, Rl] at r3
            obtain ⟨a, vs, rfl, hs, hr⟩ := r3
            refine .inl ⟨a, vs, rfl, hs, fun hw => ?_, fun _ => P3.tup w3 (hr.cut _ _)⟩
            refine P3.val w3 ?_
            rw [Rl]
            refine ⟨a, vs, rfl, hs, ?_⟩
            have e : cutD ds q.1 r.1 = ds := by
              unfold cutD
              rw [hr.length, hw.1, hw.2]
              rw [List.drop_zero, Nat.sub_zero, ← hr.length, List.take_length]
            rw [e]; exact hr
          · rename_i s hd
            split at ez
            · rename_i hz
              cases ez
              rw [hd, Rl] at r3; subst r3
              exact .inr (.inl ⟨s, rfl, hz, P3.val w3 rl_str⟩)
            · cases ez
          · cases eq : asL r.2 p.1.d with
            | none => simp [eq] at ez
            | some ds =>
              simp [eq] at ez
              subst ez
              obtain ⟨a, vs, rfl, hs, hr⟩ := asL_ok w3 r3 eq
              exact .inr (.inr ⟨a, vs, rfl, hs, P3.new w3 (hr.cut _ _)⟩)
end

/-! ### built-in calls -/
def Cop := List D → Mem → Option Rz
def ClOk (X : Cx) (f : Value) (o : Cop) : Prop := ∃ r, CallR X f r ∧ ∀ H m M ds xs z Q, Wd X.K H m M → Rls X.K H m ds xs → o ds M = some z → Post X.K H m z M Q → r xs H Q
def cCB (o : Cop) (g : Af) : Ef := fun ρ M => (g ρ M).bind fun p => (o p.1 p.2).bind fun r => some (r, p.2)
section
variable {X : Cx} {e : Expr} {es : List Expr} {g : Af} {o : Cop} {x : Str} {id T : String} {p pos : Pos}
theorem cb_of {r : List V → Hp → VK → Prop} (ho : ∀ H m M ds xs z Q, Wd X.K H m M → Rls X.K H m ds xs → o ds M = some z → Post X.K H m z M Q → r xs H Q) {σ : L2.St} {H : Hp} {Q : VK}
    (h : tE X.K (cCB o g) σ H Q) : tCB r (tA X.K g) σ H Q := by
  obtain ⟨ρ, M, m, z, M', rs, w, hf, P⟩ := h
  unfold cCB at hf
  cases ea : g ρ M with
  | none => rw [ea] at hf; cases hf
  | some p =>
    cases eb : o p.1 p.2 with
    | none => simp [ea, eb] at hf
    | some q =>
      simp [ea, eb] at hf
      obtain ⟨rfl, rfl⟩ := hf
      exact bindA rs w ea fun H1 m1 vs e1 w1 rs1 r1 => ho H1 m1 p.2 _ _ _ Q w1 r1 eb (P.ext e1)
theorem ce_callB (hc : ClOk X (.builtin id) o) (hg : Gl X x) (hm : X.mg x = none) (hv : bootBuiltins x = some (.builtin id)) (ha : CAx X (e :: es) g) (hn : x ≠ "__name__" := by decide) (hdb : (x == ("__debug__" : Str)) = false := by decide)
    (he : starEach (e :: es) X.env = (false, eval e X.env) :: starEach es X.env := by rfl) (hpl : (backTo pos (starEach es X.env)).any (·.1) = false := by rfl) : CEx X (.Call (.Name x p) (e :: es) [] pos) (cCB o g) := by
  obtain ⟨r, h1, h2⟩ := hc
  exact PE.imp (pe_callB h1 hg hm hv ha hn hdb he hpl) fun σ H Q h => cb_of h2 h
theorem ce_callTy (hc : ClOk X (.type T) o) (hg : Gl X x) (hm : X.mg x = none) (hv : bootBuiltins x = some (.type T)) (ha : CAx X (e :: es) g) (hn : x ≠ "__name__" := by decide) (hdb : (x == ("__debug__" : Str)) = false := by decide)
    (he : starEach (e :: es) X.env = (false, eval e X.env) :: starEach es X.env := by rfl) (hpl : (backTo pos (starEach es X.env)).any (·.1) = false := by rfl) : CEx X (.Call (.Name x p) (e :: es) [] pos) (cCB o g) := by
  obtain ⟨r, h1, h2⟩ := hc
  exact PE.imp (pe_callTy h1 hg hm hv ha hn hdb he hpl) fun σ H Q h => cb_of h2 h
def oLen : Cop := fun ds M => match ds with
  | [.str z] => if z.length ≤ sizeLine then some (.val (.int z.length)) else none
  | [d] => (asS M d).bind fun es => some (.val (.int es.length))
  | _ => none
theorem ok_len : ClOk X (.builtin "len") oLen := by
  refine ⟨_, call_len, fun H m M ds xs z Q w rd ho P => ?_⟩
  unfold oLen at ho
  split at ho
  · rename_i s
    split at ho
    · rename_i hz
      cases ho
      obtain ⟨v, rfl, r⟩ := rd.one
      rw [Rl] at r; subst r
      exact ⟨_, _, rfl, ⟨hz, rfl⟩, P.val w rl_int⟩
    · cases ho
  · rename_i d _
    obtain ⟨v, rfl, r⟩ := rd.one
    cases q : asS M d with
    | none => rw [q] at ho; cases ho
    | some es =>
      rw [q] at ho; cases ho
      obtain ⟨a, vs, rfl, hs, hr⟩ := asS_ok w r q
      refine ⟨_, vs.length, rfl, ?_, by rw [← hr.length]; exact P.val w rl_int⟩
      exact hs.elim (fun hs => .inl ⟨vs, hs, rfl⟩) fun hs => .inr ⟨vs, hs, rfl⟩
  · cases ho
def oInt : Cop := fun ds _ => match ds with
  | [.int i] => some (.val (.int i))
  | [.bl b] => some (.val (.int (if b then 1 else 0)))
  | _ => none
theorem ok_int : ClOk X (.type "int") oInt := by
  refine ⟨_, call_int1, fun H m M ds xs z Q w rd ho P => ?_⟩
  unfold oInt at ho
  split at ho
  · obtain ⟨v, rfl, r⟩ := rd.one
    rw [Rl] at r; subst r; cases ho
    exact .inl ⟨_, rfl, P.val w rl_int⟩
  · obtain ⟨v, rfl, r⟩ := rd.one
    rw [Rl] at r; subst r; cases ho
    exact .inr ⟨_, rfl, P.val w rl_int⟩
  · cases ho
def oTuple : Cop := fun ds M => match ds with
  | [d] => (asS M d).bind fun es => some (.val (.tup es))
  | _ => none
theorem ok_tuple : ClOk X (.type "tuple") oTuple := by
  refine ⟨_, call_tuple_of, fun H m M ds xs z Q w rd ho P => ?_⟩
  unfold oTuple at ho
  split at ho
  · rename_i d
    obtain ⟨v, rfl, r⟩ := rd.one
    cases q : asS M d with
    | none => rw [q] at ho; cases ho
    | some es =>
      rw [q] at ho; cases ho
      obtain ⟨a, vs, rfl, hs, hr⟩ := asS_ok w r q
      refine ⟨a, vs, rfl, ?_⟩
      rcases hs with hs | hs
      · exact .inl ⟨hs, P.tup w hr⟩
      · exact .inr ⟨hs, P.val w (by rw [Rl]; exact ⟨a, vs, rfl, hs, hr⟩)⟩
  · cases ho
def oList : Cop := fun ds M => match ds with
  | [d] => (asS M d).bind fun es => some (.new es)
  | _ => none
theorem ok_list : ClOk X (.type "list") oList := by
  refine ⟨_, call_list_of, fun H m M ds xs z Q w rd ho P => ?_⟩
  unfold oList at ho
  split at ho
  · rename_i d
    obtain ⟨v, rfl, r⟩ := rd.one
    cases q : asS M d with
    | none => rw [q] at ho; cases ho
    | some es =>
      rw [q] at ho; cases ho
      obtain ⟨a, vs, rfl, hs, hr⟩ := asS_ok w r q
      exact ⟨a, vs, rfl, hs, P.new w hr⟩
  · cases ho
def oMax2 : Cop := fun ds _ => match ds with
  | [.int i, .int j] => some (.val (.int (if j > i then j else i)))
  | _ => none
def oMin2 : Cop := fun ds _ => match ds with
  | [.int i, .int j] => some (.val (.int (if j < i then j else i)))
  | _ => none
theorem ok_max2 (hc : X.calm = true) : ClOk X (.builtin "max") oMax2 := by
  refine ⟨_, call_max2 hc, fun H m M ds xs z Q w rd ho P => ?_⟩
  unfold oMax2 at ho
  split at ho
  · obtain ⟨v, u, rfl, r, r'⟩ := rd.two
    rw [Rl] at r; rw [Rl] at r'; subst r r'; cases ho
    exact ⟨_, _, rfl, P.val w rl_int⟩
  · cases ho
theorem ok_min2 (hc : X.calm = true) : ClOk X (.builtin "min") oMin2 := by
  refine ⟨_, call_min2 hc, fun H m M ds xs z Q w rd ho P => ?_⟩
  unfold oMin2 at ho
  split at ho
  · obtain ⟨v, u, rfl, r, r'⟩ := rd.two
    rw [Rl] at r; rw [Rl] at r'; subst r r'; cases ho
    exact ⟨_, _, rfl, P.val w rl_int⟩
  · cases ho
def oStr : Cop := fun ds _ => match ds with
  | [.int i] => if i.natAbs.log2 < 1920 then some (.val (.str (toString i))) else none
  | _ => none
theorem ok_str : ClOk X (.type "str") oStr := by
  refine ⟨_, call_str_int, fun H m M ds xs z Q w rd ho P => ?_⟩
  unfold oStr at ho
  split at ho
  · obtain ⟨v, rfl, r⟩ := rd.one
    rw [Rl] at r; subst r
    split at ho
    · rename_i hz
      cases ho
      exact ⟨_, rfl, hz, P.val w rl_str⟩
    · cases ho
  · cases ho
def oOrd : Cop := fun ds _ => match ds with
  | [.str x] => if x.length = 1 then some (.val (.int (x.cps.getD 0 0 : Nat))) else none
  | _ => none
theorem ok_ord : ClOk X (.builtin "ord") oOrd := by
  refine ⟨_, call_ord, fun H m M ds xs z Q w rd ho P => ?_⟩
  unfold oOrd at ho
  split at ho
  · obtain ⟨v, rfl, r⟩ := rd.one
    rw [Rl] at r; subst r
    split at ho
    · rename_i hz
      cases ho
      exact ⟨_, rfl, hz, P.val w rl_int⟩
    · cases ho
  · cases ho
/-! sorted of ints -/
def sIns (a : Int) : List Int → List Int
  | [] => [a]
  | b :: l => if a ≤ b then a :: b :: l else b :: sIns a l
def isort (l : List Int) : List Int := l.foldr sIns []
theorem sIns_perm (a : Int) : ∀ l, (sIns a l).Perm (a :: l)
  | [] => .refl _
  | b :: l => by
    unfold sIns
    split
    · exact .refl _
    · exact ((sIns_perm a l).cons b).trans (.swap a b l)
theorem isort_perm : ∀ l, (isort l).Perm l
  | [] => .refl _
  | a :: l => (sIns_perm a (isort l)).trans ((isort_perm l).cons a)
theorem sIns_pw (a : Int) : ∀ l : List Int, l.Pairwise (· ≤ ·) → (sIns a l).Pairwise (· ≤ ·)
  | [], _ => by simp [sIns]
  | b :: l, h => by
    unfold sIns
    rw [List.pairwise_cons] at h
    split
    · rename_i hab
      rw [List.pairwise_cons, List.pairwise_cons]
      refine ⟨fun x hx => ?_, h.1, h.2⟩
      rcases List.mem_cons.mp hx with e | e
      · rw [e]; exact hab
      · exact Int.le_trans hab (h.1 x e)
    · rename_i hab
      rw [List.pairwise_cons]
      refine ⟨fun x hx => ?_, sIns_pw a l h.2⟩
      rcases List.mem_cons.mp ((sIns_perm a l).mem_iff.mp hx) with e | e
      · omega
      · exact h.1 x e
theorem isort_pw : ∀ l : List Int, (isort l).Pairwise (· ≤ ·)
  | [] => .nil
  | a :: l => sIns_pw a _ (isort_pw l)
theorem sorted_one : ∀ {l l' : List Int}, l.Perm l' → l.Pairwise (· ≤ ·) → l'.Pairwise (· ≤ ·) → l = l'
  | [], l', p, _, _ => by rw [List.nil_perm.mp p]
  | a :: l, [], p, _, _ => by simp at p
  | a :: l, b :: l', p, h, h' => by
    rw [List.pairwise_cons] at h h'
    have e : a = b := by
      have h1 : a ∈ b :: l' := p.mem_iff.mp List.mem_cons_self
      have h2 : b ∈ a :: l := p.mem_iff.mpr List.mem_cons_self
      rcases List.mem_cons.mp h1 with e | e
      · exact e
      · rcases List.mem_cons.mp h2 with e' | e'
        · exact e'.symm
        · have := h'.1 a e; have := h.1 b e'; omega
    subst e
    rw [sorted_one (List.Perm.cons_inv p) h.2 h'.2]
def intsD : List D → Option (List Int)
  | [] => some []
  | .int i :: ds => (intsD ds).bind fun is => some (i :: is)
  | _ => none
theorem intsD_eq : ∀ {ds : List D} {is : List Int}, intsD ds = some is → ds = is.map .int
  | [], _, h => by cases h; rfl
  | d :: ds, is, h => by
    cases d with
    | int i =>
      rw [intsD] at h
      cases q : intsD ds with
      | none => rw [q] at h; cases h
      | some js => rw [q] at h; cases h; rw [intsD_eq q]; rfl
    | _ => simp [intsD] at h
theorem intsD_map : ∀ is : List Int, intsD (is.map .int) = some is
  | [] => rfl
  | i :: is => by simp [intsD, intsD_map is]
theorem rls_ints {K : PySem.W.Frag} {H : Hp} {m : List Addr} : ∀ {is : List Int} {vs : List V}, Rls K H m (is.map .int) vs → vs = is.map V.int
  | [], _, h => rls_nil h
  | i :: is, _, h => by
    rw [List.map_cons, Rls] at h
    obtain ⟨v, r, rfl, h1, h2⟩ := h
    rw [Rl] at h1
    rw [h1, rls_ints h2]; rfl
def oSorted : Cop := fun ds M => match ds with
  | [d] => (asL M d).bind fun es => (intsD es).bind fun is => some (.new ((isort is).map .int))
  | _ => none
theorem ok_sorted : ClOk X (.builtin "sorted") oSorted := by
  refine ⟨_, cr_sortedI, fun H m M ds xs z Q w rd ho P => ?_⟩
  unfold oSorted at ho
  split at ho
  · rename_i d
    obtain ⟨v, rfl, r⟩ := rd.one
    cases q : asL M d with
    | none => rw [q] at ho; cases ho
    | some es =>
      cases q2 : intsD es with
      | none => simp [q, q2] at ho
      | some is =>
        simp [q, q2] at ho
        subst ho
        obtain ⟨a, vs, rfl, hs, hr⟩ := asL_ok w r q
        rw [intsD_eq q2] at hr
        have e := rls_ints hr
        subst e
        refine ⟨a, is, rfl, hs, fun ns' p hp hw hn => ?_⟩
        rw [sorted_one (hp.trans (isort_perm is).symm) hw (isort_pw is)]
        exact P.new w .ints p hn
  · cases ho

/-! ### isinstance -/
def tyOf (M : Mem) : D → Option String
  | .non => some "NoneType" | .bl _ => some "bool" | .int _ => some "int" | .str _ => some "str" | .tup _ => some "tuple" | .lst _ => some "list" | .scr _ => some "list"
  | .loc k => match M[k]? with
    | some (.lst _) => some "list"
    | some (.dct _) => some "dict"
    | _ => none
def cIsI (n : String) (f : Ef) : Ef := fun ρ M => (f ρ M).bind fun p => (tyOf p.2 p.1.d).bind fun t => (kitB t n).bind fun b => some (.val (.bl b), p.2)
theorem tyOf_ok {K : PySem.W.Frag} {H : Hp} {m : List Addr} {M : Mem} {d : D} {x : V} {t : String} (w : Wd K H m M) (r : Rl K H m d x) (h : tyOf M d = some t) : TyX K H x (.type t) := by
  cases d with
  | non => rw [Rl] at r; subst r; cases h; exact .base .non
  | bl b => rw [Rl] at r; subst r; cases h; exact .base (.bl b)
  | int b => rw [Rl] at r; subst r; cases h; exact .base (.int b)
  | str b => rw [Rl] at r; subst r; cases h; exact .base (.str b)
  | tup ds =>
    rw [Rl] at r
    obtain ⟨a, vs, rfl, hs, _⟩ := r
    cases h
    rcases hs with (hs | ⟨o, hs⟩) | ⟨o, its, n, hk, hc, _⟩
    · exact .base (.tup hs)
    · exact .fTuple hs
    · exact .kTuple hk hc
  | lst ds =>
    rw [Rl] at r
    obtain ⟨a, vs, rfl, _, hs, _⟩ := r
    cases h
    exact .base (.lst hs)
  | scr ns =>
    rw [Rl] at r
    obtain ⟨a, rfl, hs⟩ := r
    cases h
    rcases hs with ⟨o, hs⟩ | ⟨o, its, n, hk, hc, _⟩
    · exact .base (.frz hs)
    · exact .kList hk hc
  | loc k =>
    rw [Rl] at r
    obtain ⟨a, rfl, ha⟩ := r
    unfold tyOf at h
    simp only at h
    split at h
    · rename_i ds hk
      cases h
      obtain ⟨b, hb, vs, h1, h2⟩ := w.get hk
      rw [ha] at hb; cases hb
      exact .base (.lst h1)
    · rename_i ds hk
      cases h
      obtain ⟨b, hb, vs, h1, h2⟩ := w.get hk
      rw [ha] at hb; cases hb
      exact .base (.dK h1)
    · cases h
theorem ce_isi {b : Expr} {n : String} {f : Ef} (hg : Gl X "isinstance") (hm : X.mg "isinstance" = none) (ha : CEx X e f) (hb : PE X b (tC (.ty n)))
    (he : starEach [e, b] X.env = (false, eval e X.env) :: starEach [b] X.env := by rfl) (he2 : starEach [b] X.env = (false, eval b X.env) :: starEach [] X.env := by rfl) (hpl : (backTo pos (starEach [b] X.env)).any (·.1) = false := by rfl) :
    CEx X (.Call (.Name "isinstance" p) [e, b] [] pos) (cIsI n f) :=
  PE.imp (pe_callB call_isi hg hm (by decide +kernel) (pa_cons ha (pa_cons hb pa_nil he2) he) (by decide) (by decide) he hpl) fun σ H Q h => by
    obtain ⟨ρ, M, m, z, M', rs, w, hf, P⟩ := h
    unfold cIsI at hf
    cases ea : f ρ M with
    | none => rw [ea] at hf; cases hf
    | some p =>
      cases eb : tyOf p.2 p.1.d with
      | none => simp [ea, eb] at hf
      | some t =>
        cases ec : kitB t n with
        | none => simp [ea, eb, ec] at hf
        | some k =>
          simp [ea, eb, ec] at hf
          obtain ⟨rfl, rfl⟩ := hf
          refine bindE rs w ea fun H1 m1 v e1 w1 rs1 r1 => ?_
          exact ⟨v, .ty n, _, _, k, rfl, .ty n, tyOf_ok w1 r1 eb, kit_ty ec, (P.ext e1).val w1 rl_bl⟩
/-! ### truth -/
def trD (M : Mem) (d : D) : Option Bool := match d with
  | .non => some false
  | .bl b => some b
  | .int i => some (i != 0)
  | .str y => if y.length ≤ sizeLine then some ((y.length : Int) != 0) else none
  | d => (asS M d).bind fun ds => some (!ds.isEmpty)
def toTr (f : Ef) : Tf := fun ρ M => (f ρ M).bind fun p => (trD p.2 p.1.d).bind fun b => some (b, p.2)
theorem ct_truth {f : Ef} (ha : CEx X e f) (he : ∀ whole, isTrue e X.env whole = (do let v ← whole; standAt e.pos; holding [v] (truthy v))) : CTx X e (toTr f) := PT.imp (pt_truth ha he) fun σ H Q h => by
  obtain ⟨ρ, M, m, z, M', rs, w, hf, P⟩ := h
  unfold toTr at hf
  cases ea : f ρ M with
  | none => rw [ea] at hf; cases hf
  | some p =>
    cases eb : trD p.2 p.1.d with
    | none => simp [ea, eb] at hf
    | some b =>
      simp [ea, eb] at hf
      obtain ⟨rfl, rfl⟩ := hf
      refine bindE rs w ea fun H1 m1 v e1 w1 rs1 r1 => ⟨b, ?_, P H1 m1 e1 w1⟩
      unfold trD at eb
      split at eb
      · rename_i hd; rw [hd, Rl] at r1; subst r1; cases eb; rfl
      · rename_i hd; rw [hd, Rl] at r1; subst r1; cases eb; rfl
      · rename_i hd; rw [hd, Rl] at r1; subst r1; cases eb; rfl
      · rename_i hd
        rw [hd, Rl] at r1; subst r1
        split at eb
        · rename_i hz; cases eb; exact ⟨hz, rfl⟩
        · cases eb
      · cases q : asS p.2 p.1.d with
        | none => simp [q] at eb
        | some ds =>
          simp only [q, Option.bind_some, Option.some.injEq] at eb
          subst eb
          obtain ⟨a, vs, rfl, hs, hr⟩ := asS_ok w1 r1 q
          have e : ds.isEmpty = vs.isEmpty := by
            have := hr.length
            cases ds <;> cases vs <;> simp_all
          rcases hs with hs | hs
          · exact .inl ⟨vs, hs, by rw [e]⟩
          · exact .inr (.inl ⟨vs, hs, by rw [e]⟩)
end
end CI

/-! Ci5: calls of defs, attributes, methods, statements, loops -/
namespace CI
open PySem PySem.Spec PyProof.Rows L2

/-! ### what a def means -/
def Fn := List D → Mem → Option (Rz × Mem)
def spF (K : PySem.W.Frag) (F : Fn) : Sp := fun vs H Q _ => ∃ ds M m r M', Rls K H m ds vs ∧ Wd K H m M ∧ F ds M = some (r, M') ∧ Post K H m r M' Q
def cCall (F : Fn) (g : Af) : Ef := fun ρ M => (g ρ M).bind fun p => F p.1 p.2
def cNew (c : Str) (F : Fn) (g : Af) : Ef := fun ρ M => (g ρ M).bind fun p => (F (.loc p.2.length :: p.1) (p.2 ++ [.ins c []])).bind fun q => match q.1 with
  | .val .non => some (.val (.loc p.2.length), q.2)
  | _ => none
def cMeth (c m : Str) (F : Fn) (f : Ef) (g : Af) : Ef := fun ρ M => (f ρ M).bind fun p => match p.1.d with
  | .loc k => match p.2[k]? with
    | some (.ins c' fs) => if c' = c ∧ fs.lookup m = none then (g ρ p.2).bind fun q => F (.loc k :: q.1) q.2 else none
    | _ => none
  | _ => none
def cFld (cs : List Str) (f : Str) (fo : Ef) : Ef := fun ρ M => (fo ρ M).bind fun p => match p.1.d with
  | .loc k => match p.2[k]? with
    | some (.ins c fs) => if c ∈ cs then (fs.lookup f).bind fun d => some (.val d, p.2) else none
    | _ => none
  | _ => none
section
variable {X : Cx} {k : Nat} {f : Addr} {fd : FuncData} {ps : List Str} {x m c : Str} {p pos apos : Pos} {e o : Expr} {es : List Expr} {G : Fn} {fo : Ef} {g : Af}
theorem call_of {σ : L2.St} {H : Hp} {Q : VK} {E : XK} (h : tE X.K (cCall G g) σ H Q) : tCall (spF X.K G) [] E (tA X.K g) σ H Q := by
  obtain ⟨ρ, M, m, z, M', rs, w, hf, P⟩ := h
  unfold cCall at hf
  cases ea : g ρ M with
  | none => rw [ea] at hf; cases hf
  | some p =>
    rw [ea] at hf
    exact bindA rs w ea fun H1 m1 vs e1 w1 rs1 r1 => ⟨p.1, p.2, m1, z, M', by rw [List.append_nil]; exact r1, w1, hf, P.ext e1⟩
theorem ce_call (F : FnOk X.prog X.w X.K X.mg X.base CX0 k f fd ps (spF X.K G)) (hr : Room k X.A) (hg : Gl X x) (hm : X.mg x = some (.ref f)) (hk : PySem.W.keepIn X.K (.ref f) = true) (hb : Binds X.K fd ps [])
    (ha : CAx X (e :: es) g) (hdb : (x == ("__debug__" : Str)) = false := by decide) (he : starEach (e :: es) X.env = (false, eval e X.env) :: starEach es X.env := by rfl) (hpl : (backTo pos (starEach es X.env)).any (·.1) = false := by rfl) :
    CEx X (.Call (.Name x p) (e :: es) [] pos) (cCall G g) := PE.imp (pe_call F hr hg hm hk hb .nil pass0 ha hdb he hpl) fun _ _ _ h => call_of h
theorem ce_call0 (F : FnOk X.prog X.w X.K X.mg X.base CX0 k f fd ps (spF X.K G)) (hr : Room k X.A) (hg : Gl X x) (hm : X.mg x = some (.ref f)) (hk : PySem.W.keepIn X.K (.ref f) = true) (hb : Binds X.K fd ps [])
    (hdb : (x == ("__debug__" : Str)) = false := by decide) : CEx X (.Call (.Name x p) [] [] pos) (cCall G aNil) :=
  PE.imp (pe_call0 F hr hg hm hk hb .nil pass0 hdb) fun σ H Q ⟨ρ, M, m, z, M', rs, w, hf, P⟩ => ⟨[], M, m, z, M', by rw [Rls]; rfl, w, hf, P⟩
theorem new_of {σ : L2.St} {H : Hp} {Q : VK} {E : XK} (h : tE X.K (cNew c G g) σ H Q) : tMake (He.ga X.K c) (spF X.K G) [] E (tA X.K g) σ H Q := by
  obtain ⟨ρ, M, m, z, M', rs, w, hf, P⟩ := h
  unfold cNew at hf
  cases ea : g ρ M with
  | none => rw [ea] at hf; cases hf
  | some p =>
    rw [ea] at hf
    simp only [Option.bind_some] at hf
    cases eb : G (.loc p.2.length :: p.1) (p.2 ++ [.ins c []]) with
    | none => rw [eb] at hf; cases hf
    | some q =>
      rw [eb] at hf
      simp only [Option.bind_some] at hf
      refine bindA rs w ea fun H1 m1 vs e1 w1 rs1 r1 => fun x dx nx ndx ne => ?_
      have e2 : Ext H1 m1 (upd H1 dx (.own x)) m1 := .new ndx
      have w2 : Wd X.K (upd H1 dx (.own x)) m1 p.2 := w1.new ndx
      have nx2 : upd H1 dx (.own x) x = none := by rw [upd_ne (Ne.symm ne)]; exact nx
      obtain ⟨w3, e3⟩ := w2.push (o := .ins c []) (u := .ins (He.ga X.K c) dx []) nx2 ⟨dx, [], upd_same, rfl⟩
      split at hf
      · rename_i hq
        cases hf
        refine ⟨.loc p.2.length :: p.1, _, m1 ++ [x], q.1, q.2, ?_, w3, eb, Post.use fun H4 m4 v e4 w4 r4 => ?_⟩
        · rw [Rls]
          refine ⟨_, _, rfl, ?_, by rw [List.append_nil]; exact r1.ext (e2.trans e3)⟩
          rw [Rl]
          exact ⟨x, rfl, by rw [← w1.len, List.getElem?_append_right (Nat.le_refl _)]; simp⟩
        · rw [hq] at r4
          rw [show (Rz.val D.non).d = .non from rfl, Rl] at r4
          refine ⟨r4, (P.ext (((e1.trans e2).trans e3).trans e4)).val w4 ?_⟩
          rw [Rl]
          exact ⟨x, rfl, e4.get (by rw [← w1.len, List.getElem?_append_right (Nat.le_refl _)]; simp)⟩
      · cases hf
theorem ce_new (Mk' : Mk X.K (He.ga X.K c) f) (F : FnOk X.prog X.w X.K X.mg X.base CX0 k f fd ps (spF X.K G)) (hr : Room (k + 1) X.A) (hg : Gl X x) (hm : X.mg x = some (.ref (He.ga X.K c))) (hb : Binds X.K fd ps [])
    (ha : CAx X (e :: es) g) (hdb : (x == ("__debug__" : Str)) = false := by decide) (he : starEach (e :: es) X.env = (false, eval e X.env) :: starEach es X.env := by rfl) (hpl : (backTo pos (starEach es X.env)).any (·.1) = false := by rfl) :
    CEx X (.Call (.Name x p) (e :: es) [] pos) (cNew c G g) := PE.imp (pe_make Mk' F hr hg hm hb .nil pass0 ha hdb he hpl) fun _ _ _ h => new_of h
theorem ce_new0 (Mk' : Mk X.K (He.ga X.K c) f) (F : FnOk X.prog X.w X.K X.mg X.base CX0 k f fd ps (spF X.K G)) (hr : Room (k + 1) X.A) (hg : Gl X x) (hm : X.mg x = some (.ref (He.ga X.K c))) (hb : Binds X.K fd ps [])
    (hdb : (x == ("__debug__" : Str)) = false := by decide) : CEx X (.Call (.Name x p) [] [] pos) (cNew c G aNil) :=
  PE.imp (pe_make0 Mk' F hr hg hm hb .nil pass0 hdb) fun σ H Q h => by
    have h2 := new_of (E := E0) h
    obtain ⟨ρ, M, m, ds, M', rs, w, hf, P⟩ := h2
    cases hf
    exact P H m [] .refl w (by rw [Rls])
theorem meth_of {σ : L2.St} {H : Hp} {Q : VK} {E : XK} (h : tE X.K (cMeth c m G fo g) σ H Q) : tMeth (He.ga X.K c) m (spF X.K G) [] E (tE X.K fo) (tA X.K g) σ H Q := by
  obtain ⟨ρ, M, mm, z, M', rs, w, hf, P⟩ := h
  unfold cMeth at hf
  cases ea : fo ρ M with
  | none => rw [ea] at hf; cases hf
  | some p =>
    rw [ea] at hf
    simp only [Option.bind_some] at hf
    refine bindE rs w ea fun H1 m1 v e1 w1 rs1 r1 => ?_
    split at hf
    · rename_i k hk
      rw [hk, Rl] at r1
      obtain ⟨a, rfl, ha⟩ := r1
      split at hf
      · rename_i c' fs hfs
        split at hf
        · rename_i hc
          obtain ⟨rfl, hl⟩ := hc
          obtain ⟨b, hb, dx, gs, h1, h2⟩ := w1.get hfs
          rw [ha] at hb; cases hb
          refine ⟨a, dx, gs, rfl, h1, h2.lookup_none hl, ?_⟩
          cases eg : g ρ p.2 with
          | none => rw [eg] at hf; cases hf
          | some q =>
            rw [eg] at hf
            simp only [Option.bind_some] at hf
            refine bindA rs1 w1 eg fun H2 m2 vs e2 w2 rs2 r2 => ⟨.loc k :: q.1, q.2, m2, z, M', ?_, w2, hf, P.ext (e1.trans e2)⟩
            rw [Rls]
            refine ⟨_, _, rfl, ?_, by rw [List.append_nil]; exact r2⟩
            rw [Rl]
            exact ⟨a, rfl, e2.get ha⟩
        · cases hf
      · cases hf
    · cases hf
theorem ce_meth {pl : Sem Bool} (he : CEx X o fo) (c' : Cls X.K (He.ga X.K c)) (hm : Meth X.K (He.ga X.K c) m f) (F : FnOk X.prog X.w X.K X.mg X.base CX0 k f fd ps (spF X.K G)) (hr : Room k X.A) (hb : Binds X.K fd ps []) (ha : CAx X (e :: es) g)
    (hst : starEach (e :: es) X.env = (false, eval e X.env) :: starEach es X.env := by rfl) (hpl : (backTo pos (starEach es X.env)).any (·.1) = false := by rfl)
    (ht : eval (.Call (.Attribute o m apos) (e :: es) [] pos) X.env = (do
      let ov ← eval o X.env
      standAt apos.atName
      let (f, first) ← holding [ov] (getMethod ov m pl)
      callWith pos f first (backTo pos (starEach (e :: es) X.env)) (backToKw pos (keywordEach [] X.env))) := by rfl) :
    CEx X (.Call (.Attribute o m apos) (e :: es) [] pos) (cMeth c m G fo g) := PE.imp (pe_meth he c' hm F hr hb .nil pass0 ha hst hpl ht) fun _ _ _ h => meth_of h
theorem ce_meth0 {pl : Sem Bool} (he : CEx X o fo) (c' : Cls X.K (He.ga X.K c)) (hm : Meth X.K (He.ga X.K c) m f) (F : FnOk X.prog X.w X.K X.mg X.base CX0 k f fd ps (spF X.K G)) (hr : Room k X.A) (hb : Binds X.K fd ps [])
    (ht : eval (.Call (.Attribute o m apos) [] [] pos) X.env = (do
      let ov ← eval o X.env
      standAt apos.atName
      let (f, first) ← holding [ov] (getMethod ov m pl)
      callWith pos f first (backTo pos (starEach [] X.env)) (backToKw pos (keywordEach [] X.env))) := by rfl) :
    CEx X (.Call (.Attribute o m apos) [] [] pos) (cMeth c m G fo aNil) := PE.imp (pe_meth0 he c' hm F hr hb .nil pass0 ht) fun σ H Q h => by
  have h2 := meth_of (E := E0) h
  obtain ⟨ρ, M, mm, z, M', rs, w, hf, P⟩ := h2
  refine ⟨ρ, M, mm, z, M', rs, w, hf, fun H1 m1 e1 w1 => ?_⟩
  have P1 := P H1 m1 e1 w1
  cases z with
  | val d =>
    intro v rv
    obtain ⟨a, dx, fs, h1, h2, h3, ρ', M2, m2, ds, M3, _, w2, hf2, P2⟩ := P1 v rv
    cases hf2
    exact ⟨a, dx, fs, h1, h2, h3, P2 H1 m2 [] .refl w2 (by rw [Rls])⟩
  | new ds =>
    intro vs a rv n
    obtain ⟨a', dx, fs, h1, h2, h3, ρ', M2, m2, ds2, M3, _, w2, hf2, P2⟩ := P1 vs a rv n
    cases hf2
    exact ⟨a', dx, fs, h1, h2, h3, P2 _ m2 [] .refl w2 (by rw [Rls])⟩
theorem ce_fld {cs : List Str} {n : Str} (he : CEx X e fo) (hcs : ∀ c ∈ cs, Cls X.K (He.ga X.K c) ∧ NoAttr X.K (He.ga X.K c) n) (hb : attributeBase e n X.env (eval e X.env) = eval e X.env := by rfl) : CEx X (.Attribute e n pos) (cFld cs n fo) :=
  PE.imp (pe_fld he hb) fun σ H Q h => by
    obtain ⟨ρ, M, mm, z, M', rs, w, hf, P⟩ := h
    unfold cFld at hf
    cases ea : fo ρ M with
    | none => rw [ea] at hf; cases hf
    | some p =>
      rw [ea] at hf
      simp only [Option.bind_some] at hf
      refine bindE rs w ea fun H1 m1 v e1 w1 rs1 r1 => ?_
      split at hf
      · rename_i k hk
        rw [hk, Rl] at r1
        obtain ⟨a, rfl, ha⟩ := r1
        split at hf
        · rename_i c fs hfs
          split at hf
          · rename_i hc
            obtain ⟨b, hb, dx, gs, h1, h2⟩ := w1.get hfs
            rw [ha] at hb; cases hb
            cases q : fs.lookup n with
            | none => rw [q] at hf; cases hf
            | some d =>
              rw [q] at hf
              cases hf
              obtain ⟨v, hv, rv⟩ := h2.lookup q
              exact ⟨a, _, dx, gs, v, rfl, h1, (hcs c hc).1, (hcs c hc).2, hv, (P.ext e1).val w1 rv⟩
          · cases hf
        · cases hf
      · cases hf
end

/-! ### methods of lists -/
def Mop := D → List D → Mem → Option (Rz × Mem)
def MtOk (X : Cx) (T id : String) (o : Mop) : Prop := ∃ r, MtR X id r ∧ ∀ H m M d ds x xs z M' Q, Wd X.K H m M → Rl X.K H m d x → Rls X.K H m ds xs → o d ds M = some (z, M') → Post X.K H m z M' Q → r x xs H Q
def cBM (T : String) (o : Mop) (f : Ef) (g : Af) : Ef := fun ρ M => (f ρ M).bind fun p => if tyOf p.2 p.1.d = some T then (g ρ p.2).bind fun q => o p.1.d q.1 q.2 else none
section
variable {X : Cx} {o e : Expr} {es : List Expr} {fo : Ef} {g : Af} {name : Str} {apos cpos : Pos} {id : String} {op : Mop}
theorem tyV_list {K : PySem.W.Frag} {H : Hp} {m : List Addr} {M : Mem} {d : D} {x : V} (w : Wd K H m M) (r : Rl K H m d x) (h : tyOf M d = some "list") : tyV K "list" x H := by
  cases d with
  | lst ds => rw [Rl] at r; obtain ⟨a, vs, rfl, _, h1, _⟩ := r; exact .inl ⟨rfl, vs, .of h1⟩
  | scr ns => rw [Rl] at r; obtain ⟨a, rfl, h1⟩ := r; exact .inl ⟨rfl, _, h1.l⟩
  | loc k =>
    rw [Rl] at r
    obtain ⟨a, rfl, ha⟩ := r
    unfold tyOf at h
    simp only at h
    split at h
    · rename_i ds hk
      obtain ⟨b, hb, vs, h1, h2⟩ := w.get hk
      rw [ha] at hb; cases hb
      exact .inl ⟨rfl, vs, .of h1⟩
    · exact absurd (Option.some.inj h) (by decide)
    · cases h
  | non => exact absurd (Option.some.inj h) (by decide)
  | bl b => exact absurd (Option.some.inj h) (by decide)
  | int b => exact absurd (Option.some.inj h) (by decide)
  | str b => exact absurd (Option.some.inj h) (by decide)
  | tup b => exact absurd (Option.some.inj h) (by decide)
theorem bm_of {r : V → List V → Hp → VK → Prop} (ho : ∀ H m M d ds x xs z M' Q, Wd X.K H m M → Rl X.K H m d x → Rls X.K H m ds xs → op d ds M = some (z, M') → Post X.K H m z M' Q → r x xs H Q) {σ : L2.St} {H : Hp} {Q : VK}
    (h : tE X.K (cBM "list" op fo g) σ H Q) : tBM X.K "list" r (tE X.K fo) (tA X.K g) σ H Q := by
  obtain ⟨ρ, M, mm, z, M', rs, w, hf, P⟩ := h
  unfold cBM at hf
  cases ea : fo ρ M with
  | none => rw [ea] at hf; cases hf
  | some p =>
    rw [ea] at hf
    simp only [Option.bind_some] at hf
    refine bindE rs w ea fun H1 m1 v e1 w1 rs1 r1 => ?_
    split at hf
    · rename_i ht
      refine ⟨tyV_list w1 r1 ht, ?_⟩
      cases eg : g ρ p.2 with
      | none => rw [eg] at hf; cases hf
      | some q =>
        rw [eg] at hf
        simp only [Option.bind_some] at hf
        exact bindA rs1 w1 eg fun H2 m2 vs e2 w2 rs2 r2 => ho H2 m2 q.2 _ _ _ _ _ _ Q w2 (r1.ext e2) r2 hf (P.ext (e1.trans e2))
    · cases hf
theorem ce_bm (pa : PlainAttrs "list") (slot : Slot "list" name id) (hty : typeOf (.builtin id) = pure (.type "method_descriptor")) (hm : MtOk X "list" id op) (ho : CEx X o fo) (ha : CAx X (e :: es) g)
    (hbase : attributeBase o name X.env (eval o X.env) = eval o X.env := by rfl)
    (hfew : ((backTo cpos (starEach (e :: es) X.env)).all (fun x => !x.1) && (backToKw cpos (keywordEach [] X.env)).all (fun x => x.1.isSome)
      && decide ((e :: es).length + ([] : List Keyword).length + (if ([] : List Keyword).isEmpty then 0 else 1) < 30)) = true := by rfl)
    (hline : (apos.endLine == cpos.line) = true := by rfl) (hs : starEach (e :: es) X.env = (false, eval e X.env) :: starEach es X.env := by rfl) (hplain : (backTo cpos (starEach es X.env)).any (·.1) = false := by rfl) :
    CEx X (.Call (.Attribute o name apos) (e :: es) [] cpos) (cBM "list" op fo g) := by
  obtain ⟨r, h1, h2⟩ := hm
  exact PE.imp (pe_bm pa slot hty h1 ho ha hbase hfew hline hs hplain) fun _ _ _ h => bm_of h2 h
theorem ce_bm0 (pa : PlainAttrs "list") (slot : Slot "list" name id) (hty : typeOf (.builtin id) = pure (.type "method_descriptor")) (hm : MtOk X "list" id op) (ho : CEx X o fo)
    (hbase : attributeBase o name X.env (eval o X.env) = eval o X.env := by rfl) (hline : (apos.endLine == cpos.line) = true := by rfl) :
    CEx X (.Call (.Attribute o name apos) [] [] cpos) (cBM "list" op fo aNil) := by
  obtain ⟨r, h1, h2⟩ := hm
  refine PE.imp (pe_bm0 pa slot hty h1 ho hbase hline) fun σ H Q h => ?_
  obtain ⟨ρ, M, mm, z, M', rs, w, hf, P⟩ := h
  unfold cBM at hf
  cases ea : fo ρ M with
  | none => rw [ea] at hf; cases hf
  | some p =>
    rw [ea] at hf
    simp only [Option.bind_some] at hf
    refine bindE rs w ea fun H1 m1 v e1 w1 rs1 r1 => ?_
    split at hf
    · rename_i ht
      refine ⟨tyV_list w1 r1 ht, ?_⟩
      simp only [aNil, Option.bind_some] at hf
      exact h2 H1 m1 p.2 _ [] _ [] _ _ Q w1 r1 (by rw [Rls]) hf (P.ext e1)
    · cases hf
/-- the object k is changed: what follows -/
theorem Post.set {K : PySem.W.Frag} {H : Hp} {m : List Addr} {M : Mem} {k : Nat} {a : Addr} {ob : O} {u : HO} {z : D} {v : V} {Q : VK} (w : Wd K H m M) (hk : m[k]? = some a) (P : Post K H m (.val z) (M.set k ob) Q)
    (ho : Ro K (upd H a u) m a ob) (hz : Rl K (upd H a u) m z v) : Q v (upd H a u) := P _ m (w.ext_set hk) (w.set hk ho) v hz
def oAppend : Mop := fun d ds M => match d, ds with
  | .loc k, [x] => match M[k]? with
    | some (.lst es) => if es.length < sizeLine then some (.val .non, M.set k (.lst (es ++ [x]))) else none
    | _ => none
  | _, _ => none
theorem ok_append : MtOk X "list" "list.append" oAppend := by
  refine ⟨_, mt_append, fun H m M d ds x xs z M' Q w rd rds ho P => ?_⟩
  unfold oAppend at ho
  split at ho
  · rename_i k y
    split at ho
    · rename_i es hk
      split at ho
      · rename_i hz
        cases ho
        rw [Rl] at rd
        obtain ⟨a, rfl, ha⟩ := rd
        obtain ⟨b, hb, vs, h1, h2⟩ := w.get hk
        rw [ha] at hb; cases hb
        obtain ⟨v, rfl, rv⟩ := rds.one
        have e := w.ext_set (K := X.K) (u := .lst (vs ++ [v])) ha
        refine ⟨a, vs, v, rfl, rfl, h1, by rw [← h2.length]; exact hz, P.set w ha ⟨_, upd_same, ?_⟩ rl_non⟩
        exact (h2.ext e).append (by rw [Rls]; exact ⟨_, _, rfl, rv.ext e, by rw [Rls]⟩)
      · cases ho
    · cases ho
  · cases ho
end

/-! ### statements -/
inductive Fl where
  | nx | bk | ct | rt (r : Rz)
abbrev Sf := Slots → Mem → Option (Fl × Slots × Mem)
def PostN (K : PySem.W.Frag) (H : Hp) (m : List Addr) (ρ' : Slots) (M' : Mem) (N : L2.St → Hp → Prop) : Prop := ∀ H1 m1 σ1, Ext H m H1 m1 → Wd K H1 m1 M' → Rs K H1 m1 ρ' σ1 → N σ1 H1
def PostS (K : PySem.W.Frag) (H : Hp) (m : List Addr) (fl : Fl) (ρ' : Slots) (M' : Mem) (Dn : Ends) : Prop := match fl with
  | .nx => PostN K H m ρ' M' Dn.nx
  | .bk => PostN K H m ρ' M' Dn.bk
  | .ct => PostN K H m ρ' M' Dn.ct
  | .rt r => Post K H m r M' Dn.rt
def tS (K : PySem.W.Frag) (f : Sf) : TS := fun Dn σ H => ∃ ρ M m fl ρ' M', Rs K H m ρ σ ∧ Wd K H m M ∧ f ρ M = some (fl, ρ', M') ∧ PostS K H m fl ρ' M' Dn
abbrev CSx (X : Cx) (st : Stmt) (f : Sf) : Prop := PS X st (tS X.K f)
abbrev CBx (X : Cx) (st : List Stmt) (f : Sf) : Prop := PSs X st (tS X.K f)
theorem PS.imp {X : Cx} {e : Stmt} {t t' : TS} (h : PS X e t) (i : ∀ Dn σ H, t' Dn σ H → t Dn σ H) : PS X e t' := ⟨fun pins s σ H Q I q => h.run pins s σ H Q I (i Q σ H q)⟩
theorem PSs.imp {X : Cx} {e : List Stmt} {t t' : TS} (h : PSs X e t) (i : ∀ Dn σ H, t' Dn σ H → t Dn σ H) : PSs X e t' := ⟨fun pins s σ H Q I q => h.run pins s σ H Q I (i Q σ H q)⟩
section
variable {K : PySem.W.Frag} {H H1 : Hp} {m m1 : List Addr} {ρ' : Slots} {M' : Mem} {fl : Fl} {Dn : Ends}
theorem PostN.ext {N : L2.St → Hp → Prop} (P : PostN K H m ρ' M' N) (e : Ext H m H1 m1) : PostN K H1 m1 ρ' M' N := fun H2 m2 σ2 e2 w r => P H2 m2 σ2 (e.trans e2) w r
theorem PostS.ext (P : PostS K H m fl ρ' M' Dn) (e : Ext H m H1 m1) : PostS K H1 m1 fl ρ' M' Dn := by
  cases fl with
  | nx => exact PostN.ext P e
  | bk => exact PostN.ext P e
  | ct => exact PostN.ext P e
  | rt r => exact Post.ext P e
end
section
variable {X : Cx} {st : Stmt} {rest : List Stmt} {f g : Sf} {fe fo : Ef} {ft : Tf} {e : Expr} {pos : Pos}
def sNil : Sf := fun ρ M => some (.nx, ρ, M)
def sCons (f g : Sf) : Sf := fun ρ M => (f ρ M).bind fun p => match p.1 with
  | .nx => g p.2.1 p.2.2
  | fl => some (fl, p.2.1, p.2.2)
theorem nx_of {Dn : Ends} {σ : L2.St} {H : Hp} (h : tS X.K sNil Dn σ H) : Dn.nx σ H := by
  obtain ⟨ρ, M, m, fl, ρ', M', rs, w, hf, P⟩ := h
  cases hf
  exact P H m σ .refl w rs
theorem cb_nil : CBx X [] sNil := PSs.imp pss_nil fun _ _ _ h => nx_of h
theorem cb_cons (h1 : CSx X st f) (h2 : CBx X rest g) : CBx X (st :: rest) (sCons f g) := PSs.imp (pss_cons h1 h2) fun Dn σ H h => by
  obtain ⟨ρ, M, m, fl, ρ', M', rs, w, hf, P⟩ := h
  unfold sCons at hf
  cases ea : f ρ M with
  | none => rw [ea] at hf; cases hf
  | some p =>
    obtain ⟨fl1, ρ1, M1⟩ := p
    rw [ea] at hf
    simp only [Option.bind_some] at hf
    refine ⟨ρ, M, m, fl1, ρ1, M1, rs, w, ea, ?_⟩
    cases fl1 with
    | nx => exact fun H1 m1 σ1 e1 w1 r1 => ⟨ρ1, M1, m1, fl, ρ', M', r1, w1, hf, P.ext e1⟩
    | bk => cases hf; exact P
    | ct => cases hf; exact P
    | rt r => cases hf; exact P
theorem cb_one (h1 : CSx X st f) : CBx X [st] f := pss_one h1
theorem cs_pass : CSx X (.Pass pos) sNil := PS.imp ps_pass fun _ _ _ h => nx_of h
theorem cs_doc {x : Str} {j pos'} : CSx X (.Expr (.Constant (.str x) j pos') pos) sNil := PS.imp ps_doc fun _ _ _ h => nx_of h
def sBreak : Sf := fun ρ M => some (.bk, ρ, M)
def sCont : Sf := fun ρ M => some (.ct, ρ, M)
theorem cs_break : CSx X (.Break pos) sBreak := PS.imp ps_break fun Dn σ H h => by
  obtain ⟨ρ, M, m, fl, ρ', M', rs, w, hf, P⟩ := h
  cases hf
  exact P H m σ .refl w rs
theorem cs_continue : CSx X (.Continue pos) sCont := PS.imp ps_continue fun Dn σ H h => by
  obtain ⟨ρ, M, m, fl, ρ', M', rs, w, hf, P⟩ := h
  cases hf
  exact P H m σ .refl w rs
def sExpr (f : Ef) : Sf := fun ρ M => (f ρ M).bind fun p => some (.nx, ρ, p.2)
theorem cs_expr (he : CEx X e fe) (hs : swapsWith e none pos.line X.env = pure false := by rfl) : CSx X (.Expr e pos) (sExpr fe) := PS.imp (ps_expr he hs) fun Dn σ H h => by
  obtain ⟨ρ, M, m, fl, ρ', M', rs, w, hf, P⟩ := h
  unfold sExpr at hf
  cases ea : fe ρ M with
  | none => rw [ea] at hf; cases hf
  | some p =>
    rw [ea] at hf
    cases hf
    exact bindE rs w ea fun H1 m1 v e1 w1 rs1 r1 => P H1 m1 σ e1 w1 rs1
def sRet (f : Ef) : Sf := fun ρ M => (f ρ M).bind fun p => some (.rt p.1, ρ, p.2)
theorem cs_ret (he : CEx X e fe) : CSx X (.Return (some e) pos) (sRet fe) := PS.imp (ps_ret he) fun Dn σ H h => by
  obtain ⟨ρ, M, m, fl, ρ', M', rs, w, hf, P⟩ := h
  unfold sRet at hf
  cases ea : fe ρ M with
  | none => rw [ea] at hf; cases hf
  | some p =>
    rw [ea] at hf
    cases hf
    exact ⟨ρ, M, m, p.1, p.2, rs, w, ea, P⟩
def sRetN : Sf := fun ρ M => some (.rt (.val .non), ρ, M)
theorem cs_retN : CSx X (.Return none pos) sRetN := PS.imp ps_retN fun Dn σ H h => by
  obtain ⟨ρ, M, m, fl, ρ', M', rs, w, hf, P⟩ := h
  cases hf
  exact Post.val P w rl_non
def sIf (t : Tf) (f g : Sf) : Sf := fun ρ M => (t ρ M).bind fun p => if p.1 = true then f ρ p.2 else g ρ p.2
theorem cs_if {c : Expr} {a b : List Stmt} (hc : CTx X c ft) (ha : CBx X a f) (hb : CBx X b g) : CSx X (.If c a b pos) (sIf ft f g) := PS.imp (ps_if hc ha hb) fun Dn σ H h => by
  obtain ⟨ρ, M, m, fl, ρ', M', rs, w, hf, P⟩ := h
  unfold sIf at hf
  cases ea : ft ρ M with
  | none => rw [ea] at hf; cases hf
  | some p =>
    rw [ea] at hf
    simp only [Option.bind_some] at hf
    refine bindT rs w ea fun H1 m1 e1 w1 rs1 => ?_
    split at hf
    · rename_i e; rw [if_pos e]; exact ⟨ρ, p.2, m1, fl, ρ', M', rs1, w1, hf, P.ext e1⟩
    · rename_i e; rw [if_neg e]; exact ⟨ρ, p.2, m1, fl, ρ', M', rs1, w1, hf, P.ext e1⟩
/-- code that is never reached -/
def sNever : Sf := fun _ _ => none
theorem cs_never : CSx X st sNever := PS.imp ps_never fun Dn σ H h => by
  obtain ⟨ρ, M, m, fl, ρ', M', rs, w, hf, P⟩ := h
  cases hf
theorem cb_never {sts : List Stmt} : CBx X sts sNever := PSs.imp pss_never fun Dn σ H h => by
  obtain ⟨ρ, M, m, fl, ρ', M', rs, w, hf, P⟩ := h
  cases hf
/-- name = value -/
def sSet (i : Nat) (f : Ef) : Sf := fun ρ M => (f ρ M).bind fun p => some (.nx, ρ.set i (some p.1.d), p.2)
theorem cs_set {i : Nat} (h : PS X st (tAsg (tE X.K fe) (gName i))) : CSx X st (sSet i fe) := PS.imp h fun Dn σ H h => by
  obtain ⟨ρ, M, m, fl, ρ', M', rs, w, hf, P⟩ := h
  unfold sSet at hf
  cases ea : fe ρ M with
  | none => rw [ea] at hf; cases hf
  | some p =>
    rw [ea] at hf
    cases hf
    exact bindE rs w ea fun H1 m1 v e1 w1 rs1 r1 => P H1 m1 _ e1 w1 (rs1.set r1 i)
/-- name = value, a new list becomes an object of our own -/
def sSetM (i : Nat) (f : Ef) : Sf := fun ρ M => (f ρ M).bind fun p => match p.1 with
  | .new ds => some (.nx, ρ.set i (some (.loc p.2.length)), p.2 ++ [.lst ds])
  | .val d => some (.nx, ρ.set i (some d), p.2)
theorem cs_setM {i : Nat} (h : PS X st (tAsg (tE X.K fe) (gName i))) : CSx X st (sSetM i fe) := PS.imp h fun Dn σ H h => by
  obtain ⟨ρ, M, m, fl, ρ', M', rs, w, hf, P⟩ := h
  unfold sSetM at hf
  cases ea : fe ρ M with
  | none => rw [ea] at hf; cases hf
  | some p =>
    obtain ⟨r, M1⟩ := p
    rw [ea] at hf
    simp only [Option.bind_some] at hf
    refine ⟨ρ, M, m, r, M1, rs, w, ea, fun H1 m1 e1 w1 => ?_⟩
    cases r with
    | val d =>
      cases hf
      exact fun v r1 => P H1 m1 _ e1 w1 ((rs.ext e1).set r1 i)
    | new ds =>
      cases hf
      intro vs a r1 n
      obtain ⟨w2, e2⟩ := w1.push (o := .lst ds) (u := .lst vs) n (by
        refine ⟨vs, upd_same, ?_⟩
        have e1 : Ext H1 m1 (upd H1 a (.lst vs)) m1 := .new n
        exact r1.ext ⟨e1.tup, e1.frz, e1.oth, e1.trk, [a], rfl, fun b q => by simp at q; rw [q]; exact n⟩)
      refine P _ _ _ (e1.trans e2) w2 (((rs.ext e1).ext e2).set ?_ i)
      rw [Rl]
      exact ⟨a, rfl, by rw [← w1.len, List.getElem?_append_right (Nat.le_refl _)]; simp⟩
end

/-! ### fields stored -/
def putD (f : Str) (v : D) : List (Str × D) → List (Str × D)
  | [] => [(f, v)]
  | (g, x) :: r => if g = f then (g, v) :: r else (g, x) :: putD f v r
theorem Rfs.put {K : PySem.W.Frag} {H : Hp} {m : List Addr} {f : Str} {d : D} {v : V} (r : Rl K H m d v) : ∀ {fs : List (Str × D)} {gs : List (Str × V)}, Rfs K H m fs gs → Rfs K H m (putD f d fs) (putF f v gs)
  | [], _, h => by cases h; exact ⟨v, [], rfl, r, rfl⟩
  | (g, x) :: fs, _, h => by
    obtain ⟨u, s, rfl, h1, h2⟩ := h
    unfold putD putF
    split
    · exact ⟨v, s, rfl, r, h2⟩
    · exact ⟨u, _, rfl, h1, Rfs.put r h2⟩
def stFld (cs : List Str) (f : Str) (fo : Ef) (d : D) (ρ : Slots) (M : Mem) : Option (Fl × Slots × Mem) := (fo ρ M).bind fun q => match q.1.d with
  | .loc k => match q.2[k]? with
    | some (.ins c fs) => if c ∈ cs ∧ fs.length < 1000 then some (.nx, ρ, q.2.set k (.ins c (putD f d fs))) else none
    | _ => none
  | _ => none
def sFldS (cs : List Str) (f : Str) (fo fv : Ef) : Sf := fun ρ M => (fv ρ M).bind fun p => stFld cs f fo p.1.d ρ p.2
def sFldM (cs : List Str) (f : Str) (fo fv : Ef) : Sf := fun ρ M => (fv ρ M).bind fun p => match p.1 with
  | .new ds => stFld cs f fo (.loc p.2.length) ρ (p.2 ++ [.lst ds])
  | .val d => stFld cs f fo d ρ p.2
section
variable {X : Cx} {st : Stmt} {fe fo fv : Ef} {o value : Expr} {n : Str} {pos pos' : Pos} {cs : List Str}
theorem fld_of {ρ ρ' : Slots} {M M' : Mem} {fl : Fl} {d : D} {y : V} {H H0 : Hp} {m m0 : List Addr} {σ : L2.St} {Dn : Ends} (hcs : ∀ c ∈ cs, Cls X.K (He.ga X.K c) ∧ NoAttr X.K (He.ga X.K c) n) (e : Ext H0 m0 H m) (rs : Rs X.K H m ρ σ) (w : Wd X.K H m M) (r : Rl X.K H m d y)
    (hf : stFld cs n fo d ρ M = some (fl, ρ', M')) (P : PostS X.K H0 m0 fl ρ' M' Dn) :
    tE X.K fo σ H fun x H2 => ∃ a C dx fs, x = .ref a ∧ H2 a = some (.ins C dx fs) ∧ Cls X.K C ∧ NoAttr X.K C n ∧ fs.length < 1000 ∧ Dn.nx σ (upd H2 a (.ins C dx (putF n y fs))) := by
  unfold stFld at hf
  cases ea : fo ρ M with
  | none => rw [ea] at hf; cases hf
  | some q =>
    rw [ea] at hf
    simp only [Option.bind_some] at hf
    refine bindE rs w ea fun H1 m1 v e1 w1 rs1 r1 => ?_
    split at hf
    · rename_i k hk
      rw [hk, Rl] at r1
      obtain ⟨a, rfl, ha⟩ := r1
      split at hf
      · rename_i c fs hfs
        split at hf
        · rename_i hc
          cases hf
          obtain ⟨b, hb, dx, gs, h1, h2⟩ := w1.get hfs
          rw [ha] at hb; cases hb
          have e2 := w1.ext_set (u := .ins (He.ga X.K c) dx (putF n y gs)) ha
          refine ⟨a, _, dx, gs, rfl, h1, (hcs c hc.1).1, (hcs c hc.1).2, by rw [← h2.length]; exact hc.2, ?_⟩
          exact P _ m1 σ ((e.trans e1).trans e2) (w1.set ha ⟨dx, _, upd_same, Rfs.put ((r.ext e1).ext e2) (h2.ext e2)⟩) (rs1.ext e2)
        · cases hf
      · cases hf
    · cases hf
theorem cs_fld (ha : CEx X o fo) (hv : CEx X value fv) (hcs : ∀ c ∈ cs, Cls X.K (He.ga X.K c) ∧ NoAttr X.K (He.ga X.K c) n) (hs : swapsWith value (some (.Attribute o n pos')) pos.line X.env = pure false := by rfl) : CSx X (.Assign [.Attribute o n pos'] value pos) (sFldS cs n fo fv) :=
  PS.imp (ps_fld ha hv hs) fun Dn σ H h => by
    obtain ⟨ρ, M, m, fl, ρ', M', rs, w, hf, P⟩ := h
    unfold sFldS at hf
    cases ea : fv ρ M with
    | none => rw [ea] at hf; cases hf
    | some p =>
      rw [ea] at hf
      exact bindE rs w ea fun H1 m1 v e1 w1 rs1 r1 => fld_of hcs e1 rs1 w1 r1 hf P
theorem cs_fldM (ha : CEx X o fo) (hv : CEx X value fv) (hcs : ∀ c ∈ cs, Cls X.K (He.ga X.K c) ∧ NoAttr X.K (He.ga X.K c) n) (hs : swapsWith value (some (.Attribute o n pos')) pos.line X.env = pure false := by rfl) : CSx X (.Assign [.Attribute o n pos'] value pos) (sFldM cs n fo fv) :=
  PS.imp (ps_fld ha hv hs) fun Dn σ H h => by
    obtain ⟨ρ, M, m, fl, ρ', M', rs, w, hf, P⟩ := h
    unfold sFldM at hf
    cases ea : fv ρ M with
    | none => rw [ea] at hf; cases hf
    | some p =>
      obtain ⟨r, M1⟩ := p
      rw [ea] at hf
      simp only [Option.bind_some] at hf
      refine ⟨ρ, M, m, r, M1, rs, w, ea, fun H1 m1 e1 w1 => ?_⟩
      cases r with
      | val d => exact fun v r1 => fld_of hcs e1 (rs.ext e1) w1 r1 hf P
      | new ds =>
        intro vs a r1 nn
        obtain ⟨w2, e2⟩ := w1.push (o := .lst ds) (u := .lst vs) nn (by
          refine ⟨vs, upd_same, ?_⟩
          have e1 : Ext H1 m1 (upd H1 a (.lst vs)) m1 := .new nn
          exact r1.ext ⟨e1.tup, e1.frz, e1.oth, e1.trk, [a], rfl, fun b q => by simp at q; rw [q]; exact nn⟩)
        refine fld_of hcs (e1.trans e2) ((rs.ext e1).ext e2) w2 ?_ hf P
        rw [Rl]
        exact ⟨a, rfl, by rw [← w1.len, List.getElem?_append_right (Nat.le_refl _)]; simp⟩
end
end CI

/-! Ci6: targets, loops, defs -/
namespace CI
open PySem PySem.Spec PyProof.Rows L2

/-! ### targets -/
abbrev Gf := D → Slots → Mem → Option (Slots × Mem)
abbrev GsF := List D → Slots → Mem → Option (Slots × Mem)
def tG (K : PySem.W.Frag) (g : Gf) : TG := fun v σ H Q => ∃ d ρ M m ρ' M', Rl K H m d v ∧ Rs K H m ρ σ ∧ Wd K H m M ∧ g d ρ M = some (ρ', M') ∧ PostN K H m ρ' M' Q
def tGs (K : PySem.W.Frag) (g : GsF) : TGs := fun vs σ H Q => ∃ ds ρ M m ρ' M', Rls K H m ds vs ∧ Rs K H m ρ σ ∧ Wd K H m M ∧ g ds ρ M = some (ρ', M') ∧ PostN K H m ρ' M' Q
theorem PG.imp {X : Cx} {e : Expr} {t t' : TG} (h : PG X e t) (i : ∀ v σ H Q, t' v σ H Q → t v σ H Q) : PG X e t' := ⟨fun pins s σ H v u Q I r q => h.run pins s σ H v u Q I r (i v σ H Q q)⟩
theorem PGs.imp {X : Cx} {e : List Expr} {t t' : TGs} (h : PGs X e t) (i : ∀ v σ H Q, t' v σ H Q → t v σ H Q) : PGs X e t' := ⟨fun pins s σ H v u Q I r q => h.run pins s σ H v u Q I r (i v σ H Q q)⟩
abbrev CGx (X : Cx) (e : Expr) (g : Gf) : Prop := PG X e (tG X.K g)
abbrev CGsx (X : Cx) (es : List Expr) (g : GsF) : Prop := PGs X es (tGs X.K g)
def gNm (i : Nat) : Gf := fun d ρ M => some (ρ.set i (some d), M)
def gsNil : GsF := fun ds ρ M => match ds with
  | [] => some (ρ, M)
  | _ => none
def gsCons (g : Gf) (gs : GsF) : GsF := fun ds ρ M => match ds with
  | d :: ds => (g d ρ M).bind fun p => gs ds p.1 p.2
  | [] => none
def gTp (n : Nat) (gs : GsF) : Gf := fun d ρ M => match d with
  | .tup ds => if ds.length = n then gs ds ρ M else none
  | _ => none
section
variable {X : Cx} {e tg : Expr} {es : List Expr} {g : Gf} {gs : GsF} {pos : Pos} {fe : Ef} {st : Stmt}
theorem cg_of {i : Nat} (h : PG X e (gName i)) : CGx X e (gNm i) := PG.imp h fun v σ H Q ⟨d, ρ, M, m, ρ', M', r, rs, w, hf, P⟩ => by
  cases hf
  exact P H m _ .refl w (rs.set r i)
theorem cgs_nil : CGsx X [] gsNil := PGs.imp pgs_nil fun vs σ H Q ⟨ds, ρ, M, m, ρ', M', r, rs, w, hf, P⟩ => by
  unfold gsNil at hf
  split at hf
  · cases hf
    exact ⟨rls_nil r, P H m _ .refl w rs⟩
  · cases hf
theorem cgs_cons (h1 : CGx X e g) (h2 : CGsx X es gs) (hs : (assignEach (e :: es) X.env).map (·.2) = assign e X.env :: (assignEach es X.env).map (·.2) := by rfl) : CGsx X (e :: es) (gsCons g gs) :=
  PGs.imp (pgs_cons h1 h2 hs) fun vs σ H Q ⟨ds, ρ, M, m, ρ', M', r, rs, w, hf, P⟩ => by
    unfold gsCons at hf
    split at hf
    · rename_i d ds
      rw [Rls] at r
      obtain ⟨v, vr, rfl, r1, r2⟩ := r
      cases ea : g d ρ M with
      | none => rw [ea] at hf; cases hf
      | some p =>
        rw [ea] at hf
        simp only [Option.bind_some] at hf
        refine ⟨v, vr, rfl, d, ρ, M, m, p.1, p.2, r1, rs, w, ea, fun H1 m1 σ1 e1 w1 rs1 => ?_⟩
        exact ⟨ds, p.1, p.2, m1, ρ', M', r2.ext e1, rs1, w1, hf, P.ext e1⟩
    · cases hf
theorem cg_tup {k n : Nat} (hc : X.calm = true) (h : CGsx X es gs) (hn : (assignEach es X.env).length = n := by rfl) (hst : (assignEach es X.env).findIdx? (·.1) = none := by rfl) : CGx X (.Tuple es k pos) (gTp n gs) :=
  PG.imp (pg_tup hc h hn hst) fun v σ H Q ⟨d, ρ, M, m, ρ', M', r, rs, w, hf, P⟩ => by
    unfold gTp at hf
    split at hf
    · rename_i ds
      split at hf
      · rename_i hl
        rw [Rl] at r
        obtain ⟨a, vs, rfl, h1, h2⟩ := r
        exact ⟨a, vs, rfl, h1, by rw [← h2.length]; exact hl, ds, ρ, M, m, ρ', M', h2, rs, w, hf, P⟩
      · cases hf
    · cases hf
def sAsg (g : Gf) (f : Ef) : Sf := fun ρ M => (f ρ M).bind fun p => (g p.1.d ρ p.2).bind fun q => some (.nx, q.1, q.2)
theorem cs_asg (h : PS X st (tAsg (tE X.K fe) (tG X.K g))) : CSx X st (sAsg g fe) := PS.imp h fun Dn σ H h => by
  obtain ⟨ρ, M, m, fl, ρ', M', rs, w, hf, P⟩ := h
  unfold sAsg at hf
  cases ea : fe ρ M with
  | none => rw [ea] at hf; cases hf
  | some p =>
    cases eg : g p.1.d ρ p.2 with
    | none => simp [ea, eg] at hf
    | some q =>
      simp [ea, eg] at hf
      obtain ⟨rfl, rfl, rfl⟩ := hf
      exact bindE rs w ea fun H1 m1 v e1 w1 rs1 r1 => ⟨p.1.d, ρ, p.2, m1, q.1, q.2, r1, rs1, w1, eg, PostN.ext P e1⟩
end
/-- xs[i] = v as a target -/
def gIx (fo fi : Ef) : Gf := fun d ρ M => (fo ρ M).bind fun p => (fi ρ p.2).bind fun q => match p.1.d, q.1.d with
  | .loc k, .int i => match q.2[k]? with
    | some (.lst es) => (ixN es.length i).bind fun j => some (ρ, q.2.set k (.lst (es.set j d)))
    | _ => none
  | _, _ => none
theorem cg_ix {X : Cx} {o i : Expr} {fo fi : Ef} {pos : Pos} (ho : CEx X o fo) (hi : CEx X i fi) (ha : ∀ v, assign (.Subscript o i pos) X.env v = (do
      let ov ← holding [v] (eval o X.env)
      let iv ← holding [v, ov] (eval i X.env)
      standAt pos
      holding [v, ov, iv] (setItem ov iv v)
      release [v, ov, iv] []) := by intro _; rfl) : CGx X (.Subscript o i pos) (gIx fo fi) :=
  PG.imp (pg_sub ho hi set_list ha) fun v σ H Q ⟨d, ρ, M, m, ρ', M', r, rs, w, hf, P⟩ => by
    unfold gIx at hf
    cases ea : fo ρ M with
    | none => rw [ea] at hf; cases hf
    | some p =>
      cases ei : fi ρ p.2 with
      | none => simp [ea, ei] at hf
      | some q =>
        simp only [ea, ei, Option.bind_some] at hf
        refine bindE rs w ea fun H1 m1 v1 e1 w1 rs1 r1 => bindE rs1 w1 ei fun H2 m2 v2 e2 w2 rs2 r2 => ?_
        split at hf
        · rename_i k i hk hi
          split at hf
          · rename_i es hes
            cases ej : ixN es.length i with
            | none => rw [ej] at hf; cases hf
            | some j =>
              rw [ej] at hf
              cases hf
              have r1' := r1.ext e2
              rw [hk, Rl] at r1'
              rw [hi, Rl] at r2
              obtain ⟨a, rfl, ha⟩ := r1'
              subst r2
              obtain ⟨b, hb, vs, h1, h2⟩ := w2.get hes
              rw [ha] at hb; cases hb
              have e3 := w2.ext_set (u := .lst (vs.set j v)) ha
              refine ⟨a, vs, i, j, rfl, rfl, h1, by rw [← h2.length]; exact ej, ?_⟩
              exact P _ m2 _ ((e1.trans e2).trans e3) (w2.set ha ⟨_, upd_same, (h2.ext e3).set j (((r.ext e1).ext e2).ext e3)⟩) ((rs2).ext e3)
          · cases hf
        · cases hf

/-! ### what is walked -/
abbrev If := Slots → Mem → Option (List D × Option Nat × Mem)
def GdOk (K : PySem.W.Frag) (gk : Option Nat) (ds : List D) (H : Hp) (m : List Addr) : Prop := ∀ k, gk = some k → ∃ a vs, m[k]? = some a ∧ H a = some (.lst vs) ∧ Rls K H m ds vs
structure Yl (K : PySem.W.Frag) (H0 : Hp) (m0 : List Addr) (J : It) (ds : List D) (gk : Option Nat) : Prop where
  go : ∀ i H m, i < ds.length → Ext H0 m0 H m → GdOk K gk ds H m → J.go i H
  yld : ∀ i d H m M x H', ds[i]? = some d → Ext H0 m0 H m → GdOk K gk ds H m → Wd K H m M → J.yld i H x H' → Ext H m H' m ∧ Wd K H' m M ∧ Rl K H' m d x
  stop : ∀ H m, Ext H0 m0 H m → GdOk K gk ds H m → J.stop ds.length H
def tI (K : PySem.W.Frag) (f : If) : TI := fun σ H R => ∃ ρ M m ds gk M', Rs K H m ρ σ ∧ Wd K H m M ∧ f ρ M = some (ds, gk, M') ∧
  ∀ H1 m1 J, Ext H m H1 m1 → Wd K H1 m1 M' → GdOk K gk ds H1 m1 → Yl K H1 m1 J ds gk → R J H1
theorem PI.imp {X : Cx} {tg e : Expr} {t t' : TI} (h : PI X tg e t) (i : ∀ σ H R, t' σ H R → t σ H R) : PI X tg e t' := ⟨fun pins s σ H R I q => h.run pins s σ H R I (i σ H R q)⟩
theorem PI.or {X : Cx} {tg e : Expr} {t t' : TI} (h : PI X tg e t) (h' : PI X tg e t') : PI X tg e (fun σ H R => t σ H R ∨ t' σ H R) := ⟨fun pins s σ H R I q => q.elim (h.run pins s σ H R I) (h'.run pins s σ H R I)⟩
abbrev CIx (X : Cx) (tg e : Expr) (f : If) : Prop := PI X tg e (tI X.K f)
def gkOf : D → Option Nat
  | .loc k => some k
  | _ => none
def iSeq (f : Ef) : If := fun ρ M => (f ρ M).bind fun p => (asS p.2 p.1.d).bind fun ds => some (ds, gkOf p.1.d, p.2)
theorem gd_none {K : PySem.W.Frag} {ds : List D} {H : Hp} {m : List Addr} : GdOk K none ds H m := fun k e => by cases e

section
variable {K : PySem.W.Frag} {H : Hp} {m : List Addr} {M : Mem} {a : Addr} {ds : List D} {vs : List V}
theorem yl_tup (h : SqT K H a vs) (r : Rls K H m ds vs) : Yl K H m (Itt K a) ds none where
  go := fun i H1 m1 hi e _ => by
    have hl := r.length
    exact ⟨vs, vs[i], sqT_ext e h, List.getElem?_eq_getElem (by omega)⟩
  yld := fun i d H1 m1 M1 x H' q e _ w y => by
    obtain ⟨rfl, y⟩ := y
    obtain ⟨v, h1, h2⟩ := (r.ext e).get q
    have := y vs (sqT_ext e h)
    rw [h1] at this; cases this
    exact ⟨.refl, w, h2⟩
  stop := fun H1 m1 e _ => ⟨vs, sqT_ext e h, by rw [r.length]; exact Nat.le_refl _⟩
theorem yl_sq (h : ∀ H1 m1, Ext H m H1 m1 → SqL K H1 a vs) (r : Rls K H m ds vs) : Yl K H m (Itl K a) ds none where
  go := fun i H1 m1 hi e _ => by
    have hl := r.length
    exact ⟨vs, vs[i], h _ _ e, List.getElem?_eq_getElem (by omega)⟩
  yld := fun i d H1 m1 M1 x H' q e _ w y => by
    obtain ⟨rfl, y⟩ := y
    obtain ⟨v, h1, h2⟩ := (r.ext e).get q
    have := y vs (h _ _ e)
    rw [h1] at this; cases this
    exact ⟨.refl, w, h2⟩
  stop := fun H1 m1 e _ => ⟨vs, h _ _ e, by rw [r.length]; exact Nat.le_refl _⟩
theorem yl_loc {k : Nat} (h : m[k]? = some a) : Yl K H m (Itl K a) ds (some k) where
  go := fun i H1 m1 hi e g => by
    obtain ⟨b, vs, h1, h2, h3⟩ := g k rfl
    rw [e.get h] at h1; cases h1
    have hl := h3.length
    exact ⟨vs, vs[i], .of h2, List.getElem?_eq_getElem (by omega)⟩
  yld := fun i d H1 m1 M1 x H' q e g w y => by
    obtain ⟨rfl, y⟩ := y
    obtain ⟨b, vs, h1, h2, h3⟩ := g k rfl
    rw [e.get h] at h1; cases h1
    obtain ⟨v, h4, h5⟩ := h3.get q
    have := y vs (.of h2)
    rw [h4] at this; cases this
    exact ⟨.refl, w, h5⟩
  stop := fun H1 m1 e g => by
    obtain ⟨b, vs, h1, h2, h3⟩ := g k rfl
    rw [e.get h] at h1; cases h1
    exact ⟨vs, .of h2, by rw [h3.length]; exact Nat.le_refl _⟩
def rgD (lo : Int) (n : Nat) : List D := (List.range n).map fun (i : Nat) => D.int (lo + i)
theorem rgD_len {lo : Int} {n : Nat} : (rgD lo n).length = n := by unfold rgD; simp
theorem rgD_get {lo : Int} {n i : Nat} {d : D} (h : (rgD lo n)[i]? = some d) : i < n ∧ d = .int (lo + i) := by
  unfold rgD at h
  rw [List.getElem?_map] at h
  cases q : (List.range n)[i]? with
  | none => rw [q] at h; cases h
  | some j =>
    rw [q] at h
    cases h
    obtain ⟨h1, h2⟩ := List.getElem?_eq_some_iff.mp q
    simp at h1 h2
    exact ⟨h1, by rw [h2]⟩
theorem yl_rng {lo : Int} {n : Nat} : Yl K H m (Itr lo n) (rgD lo n) none where
  go := fun i H1 m1 hi e _ => by rw [rgD_len] at hi; exact hi
  yld := fun i d H1 m1 M1 x H' q e _ w y => by
    obtain ⟨rfl, rfl⟩ := y
    obtain ⟨_, rfl⟩ := rgD_get q
    exact ⟨.refl, w, by rw [Rl]⟩
  stop := fun H1 m1 e _ => by rw [rgD_len]; exact Nat.le_refl _
end
section
variable {X : Cx} {tg e a b : Expr} {f fa fb : Ef} {p pos : Pos}
theorem ci_seq (h : CEx X e f) : CIx X tg e (iSeq f) := PI.imp (PI.or (pi_list h) (pi_tup h)) fun σ H R ⟨ρ, M, m, ds, gk, M', rs, w, hf, P⟩ => by
  unfold iSeq at hf
  cases ea : f ρ M with
  | none => rw [ea] at hf; cases hf
  | some q =>
    obtain ⟨r, M1⟩ := q
    rw [ea] at hf
    simp only [Option.bind_some] at hf
    cases es : asS M1 r.d with
    | none => rw [es] at hf; cases hf
    | some ds' =>
      rw [es] at hf
      cases hf
      cases er : r.d with
      | tup es' =>
        refine .inr (bindE rs w ea fun H1 m1 v e1 w1 rs1 r1 => ?_)
        rw [er] at r1 es
        cases es
        rw [Rl] at r1
        obtain ⟨a, vs, rfl, h1, h2⟩ := r1
        rw [er] at P
        exact ⟨a, rfl, ⟨vs, h1⟩, P H1 m1 _ e1 w1 gd_none (yl_tup h1 h2)⟩
      | lst es' =>
        refine .inl (bindE rs w ea fun H1 m1 v e1 w1 rs1 r1 => ?_)
        rw [er] at r1 es
        cases es
        rw [Rl] at r1
        obtain ⟨a, vs, rfl, hn, h1, h2⟩ := r1
        rw [er] at P
        exact ⟨a, rfl, ⟨vs, .of h1⟩, P H1 m1 _ e1 w1 gd_none (yl_sq (fun H2 m2 e2 => .of (e2.lst _ _ hn h1)) h2)⟩
      | scr ns =>
        refine .inl (bindE rs w ea fun H1 m1 v e1 w1 rs1 r1 => ?_)
        rw [er] at r1 es
        cases es
        rw [Rl] at r1
        obtain ⟨a, rfl, h1⟩ := r1
        rw [er] at P
        exact ⟨a, rfl, ⟨_, h1.l⟩, P H1 m1 _ e1 w1 gd_none (yl_sq (fun H2 m2 e2 => (SqS.l (h1.imp (fun ⟨o, s⟩ => ⟨o, e2.frz _ _ _ s⟩) id))) .ints)⟩
      | loc k =>
        refine .inl (bindE rs w ea fun H1 m1 v e1 w1 rs1 r1 => ?_)
        rw [er] at r1 es
        have r2 := r1
        rw [Rl] at r1
        obtain ⟨a, rfl, ha⟩ := r1
        obtain ⟨b, vs, hb, h1, h2⟩ := asW_ok (d := .loc k) (ds := ds) w1 r2 es
        cases hb
        rw [er] at P
        exact ⟨a, rfl, ⟨vs, .of h1⟩, P H1 m1 _ e1 w1 (fun k' hk => by cases hk; exact ⟨a, vs, ha, h1, h2⟩) (yl_loc ha)⟩
      | _ => rw [er] at es; cases es
def rgB (i : Int) : Bool := decide (-(2 ^ 62) ≤ i) && decide (i < 2 ^ 62)
def iRg1 (fa : Ef) : If := fun ρ M => (fa ρ M).bind fun p => match p.1.d with
  | .int j => if rgB j = true then some (rgD 0 j.toNat, none, p.2) else none
  | _ => none
def iRg2 (fa fb : Ef) : If := fun ρ M => (fa ρ M).bind fun p => (fb ρ p.2).bind fun q => match p.1.d, q.1.d with
  | .int i, .int j => if rgB i = true ∧ rgB j = true then some (rgD i (j - i).toNat, none, q.2) else none
  | _, _ => none
theorem rgB_ok {i : Int} (h : rgB i = true) : -(2 ^ 62) ≤ i ∧ i < 2 ^ 62 := by
  unfold rgB at h
  simpa [Bool.and_eq_true] using h
theorem ci_rg1 (hg : Gl X "range") (hm : X.mg "range" = none) (ha : CEx X a fa) (hs : starEach [a] X.env = [(false, eval a X.env)] := by rfl) (hs' : starEach [a] X.env = (false, eval a X.env) :: starEach [] X.env := by rfl) : CIx X tg (.Call (.Name "range" p) [a] [] pos) (iRg1 fa) :=
  PI.imp (pi_range1 hg hm (pa_cons ha pa_nil hs') hs) fun σ H R ⟨ρ, M, m, ds, gk, M', rs, w, hf, P⟩ => by
    unfold iRg1 at hf
    cases ea : fa ρ M with
    | none => rw [ea] at hf; cases hf
    | some q =>
      rw [ea] at hf
      simp only [Option.bind_some] at hf
      refine bindE rs w ea fun H1 m1 v e1 w1 rs1 r1 => ?_
      split at hf
      · rename_i j hj
        split at hf
        · rename_i hb
          cases hf
          rw [hj, Rl] at r1; subst r1
          exact ⟨j, rfl, (rgB_ok hb).1, (rgB_ok hb).2, P H1 m1 _ e1 w1 gd_none yl_rng⟩
        · cases hf
      · cases hf
theorem ci_rg2 (hg : Gl X "range") (hm : X.mg "range" = none) (ha : CEx X a fa) (hb : CEx X b fb) (hs : starEach [a, b] X.env = [(false, eval a X.env), (false, eval b X.env)] := by rfl) (hs2 : starEach [b] X.env = [(false, eval b X.env)] := by rfl)
    (hs' : starEach [a, b] X.env = (false, eval a X.env) :: starEach [b] X.env := by rfl) (hs2' : starEach [b] X.env = (false, eval b X.env) :: starEach [] X.env := by rfl) : CIx X tg (.Call (.Name "range" p) [a, b] [] pos) (iRg2 fa fb) :=
  PI.imp (pi_range2 hg hm (pa_cons ha (pa_cons hb pa_nil hs2') hs') hs hs2) fun σ H R ⟨ρ, M, m, ds, gk, M', rs, w, hf, P⟩ => by
    unfold iRg2 at hf
    cases ea : fa ρ M with
    | none => rw [ea] at hf; cases hf
    | some q =>
      cases eb : fb ρ q.2 with
      | none => simp [ea, eb] at hf
      | some q2 =>
        simp only [ea, eb, Option.bind_some] at hf
        refine bindE rs w ea fun H1 m1 v e1 w1 rs1 r1 => bindE rs1 w1 eb fun H2 m2 v2 e2 w2 rs2 r2 => ?_
        split at hf
        · rename_i i j hi hj
          split at hf
          · rename_i hb
            cases hf
            rw [hi, Rl] at r1; subst r1
            rw [hj, Rl] at r2; subst r2
            exact ⟨i, j, rfl, ⟨(rgB_ok hb.1).1, (rgB_ok hb.1).2, (rgB_ok hb.2).1, (rgB_ok hb.2).2⟩, P H2 m2 _ (e1.trans e2) w2 gd_none yl_rng⟩
          · cases hf
        · cases hf
end

/-! ### for -/
def guard (gk : Option Nat) (ds : List D) (M : Mem) : Prop := ∀ k, gk = some k → M[k]? = some (.lst ds)
abbrev Stp := D → Slots → Mem → Option (Fl × Slots × Mem)
def loopF (step : Stp) : List D → Slots → Mem → Option (Fl × Slots × Mem)
  | [], ρ, M => some (.nx, ρ, M)
  | d :: ds, ρ, M => (step d ρ M).bind fun p => match p.1 with
    | .nx => loopF step ds p.2.1 p.2.2
    | .ct => loopF step ds p.2.1 p.2.2
    | .bk => some (.nx, p.2.1, p.2.2)
    | .rt r => some (.rt r, p.2.1, p.2.2)
open Classical in
noncomputable def stpF (gk : Option Nat) (ds : List D) (g : Gf) (body : Sf) : Stp := fun d ρ M => (g d ρ M).bind fun p => (body p.1 p.2).bind fun q => if guard gk ds q.2.2 then some q else none
noncomputable def sFor (it : If) (g : Gf) (body : Sf) : Sf := fun ρ M => (it ρ M).bind fun p => loopF (stpF p.2.1 p.1 g body) p.1 ρ p.2.2
theorem gd_of {K : PySem.W.Frag} {H : Hp} {m : List Addr} {M : Mem} {gk : Option Nat} {ds : List D} (w : Wd K H m M) (h : guard gk ds M) : GdOk K gk ds H m := fun k e => by
  obtain ⟨a, h1, vs, h2, h3⟩ := w.get (h k e)
  exact ⟨a, vs, h1, h2, h3⟩
section
variable {X : Cx} {tg iter : Expr} {body : List Stmt} {it : If} {g : Gf} {fb : Sf} {pos : Pos}
theorem cs_for (hp : PassesOwn (model X.prog X.w) X.A X.env X.xe) (hc : X.calm = true) (hi : CIx X tg iter it) (hg : CGx X tg g) (hb : CBx X body fb)
    (hs : ∀ x, foldedSetIterable iter X.env x = pure x := by intro _; rfl) : CSx X (.For tg iter body [] pos) (sFor it g fb) := PS.imp (ps_for hp hc hi hg hb hs) fun Dn σ H h => by
  obtain ⟨ρ, M, m, fl, ρ', M', rs, w, hf, P⟩ := h
  unfold sFor at hf
  cases ea : it ρ M with
  | none => rw [ea] at hf; cases hf
  | some p =>
    obtain ⟨ds, gk, M1⟩ := p
    rw [ea] at hf
    simp only [Option.bind_some] at hf
    refine ⟨ρ, M, m, ds, gk, M1, rs, w, ea, fun H1 m1 J e1 w1 gd1 Y => ?_⟩
    refine ⟨fun i n σ H => n = ds.length - i ∧ i ≤ ds.length ∧ ∃ ρ2 M2 m2, Ext H1 m1 H m2 ∧ Rs X.K H m2 ρ2 σ ∧ Wd X.K H m2 M2 ∧ GdOk X.K gk ds H m2 ∧ loopF (stpF gk ds g fb) (ds.drop i) ρ2 M2 = some (fl, ρ', M'),
      ⟨ds.length, by simp, Nat.zero_le _, ρ, M1, m1, .refl, rs.ext e1, w1, gd1, by simpa using hf⟩, ?_⟩
    rintro i n σ H ⟨rfl, hle, ρ2, M2, m2, e2, rs2, w2, gd2, hl⟩
    by_cases hlt : i < ds.length
    · refine .inr ⟨Y.go i H m2 hlt e2 gd2, ?_⟩
      have hd : ds.drop i = ds[i] :: ds.drop (i + 1) := List.drop_eq_getElem_cons hlt
      rw [hd] at hl
      unfold loopF at hl
      cases es : stpF gk ds g fb ds[i] ρ2 M2 with
      | none => rw [es] at hl; cases hl
      | some q =>
        obtain ⟨fl1, ρ3, M3⟩ := q
        rw [es] at hl
        simp only [Option.bind_some] at hl
        refine ⟨fun σ' H' => ∃ m3, Ext H m2 H' m3 ∧ Rs X.K H' m3 ρ3 σ' ∧ Wd X.K H' m3 M3 ∧ GdOk X.K gk ds H' m3 ∧ loopF (stpF gk ds g fb) (ds.drop (i + 1)) ρ3 M3 = some (fl, ρ', M'),
          fun σ' H' ⟨m3, e3, rs3, w3, gd3, hl3⟩ => ⟨ds.length - (i + 1), by omega, rfl, hlt, ρ3, M3, m3, e2.trans e3, rs3, w3, gd3, hl3⟩, fun x H' y => ?_⟩
        obtain ⟨e3, w3, r3⟩ := Y.yld i ds[i] H m2 M2 x H' (List.getElem?_eq_getElem hlt) e2 gd2 w2 y
        unfold stpF at es
        cases eg : g ds[i] ρ2 M2 with
        | none => rw [eg] at es; cases es
        | some q =>
          rw [eg] at es
          simp only [Option.bind_some] at es
          cases eb : fb q.1 q.2 with
          | none => rw [eb] at es; cases es
          | some q2 =>
            rw [eb] at es
            simp only [Option.bind_some] at es
            split at es
            · rename_i hgd
              cases es
              refine ⟨ds[i], ρ2, M2, m2, q.1, q.2, r3, rs2.ext e3, w3, eg, fun H4 m4 σ4 e4 w4 rs4 => ?_⟩
              refine ⟨q.1, q.2, m4, fl1, ρ3, M3, rs4, w4, eb, ?_⟩
              have eT : Ext H m2 H4 m4 := e3.trans e4
              have PT := P.ext ((e1.trans e2).trans eT)
              cases fl1 with
              | nx => exact fun H5 m5 σ5 e5 w5 rs5 => ⟨m5, eT.trans e5, rs5, w5, gd_of w5 hgd, hl⟩
              | ct => exact fun H5 m5 σ5 e5 w5 rs5 => ⟨m5, eT.trans e5, rs5, w5, gd_of w5 hgd, hl⟩
              | bk =>
                simp only [Option.some.injEq, Prod.mk.injEq] at hl
                obtain ⟨rfl, rfl, rfl⟩ := hl
                exact PT
              | rt r =>
                simp only [Option.some.injEq, Prod.mk.injEq] at hl
                obtain ⟨rfl, rfl, rfl⟩ := hl
                exact PT
            · cases es
    · have e : i = ds.length := by omega
      subst e
      rw [List.drop_length] at hl
      cases hl
      exact .inl ⟨Y.stop H m2 e2 gd2, P H m2 σ (e1.trans e2) w2 rs2⟩
end

/-! ### while -/
def whF (t : Tf) (body : Sf) : Nat → Slots → Mem → Option (Fl × Slots × Mem)
  | 0, _, _ => none
  | n + 1, ρ, M => (t ρ M).bind fun p => if p.1 = true then (body ρ p.2).bind fun q => (match q.1 with
      | .nx => whF t body n q.2.1 q.2.2
      | .ct => whF t body n q.2.1 q.2.2
      | .bk => some (.nx, q.2.1, q.2.2)
      | .rt r => some (.rt r, q.2.1, q.2.2)) else some (.nx, ρ, p.2)
def sWhile (n : Nat) (t : Tf) (body : Sf) : Sf := whF t body n
section
variable {X : Cx} {c : Expr} {body : List Stmt} {t : Tf} {fb : Sf} {pos : Pos}
theorem cs_while {n : Nat} (hp : PassesOwn (model X.prog X.w) X.A X.env X.xe) (hc : CTx X c t) (hb : CBx X body fb) : CSx X (.While c body [] pos) (sWhile n t fb) := PS.imp (ps_while hp hc hb) fun Dn σ H h => by
  obtain ⟨ρ, M, m, fl, ρ', M', rs, w, hf, P⟩ := h
  refine ⟨fun n σ H1 => ∃ ρ2 M2 m2, Ext H m H1 m2 ∧ Rs X.K H1 m2 ρ2 σ ∧ Wd X.K H1 m2 M2 ∧ whF t fb n ρ2 M2 = some (fl, ρ', M'), ⟨n, ρ, M, m, .refl, rs, w, hf⟩, ?_⟩
  rintro n σ H1 ⟨ρ2, M2, m2, e2, rs2, w2, hl⟩
  cases n with
  | zero => cases hl
  | succ n =>
    unfold whF at hl
    cases et : t ρ2 M2 with
    | none => rw [et] at hl; cases hl
    | some p =>
      rw [et] at hl
      simp only [Option.bind_some] at hl
      refine bindT rs2 w2 et fun H3 m3 e3 w3 rs3 => ?_
      split at hl
      · rename_i hb1
        rw [if_pos hb1]
        cases eb : fb ρ2 p.2 with
        | none => rw [eb] at hl; cases hl
        | some q =>
          obtain ⟨fl1, ρ3, M3⟩ := q
          rw [eb] at hl
          simp only [Option.bind_some] at hl
          refine ⟨fun σ' H' => ∃ m4, Ext H3 m3 H' m4 ∧ Rs X.K H' m4 ρ3 σ' ∧ Wd X.K H' m4 M3 ∧ whF t fb n ρ3 M3 = some (fl, ρ', M'),
            fun σ' H' ⟨m4, e4, rs4, w4, hl4⟩ => ⟨n, Nat.lt_succ_self _, ρ3, M3, m4, (e2.trans e3).trans e4, rs4, w4, hl4⟩, ρ2, p.2, m3, fl1, ρ3, M3, rs3, w3, eb, ?_⟩
          have PT := P.ext (e2.trans e3)
          cases fl1 with
          | nx => exact fun H5 m5 σ5 e5 w5 rs5 => ⟨m5, e5, rs5, w5, hl⟩
          | ct => exact fun H5 m5 σ5 e5 w5 rs5 => ⟨m5, e5, rs5, w5, hl⟩
          | bk =>
            simp only [Option.some.injEq, Prod.mk.injEq] at hl
            obtain ⟨rfl, rfl, rfl⟩ := hl
            exact PT
          | rt r =>
            simp only [Option.some.injEq, Prod.mk.injEq] at hl
            obtain ⟨rfl, rfl, rfl⟩ := hl
            exact PT
      · rename_i hb1
        rw [if_neg hb1]
        cases hl
        exact P H3 m3 σ (e2.trans e3) w3 rs3
end

/-! ### a def -/
mutual
def nl (n : Nat) : D → Bool
  | .loc k => decide (k < n)
  | .tup ds => nls n ds
  | .lst ds => nls n ds
  | _ => true
def nls (n : Nat) : List D → Bool
  | [] => true
  | d :: ds => nl n d && nls n ds
end
section
variable {K : PySem.W.Frag} {H : Hp} {m l : List Addr} {a : Addr}
mutual
theorem Rl.cut : ∀ {d : D} {v : V}, Rl K H (m ++ l) d v → nl m.length d = true → Rl K H m d v
  | .non, _, h, _ => by rw [Rl] at h ⊢; exact h
  | .bl _, _, h, _ => by rw [Rl] at h ⊢; exact h
  | .int _, _, h, _ => by rw [Rl] at h ⊢; exact h
  | .str _, _, h, _ => by rw [Rl] at h ⊢; exact h
  | .scr _, _, h, _ => by rw [Rl] at h ⊢; exact h
  | .tup ds, _, h, n => by
    rw [Rl] at h ⊢
    rw [nl] at n
    obtain ⟨a, vs, r, s, t⟩ := h
    exact ⟨a, vs, r, s, Rls.cut' t n⟩
  | .lst ds, _, h, n => by
    rw [Rl] at h ⊢
    rw [nl] at n
    obtain ⟨a, vs, r, z, s, t⟩ := h
    exact ⟨a, vs, r, fun q => z (List.mem_append_left _ q), s, Rls.cut' t n⟩
  | .loc k, _, h, n => by
    rw [Rl] at h ⊢
    rw [nl] at n
    obtain ⟨a, r, s⟩ := h
    exact ⟨a, r, by rw [List.getElem?_append_left (of_decide_eq_true n)] at s; exact s⟩
theorem Rls.cut' : ∀ {ds : List D} {vs : List V}, Rls K H (m ++ l) ds vs → nls m.length ds = true → Rls K H m ds vs
  | [], _, h, _ => by rw [Rls] at h ⊢; exact h
  | d :: ds, _, h, n => by
    rw [Rls] at h ⊢
    rw [nls, Bool.and_eq_true] at n
    obtain ⟨v, r, q, h1, h2⟩ := h
    exact ⟨v, r, q, Rl.cut h1 n.1, Rls.cut' h2 n.2⟩
end
/-- the heap without a -/
def del (H : Hp) (a : Addr) : Hp := fun b => if b = a then none else H b
theorem del_ne {b : Addr} (h : b ≠ a) : del H a b = H b := if_neg h
theorem del_same : del H a a = none := if_pos rfl
theorem upd_del {o : HO} (h : H a = some o) : upd (del H a) a o = H := by
  funext b
  by_cases q : b = a
  · rw [q, upd_same, h]
  · rw [upd_ne q, del_ne q]
mutual
theorem Rl.del {ws : List V} (ha : H a = some (.lst ws)) (hm : a ∈ l) : ∀ {d : D} {v : V}, Rl K H (m ++ l) d v → nl m.length d = true → Rl K (del H a) m d v
  | .non, _, h, _ => by rw [Rl] at h ⊢; exact h
  | .bl _, _, h, _ => by rw [Rl] at h ⊢; exact h
  | .int _, _, h, _ => by rw [Rl] at h ⊢; exact h
  | .str _, _, h, _ => by rw [Rl] at h ⊢; exact h
  | .scr _, _, h, _ => by
    rw [Rl] at h ⊢
    obtain ⟨b, r, s⟩ := h
    exact ⟨b, r, s.imp (fun ⟨o, s⟩ => ⟨o, by rw [del_ne (fun z => by rw [z, ha] at s; cases s)]; exact s⟩) id⟩
  | .tup ds, _, h, n => by
    rw [Rl] at h ⊢
    rw [nl] at n
    obtain ⟨b, vs, r, s, t⟩ := h
    refine ⟨b, vs, r, ?_, Rls.del ha hm t n⟩
    rcases s with (s | ⟨o, s⟩) | s
    · exact .inl (.inl (by rw [del_ne (fun z => by rw [z, ha] at s; cases s)]; exact s))
    · exact .inl (.inr ⟨o, by rw [del_ne (fun z => by rw [z, ha] at s; cases s)]; exact s⟩)
    · exact .inr s
  | .lst ds, _, h, n => by
    rw [Rl] at h ⊢
    rw [nl] at n
    obtain ⟨b, vs, r, z, s, t⟩ := h
    exact ⟨b, vs, r, fun q => z (List.mem_append_left _ q), by rw [del_ne (fun q => z (List.mem_append_right _ (by rw [q]; exact hm)))]; exact s, Rls.del ha hm t n⟩
  | .loc k, _, h, n => by
    rw [Rl] at h ⊢
    rw [nl] at n
    obtain ⟨b, r, s⟩ := h
    exact ⟨b, r, by rw [List.getElem?_append_left (of_decide_eq_true n)] at s; exact s⟩
theorem Rls.del {ws : List V} (ha : H a = some (.lst ws)) (hm : a ∈ l) : ∀ {ds : List D} {vs : List V}, Rls K H (m ++ l) ds vs → nls m.length ds = true → Rls K (del H a) m ds vs
  | [], _, h, _ => by rw [Rls] at h ⊢; exact h
  | d :: ds, _, h, n => by
    rw [Rls] at h ⊢
    rw [nls, Bool.and_eq_true] at n
    obtain ⟨v, r, q, h1, h2⟩ := h
    exact ⟨v, r, q, Rl.del ha hm h1 n.1, Rls.del ha hm h2 n.2⟩
end
end
end CI

/-! Ci7: a def as a function, comprehensions -/
namespace CI
open PySem PySem.Spec PyProof.Rows L2

def nlF (n : Nat) : List (Str × D) → Bool
  | [] => true
  | (_, d) :: fs => nl n d && nlF n fs
def nlK (n : Nat) : List (Key × D) → Bool
  | [] => true
  | (_, d) :: fs => nl n d && nlK n fs
def nlO (n : Nat) : O → Bool
  | .lst ds => nls n ds
  | .ins _ fs => nlF n fs
  | .dct kvs => nlK n kvs
def nlM (n : Nat) : Mem → Bool
  | [] => true
  | o :: M => nlO n o && nlM n M
section
variable {K : PySem.W.Frag} {H H0 : Hp} {m l : List Addr} {M Me : Mem} {a b : Addr}
mutual
theorem Rl.nl : ∀ {d : D} {v : V}, Rl K H m d v → CI.nl m.length d = true
  | .non, _, _ => rfl
  | .bl _, _, _ => rfl
  | .int _, _, _ => rfl
  | .str _, _, _ => rfl
  | .scr _, _, _ => rfl
  | .tup ds, _, h => by
    rw [Rl] at h
    obtain ⟨a, vs, r, s, t⟩ := h
    rw [CI.nl]; exact Rls.nl t
  | .lst ds, _, h => by
    rw [Rl] at h
    obtain ⟨a, vs, r, _, s, t⟩ := h
    rw [CI.nl]; exact Rls.nl t
  | .loc k, _, h => by
    rw [Rl] at h
    obtain ⟨a, r, s⟩ := h
    rw [CI.nl]
    exact decide_eq_true (List.getElem?_eq_some_iff.mp s).1
theorem Rls.nl : ∀ {ds : List D} {vs : List V}, Rls K H m ds vs → nls m.length ds = true
  | [], _, _ => rfl
  | d :: ds, _, h => by
    rw [Rls] at h
    obtain ⟨v, r, q, h1, h2⟩ := h
    rw [nls, Rl.nl h1, Rls.nl h2]; rfl
end
theorem Rfs.nl : ∀ {fs : List (Str × D)} {gs : List (Str × V)}, Rfs K H m fs gs → nlF m.length fs = true
  | [], _, _ => rfl
  | (f, d) :: fs, _, h => by
    obtain ⟨v, r, q, h1, h2⟩ := h
    rw [nlF, h1.nl, Rfs.nl h2]; rfl
theorem Rks.nl : ∀ {fs : List (Key × D)} {gs : List (Key × V)}, Rks K H m fs gs → nlK m.length fs = true
  | [], _, _ => rfl
  | (f, d) :: fs, _, h => by
    obtain ⟨v, r, q, h1, h2⟩ := h
    rw [nlK, h1.nl, Rks.nl h2]; rfl
theorem Ro.nl {o : O} (h : Ro K H m a o) : nlO m.length o = true := by
  cases o with
  | lst ds => obtain ⟨vs, _, h⟩ := h; exact h.nl
  | ins c fs => obtain ⟨dx, gs, _, h⟩ := h; exact h.nl
  | dct kvs => obtain ⟨gs, _, h⟩ := h; exact h.nl
theorem Wd.nl (w : Wd K H m M) : ∀ o ∈ M, nlO m.length o = true := fun o ho => by
  obtain ⟨k, hk, e⟩ := List.mem_iff_getElem.mp ho
  obtain ⟨a, _, r⟩ := w.get (k := k) (by rw [List.getElem?_eq_getElem hk, e])
  exact r.nl
theorem nlM_ok {n : Nat} : ∀ {M : Mem}, nlM n M = true → ∀ o ∈ M, nlO n o = true
  | [], _, o, h => nomatch h
  | p :: M, h, o, ho => by
    rw [nlM, Bool.and_eq_true] at h
    rcases List.mem_cons.mp ho with e | e
    · rw [e]; exact h.1
    · exact nlM_ok h.2 o e
theorem Rfs.cut : ∀ {fs : List (Str × D)} {gs : List (Str × V)}, Rfs K H (m ++ l) fs gs → nlF m.length fs = true → Rfs K H m fs gs
  | [], _, h, _ => h
  | (f, d) :: fs, _, h, n => by
    obtain ⟨v, r, q, h1, h2⟩ := h
    rw [nlF, Bool.and_eq_true] at n
    exact ⟨v, r, q, h1.cut n.1, Rfs.cut h2 n.2⟩
theorem Rks.cut : ∀ {fs : List (Key × D)} {gs : List (Key × V)}, Rks K H (m ++ l) fs gs → nlK m.length fs = true → Rks K H m fs gs
  | [], _, h, _ => h
  | (f, d) :: fs, _, h, n => by
    obtain ⟨v, r, q, h1, h2⟩ := h
    rw [nlK, Bool.and_eq_true] at n
    exact ⟨v, r, q, h1.cut n.1, Rks.cut h2 n.2⟩
theorem Rfs.del {ws : List V} (ha : H a = some (.lst ws)) (hm : a ∈ l) : ∀ {fs : List (Str × D)} {gs : List (Str × V)}, Rfs K H (m ++ l) fs gs → nlF m.length fs = true → Rfs K (CI.del H a) m fs gs
  | [], _, h, _ => h
  | (f, d) :: fs, _, h, n => by
    obtain ⟨v, r, q, h1, h2⟩ := h
    rw [nlF, Bool.and_eq_true] at n
    exact ⟨v, r, q, h1.del ha hm n.1, Rfs.del ha hm h2 n.2⟩
theorem Rks.del {ws : List V} (ha : H a = some (.lst ws)) (hm : a ∈ l) : ∀ {fs : List (Key × D)} {gs : List (Key × V)}, Rks K H (m ++ l) fs gs → nlK m.length fs = true → Rks K (CI.del H a) m fs gs
  | [], _, h, _ => h
  | (f, d) :: fs, _, h, n => by
    obtain ⟨v, r, q, h1, h2⟩ := h
    rw [nlK, Bool.and_eq_true] at n
    exact ⟨v, r, q, h1.del ha hm n.1, Rks.del ha hm h2 n.2⟩
theorem Ro.cut {o : O} (h : Ro K H (m ++ l) b o) (n : nlO m.length o = true) : Ro K H m b o := by
  cases o with
  | lst ds => obtain ⟨vs, h1, h2⟩ := h; exact ⟨vs, h1, Rls.cut' h2 n⟩
  | ins c fs => obtain ⟨dx, gs, h1, h2⟩ := h; exact ⟨dx, gs, h1, h2.cut n⟩
  | dct kvs => obtain ⟨gs, h1, h2⟩ := h; exact ⟨gs, h1, h2.cut n⟩
theorem Ro.del {o : O} {ws : List V} (ha : H a = some (.lst ws)) (hm : a ∈ l) (hb : b ≠ a) (h : Ro K H (m ++ l) b o) (n : nlO m.length o = true) : Ro K (CI.del H a) m b o := by
  cases o with
  | lst ds => obtain ⟨vs, h1, h2⟩ := h; exact ⟨vs, by rw [del_ne hb]; exact h1, Rls.del ha hm h2 n⟩
  | ins c fs => obtain ⟨dx, gs, h1, h2⟩ := h; exact ⟨dx, gs, by rw [del_ne hb]; exact h1, h2.del ha hm n⟩
  | dct kvs => obtain ⟨gs, h1, h2⟩ := h; exact ⟨gs, by rw [del_ne hb]; exact h1, h2.del ha hm n⟩
theorem Ext.back (e : Ext H0 m H (m ++ l)) : Ext H0 m H m := ⟨e.tup, e.frz, e.oth, e.trk, [], by simp, fun _ h => nomatch h⟩
theorem Ext.fresh (e : Ext H0 m H (m ++ l)) (h : a ∈ l) : H0 a = none := by
  obtain ⟨l', q, hl⟩ := e.pre
  rw [List.append_cancel_left q] at h
  exact hl a h
theorem Ext.del {ws : List V} (e : Ext H0 m H (m ++ l)) (h : a ∈ l) : Ext H0 m (CI.del H a) m := by
  have hf := e.fresh h
  have ne : ∀ b o, H0 b = some o → b ≠ a := fun b o q z => by rw [z, hf] at q; cases q
  refine ⟨fun b xs q => by rw [del_ne (ne b _ q)]; exact e.tup b xs q, fun b o u q => by rw [del_ne (ne b _ q)]; exact e.frz b o u q, fun b u n q => by rw [del_ne (ne b _ q)]; exact e.oth b u n q, fun b q => ?_, [], by simp, fun _ h => nomatch h⟩
  by_cases z : b = a
  · rw [z]; exact hf
  · rw [del_ne z] at q; exact e.trk b q
theorem take_get {M Me : Mem} {n k : Nat} {o : O} (t : Me.take n = M) (h : M[k]? = some o) : Me[k]? = some o := by
  rw [← t, List.getElem?_take] at h
  split at h
  · exact h
  · cases h
theorem Wd.cut (w : Wd K H (m ++ l) Me) (t : Me.take m.length = M) (hl : m.length = M.length) (n : ∀ o ∈ M, nlO m.length o = true) : Wd K H m M := by
  refine ⟨hl, (List.nodup_append.mp w.nd).1, fun k b o h1 h2 => ?_⟩
  have hk : k < m.length := (List.getElem?_eq_some_iff.mp h1).1
  exact (w.at_ k b o (by rw [List.getElem?_append_left hk]; exact h1) (take_get t h2)).cut (n o (List.mem_of_getElem? h2))
theorem Wd.del {ws : List V} (w : Wd K H (m ++ l) Me) (t : Me.take m.length = M) (hl : m.length = M.length) (n : ∀ o ∈ M, nlO m.length o = true) (ha : H a = some (.lst ws)) (hm : a ∈ l) : Wd K (CI.del H a) m M := by
  refine ⟨hl, (List.nodup_append.mp w.nd).1, fun k b o h1 h2 => ?_⟩
  have hk : k < m.length := (List.getElem?_eq_some_iff.mp h1).1
  refine (w.at_ k b o (by rw [List.getElem?_append_left hk]; exact h1) (take_get t h2)).del ha hm (fun z => ?_) (n o (List.mem_of_getElem? h2))
  exact (List.nodup_append.mp w.nd).2.2 b (List.mem_of_getElem? h1) a hm z
end

/-! ### what a def hands back -/
open Classical in
noncomputable def finish (M : Mem) (r : Rz) (Me : Mem) : Rz × Mem :=
  if Me.length = M.length then (r, Me) else if Me.take M.length = M then (match r with
    | .val (.loc k) => if k < M.length then (r, M) else match Me[k]? with
      | some (.lst ds) => if nls M.length ds = true then (.new ds, M) else (r, Me)
      | _ => (r, Me)
    | .val d => if nl M.length d = true then (r, M) else (r, Me)
    | .new ds => if nls M.length ds = true then (r, M) else (r, Me)) else (r, Me)
theorem finish_ok {K : PySem.W.Frag} {H0 : Hp} {m : List Addr} {M Me : Mem} {r : Rz} {Q : VK} (w0 : Wd K H0 m M) (P : Post K H0 m (finish M r Me).1 (finish M r Me).2 Q) : Post K H0 m r Me Q := by
  unfold finish at P
  split at P
  · exact P
  · split at P
    · rename_i hne ht
      have hn := w0.nl
      have hlen := w0.len
      rw [← hlen] at P ht
      cases r with
      | new ds =>
        simp only at P
        split at P
        · rename_i hd
          intro H1 m1 e1 w1 vs a r1 na
          obtain ⟨l, rfl, _⟩ := id e1.pre
          exact P H1 m e1.back (w1.cut ht hlen hn) vs a (Rls.cut' r1 hd) na
        · exact P
      | val d =>
        have plain : ∀ d, nl m.length d = true → Post K H0 m (.val d) M Q → Post K H0 m (.val d) Me Q := fun d hd P => by
          intro H1 m1 e1 w1 v r1
          obtain ⟨l, rfl, _⟩ := id e1.pre
          exact P H1 m e1.back (w1.cut ht hlen hn) v (r1.cut hd)
        cases d with
        | loc k =>
          simp only at P
          split at P
          · rename_i hk
            exact plain _ (by rw [nl]; exact decide_eq_true hk) P
          · rename_i hk
            split at P
            · rename_i ds hds
              split at P
              · rename_i hd
                intro H1 m1 e1 w1 v r1
                obtain ⟨l, rfl, _⟩ := id e1.pre
                rw [Rl] at r1
                obtain ⟨a, rfl, ha⟩ := r1
                obtain ⟨b, hb, vs, h1, h2⟩ := w1.get hds
                rw [ha] at hb; cases hb
                have hal : a ∈ l := by
                  rw [List.getElem?_append_right (by omega)] at ha
                  exact List.mem_of_getElem? ha
                have := P (del H1 a) m (e1.del (ws := vs) hal) (w1.del ht hlen hn h1 hal) vs a (Rls.del h1 hal h2 hd) del_same
                rw [upd_del h1] at this
                exact this
              · exact P
            · exact P
        | non => exact plain _ rfl (by simpa [nl] using P)
        | bl b => exact plain _ rfl (by simpa [nl] using P)
        | int b => exact plain _ rfl (by simpa [nl] using P)
        | str b => exact plain _ rfl (by simpa [nl] using P)
        | scr b => exact plain _ rfl (by simpa [nl] using P)
        | tup ds =>
          simp only at P
          split at P
          · rename_i hd; exact plain _ hd P
          · exact P
        | lst ds =>
          simp only at P
          split at P
          · rename_i hd; exact plain _ hd P
          · exact P
    · exact P

noncomputable def mkFn (np ns : Nat) (body : Sf) : Fn := fun ds M => if ds.length = np then (match body (ds.map some ++ List.replicate (ns - ds.length) none) M with
  | some (.rt r, _, Me) => some (finish M r Me)
  | some (.nx, _, Me) => some (finish M (.val .non) Me)
  | _ => none) else none
theorem rs_start {K : PySem.W.Frag} {H : Hp} {m : List Addr} {N : List Str} {ds : List D} {vs : List V} (r : Rls K H m ds vs) : Rs K H m (ds.map some ++ List.replicate (N.length - ds.length) none) (L2.start N vs) := by
  unfold L2.start
  have hl := r.length
  refine ⟨by simp [hl], fun i d q => ?_⟩
  by_cases h : i < ds.length
  · rw [List.getElem?_append_left (by simpa using h), List.getElem?_map] at q
    rw [List.getElem?_append_left (by simpa [← hl] using h), List.getElem?_map]
    cases e : ds[i]? with
    | none => rw [e] at q; cases q
    | some d' =>
      rw [e] at q
      simp at q; subst q
      obtain ⟨v, h1, h2⟩ := r.get e
      exact ⟨v, by rw [h1]; rfl, h2⟩
  · rw [List.getElem?_append_right (by simpa using h), List.getElem?_replicate] at q
    split at q
    · simp at q
    · cases q
theorem run_ok {K : PySem.W.Frag} {N : List Str} {np : Nat} {fb : Sf} {vs : List V} {H : Hp} {Q : VK} {E : XK} (h : spF K (mkFn np N.length fb) vs H Q E) : tS K fb { nx := fun _ H' => Q .non H', rt := Q } (L2.start N vs) H := by
  obtain ⟨ds, M, m, r, M', rd, w, hf, P⟩ := h
  unfold mkFn at hf
  split at hf
  · split at hf
    · rename_i r' ρ' Me hb
      cases e : finish M r' Me with | mk a b =>
      rw [e] at hf; cases hf
      refine ⟨_, M, m, _, _, _, rs_start rd, w, hb, ?_⟩
      refine finish_ok w ?_
      rw [e]; exact P
    · rename_i ρ' Me hb
      cases e : finish M (.val .non) Me with | mk a b =>
      rw [e] at hf; cases hf
      refine ⟨_, M, m, _, _, _, rs_start rd, w, hb, fun H1 m1 σ1 e1 w1 rs1 => ?_⟩
      have P2 : Post K H m (.val .non) Me Q := finish_ok w (by rw [e]; exact P)
      exact P2 H1 m1 e1 w1 .non (by rw [Rl])
    · cases hf
  · cases hf
theorem spF_len {K : PySem.W.Frag} {np ns : Nat} {fb : Sf} {vs : List V} {H : Hp} {Q : VK} {E : XK} (h : spF K (mkFn np ns fb) vs H Q E) : vs.length = np := by
  obtain ⟨ds, M, m, r, M', rd, w, hf, P⟩ := h
  unfold mkFn at hf
  split at hf
  · rename_i hl; rw [← rd.length]; exact hl
  · cases hf
section
variable {P : Program} {w : World} {K : PySem.W.Frag} {mg : Str → Option Value} {base : Heap} {x qual : Str} {params : Arguments} {body : List Stmt} {scope : Scope} {f : Addr} {fd : FuncData}
/-- a def whose body means fb -/
theorem fn_ok {N ps : List Str} {k : Nat} {fb : Sf} (F : FunD K x qual params body scope [] [] f fd) (S : FnScope N ps scope)
    (hb : ∀ (cdv : Value) (A : Around) (outer : List Env) (s : Shared) (H : Hp) (E : XK), Room k (A.deeper (envOfC qual scope s.heap.objs.size f cdv)) → CBx (cxOf CX0 P w K mg base N qual scope f cdv A outer s H E).nox body fb) :
    FnOk P w K mg base CX0 (k + 1) f fd ps (spF K (mkFn ps.length N.length fb)) :=
  F.ok S (fun vs H Q E h => spF_len h) fun cdv A outer s H vs Q E hr h => ⟨_, PSs.nox (hb cdv A outer s H E hr), run_ok h⟩
end
/-- a law: called with the script it gives True -/
theorem law_sp {K : PySem.W.Frag} {F : Fn} (h : ∀ ns : List Int, ns.length ≤ 63 → ∃ M, F [.scr ns] [] = some (.val (.bl true), M)) (H : Hp) (a : Addr) (ns : List Int) (hl : ns.length ≤ 63) (hO : Only H) (hS : SqL K H a (ns.map V.int)) :
    spF K F [.ref a] H (fun v _ => v = .bl true) fun _ _ _ => False := by
  obtain ⟨M, hM⟩ := h ns hl
  refine ⟨[.scr ns], [], [], _, M, ?_, ⟨rfl, .nil, fun k a o h _ => by simp at h⟩, hM, fun H1 m1 e1 w1 v r => by rw [Rl] at r; exact r⟩
  rw [Rls]
  refine ⟨_, [], rfl, ?_, by rw [Rls]⟩
  rw [Rl]
  refine ⟨a, rfl, ?_⟩
  rcases hS with (h | h) | h
  · rcases hO a with q | ⟨o, xs, q⟩
    · rw [q] at h; cases h
    · rw [q] at h; cases h
  · exact .inl h
  · exact .inr h
end CI

/-! Ci11: comprehensions -/
namespace CI
open PySem PySem.Spec PyProof.Rows L2

/-! ### targets within a block -/
theorem wipe_set {x : Option V} {i : Nat} : ∀ {vs : List Nat} {σ : L2.St}, i ∈ vs → wipe (σ.set i x) vs = wipe σ vs
  | [], _, h => nomatch h
  | v :: vs, σ, h => by
    show (wipe (σ.set i x) vs).set v none = (wipe σ vs).set v none
    by_cases hi : i ∈ vs
    · rw [wipe_set hi]
    · have hv : i = v := (List.mem_cons.mp h).resolve_right hi
      subst hv
      have key : ∀ (vs : List Nat) (σ : L2.St), i ∉ vs → wipe (σ.set i x) vs = (wipe σ vs).set i x := by
        intro vs
        induction vs with
        | nil => intro σ _; rfl
        | cons v vs ih =>
          intro σ hn
          show (wipe (σ.set i x) vs).set v none = ((wipe σ vs).set v none).set i x
          rw [ih σ fun z => hn (List.mem_cons_of_mem _ z)]
          exact List.set_comm _ _ (fun z => hn (by rw [z]; exact List.mem_cons_self))
      rw [key vs σ hi, List.set_set]
theorem wipe_idem : ∀ {vs : List Nat} {σ : L2.St}, wipe (wipe σ vs) vs = wipe σ vs
  | [], _ => rfl
  | v :: vs, σ => by
    show (wipe ((wipe σ vs).set v none) vs).set v none = (wipe σ vs).set v none
    by_cases hv : v ∈ vs
    · rw [wipe_set hv, wipe_idem]
    · have key : ∀ (us : List Nat) (σ : L2.St), v ∉ us → wipe (σ.set v none) us = (wipe σ us).set v none := by
        intro us
        induction us with
        | nil => intro σ _; rfl
        | cons u us ih =>
          intro σ hn
          show (wipe (σ.set v none) us).set u none = ((wipe σ us).set u none).set v none
          rw [ih σ fun z => hn (List.mem_cons_of_mem _ z)]
          exact List.set_comm _ _ (fun z => hn (by rw [z]; exact List.mem_cons_self))
      rw [key vs _ hv, wipe_idem, List.set_set]
def wipeD (ρ : Slots) : List Nat → Slots
  | [] => ρ
  | v :: vs => (wipeD ρ vs).set v none
theorem Rs.wipe {K : PySem.W.Frag} {H : Hp} {m : List Addr} {ρ : Slots} {σ : L2.St} (h : Rs K H m ρ σ) : ∀ vs : List Nat, Rs K H m (wipeD ρ vs) (L2.wipe σ vs)
  | [] => h
  | v :: vs => by
    have r := h.wipe vs
    refine ⟨by show ((wipeD ρ vs).set v none).length = ((L2.wipe σ vs).set v none).length; simp [r.1], fun i d q => ?_⟩
    show ∃ w, ((L2.wipe σ vs).set v none)[i]? = some (some w) ∧ _
    have q : ((wipeD ρ vs).set v none)[i]? = some (some d) := q
    by_cases z : i = v
    · subst z
      obtain ⟨z, _⟩ := List.getElem?_eq_some_iff.mp q
      rw [List.length_set] at z
      rw [List.getElem?_set_self z] at q
      cases q
    · rw [List.getElem?_set_ne (Ne.symm z)] at q
      rw [List.getElem?_set_ne (Ne.symm z)]
      exact r.2 i d q
/-- a target that stores at the slots vs alone -/
def tGw (K : PySem.W.Frag) (vs : List Nat) (g : Gf) : TG := fun v σ H Q => ∃ d ρ M m ρ' M', Rl K H m d v ∧ Rs K H m ρ σ ∧ Wd K H m M ∧ g d ρ M = some (ρ', M') ∧
  ∀ H1 m1 σ1, Ext H m H1 m1 → Wd K H1 m1 M' → Rs K H1 m1 ρ' σ1 → wipe σ1 vs = wipe σ vs → Q σ1 H1
def tGsw (K : PySem.W.Frag) (vs : List Nat) (g : GsF) : TGs := fun us σ H Q => ∃ ds ρ M m ρ' M', Rls K H m ds us ∧ Rs K H m ρ σ ∧ Wd K H m M ∧ g ds ρ M = some (ρ', M') ∧
  ∀ H1 m1 σ1, Ext H m H1 m1 → Wd K H1 m1 M' → Rs K H1 m1 ρ' σ1 → wipe σ1 vs = wipe σ vs → Q σ1 H1
section
variable {X : Cx} {K : PySem.W.Frag} {e tg : Expr} {es : List Expr} {g : Gf} {gs : GsF} {pos : Pos} {vs : List Nat}
theorem cgw_of {i : Nat} (h : PG X e (gName i)) (hi : i ∈ vs) : PG X e (tGw K vs (gNm i)) := PG.imp h fun v σ H Q ⟨d, ρ, M, m, ρ', M', r, rs, w, hf, P⟩ => by
  cases hf
  exact P H m _ .refl w (rs.set r i) (wipe_set hi)
theorem cgsw_nil : PGs X [] (tGsw K vs gsNil) := PGs.imp pgs_nil fun us σ H Q ⟨ds, ρ, M, m, ρ', M', r, rs, w, hf, P⟩ => by
  unfold gsNil at hf
  split at hf
  · cases hf
    exact ⟨rls_nil r, P H m _ .refl w rs rfl⟩
  · cases hf
theorem cgsw_cons (h1 : PG X e (tGw K vs g)) (h2 : PGs X es (tGsw K vs gs)) (hs : (assignEach (e :: es) X.env).map (·.2) = assign e X.env :: (assignEach es X.env).map (·.2) := by rfl) : PGs X (e :: es) (tGsw K vs (gsCons g gs)) :=
  PGs.imp (pgs_cons h1 h2 hs) fun us σ H Q ⟨ds, ρ, M, m, ρ', M', r, rs, w, hf, P⟩ => by
    unfold gsCons at hf
    split at hf
    · rename_i d ds
      rw [Rls] at r
      obtain ⟨v, vr, rfl, r1, r2⟩ := r
      cases ea : g d ρ M with
      | none => rw [ea] at hf; cases hf
      | some p =>
        rw [ea] at hf
        simp only [Option.bind_some] at hf
        refine ⟨v, vr, rfl, d, ρ, M, m, p.1, p.2, r1, rs, w, ea, fun H1 m1 σ1 e1 w1 rs1 z1 => ?_⟩
        exact ⟨ds, p.1, p.2, m1, ρ', M', r2.ext e1, rs1, w1, hf, fun H2 m2 σ2 e2 w2 rs2 z2 => P H2 m2 σ2 (e1.trans e2) w2 rs2 (z2.trans z1)⟩
    · cases hf
theorem cgw_tup {k n : Nat} (hc : X.calm = true) (h : PGs X es (tGsw X.K vs gs)) (hn : (assignEach es X.env).length = n := by rfl) (hst : (assignEach es X.env).findIdx? (·.1) = none := by rfl) : PG X (.Tuple es k pos) (tGw X.K vs (gTp n gs)) :=
  PG.imp (pg_tup hc h hn hst) fun v σ H Q ⟨d, ρ, M, m, ρ', M', r, rs, w, hf, P⟩ => by
    unfold gTp at hf
    split at hf
    · rename_i ds
      split at hf
      · rename_i hl
        rw [Rl] at r
        obtain ⟨a, us, rfl, h1, h2⟩ := r
        exact ⟨a, us, rfl, h1, by rw [← h2.length]; exact hl, ds, ρ, M, m, ρ', M', h2, rs, w, hf, P⟩
      · cases hf
    · cases hf
end

/-! ### the comprehension -/
/-- the turns: the list made so far is the object n -/
noncomputable def lcF (g : Gf) (tt : Tf) (te : Ef) (ρw : Slots) (n : Nat) (gk : Option Nat) (ds0 : List D) : List D → Mem → Option Mem
  | [], M => some M
  | d :: ds, M => (g d ρw M).bind fun p => (tt p.1 p.2).bind fun b => if b.1 = true then (te p.1 b.2).bind fun r => (match r.2[n]? with
      | some (.lst acc) => if acc.length < sizeLine then (open Classical in if guard gk ds0 (r.2.set n (.lst (acc ++ [r.1.d]))) then lcF g tt te ρw n gk ds0 ds (r.2.set n (.lst (acc ++ [r.1.d]))) else none) else none
      | _ => none) else (open Classical in if guard gk ds0 b.2 then lcF g tt te ρw n gk ds0 ds b.2 else none)
open Classical in
noncomputable def cLc (it : If) (vs : List Nat) (g : Gf) (tt : Tf) (te : Ef) : Ef := fun ρ M => (it ρ M).bind fun p =>
  (lcF g tt te (wipeD ρ vs) p.2.2.length p.2.1 p.1 p.1 (p.2.2 ++ [.lst []])).bind fun Me => match Me[p.2.2.length]? with
  | some (.lst acc) => if Me.length = p.2.2.length + 1 ∧ (Me.take p.2.2.length = p.2.2 ∨ nlM p.2.2.length (Me.take p.2.2.length) = true) ∧ nls p.2.2.length acc = true then some (.new acc, Me.take p.2.2.length) else none
  | _ => none
def tYesF : Tf := fun _ M => some (true, M)
section
variable {X : Cx} {elt tg iter : Expr} {ifs : List Expr} {scope : Scope} {own : List (Str × Nat)} {pos : Pos} {it : If} {g : Gf} {tt : Tf} {te : Ef}
theorem lc_of {σ : L2.St} {H : Hp} {Q : VK} {vs : List Nat} (h : tE X.K (cLc it vs g tt te) σ H Q) : tLc (tI X.K it) (tGw X.K vs g) (tT X.K tt) (tE X.K te) vs σ H Q := by
  obtain ⟨ρ, M, m, r, M', rs, w, hf, P⟩ := h
  unfold cLc at hf
  cases ea : it ρ M with
  | none => rw [ea] at hf; cases hf
  | some p =>
    obtain ⟨ds, gk, M1⟩ := p
    rw [ea] at hf
    simp only [Option.bind_some] at hf
    cases el : lcF g tt te (wipeD ρ vs) M1.length gk ds ds (M1 ++ [.lst []]) with
    | none => rw [el] at hf; cases hf
    | some Me =>
      rw [el] at hf
      simp only [Option.bind_some] at hf
      refine ⟨ρ, M, m, ds, gk, M1, rs, w, ea, fun H1 m1 J e1 w1 gd1 Y => fun D hD => ?_⟩
      obtain ⟨w2, e2⟩ := w1.push (o := .lst []) (u := .lst []) hD ⟨[], upd_same, by rw [Rls]⟩
      have gd2 : GdOk X.K gk ds (upd H1 D (.lst [])) (m1 ++ [D]) := fun k hk => by
        obtain ⟨a, us, q1, q2, q3⟩ := gd1 k hk
        exact ⟨a, us, e2.get q1, by rw [upd_ne (fun z => by rw [z, hD] at q2; cases q2)]; exact q2, q3.ext e2⟩
      have hn1 : M1.length = m1.length := w1.len.symm
      have hDm : (m1 ++ [D])[M1.length]? = some D := by rw [hn1, List.getElem?_append_right (Nat.le_refl _)]; simp
      refine ⟨fun i n H => n = ds.length - i ∧ i ≤ ds.length ∧ ∃ M2 m2, Ext (upd H1 D (.lst [])) (m1 ++ [D]) H m2 ∧ Wd X.K H m2 M2 ∧ GdOk X.K gk ds H m2 ∧ lcF g tt te (wipeD ρ vs) M1.length gk ds (ds.drop i) M2 = some Me,
        ⟨ds.length, by simp, Nat.zero_le _, M1 ++ [.lst []], m1 ++ [D], .refl, w2, gd2, by simpa using el⟩, ?_⟩
      rintro i n H ⟨rfl, hle, M2, m2, e3, w3, gd3, hl⟩
      have eY : Ext H1 m1 H m2 := e2.trans e3
      by_cases hlt : i < ds.length
      · refine .inr ⟨Y.go i H m2 hlt eY gd3, ?_⟩
        have hd : ds.drop i = ds[i] :: ds.drop (i + 1) := List.drop_eq_getElem_cons hlt
        rw [hd] at hl
        unfold lcF at hl
        refine ⟨fun H' => ∃ M3 m3, Ext H m2 H' m3 ∧ Wd X.K H' m3 M3 ∧ GdOk X.K gk ds H' m3 ∧ lcF g tt te (wipeD ρ vs) M1.length gk ds (ds.drop (i + 1)) M3 = some Me,
          fun H' ⟨M3, m3, e4, w4, gd4, hl4⟩ => ⟨ds.length - (i + 1), by omega, rfl, hlt, M3, m3, e3.trans e4, w4, gd4, hl4⟩, fun x H' y => ?_⟩
        obtain ⟨e4, w4, r4⟩ := Y.yld i ds[i] H m2 M2 x H' (List.getElem?_eq_getElem hlt) eY gd3 w3 y
        cases eg : g ds[i] (wipeD ρ vs) M2 with
        | none => rw [eg] at hl; cases hl
        | some q =>
          rw [eg] at hl
          simp only [Option.bind_some] at hl
          refine ⟨ds[i], wipeD ρ vs, M2, m2, q.1, q.2, r4, ((rs.ext e1).ext (eY.trans e4)).wipe vs, w4, eg, fun H5 m5 σ5 e5 w5 rs5 z5 => ⟨z5.trans wipe_idem, ?_⟩⟩
          cases et : tt q.1 q.2 with
          | none => rw [et] at hl; cases hl
          | some b =>
            rw [et] at hl
            simp only [Option.bind_some] at hl
            refine bindT rs5 w5 et fun H6 m6 e6 w6 rs6 => ?_
            split at hl
            · rename_i hb
              rw [if_pos hb]
              cases ev : te q.1 b.2 with
              | none => rw [ev] at hl; cases hl
              | some rz =>
                rw [ev] at hl
                simp only [Option.bind_some] at hl
                refine bindE rs6 w6 ev fun H7 m7 v e7 w7 rs7 r7 => ?_
                split at hl
                · rename_i acc hacc
                  split at hl
                  · rename_i hz
                    have eAll : Ext (upd H1 D (.lst [])) (m1 ++ [D]) H7 m7 := (((e3.trans e4).trans e5).trans e6).trans e7
                    have hD7 := eAll.get hDm
                    obtain ⟨a, ha, us, h1, h2⟩ := w7.get hacc
                    rw [hD7] at ha; cases ha
                    refine ⟨us, h1, by rw [← h2.length]; exact hz, ?_⟩
                    have e8 := w7.ext_set (u := .lst (us ++ [v])) hD7
                    have w8 := w7.set (o := .lst (acc ++ [rz.1.d])) (u := .lst (us ++ [v])) hD7 ⟨_, upd_same, (h2.ext e8).append (by rw [Rls]; exact ⟨_, _, rfl, r7.ext e8, by rw [Rls]⟩)⟩
                    split at hl
                    · rename_i hgd
                      exact ⟨_, m7, (((e4.trans e5).trans e6).trans e7).trans e8, w8, gd_of w8 hgd, hl⟩
                    · cases hl
                  · cases hl
                · cases hl
            · rename_i hb
              rw [if_neg hb]
              split at hl
              · rename_i hgd
                exact ⟨_, m6, (e4.trans e5).trans e6, w6, gd_of w6 hgd, hl⟩
              · cases hl
      · have e : i = ds.length := by omega
        subst e
        refine .inl ⟨Y.stop H m2 eY gd3, ?_⟩
        rw [List.drop_length] at hl
        unfold lcF at hl
        cases hl
        split at hf
        · rename_i acc hacc
          split at hf
          · rename_i hcond
            obtain ⟨c1, c2, c3⟩ := hcond
            cases hf
            obtain ⟨l, rfl, hl0⟩ := id e3.pre
            have hl1 : l = [] := by
              have := w3.len
              rw [c1, hn1] at this
              simp at this
              exact this
            subst hl1
            rw [List.append_nil] at w3 e3
            obtain ⟨a, ha, us, h1, h2⟩ := w3.get hacc
            rw [hDm] at ha; cases ha
            have eD : Ext H1 m1 H (m1 ++ [D]) := e2.trans e3
            have hnl : ∀ o ∈ Me.take m1.length, nlO m1.length o = true := by
              rw [hn1] at c2
              rcases c2 with c2 | c2
              · rw [c2]; exact w1.nl
              · exact nlM_ok c2
            have hlen : m1.length = (Me.take m1.length).length := by
              rw [List.length_take, c1, hn1]; omega
            rw [hn1] at P c3
            have := P (del H D) m1 (e1.trans (eD.del (ws := us) (by simp))) (w3.del rfl hlen hnl h1 (by simp)) us D (Rls.del h1 (by simp) h2 c3) del_same
            rw [upd_del h1] at this
            exact this
          · cases hf
        · cases hf
theorem ce_lc (hc : X.calm = true) (hN : X.N.Nodup) (hi : CIx X tg iter it) (ok : BlkOk X.N X.env.scope scope own)
    (hg : ∀ (s : Shared) (H : Hp) (C : Addr) (cl : List (Str × Addr)) (fp : List Addr), PG (X.blk s H scope (compEnvC scope cl C X.env) fp) tg (tGw X.K (own.map (·.2)) g)) (ht : ∀ (s : Shared) (H : Hp) (C : Addr) (cl : List (Str × Addr)) (fp : List Addr), PTs (X.blk s H scope (compEnvC scope cl C X.env) fp) ifs (tT X.K tt))
    (he : ∀ (s : Shared) (H : Hp) (C : Addr) (cl : List (Str × Addr)) (fp : List Addr), PE (X.blk s H scope (compEnvC scope cl C X.env) fp) elt (tE X.K te)) (hs : ∀ x, foldedSetIterable iter X.env x = pure x := by intro _; rfl) :
    CEx X (.ListComp elt [⟨tg, iter, ifs, 0⟩] scope pos) (cLc it (own.map (·.2)) g tt te) := PE.imp (pe_lc hc hN hi ok hg ht he hs) fun _ _ _ h => lc_of h
theorem cs_setLc {i : Nat} {y : Str} {py spos : Pos} (hc : X.calm = true) (hN : X.N.Nodup) (hy : X.N[i]? = some y) (hyl : X.env.scope.names.lookup y = some .local)
    (hsw : swapsWith (.ListComp elt [⟨tg, iter, ifs, 0⟩] scope pos) (some (.Name y py)) spos.line X.env = pure true) (hi : CIx X tg iter it) (ok : BlkOk X.N X.env.scope scope own)
    (hg : ∀ (s : Shared) (H : Hp) (C : Addr) (cl : List (Str × Addr)) (fp : List Addr), PG (X.blk s H scope (compEnvC scope cl C X.env) fp) tg (tGw X.K (own.map (·.2)) g)) (ht : ∀ (s : Shared) (H : Hp) (C : Addr) (cl : List (Str × Addr)) (fp : List Addr), PTs (X.blk s H scope (compEnvC scope cl C X.env) fp) ifs (tT X.K tt))
    (he : ∀ (s : Shared) (H : Hp) (C : Addr) (cl : List (Str × Addr)) (fp : List Addr), PE (X.blk s H scope (compEnvC scope cl C X.env) fp) elt (tE X.K te)) (hs : ∀ x, foldedSetIterable iter X.env x = pure x := by intro _; rfl) :
    PS X (.Assign [.Name y py] (.ListComp elt [⟨tg, iter, ifs, 0⟩] scope pos) spos) (tAsg (tE X.K (cLc it (own.map (·.2)) g tt te)) (gName i)) := PS.imp (ps_setLc hc hN hy hyl hsw hi ok hg ht he hs) fun Dn σ H h => lc_of h
theorem cts_nil : PTs X [] (tT X.K tYesF) := ⟨fun pins s σ H Q I h => by
  obtain ⟨ρ, M, m, b, M', rs, w, hf, P⟩ := h
  cases hf
  exact pts_nil.run pins s σ H Q I (P H m .refl w)⟩
theorem cts_one {c : Expr} (h : CTx X c tt) : PTs X [c] (tT X.K tt) := pts_one h
end
end CI

/-! Ci12: stars in displays, list(range), enumerate; comprehensions reckoned -/
namespace CI
open PySem PySem.Spec PyProof.Rows L2
def oLenD : Cop := fun ds M => match ds with
  | [.loc k] => match M[k]? with
    | some (.dct kvs) => some (.val (.int kvs.length))
    | _ => none
  | _ => none
section
variable {X : Cx} {e : Expr} {es : List Expr} {f : Ef} {g : Af} {p pos : Pos}
/-- the items of a starred sequence are read when it is met: what follows does not change them -/
def aStar' (f : Ef) (g : Af) : Af := fun ρ M => (f ρ M).bind fun p => (asS p.2 p.1.d).bind fun ds => (g ρ p.2).bind fun q => some (ds ++ q.1, q.2)
theorem ca_star (he : CEx X e f) (hr : CAx X es g) (hs : starEach (.Starred e p :: es) X.env = (true, eval e X.env) :: starEach es X.env := by rfl) : CAx X (.Starred e p :: es) (aStar' f g) := PA.imp (StX.pa_star he hr hs) fun σ H Q ⟨ρ, M, m, ds, M', rs, w, hf, P⟩ => by
  unfold aStar' at hf
  cases ea : f ρ M with
  | none => rw [ea] at hf; cases hf
  | some p =>
    cases es : asS p.2 p.1.d with
    | none => simp [ea, es] at hf
    | some zs =>
      cases eb : g ρ p.2 with
      | none => simp [ea, es, eb] at hf
      | some q =>
        simp [ea, es, eb] at hf
        obtain ⟨rfl, rfl⟩ := hf
        refine bindE rs w ea fun H1 m1 v e1 w1 rs1 r1 => ?_
        obtain ⟨a, us, rfl, h1, h2⟩ := asS_ok w1 r1 es
        refine ⟨a, us, rfl, h1.symm, bindA rs1 w1 eb fun H2 m2 vs e2 w2 rs2 r2 => P H2 m2 _ (e1.trans e2) w2 ((h2.ext e2).append r2)⟩
/-- list(range(a, b)), tuple(range(a, b)) -/
def bRg (a b : Int) : Bool := rgB a && rgB b && decide ((b - a).toNat ≤ 16777216)
def cLRg (fa fb : Ef) : Ef := fun ρ M => (fa ρ M).bind fun p => (fb ρ p.2).bind fun q => match p.1.d, q.1.d with
  | .int i, .int j => if bRg i j = true then some (.new (rgD i (j - i).toNat), q.2) else none
  | _, _ => none
theorem rls_rg {K : PySem.W.Frag} {H : Hp} {m : List Addr} {lo hi : Int} : Rls K H m (rgD lo (hi - lo).toNat) (rgV lo hi) := by
  unfold rgD rgV
  generalize (List.range (hi - lo).toNat) = l
  induction l with
  | nil => simp [Rls]
  | cons i l ih =>
    rw [List.map_cons, List.map_cons, Rls]
    exact ⟨_, _, rfl, by rw [Rl], ih⟩
theorem ce_lrg2 {a b : Expr} {fa fb : Ef} {p2 pos2 : Pos} (hc : X.calm = true) (hg : Gl X "list") (hm : X.mg "list" = none) (hg2 : Gl X "range") (hm2 : X.mg "range" = none) (ha : CEx X a fa) (hb : CEx X b fb)
    (na : starEach [a, b] X.env = (false, eval a X.env) :: starEach [b] X.env := by rfl) (nb : starEach [b] X.env = (false, eval b X.env) :: starEach [] X.env := by rfl)
    (nr : starEach [.Call (.Name "range" p2) [a, b] [] pos2] X.env = (false, eval (.Call (.Name "range" p2) [a, b] [] pos2) X.env) :: starEach [] X.env := by rfl) (hp : (backTo pos2 (starEach [b] X.env)).any (·.1) = false := by rfl) :
    CEx X (.Call (.Name "list" p) [.Call (.Name "range" p2) [a, b] [] pos2] [] pos) (cLRg fa fb) := PE.imp (pe_listRg hc hg hm (prg_2 hg2 hm2 ha hb na nb hp) nr) fun σ H Q h => by
  obtain ⟨ρ, M, m, z, M', rs, w, hf, P⟩ := h
  unfold cLRg at hf
  cases ea : fa ρ M with
  | none => rw [ea] at hf; cases hf
  | some p =>
    cases eb : fb ρ p.2 with
    | none => simp [ea, eb] at hf
    | some q =>
      simp only [ea, eb, Option.bind_some] at hf
      refine bindE rs w ea fun H1 m1 v e1 w1 rs1 r1 => bindE rs1 w1 eb fun H2 m2 u e2 w2 rs2 r2 => ?_
      split at hf
      · rename_i i j hi hj
        split at hf
        · rename_i hb
          cases hf
          rw [hi, Rl] at r1; subst r1
          rw [hj, Rl] at r2; subst r2
          unfold bRg at hb
          simp only [Bool.and_eq_true, decide_eq_true_eq] at hb
          refine ⟨i, j, rfl, rfl, ⟨(rgB_ok hb.1.1).1, (rgB_ok hb.1.1).2, (rgB_ok hb.1.2).1, (rgB_ok hb.1.2).2, hb.2⟩, ?_⟩
          exact (P.ext (e1.trans e2)).new w2 rls_rg
        · cases hf
      · cases hf
theorem ce_lrg1 {a : Expr} {fa : Ef} {p2 pos2 : Pos} (hc : X.calm = true) (hg : Gl X "list") (hm : X.mg "list" = none) (hg2 : Gl X "range") (hm2 : X.mg "range" = none) (ha : CEx X a fa)
    (na : starEach [a] X.env = (false, eval a X.env) :: starEach [] X.env := by rfl)
    (nr : starEach [.Call (.Name "range" p2) [a] [] pos2] X.env = (false, eval (.Call (.Name "range" p2) [a] [] pos2) X.env) :: starEach [] X.env := by rfl) :
    CEx X (.Call (.Name "list" p) [.Call (.Name "range" p2) [a] [] pos2] [] pos) (cLRg (cInt 0) fa) := PE.imp (pe_listRg hc hg hm (prg_1 hg2 hm2 ha na) nr) fun σ H Q h => by
  obtain ⟨ρ, M, m, z, M', rs, w, hf, P⟩ := h
  unfold cLRg at hf
  rw [show cInt 0 ρ M = some (.val (.int 0), M) from rfl] at hf
  simp only [Option.bind_some] at hf
  cases eb : fa ρ M with
  | none => simp [eb] at hf
  | some q =>
    simp only [eb, Option.bind_some] at hf
    refine bindE rs w eb fun H2 m2 u e2 w2 rs2 r2 => ?_
    split at hf
    · rename_i i j hi hj
      split at hf
      · rename_i hb
        cases hf
        rw [hj, Rl] at r2; subst r2
        cases hi
        unfold bRg at hb
        simp only [Bool.and_eq_true, decide_eq_true_eq] at hb
        refine ⟨j, rfl, ⟨(rgB_ok hb.1.1).1, (rgB_ok hb.1.1).2, (rgB_ok hb.1.2).1, (rgB_ok hb.1.2).2, hb.2⟩, ?_⟩
        exact (P.ext e2).new w2 rls_rg
      · cases hf
    · cases hf
/-- enumerate -/
def iEnumF (f : Ef) : If := fun ρ M => (f ρ M).bind fun p => (asL p.2 p.1.d).bind fun ds => some (((List.range ds.length).zip ds).map fun q => D.tup [.int q.1, q.2], gkOf p.1.d, p.2)
end

end CI

/-! Ci14: tuple * int, -x, constants of the module -/
namespace CI
open PySem PySem.Spec PyProof.Rows L2
theorem tuple_mul1 (l : Addr) (items : Array Value) (n : Nat) (dd : Option Addr) (sl : Array (Option Value)) (x : Int) (u : Tok) (c0 : (decide (x < -(2 ^ 63)) || decide (x ≥ 2 ^ 63)) = false) (c1 : (items.isEmpty || x == 1) = true) :
    Meets (Builtin.«tuple.__mul__» ⟨[.ref l, .int x u], []⟩) (fun _ R s => s.heap.get? l = some { cls := .type "tuple", dict := dd, data := .seq items n, slots := sl } ∧ R (.ok (.ret (Value.ref l))) s) :=
  .of_wp fun prog w A R s h => by
    obtain ⟨hp, g, d, tk, os⟩ := s
    obtain ⟨hl, h⟩ := h
    have f1 := AutoSeq1.idx_int
    wp_walk using wpAny_loadPart' hl
    repeat (first
      | (refine wpAny_ite_false (decide_eq_false (by rw [c0]; exact Bool.false_ne_true)) ?_; wp_walk using wpAny_loadPart' hl)
      | (refine wpAny_ite_true (decide_eq_true (by rw [c1])) ?_; wp_walk using wpAny_loadPart' hl))
    exact ⟨_, rfl, h⟩
theorem tuple_mul0 (l : Addr) (items : Array Value) (n : Nat) (dd : Option Addr) (sl : Array (Option Value)) (x : Int) (u : Tok) (c0 : (decide (x < -(2 ^ 63)) || decide (x ≥ 2 ^ 63)) = false) (c1 : (items.isEmpty || x == 1) = false) (c2 : (decide (x ≤ 0) || items.isEmpty) = true) :
    Meets (Builtin.«tuple.__mul__» ⟨[.ref l, .int x u], []⟩) (fun _ R s => s.heap.get? l = some { cls := .type "tuple", dict := dd, data := .seq items n, slots := sl } ∧
      R (.ok (.ret (Value.ref s.heap.objs.size))) { s with heap := s.heap.push { cls := Value.type "tuple", data := Data.seq #[] }, toks := s.toks }) :=
  .of_wp fun prog w A R s h => by
    obtain ⟨hp, g, d, tk, os⟩ := s
    obtain ⟨hl, h⟩ := h
    have f1 := AutoSeq1.idx_int
    wp_walk using wpAny_loadPart' hl
    repeat (first
      | (refine wpAny_ite_false (decide_eq_false (by rw [c0]; exact Bool.false_ne_true)) ?_; wp_walk using wpAny_loadPart' hl)
      | (refine wpAny_ite_false (decide_eq_false (by rw [c1]; exact Bool.false_ne_true)) ?_; wp_walk using wpAny_loadPart' hl)
      | (refine wpAny_ite_true (decide_eq_true (by rw [c2])) ?_; wp_walk using wpAny_loadPart' hl))
    exact ⟨_, rfl, h⟩
section
variable {X : Cx}
def rMul1 (K : PySem.W.Frag) : R2 := fun x y H Q => ∃ l xs, x = .ref l ∧ y = .int 1 ∧ SqT K H l xs ∧ Q (.ref l) H
def rMul0 (K : PySem.W.Frag) : R2 := fun x y H Q => ∃ l k xs, x = .ref l ∧ y = .int k ∧ SqT K H l xs ∧ xs ≠ [] ∧ k ≤ 0 ∧ -1000000 < k ∧ ∀ p, H p = none → Q (.ref p) (upd H p (.tup []))
theorem op_mul1 : OpR X (binaryOp .Mult) (rMul1 X.K) := by
  intro pins s σ H x y v u Q I rx ry h
  obtain ⟨l, xs, rfl, rfl, hT, q⟩ := h
  cases rx
  obtain ⟨t, rfl⟩ := ry
  obtain ⟨its, r, ⟨⟨cls, dd, data, sl⟩, ho, hc, n, hd⟩, hs⟩ := I.tuple hT
  simp only at hc hd
  subst hc hd
  have c1 : (its.toArray.isEmpty || (1 : Int) == 1) = true := by simp
  refine wpAny_binaryOp_repeat_ref (T := "tuple") (U := "int") (by decide) ⟨_, ho, rfl⟩ (fun s' => typeIs_int s' 1 t) noFill_tuple_mul F.fills_int_mul F.slot_int_rmul repeat_tuple F.slot_int_index.lookup
    (call_meets F.slot_int_rmul (typeIs_int s 1 t) F.entry_int_rmul (F.args_int_rmul_2 _ _) (int_rmul_tuple 1 t l its.toArray n dd sl)
      ⟨ho, rfl, ⟨_, ho, rfl⟩, call_meets F.slot_tuple_mul ⟨_, ho, rfl⟩ F.entry_tuple_mul (F.args_tuple_mul_2 _ _) (tuple_mul1 l its.toArray n dd sl 1 t (by decide) c1) ⟨ho, ?_⟩⟩)
  exact ⟨.ref l, H, I, rfl, q⟩
theorem op_mul0 : OpR X (binaryOp .Mult) (rMul0 X.K) := by
  intro pins s σ H x y v u Q I rx ry h
  obtain ⟨l, k, xs, rfl, rfl, hT, hne, h1, h2, q⟩ := h
  cases rx
  obtain ⟨t, rfl⟩ := ry
  obtain ⟨its, r, ⟨⟨cls, dd, data, sl⟩, ho, hc, n, hd⟩, hs⟩ := I.tuple hT
  simp only at hc hd
  subst hc hd
  have hle : its.length = xs.length := r.length.symm
  have hn : its ≠ [] := fun e => hne (by
    rw [e] at hle
    exact List.eq_nil_of_length_eq_zero hle.symm)
  have hi : its.toArray.isEmpty = false := by
    cases its with
    | nil => exact absurd rfl hn
    | cons a b => rfl
  have c0 : (decide (k < -(2 ^ 63)) || decide (k ≥ 2 ^ 63)) = false := by
    rw [decide_eq_false (by omega), decide_eq_false (by omega)] <;> rfl
  have c1 : (its.toArray.isEmpty || k == 1) = false := by
    rw [hi, Bool.false_or]
    exact beq_eq_false_iff_ne.mpr (by omega)
  have c2 : (decide (k ≤ 0) || its.toArray.isEmpty) = true := by
    rw [decide_eq_true h1]; rfl
  refine wpAny_binaryOp_repeat_ref (T := "tuple") (U := "int") (by decide) ⟨_, ho, rfl⟩ (fun s' => typeIs_int s' k t) noFill_tuple_mul F.fills_int_mul F.slot_int_rmul repeat_tuple F.slot_int_index.lookup
    (call_meets F.slot_int_rmul (typeIs_int s k t) F.entry_int_rmul (F.args_int_rmul_2 _ _) (int_rmul_tuple k t l its.toArray n dd sl)
      ⟨ho, rfl, ⟨_, ho, rfl⟩, call_meets F.slot_tuple_mul ⟨_, ho, rfl⟩ F.entry_tuple_mul (F.args_tuple_mul_2 _ _) (tuple_mul0 l its.toArray n dd sl k t c0 c1 c2) ⟨ho, ?_⟩⟩)
  refine ⟨.ref s.heap.objs.size, _, I.laid (t' := s.toks) (o := .tup []) (fun b ob q => Heap.get?_push_of_some _ q) (Nat.le_refl _) ?_, rfl, q _ (I.hok.fresh (Nat.le_refl _))⟩
  exact ⟨by simp, _, .nil, IsTup.new _ _⟩
/-- * of ints, of a tuple and an int -/
def oMul : Bop := fun d e _ => match d, e with
  | .int i, .int j => if bMul i j = true then some (.val (.int (i * j))) else none
  | .tup ds, .int k => if ds ≠ [] ∧ -1000000 < k ∧ k ≤ 1000 ∧ ds.length ≤ 1000 then some (.val (.tup (List.replicate k.toNat ds).flatten)) else none
  | _, _ => none
theorem Rls.rep {K : PySem.W.Frag} {H : Hp} {m : List Addr} {ds : List D} {vs : List V} (h : Rls K H m ds vs) : ∀ k : Nat, Rls K H m (List.replicate k ds).flatten (List.replicate k vs).flatten
  | 0 => by simp [Rls]
  | k + 1 => by
    rw [List.replicate_succ, List.replicate_succ, List.flatten_cons, List.flatten_cons]
    exact h.append (Rls.rep h k)
theorem ok_mul : OpOk X (binaryOp .Mult) oMul := by
  refine ⟨_, op_mul.or (op_repT.or (op_mul1.or op_mul0)), fun H m M d e x y z Q w rd re ho P => ?_⟩
  unfold oMul at ho
  split at ho
  · rename_i i j
    split at ho
    · rename_i hb
      cases ho
      rw [Rl] at rd; rw [Rl] at re
      refine .inl ⟨i, j, rd, re, ?_, P.val w rl_int⟩
      unfold bMul sm64 at hb
      simp only [Bool.or_eq_true, Bool.and_eq_true, decide_eq_true_eq] at hb
      exact hb
    · cases ho
  · rename_i ds k
    split at ho
    · rename_i hc
      obtain ⟨h1, h2, h3, h4⟩ := hc
      cases ho
      have rd0 := rd
      rw [Rl] at rd; rw [Rl] at re; subst re
      obtain ⟨a, vs, rfl, hs, hr⟩ := rd
      have hv : vs ≠ [] := fun e => h1 (by subst e; exact rls_of_nil hr)
      by_cases q1 : 2 ≤ k
      · exact .inr (.inl ⟨a, k, vs, rfl, rfl, hs, hv, q1, h3, by rw [← hr.length]; exact h4, P.tup w (hr.rep _)⟩)
      · by_cases q2 : k = 1
        · subst q2
          refine .inr (.inr (.inl ⟨a, vs, rfl, rfl, hs, P.val w ?_⟩))
          simpa using rd0
        · have hk : k.toNat = 0 := by omega
          rw [hk] at P
          refine .inr (.inr (.inr ⟨a, k, vs, rfl, rfl, hs, hv, by omega, h2, ?_⟩))
          exact P.tup (ds := []) w (by rw [Rls])
    · cases ho
  · cases ho
def cNeg (f : Ef) : Ef := fun ρ M => (f ρ M).bind fun p => match p.1.d with
  | .int i => some (.val (.int (-i)), p.2)
  | _ => none
theorem ce_neg {a : Expr} {pos : Pos} {f : Ef} (ha : CEx X a f) : CEx X (.UnaryOp .USub a pos) (cNeg f) := PE.imp (pe_un un_neg ha) fun σ H Q h => by
  obtain ⟨ρ, M, m, z, M', rs, w, hf, P⟩ := h
  unfold cNeg at hf
  cases ea : f ρ M with
  | none => rw [ea] at hf; cases hf
  | some p =>
    rw [ea] at hf
    simp only [Option.bind_some] at hf
    refine bindE rs w ea fun H1 m1 v e1 w1 rs1 r1 => ?_
    split at hf
    · rename_i i hi
      cases hf
      rw [hi, Rl] at r1
      exact ⟨i, r1, (P.ext e1).val w1 rl_int⟩
    · cases hf
end

/-! ### constants of the module: ints, texts, None, truth values, tuples of such -/
mutual
def cv (K : PySem.W.Frag) : D → Value → Bool
  | .non, .none => true
  | .bl b, .bool c => b == c
  | .int i, .int j _ => decide (i = j)
  | .str x, .str y _ => decide (x = y)
  | .tup ds, .ref a => match K.lookup a with
    | some ⟨.type c, _, .seq its _, _⟩ => decide (c = "tuple") && (decide (its.size ≤ sizeLine) && cvs K ds its.toList)
    | _ => false
  | _, _ => false
def cvs (K : PySem.W.Frag) : List D → List Value → Bool
  | [], [] => true
  | d :: ds, v :: vs => cv K d v && cvs K ds vs
  | _, _ => false
end
mutual
theorem cv_ok {K : PySem.W.Frag} : ∀ {d : D} {v : Value}, cv K d v = true → ∃ x, RelV x v ∧ ∀ H m, Rl K H m d x
  | .non, v, h => by
    cases v <;> first | (simp [cv] at h; done) | exact ⟨.non, rfl, fun _ _ => by rw [Rl]⟩
  | .bl b, v, h => by
    cases v <;> first | (simp [cv] at h; done) | (simp [cv] at h; subst h; exact ⟨.bl b, rfl, fun _ _ => by rw [Rl]⟩)
  | .int b, v, h => by
    cases v <;> first | (simp [cv] at h; done) | (simp [cv] at h; subst h; exact ⟨.int b, ⟨_, rfl⟩, fun _ _ => by rw [Rl]⟩)
  | .str b, v, h => by
    cases v <;> first | (simp [cv] at h; done) | (simp [cv] at h; subst h; exact ⟨.str b, ⟨_, rfl⟩, fun _ _ => by rw [Rl]⟩)
  | .tup ds, v, h => by
    cases v with
    | ref a =>
      rw [cv] at h
      split at h
      · rename_i c dd its n sl hk
        rw [Bool.and_eq_true, Bool.and_eq_true] at h
        obtain ⟨h1, h2, h3⟩ := h
        obtain ⟨vs, r1, r2⟩ := cvs_ok h3
        refine ⟨.ref a, rfl, fun H m => ?_⟩
        rw [Rl]
        exact ⟨a, vs, rfl, .inr ⟨_, its, n, hk, congrArg Value.type (of_decide_eq_true h1), rfl, of_decide_eq_true h2, r1⟩, r2 H m⟩
      · cases h
    | _ => simp [cv] at h
  | .lst _, v, h => by cases v <;> simp [cv] at h
  | .scr _, v, h => by cases v <;> simp [cv] at h
  | .loc _, v, h => by cases v <;> simp [cv] at h
theorem cvs_ok {K : PySem.W.Frag} : ∀ {ds : List D} {vs : List Value}, cvs K ds vs = true → ∃ xs, Vals xs vs ∧ ∀ H m, Rls K H m ds xs
  | [], vs, h => by
    cases vs with
    | nil => exact ⟨[], .nil, fun _ _ => by rw [Rls]⟩
    | cons _ _ => simp [cvs] at h
  | d :: ds, vs, h => by
    cases vs with
    | nil => simp [cvs] at h
    | cons v vs =>
      rw [cvs, Bool.and_eq_true] at h
      obtain ⟨x, r1, r2⟩ := cv_ok h.1
      obtain ⟨xs, s1, s2⟩ := cvs_ok h.2
      exact ⟨x :: xs, .cons r1 s1, fun H m => by rw [Rls]; exact ⟨_, _, rfl, r2 H m, s2 H m⟩⟩
end
def cName (K : PySem.W.Frag) (x : Str) (d : D) : Bool := match PySem.W.nsIn K mainGlobals x with
  | some (some v) => cv K d v
  | _ => false
theorem cName_ok {K : PySem.W.Frag} {h : Heap} {mg : Str → Option Value} (X : K.In h) (G : h.Ns mainGlobals mg) {x : Str} {d : D} (c : cName K x d = true) : ∃ u v, mg x = some u ∧ RelV v u ∧ ∀ H m, Rl K H m d v := by
  unfold cName at c
  split at c
  · rename_i u hu
    obtain ⟨v, r1, r2⟩ := cv_ok c
    exact ⟨u, v, PySem.W.mg_of X G hu, r1, r2⟩
  · cases c
/-! ### the head's Hook with such constants -/
abbrev Cst : Type := List (Str × D)
def csB (cs : Cst) (K : PySem.W.Frag) : Bool := cs.all fun q => cName K q.1 q.2
abbrev AlC : Type := He.AlD × Bool
def SaysC (fa : List He.Fa) (fn : List He.DefD) (cs : Cst) (K : PySem.W.Frag) : Prop := He.SaysD fa fn K ∧ csB cs K = true
def obsC (n : Nat) (fa : List He.Fa) (fn : List He.DefD) (cs : Cst) (g : Addr → Option Obj) : AlC := (He.obsD fa fn (He.frG g (He.asD g n)), csB cs (He.frG g (He.asD g n)))
def hookC (n : Nat) (fa : List He.Fa) (fn : List He.DefD) (cs : Cst) : PySem.W.Hook where
  α := AlC
  obs := fun s => obsC n fa fn cs s.heap.get?
  val := fun _ => (He.valD fn, true)
  says := fun _ h => ∃ K : PySem.W.Frag, K.In h ∧ SaysC fa fn cs K
  of := fun _ _ e => ⟨_, He.frG_in, congrArg (fun z : AlC => z.1) e, congrArg (fun z : AlC => z.2) e⟩
  keeps := fun _ _ _ ⟨K, hK, c⟩ k => ⟨K, PySem.W.Frag.In.keeps hK k, c⟩
theorem obsC_eq {n : Nat} {fa : List He.Fa} {fn : List He.DefD} {cs : Cst} {g : Addr → Option Obj} {s : Shared} (h : ∀ a, g a = s.heap.get? a) : obsC n fa fn cs g = (hookC n fa fn cs).obs s := by
  have e : g = s.heap.get? := funext h
  rw [e] <;> rfl
theorem SaysC.fact {fa : List He.Fa} {fn : List He.DefD} {cs : Cst} {K : PySem.W.Frag} (c : SaysC fa fn cs K) (i : Nat) {f : He.Fa} (h : fa[i]? = some f := by rfl) : f.ok K = true := c.1.fact i h
theorem SaysC.def_ {fa : List He.Fa} {fn : List He.DefD} {cs : Cst} {K : PySem.W.Frag} (c : SaysC fa fn cs K) (i : Nat) {d : He.DefD} (h : fn[i]? = some d := by rfl) : ∃ fd, FunD K d.name d.qual d.params d.body d.scope (d.dvs K) (d.kws K) (He.fAd K d.at_) fd := c.1.def_ i h
theorem SaysC.cst {fa : List He.Fa} {fn : List He.DefD} {cs : Cst} {K : PySem.W.Frag} (c : SaysC fa fn cs K) (i : Nat) {q : Str × D} (h : cs[i]? = some q := by rfl) : cName K q.1 q.2 = true :=
  List.all_eq_true.mp c.2 q (List.mem_of_getElem? h)
end CI

/-! Ci15: == of data with itself -/
namespace CI
open PySem PySem.Spec PyProof.Rows L2
def plS : Nat → D → Bool
  | 0, _ => false
  | n + 1, d => match d with
    | .tup ds => ds.all (plS n)
    | .lst ds => ds.all (plS n)
    | .str x => PyData.strOk x
    | .scr _ => false
    | .loc _ => false
    | _ => true
theorem plS_tup {n : Nat} {ds : List D} : plS (n + 1) (.tup ds) = ds.all (plS n) := rfl
theorem plS_lst {n : Nat} {ds : List D} : plS (n + 1) (.lst ds) = ds.all (plS n) := rfl
theorem plS_str {n : Nat} {x : Str} : plS (n + 1) (.str x) = PyData.strOk x := rfl
theorem plS_int {n : Nat} {x : Int} : plS (n + 1) (.int x) = true := rfl
theorem plS_bl {n : Nat} {x : Bool} : plS (n + 1) (.bl x) = true := rfl
theorem plS_non {n : Nat} : plS (n + 1) .non = true := rfl
theorem plS_ok : ∀ (n : Nat) (d : D), plS n d = true → ∃ p, py0 d = some p ∧ p.canLay0 = true ∧ p.depth ≤ n
  | 0, _, h => by cases h
  | n + 1, d, h => by
    have all : ∀ ds : List D, ds.all (plS n) = true → ∃ ps, py0s ds = some ps ∧ PyData.canLayAll0 ps = true ∧ PyData.depthAll ps ≤ n := by
      intro ds
      induction ds with
      | nil => intro _; exact ⟨[], rfl, rfl, Nat.zero_le _⟩
      | cons d ds ih =>
        intro h
        rw [List.all_cons, Bool.and_eq_true] at h
        obtain ⟨p, h1, h2, h3⟩ := plS_ok n d h.1
        obtain ⟨ps, g1, g2, g3⟩ := ih h.2
        refine ⟨p :: ps, by rw [py0s, h1, g1]; rfl, ?_, ?_⟩
        · rw [PyData.canLayAll0, h2, g2]; rfl
        · rw [PyData.depthAll]; exact Nat.max_le.mpr ⟨h3, g3⟩
    cases d with
    | non => exact ⟨.none, rfl, rfl, Nat.zero_le _⟩
    | bl b => exact ⟨.bool b, rfl, rfl, Nat.zero_le _⟩
    | int b => exact ⟨.int b, rfl, rfl, Nat.zero_le _⟩
    | str x => exact ⟨.str x, rfl, h, Nat.zero_le _⟩
    | scr _ => cases h
    | loc _ => cases h
    | tup ds =>
      obtain ⟨ps, h1, h2, h3⟩ := all ds h
      refine ⟨.tuple ps, by rw [py0, h1]; rfl, ?_, ?_⟩
      · rw [PyData.canLay0]; exact h2
      · rw [PyData.depth]; omega
    | lst ds =>
      obtain ⟨ps, h1, h2, h3⟩ := all ds h
      refine ⟨.list ps, by rw [py0, h1]; rfl, ?_, ?_⟩
      · rw [PyData.canLay0]; exact h2
      · rw [PyData.depth]; omega
theorem eqB_refl {M : Mem} {n : Nat} {d : D} (hn : n ≤ 64) (h : plS n d = true) : eqB M d d = some true := by
  obtain ⟨p, h1, h2, h3⟩ := plS_ok n d h
  have gen : (match d with | .loc _ => False | _ => True) → (match py M d, py M d with
    | some a, some b => if SeqAt.shaped a = true ∧ SeqAt.shaped b = true then some (PyData.eqv a b) else none
    | _, _ => none) = some true := by
    intro hd
    have hp : py M d = some p := by cases d <;> first | exact h1 | cases hd
    have sp : SeqAt.shaped p = true := by
      unfold SeqAt.shaped
      rw [h2, Bool.true_and]
      exact decide_eq_true (by omega)
    rw [hp]
    simp only [sp, and_self, if_true]
    rw [show PyData.eqv p p = true from by first | exact P3Eq.eqv_refl p h2 | exact PySem.eqv_refl p h2 | exact PyData.eqv_refl p h2 | exact SeqAt.eqv_refl p h2]
  cases d with
  | int i => unfold eqB; simp
  | str i => unfold eqB; simp
  | bl i => unfold eqB; simp
  | loc k => cases h1
  | non => exact gen trivial
  | tup ds => exact gen trivial
  | lst ds => exact gen trivial
  | scr ds => exact gen trivial
theorem oNe_refl {M : Mem} {n : Nat} {d : D} (hn : n ≤ 64) (h : plS n d = true) : oNe d d M = some (.val (.bl false)) := by
  unfold oNe; rw [eqB_refl hn h]; rfl
theorem oEq_refl {M : Mem} {n : Nat} {d : D} (hn : n ≤ 64) (h : plS n d = true) : oEq d d M = some (.val (.bl true)) := by
  unfold oEq; rw [eqB_refl hn h]; rfl
end CI

/-! Ci16: enumerate of a list that nothing changes -/
namespace CI
open PySem PySem.Spec PyProof.Rows L2
def enD (ds : List D) : List D := ds.zipIdx.map fun p => D.tup [.int ((p.2 : Nat) : Int), p.1]
theorem enD_len {ds : List D} : (enD ds).length = ds.length := by unfold enD; simp
theorem enD_get {ds : List D} {i : Nat} {e : D} (h : (enD ds)[i]? = some e) : ∃ d, ds[i]? = some d ∧ e = .tup [.int (i : Nat), d] := by
  unfold enD at h
  rw [List.getElem?_map, List.getElem?_zipIdx] at h
  cases q : ds[i]? with
  | none => rw [q] at h; cases h
  | some d =>
    rw [q] at h
    refine ⟨d, rfl, ?_⟩
    simp at h
    exact h.symm
theorem yl_en {K : PySem.W.Frag} {H : Hp} {m : List Addr} {a : Addr} {ds : List D} {vs : List V} (h : ∀ H1 m1, Ext H m H1 m1 → SqL K H1 a vs) (r : Rls K H m ds vs) : Yl K H m (Ite K a) (enD ds) none where
  go := fun i H1 m1 hi e _ => by
    have hl := r.length
    rw [enD_len] at hi
    exact ⟨vs, vs[i], h _ _ e, List.getElem?_eq_getElem (by omega)⟩
  yld := fun i d H1 m1 M1 x H' q e _ w y => by
    obtain ⟨T, u, rfl, hn, rfl, y⟩ := y
    obtain ⟨d0, q0, rfl⟩ := enD_get q
    obtain ⟨v, h1, h2⟩ := (r.ext e).get q0
    have := y vs (h _ _ e)
    rw [h1] at this; cases this
    refine ⟨.new hn, w.new hn, ?_⟩
    rw [Rl]
    refine ⟨T, _, rfl, .of upd_same, ?_⟩
    rw [Rls]
    refine ⟨_, _, rfl, by rw [Rl], ?_⟩
    rw [Rls]
    refine ⟨_, _, rfl, h2.ext (.new hn), ?_⟩
    rw [Rls]
  stop := fun H1 m1 e _ => ⟨vs, h _ _ e, by rw [enD_len, r.length]; exact Nat.le_refl _⟩
def iEn (f : Ef) : If := fun ρ M => (f ρ M).bind fun p => match p.1.d with
  | .lst ds => some (enD ds, none, p.2)
  | .scr ns => some (enD (ns.map .int), none, p.2)
  | _ => none
theorem ci_en {X : Cx} {a : Expr} {fa : Ef} {p pos tpos : Pos} {elts : List Expr} {kk : Nat} (hg : Gl X "enumerate") (hm : X.mg "enumerate" = none) (ha : CEx X a fa) (hs : starEach [a] X.env = [(false, eval a X.env)] := by rfl) (hs' : starEach [a] X.env = (false, eval a X.env) :: starEach [] X.env := by rfl) : CIx X (.Tuple elts kk tpos) (.Call (.Name "enumerate" p) [a] [] pos) (iEn fa) :=
  PI.imp (pi_enum hg hm (pa_cons ha pa_nil hs') hs) fun σ H R ⟨ρ, M, m, ds, gk, M', rs, w, hf, P⟩ => by
    unfold iEn at hf
    cases ea : fa ρ M with
    | none => rw [ea] at hf; cases hf
    | some q =>
      rw [ea] at hf
      simp only [Option.bind_some] at hf
      refine bindE rs w ea fun H1 m1 v e1 w1 rs1 r1 => ?_
      split at hf
      · rename_i es he
        cases hf
        rw [he, Rl] at r1
        obtain ⟨b, vs, rfl, hn, h1, h2⟩ := r1
        exact ⟨b, vs, rfl, .of h1, P H1 m1 _ e1 w1 gd_none (yl_en (fun H2 m2 e2 => .of (e2.lst _ _ hn h1)) h2)⟩
      · rename_i ns he
        cases hf
        rw [he, Rl] at r1
        obtain ⟨b, rfl, h1⟩ := r1
        exact ⟨b, _, rfl, h1.l, P H1 m1 _ e1 w1 gd_none (yl_en (fun H2 m2 e2 => (SqS.l (h1.imp (fun ⟨o, s⟩ => ⟨o, e2.frz _ _ _ s⟩) id))) .ints)⟩
      · cases hf
end CI

/-! Ci17: the letters of a string; int of a string -/
namespace CI
open PySem PySem.Spec PyProof.Rows L2
def chD (x : Str) : List D := x.cps.toList.map fun c => D.str ⟨#[c]⟩
theorem chD_len {x : Str} : (chD x).length = x.cps.size := by unfold chD; simp
theorem yl_st {K : PySem.W.Frag} {H : Hp} {m : List Addr} {x : Str} : Yl K H m (Its x) (chD x) none where
  go := fun i H1 m1 hi e _ => by rw [chD_len] at hi; exact hi
  yld := fun i d H1 m1 M1 v H' q e _ w y => by
    obtain ⟨rfl, c, hc, rfl⟩ := y
    unfold chD at q
    rw [List.getElem?_map, Array.getElem?_toList, hc] at q
    cases q
    exact ⟨.refl, w, by rw [Rl]⟩
  stop := fun H1 m1 e _ => by rw [chD_len]; exact Nat.le_refl _
def iSt (f : Ef) : If := fun ρ M => (f ρ M).bind fun p => match p.1.d with
  | .str x => some (chD x, none, p.2)
  | _ => none
theorem ci_st {X : Cx} {tg a : Expr} {fa : Ef} (ha : CEx X a fa) : CIx X tg a (iSt fa) :=
  PI.imp (pi_str ha) fun σ H R ⟨ρ, M, m, ds, gk, M', rs, w, hf, P⟩ => by
    unfold iSt at hf
    cases ea : fa ρ M with
    | none => rw [ea] at hf; cases hf
    | some q =>
      rw [ea] at hf
      simp only [Option.bind_some] at hf
      refine bindE rs w ea fun H1 m1 v e1 w1 rs1 r1 => ?_
      split at hf
      · rename_i x he
        cases hf
        rw [he, Rl] at r1
        exact ⟨x, r1, P H1 m1 _ e1 w1 gd_none yl_st⟩
      · cases hf
def oIntS : Cop := fun ds _ => match ds with
  | [.str a] => if a.length ≤ 640 then (PySem.intText? a).bind fun n => some (.val (.int n)) else none
  | _ => none
theorem ok_intS {X : Cx} : ClOk X (.type "int") oIntS := by
  refine ⟨_, call_int_str, fun H m M ds xs z Q w rd ho P => ?_⟩
  unfold oIntS at ho
  split at ho
  · rename_i a
    obtain ⟨v, rfl, r⟩ := rd.one
    rw [Rl] at r; subst r
    split at ho
    · rename_i hl
      cases q : PySem.intText? a with
      | none => rw [q] at ho; cases ho
      | some n =>
        rw [q] at ho; cases ho
        exact ⟨a, n, rfl, q, hl, P.val w rl_int⟩
    · cases ho
  · cases ho
end CI

/-! Ci18: the digits of a number -/
namespace CI
open PySem PySem.Spec PyProof.Rows L2
theorem dig_nat : ∀ d : Nat, d < 10 → (Nat.digitChar d).toNat = 48 + d := by decide
theorem str_one (d : Nat) (h : d < 10) : (⟨#[48 + d]⟩ : Str) = Str.ofString (toString ((d : Nat) : Int)) := by
  have s := PySem.W.KIN.signs_num d
  rw [Nat.toDigits_of_lt_base h, List.map_cons, List.map_nil, dig_nat d h] at s
  have e : (Str.ofString (toString ((d : Nat) : Int))).cps = #[48 + d] := Array.ext' (by rw [s])
  generalize Str.ofString (toString ((d : Nat) : Int)) = x at e
  cases x
  cases e
  rfl
theorem oIntS_dig (d : Nat) (h : d < 10) (M : Mem) : oIntS [.str ⟨#[48 + d]⟩] M = some (.val (.int (d : Nat))) := by
  have q : PySem.intText? ⟨#[48 + d]⟩ = some ((d : Nat) : Int) := by rw [str_one d h]; exact PySem.W.KIN.num_reads (by omega) (by omega)
  show (if Str.length ⟨#[48 + d]⟩ ≤ 640 then (PySem.intText? ⟨#[48 + d]⟩).bind fun n => some (Rz.val (.int n)) else none) = _
  rw [q, if_pos (show Str.length ⟨#[48 + d]⟩ ≤ 640 from (show (1 : Nat) ≤ 640 by decide))]
  rfl
/-- the digits of a number, the first one first -/
def digs (m : Nat) : List Nat := (Nat.toDigits 10 m).map fun c => c.toNat - 48
theorem dig_mem : ∀ (n : Nat) (m : Nat), m ≤ n → ∀ c ∈ Nat.toDigits 10 m, ∃ d, d < 10 ∧ c.toNat = 48 + d
  | 0, m, hm, c, hc => by
    have : m = 0 := by omega
    subst this
    rw [Nat.toDigits_of_lt_base (by decide)] at hc
    simp at hc; subst hc
    exact ⟨0, by decide, rfl⟩
  | n + 1, m, hm, c, hc => by
    by_cases h : m < 10
    · rw [Nat.toDigits_of_lt_base h] at hc
      simp at hc; subst hc
      exact ⟨m, h, dig_nat m h⟩
    · rw [Nat.toDigits_of_base_le (by decide) (by omega)] at hc
      rcases List.mem_append.mp hc with hc | hc
      · exact dig_mem n (m / 10) (by omega) c hc
      · simp at hc; subst hc
        exact ⟨m % 10, by omega, dig_nat _ (by omega)⟩
theorem digs_lt {m d : Nat} (h : d ∈ digs m) : d < 10 := by
  unfold digs at h
  obtain ⟨c, hc, rfl⟩ := List.mem_map.mp h
  obtain ⟨d, hd, e⟩ := dig_mem m m (Nat.le_refl _) c hc
  omega
theorem chD_num (m : Nat) : chD (Str.ofString (toString ((m : Nat) : Int))) = (digs m).map fun d => D.str ⟨#[48 + d]⟩ := by
  unfold chD digs
  rw [PySem.W.KIN.signs_num, List.map_map, List.map_map]
  refine List.map_congr_left fun c hc => ?_
  obtain ⟨d, hd, e⟩ := dig_mem m m (Nat.le_refl _) c hc
  show D.str ⟨#[c.toNat]⟩ = D.str ⟨#[48 + (c.toNat - 48)]⟩
  rw [e, Nat.add_sub_cancel_left]
/-- the digits give the number back -/
theorem digs_back (m : Nat) : (digs m).foldl (fun a d => a * 10 + d) 0 = m := by
  have h := PySem.W.KIN.val_back m
  unfold PySem.NumText.digitsVal at h
  unfold digs
  rw [List.foldl_map] at h ⊢
  exact h
theorem digs_ne (m : Nat) : digs m ≠ [] := by
  unfold digs
  intro h
  have := List.map_eq_nil_iff.mp h
  by_cases q : m < 10
  · rw [Nat.toDigits_of_lt_base q] at this; cases this
  · rw [Nat.toDigits_of_base_le (by decide) (by omega)] at this; simp at this
end CI

/-! Ci19: defs and loops that tidy up: dead slots, objects that nobody reaches -/
namespace CI
open PySem PySem.Spec PyProof.Rows L2

/-- the objects of M stand in Me as before, or hold nothing that is newer than M -/
def trimOk (M Me : Mem) : Prop := M.length ≤ Me.length ∧ ∀ k o, k < M.length → Me[k]? = some o → M[k]? = some o ∨ nlO M.length o = true
section
variable {K : PySem.W.Frag} {H H0 : Hp} {m l : List Addr} {M Me : Mem} {a b : Addr}
theorem trim_nl (w0 : Wd K H0 m M) (t : trimOk M Me) : ∀ k o, k < m.length → Me[k]? = some o → nlO m.length o = true := fun k o hk h => by
  have hl := w0.len
  rcases t.2 k o (by omega) h with q | q
  · exact w0.nl o (List.mem_of_getElem? q)
  · rw [hl]; exact q
theorem Wd.trim (w : Wd K H (m ++ l) Me) (hl : m.length ≤ Me.length) (n : ∀ k o, k < m.length → Me[k]? = some o → nlO m.length o = true) : Wd K H m (Me.take m.length) := by
  refine ⟨by rw [List.length_take]; omega, (List.nodup_append.mp w.nd).1, fun k b o h1 h2 => ?_⟩
  have hk : k < m.length := (List.getElem?_eq_some_iff.mp h1).1
  rw [List.getElem?_take_of_lt hk] at h2
  exact (w.at_ k b o (by rw [List.getElem?_append_left hk]; exact h1) h2).cut (n k o hk h2)
theorem Wd.trimDel {ws : List V} (w : Wd K H (m ++ l) Me) (hl : m.length ≤ Me.length) (n : ∀ k o, k < m.length → Me[k]? = some o → nlO m.length o = true) (ha : H a = some (.lst ws)) (hm : a ∈ l) : Wd K (CI.del H a) m (Me.take m.length) := by
  refine ⟨by rw [List.length_take]; omega, (List.nodup_append.mp w.nd).1, fun k b o h1 h2 => ?_⟩
  have hk : k < m.length := (List.getElem?_eq_some_iff.mp h1).1
  rw [List.getElem?_take_of_lt hk] at h2
  refine (w.at_ k b o (by rw [List.getElem?_append_left hk]; exact h1) h2).del ha hm (fun z => ?_) (n k o hk h2)
  exact (List.nodup_append.mp w.nd).2.2 b (List.mem_of_getElem? h1) a hm z
end
open Classical in
noncomputable def finK (M : Mem) (r : Rz) (Me : Mem) : Rz × Mem :=
  if trimOk M Me then (match r with
    | .val (.loc k) => if k < M.length then (r, Me.take M.length) else match Me[k]? with
      | some (.lst ds) => if nls M.length ds = true then (.new ds, Me.take M.length) else (r, Me)
      | _ => (r, Me)
    | .val d => if nl M.length d = true then (r, Me.take M.length) else (r, Me)
    | .new ds => if nls M.length ds = true then (r, Me.take M.length) else (r, Me)) else (r, Me)
theorem finK_ok {K : PySem.W.Frag} {H0 : Hp} {m : List Addr} {M Me : Mem} {r : Rz} {Q : VK} (w0 : Wd K H0 m M) (P : Post K H0 m (finK M r Me).1 (finK M r Me).2 Q) : Post K H0 m r Me Q := by
  unfold finK at P
  split at P
  · rename_i ht
    have hn := trim_nl w0 ht
    have hlen := w0.len
    have hle : m.length ≤ Me.length := by rw [hlen]; exact ht.1
    rw [← hlen] at P
    cases r with
    | new ds =>
      simp only at P
      split at P
      · rename_i hd
        intro H1 m1 e1 w1 vs a r1 na
        obtain ⟨l, rfl, _⟩ := id e1.pre
        exact P H1 m e1.back (w1.trim hle hn) vs a (Rls.cut' r1 hd) na
      · exact P
    | val d =>
      have plain : ∀ d, nl m.length d = true → Post K H0 m (.val d) (Me.take m.length) Q → Post K H0 m (.val d) Me Q := fun d hd P => by
        intro H1 m1 e1 w1 v r1
        obtain ⟨l, rfl, _⟩ := id e1.pre
        exact P H1 m e1.back (w1.trim hle hn) v (r1.cut hd)
      cases d with
      | loc k =>
        simp only at P
        split at P
        · rename_i hk
          exact plain _ (by rw [nl]; exact decide_eq_true hk) P
        · rename_i hk
          split at P
          · rename_i ds hds
            split at P
            · rename_i hd
              intro H1 m1 e1 w1 v r1
              obtain ⟨l, rfl, _⟩ := id e1.pre
              rw [Rl] at r1
              obtain ⟨a, rfl, ha⟩ := r1
              obtain ⟨b, hb, vs, h1, h2⟩ := w1.get hds
              rw [ha] at hb; cases hb
              have hal : a ∈ l := by
                rw [List.getElem?_append_right (by omega)] at ha
                exact List.mem_of_getElem? ha
              have := P (del H1 a) m (e1.del (ws := vs) hal) (w1.trimDel hle hn h1 hal) vs a (Rls.del h1 hal h2 hd) del_same
              rw [upd_del h1] at this
              exact this
            · exact P
          · exact P
      | non => exact plain _ rfl (by simpa [nl] using P)
      | bl b => exact plain _ rfl (by simpa [nl] using P)
      | int b => exact plain _ rfl (by simpa [nl] using P)
      | str b => exact plain _ rfl (by simpa [nl] using P)
      | scr b => exact plain _ rfl (by simpa [nl] using P)
      | tup ds =>
        simp only at P
        split at P
        · rename_i hd; exact plain _ hd P
        · exact P
      | lst ds =>
        simp only at P
        split at P
        · rename_i hd; exact plain _ hd P
        · exact P
  · exact P

noncomputable def mkFnK (np ns : Nat) (body : Sf) : Fn := fun ds M => if ds.length = np then (match body (ds.map some ++ List.replicate (ns - ds.length) none) M with
  | some (.rt r, _, Me) => some (finK M r Me)
  | some (.nx, _, Me) => some (finK M (.val .non) Me)
  | _ => none) else none
theorem runK_ok {K : PySem.W.Frag} {N : List Str} {np : Nat} {fb : Sf} {vs : List V} {H : Hp} {Q : VK} {E : XK} (h : spF K (mkFnK np N.length fb) vs H Q E) : tS K fb { nx := fun _ H' => Q .non H', rt := Q } (L2.start N vs) H := by
  obtain ⟨ds, M, m, r, M', rd, w, hf, P⟩ := h
  unfold mkFnK at hf
  split at hf
  · split at hf
    · rename_i r' ρ' Me hb
      cases e : finK M r' Me with | mk a b =>
      rw [e] at hf; cases hf
      refine ⟨_, M, m, _, _, _, rs_start rd, w, hb, ?_⟩
      refine finK_ok w ?_
      rw [e]; exact P
    · rename_i ρ' Me hb
      cases e : finK M (.val .non) Me with | mk a b =>
      rw [e] at hf; cases hf
      refine ⟨_, M, m, _, _, _, rs_start rd, w, hb, fun H1 m1 σ1 e1 w1 rs1 => ?_⟩
      have P2 : Post K H m (.val .non) Me Q := finK_ok w (by rw [e]; exact P)
      exact P2 H1 m1 e1 w1 .non (by rw [Rl])
    · cases hf
  · cases hf
theorem spK_len {K : PySem.W.Frag} {np ns : Nat} {fb : Sf} {vs : List V} {H : Hp} {Q : VK} {E : XK} (h : spF K (mkFnK np ns fb) vs H Q E) : vs.length = np := by
  obtain ⟨ds, M, m, r, M', rd, w, hf, P⟩ := h
  unfold mkFnK at hf
  split at hf
  · rename_i hl; rw [← rd.length]; exact hl
  · cases hf
section
variable {P : Program} {w : World} {K : PySem.W.Frag} {mg : Str → Option Value} {base : Heap} {x qual : Str} {params : Arguments} {body : List Stmt} {scope : Scope} {f : Addr} {fd : FuncData}
theorem fnK_ok {N ps : List Str} {k : Nat} {fb : Sf} (F : FunD K x qual params body scope [] [] f fd) (S : FnScope N ps scope)
    (hb : ∀ (cdv : Value) (A : Around) (outer : List Env) (s : Shared) (H : Hp) (E : XK), Room k (A.deeper (envOfC qual scope s.heap.objs.size f cdv)) → CBx (cxOf CX0 P w K mg base N qual scope f cdv A outer s H E).nox body fb) :
    FnOk P w K mg base CX0 (k + 1) f fd ps (spF K (mkFnK ps.length N.length fb)) :=
  F.ok S (fun vs H Q E h => spK_len h) fun cdv A outer s H vs Q E hr h => ⟨_, PSs.nox (hb cdv A outer s H E hr), runK_ok h⟩
end

/-! ### loops that tidy up -/
def nlS (n : Nat) : Slots → Bool
  | [] => true
  | none :: ρ => nlS n ρ
  | some d :: ρ => nl n d && nlS n ρ
/-- the slots that are read later -/
def keepD : List Bool → Slots → Slots
  | true :: bs, o :: ρ => o :: keepD bs ρ
  | false :: bs, _ :: ρ => none :: keepD bs ρ
  | _, ρ => ρ
open Classical in
noncomputable def tidy (kl : List Bool) (M : Mem) (ρ : Slots) (Me : Mem) : Slots × Mem := if trimOk M Me ∧ nlS M.length (keepD kl ρ) = true then (keepD kl ρ, Me.take M.length) else (keepD kl ρ, Me)
theorem keepD_len : ∀ {kl : List Bool} {ρ : Slots}, (keepD kl ρ).length = ρ.length
  | [], _ => by simp [keepD]
  | true :: _, [] => rfl
  | false :: _, [] => rfl
  | true :: bs, o :: ρ => by rw [keepD, List.length_cons, List.length_cons, keepD_len]
  | false :: bs, o :: ρ => by rw [keepD, List.length_cons, List.length_cons, keepD_len]
theorem keepD_get : ∀ {kl : List Bool} {ρ : Slots} {i : Nat} {d : D}, (keepD kl ρ)[i]? = some (some d) → ρ[i]? = some (some d)
  | [], _, _, _, h => by simpa [keepD] using h
  | true :: _, [], _, _, h => by simp [keepD] at h
  | false :: _, [], _, _, h => by simp [keepD] at h
  | true :: bs, o :: ρ, 0, d, h => by simpa [keepD] using h
  | true :: bs, o :: ρ, i + 1, d, h => by
    rw [keepD] at h
    simpa using keepD_get (i := i) (by simpa using h)
  | false :: bs, o :: ρ, 0, d, h => by simp [keepD] at h
  | false :: bs, o :: ρ, i + 1, d, h => by
    rw [keepD] at h
    simpa using keepD_get (i := i) (by simpa using h)
theorem Rs.keep {K : PySem.W.Frag} {H : Hp} {m : List Addr} {σ : L2.St} {ρ : Slots} (kl : List Bool) (h : Rs K H m ρ σ) : Rs K H m (keepD kl ρ) σ :=
  ⟨by rw [keepD_len]; exact h.1, fun i d q => h.2 i d (keepD_get q)⟩
theorem nlS_get {n : Nat} : ∀ {ρ : Slots}, nlS n ρ = true → ∀ {i : Nat} {d : D}, ρ[i]? = some (some d) → nl n d = true
  | [], _, i, d, h => by simp at h
  | none :: ρ, h, i, d, q => by
    rw [nlS] at h
    cases i with
    | zero => simp at q
    | succ i => exact nlS_get h (i := i) (by simpa using q)
  | some e :: ρ, h, i, d, q => by
    rw [nlS, Bool.and_eq_true] at h
    cases i with
    | zero => simp at q; subst q; exact h.1
    | succ i => exact nlS_get h.2 (i := i) (by simpa using q)
theorem Rs.trim {K : PySem.W.Frag} {H : Hp} {m l : List Addr} {ρ : Slots} {σ : L2.St} (h : Rs K H (m ++ l) ρ σ) (n : nlS m.length ρ = true) : Rs K H m ρ σ :=
  ⟨h.1, fun i d q => let ⟨v, h1, h2⟩ := h.2 i d q; ⟨v, h1, h2.cut (nlS_get n q)⟩⟩
theorem tidy_ok {K : PySem.W.Frag} {H0 H1 : Hp} {m m1 : List Addr} {M Me : Mem} {ρ : Slots} {σ : L2.St} {kl : List Bool} (w0 : Wd K H0 m M) (e : Ext H0 m H1 m1) (w : Wd K H1 m1 Me) (rs : Rs K H1 m1 ρ σ) :
    ∃ m2, Ext H0 m H1 m2 ∧ Wd K H1 m2 (tidy kl M ρ Me).2 ∧ Rs K H1 m2 (tidy kl M ρ Me).1 σ := by
  unfold tidy
  split
  · rename_i h
    obtain ⟨l, rfl, _⟩ := id e.pre
    have hlen := w0.len
    refine ⟨m, e.back, ?_, ?_⟩
    · rw [← hlen]
      exact w.trim (by rw [hlen]; exact h.1.1) (trim_nl w0 h.1)
    · refine (rs.keep kl).trim ?_
      rw [hlen]; exact h.2
  · exact ⟨m1, e, w, rs.keep kl⟩
def Fl.goes : Fl → Bool
  | .nx => true
  | .ct => true
  | _ => false
open Classical in
noncomputable def stpK (kl : List Bool) (gk : Option Nat) (ds : List D) (g : Gf) (body : Sf) : Stp := fun d ρ M => (g d ρ M).bind fun p => (body p.1 p.2).bind fun q =>
  if q.1.goes = true then (if guard gk ds (tidy kl M q.2.1 q.2.2).2 then some (q.1, tidy kl M q.2.1 q.2.2) else none) else some (match q.1 with
  | .rt r => (.rt r, [], q.2.2)
  | _ => q)
noncomputable def sForK (kl : List Bool) (it : If) (g : Gf) (body : Sf) : Sf := fun ρ M => (it ρ M).bind fun p => loopF (stpK kl p.2.1 p.1 g body) p.1 (keepD kl ρ) p.2.2
section
variable {X : Cx} {tg iter : Expr} {body : List Stmt} {it : If} {g : Gf} {fb : Sf} {pos : Pos}
theorem cs_forK {kl : List Bool} (hp : PassesOwn (model X.prog X.w) X.A X.env X.xe) (hc : X.calm = true) (hi : CIx X tg iter it) (hg : CGx X tg g) (hb : CBx X body fb)
    (hs : ∀ x, foldedSetIterable iter X.env x = pure x := by intro _; rfl) : CSx X (.For tg iter body [] pos) (sForK kl it g fb) := PS.imp (ps_for hp hc hi hg hb hs) fun Dn σ H h => by
  obtain ⟨ρ, M, m, fl, ρ', M', rs, w, hf, P⟩ := h
  unfold sForK at hf
  cases ea : it ρ M with
  | none => rw [ea] at hf; cases hf
  | some p =>
    obtain ⟨ds, gk, M1⟩ := p
    rw [ea] at hf
    simp only [Option.bind_some] at hf
    refine ⟨ρ, M, m, ds, gk, M1, rs, w, ea, fun H1 m1 J e1 w1 gd1 Y => ?_⟩
    refine ⟨fun i n σ H => n = ds.length - i ∧ i ≤ ds.length ∧ ∃ ρ2 M2 m2, Ext H1 m1 H m2 ∧ Rs X.K H m2 ρ2 σ ∧ Wd X.K H m2 M2 ∧ GdOk X.K gk ds H m2 ∧ loopF (stpK kl gk ds g fb) (ds.drop i) ρ2 M2 = some (fl, ρ', M'),
      ⟨ds.length, by simp, Nat.zero_le _, keepD kl ρ, M1, m1, .refl, (rs.ext e1).keep kl, w1, gd1, by simpa using hf⟩, ?_⟩
    rintro i n σ H ⟨rfl, hle, ρ2, M2, m2, e2, rs2, w2, gd2, hl⟩
    by_cases hlt : i < ds.length
    · refine .inr ⟨Y.go i H m2 hlt e2 gd2, ?_⟩
      have hd : ds.drop i = ds[i] :: ds.drop (i + 1) := List.drop_eq_getElem_cons hlt
      rw [hd] at hl
      unfold loopF at hl
      cases es : stpK kl gk ds g fb ds[i] ρ2 M2 with
      | none => rw [es] at hl; cases hl
      | some q =>
        obtain ⟨fl1, ρ3, M3⟩ := q
        rw [es] at hl
        simp only [Option.bind_some] at hl
        refine ⟨fun σ' H' => ∃ m3, Ext H m2 H' m3 ∧ Rs X.K H' m3 ρ3 σ' ∧ Wd X.K H' m3 M3 ∧ GdOk X.K gk ds H' m3 ∧ loopF (stpK kl gk ds g fb) (ds.drop (i + 1)) ρ3 M3 = some (fl, ρ', M'),
          fun σ' H' ⟨m3, e3, rs3, w3, gd3, hl3⟩ => ⟨ds.length - (i + 1), by omega, rfl, hlt, ρ3, M3, m3, e2.trans e3, rs3, w3, gd3, hl3⟩, fun x H' y => ?_⟩
        obtain ⟨e3, w3, r3⟩ := Y.yld i ds[i] H m2 M2 x H' (List.getElem?_eq_getElem hlt) e2 gd2 w2 y
        unfold stpK at es
        cases eg : g ds[i] ρ2 M2 with
        | none => rw [eg] at es; cases es
        | some q =>
          rw [eg] at es
          simp only [Option.bind_some] at es
          cases eb : fb q.1 q.2 with
          | none => rw [eb] at es; cases es
          | some q2 =>
            obtain ⟨fl2, ρb, Mb⟩ := q2
            rw [eb] at es
            simp only [Option.bind_some] at es
            refine ⟨ds[i], ρ2, M2, m2, q.1, q.2, r3, rs2.ext e3, w3, eg, fun H4 m4 σ4 e4 w4 rs4 => ?_⟩
            refine ⟨q.1, q.2, m4, fl2, ρb, Mb, rs4, w4, eb, ?_⟩
            have eT : Ext H m2 H4 m4 := e3.trans e4
            have PT := P.ext ((e1.trans e2).trans eT)
            have goes : fl2.goes = true → PostN X.K H4 m4 ρb Mb (fun σ' H' => ∃ m3, Ext H m2 H' m3 ∧ Rs X.K H' m3 ρ3 σ' ∧ Wd X.K H' m3 M3 ∧ GdOk X.K gk ds H' m3 ∧ loopF (stpK kl gk ds g fb) (ds.drop (i + 1)) ρ3 M3 = some (fl, ρ', M')) := by
              intro hgo H5 m5 σ5 e5 w5 rs5
              rw [if_pos hgo] at es
              split at es
              · rename_i hgd
                simp only [Option.some.injEq, Prod.mk.injEq] at es
                obtain ⟨rfl, hty⟩ := es
                obtain ⟨m6, e6, w6, rs6⟩ := tidy_ok (kl := kl) w2 (eT.trans e5) w5 rs5
                -- the tidied memory stands on the memory ahead of the turn
                have h1 : (tidy kl M2 ρb Mb).1 = ρ3 := by rw [hty]
                have h2 : (tidy kl M2 ρb Mb).2 = M3 := by rw [hty]
                rw [h1] at rs6
                rw [h2] at w6 hgd
                refine ⟨m6, e6, rs6, w6, gd_of w6 hgd, ?_⟩
                cases fl2 with
                | nx => exact hl
                | ct => exact hl
                | bk => cases hgo
                | rt r => cases hgo
              · cases es
            cases fl2 with
            | nx => exact goes rfl
            | ct => exact goes rfl
            | bk =>
              simp only [Fl.goes, Bool.false_eq_true, if_false, Option.some.injEq, Prod.mk.injEq] at es
              obtain ⟨rfl, rfl, rfl⟩ := es
              simp only [Option.some.injEq, Prod.mk.injEq] at hl
              obtain ⟨rfl, rfl, rfl⟩ := hl
              exact PT
            | rt r =>
              simp only [Fl.goes, Bool.false_eq_true, if_false, Option.some.injEq, Prod.mk.injEq] at es
              obtain ⟨rfl, rfl, rfl⟩ := es
              simp only [Option.some.injEq, Prod.mk.injEq] at hl
              obtain ⟨rfl, rfl, rfl⟩ := hl
              exact PT
    · have e : i = ds.length := by omega
      subst e
      rw [List.drop_length] at hl
      cases hl
      exact .inl ⟨Y.stop H m2 e2 gd2, P H m2 σ (e1.trans e2) w2 rs2⟩
end
noncomputable def whK (kl : List Bool) (t : Tf) (body : Sf) : Nat → Slots → Mem → Option (Fl × Slots × Mem)
  | 0, _, _ => none
  | n + 1, ρ, M => (t ρ M).bind fun p => if p.1 = true then (body ρ p.2).bind fun q => (match q.1 with
      | .nx => whK kl t body n (tidy kl M q.2.1 q.2.2).1 (tidy kl M q.2.1 q.2.2).2
      | .ct => whK kl t body n (tidy kl M q.2.1 q.2.2).1 (tidy kl M q.2.1 q.2.2).2
      | .bk => some (.nx, q.2.1, q.2.2)
      | .rt r => some (.rt r, q.2.1, q.2.2)) else some (.nx, ρ, p.2)
noncomputable def sWhileK (kl : List Bool) (n : Nat) (t : Tf) (body : Sf) : Sf := fun ρ M => whK kl t body n (keepD kl ρ) M
section
variable {X : Cx} {c : Expr} {body : List Stmt} {t : Tf} {fb : Sf} {pos : Pos}
theorem cs_whileK {kl : List Bool} {n : Nat} (hp : PassesOwn (model X.prog X.w) X.A X.env X.xe) (hc : CTx X c t) (hb : CBx X body fb) : CSx X (.While c body [] pos) (sWhileK kl n t fb) := PS.imp (ps_while hp hc hb) fun Dn σ H h => by
  obtain ⟨ρ, M, m, fl, ρ', M', rs, w, hf, P⟩ := h
  unfold sWhileK at hf
  refine ⟨fun n σ H1 => ∃ ρ2 M2 m2, Ext H m H1 m2 ∧ Rs X.K H1 m2 ρ2 σ ∧ Wd X.K H1 m2 M2 ∧ whK kl t fb n ρ2 M2 = some (fl, ρ', M'), ⟨n, _, M, m, .refl, rs.keep kl, w, hf⟩, ?_⟩
  rintro n σ H1 ⟨ρ2, M2, m2, e2, rs2, w2, hl⟩
  cases n with
  | zero => cases hl
  | succ n =>
    unfold whK at hl
    cases et : t ρ2 M2 with
    | none => rw [et] at hl; cases hl
    | some p =>
      rw [et] at hl
      simp only [Option.bind_some] at hl
      refine bindT rs2 w2 et fun H3 m3 e3 w3 rs3 => ?_
      split at hl
      · rename_i hb1
        rw [if_pos hb1]
        cases eb : fb ρ2 p.2 with
        | none => rw [eb] at hl; cases hl
        | some q =>
          obtain ⟨fl1, ρ3, M3⟩ := q
          rw [eb] at hl
          simp only [Option.bind_some] at hl
          refine ⟨fun σ' H' => ∃ m4, Ext H1 m2 H' m4 ∧ Rs X.K H' m4 (tidy kl M2 ρ3 M3).1 σ' ∧ Wd X.K H' m4 (tidy kl M2 ρ3 M3).2 ∧ whK kl t fb n (tidy kl M2 ρ3 M3).1 (tidy kl M2 ρ3 M3).2 = some (fl, ρ', M'),
            fun σ' H' ⟨m4, e4, rs4, w4, hl4⟩ => ⟨n, Nat.lt_succ_self _, _, _, m4, e2.trans e4, rs4, w4, hl4⟩, ρ2, p.2, m3, fl1, ρ3, M3, rs3, w3, eb, ?_⟩
          have PT := P.ext (e2.trans e3)
          cases fl1 with
          | nx =>
            intro H5 m5 σ5 e5 w5 rs5
            obtain ⟨m6, e6, w6, rs6⟩ := tidy_ok (kl := kl) w2 (e3.trans e5) w5 rs5
            exact ⟨m6, e6, rs6, w6, hl⟩
          | ct =>
            intro H5 m5 σ5 e5 w5 rs5
            obtain ⟨m6, e6, w6, rs6⟩ := tidy_ok (kl := kl) w2 (e3.trans e5) w5 rs5
            exact ⟨m6, e6, rs6, w6, hl⟩
          | bk =>
            simp only [Option.some.injEq, Prod.mk.injEq] at hl
            obtain ⟨rfl, rfl, rfl⟩ := hl
            exact PT
          | rt r =>
            simp only [Option.some.injEq, Prod.mk.injEq] at hl
            obtain ⟨rfl, rfl, rfl⟩ := hl
            exact PT
      · rename_i hb1
        rw [if_neg hb1]
        cases hl
        exact P H3 m3 σ (e2.trans e3) w3 rs3
end
end CI

/-! N16: reckoning, step by step -/
namespace CI
open PySem PySem.Spec PyProof.Rows L2
def bnd {α β : Type} (k : α → Option β) (o : Option α) : Option β := o.bind k
@[simp] theorem bnd_some {α β : Type} {k : α → Option β} {p : α} : bnd k (some p) = k p := rfl
@[simp] theorem bnd_none {α β : Type} {k : α → Option β} : bnd k none = none := rfl
@[simp] theorem bnd_ite {α β : Type} {c : Prop} [Decidable c] {k : α → Option β} {x y : Option α} : bnd k (if c then x else y) = if c then bnd k x else bnd k y := by split <;> rfl
@[simp] theorem Rz_d_val {d : D} : (Rz.val d).d = d := rfl
@[simp] theorem Rz_d_new {ds : List D} : (Rz.new ds).d = .lst ds := rfl
section
variable {ρ : Slots} {M : Mem} {d e : D} {r : Rz} {b c : Bool} {ds : List D} {fa fb fc f fo fv : Ef} {ta tb t : Tf} {g : Af} {o o' : Bop} {i j : Int}
def ret1 (M : Mem) (r : Rz) : Option (Rz × Mem) := some (r, M)
@[simp] theorem ret1_ap : ret1 M r = some (r, M) := rfl
def var1 (M : Mem) (d : D) : Option (Rz × Mem) := some (.val d, M)
@[simp] theorem cVar_ap {i : Nat} : cVar i ρ M = bnd (var1 M) (slot ρ i) := rfl
@[simp] theorem var1_ap : var1 M d = some (.val d, M) := rfl
@[simp] theorem slot_zero {o : Option D} {ρ : Slots} : slot (o :: ρ) 0 = o := rfl
@[simp] theorem slot_succ {o : Option D} {ρ : Slots} {i : Nat} : slot (o :: ρ) (i + 1) = slot ρ i := rfl
@[simp] theorem cVal_ap : cVal d ρ M = some (.val d, M) := rfl
def cBin1 (o : Bop) (fb : Ef) (ρ : Slots) (p : Rz × Mem) : Option (Rz × Mem) := (fb ρ p.2).bind fun q => (o p.1.d q.1.d q.2).bind fun r => some (r, q.2)
def cBin2 (o : Bop) (d : D) (q : Rz × Mem) : Option (Rz × Mem) := (o d q.1.d q.2).bind fun r => some (r, q.2)
@[simp] theorem cBin_ap : cBin o fa fb ρ M = bnd (cBin1 o fb ρ) (fa ρ M) := rfl
@[simp] theorem cBin1_ap : cBin1 o fb ρ (r, M) = bnd (cBin2 o r.d) (fb ρ M) := rfl
@[simp] theorem cBin2_ap : cBin2 o d (r, M) = bnd (ret1 M) (o d r.d M) := rfl
def toB1 (p : Rz × Mem) : Option (Bool × Mem) := match p.1.d with | .bl b => some (b, p.2) | _ => none
@[simp] theorem toB_ap : toB f ρ M = bnd toB1 (f ρ M) := rfl
@[simp] theorem toB1_ap : toB1 (.val (.bl b), M) = some (b, M) := rfl
def cCh4 (o' : Bop) (e : D) (s : Rz × Mem) : Option (Rz × Mem) := (o' e s.1.d s.2).bind fun z => some (z, s.2)
def cCh3 (o' : Bop) (fc : Ef) (ρ : Slots) (e : D) (M : Mem) (r : Rz) : Option (Rz × Mem) := match r with
  | .val (.bl true) => (fc ρ M).bind (cCh4 o' e)
  | .val (.bl false) => some (.val (.bl false), M)
  | _ => none
def cCh2 (o o' : Bop) (fc : Ef) (ρ : Slots) (d : D) (q : Rz × Mem) : Option (Rz × Mem) := (o d q.1.d q.2).bind (cCh3 o' fc ρ q.1.d q.2)
def cCh1 (o o' : Bop) (fb fc : Ef) (ρ : Slots) (p : Rz × Mem) : Option (Rz × Mem) := (fb ρ p.2).bind (cCh2 o o' fc ρ p.1.d)
@[simp] theorem cChain_ap : cChain o o' fa fb fc ρ M = bnd (cCh1 o o' fb fc ρ) (fa ρ M) := rfl
@[simp] theorem cCh1_ap : cCh1 o o' fb fc ρ (r, M) = bnd (cCh2 o o' fc ρ r.d) (fb ρ M) := rfl
@[simp] theorem cCh2_ap : cCh2 o o' fc ρ d (r, M) = bnd (cCh3 o' fc ρ r.d M) (o d r.d M) := rfl
@[simp] theorem cCh3_ap : cCh3 o' fc ρ e M (.val (.bl b)) = if b = true then bnd (cCh4 o' e) (fc ρ M) else some (.val (.bl false), M) := by cases b <;> rfl
@[simp] theorem cCh4_ap : cCh4 o' e (r, M) = bnd (ret1 M) (o' e r.d M) := rfl
def kAnd1 (tb : Tf) (ρ : Slots) (p : Bool × Mem) : Option (Bool × Mem) := if p.1 = true then tb ρ p.2 else some (false, p.2)
def kOr1 (tb : Tf) (ρ : Slots) (p : Bool × Mem) : Option (Bool × Mem) := if p.1 = true then some (true, p.2) else tb ρ p.2
def kNot1 (p : Bool × Mem) : Option (Bool × Mem) := some (!p.1, p.2)
@[simp] theorem kAnd_ap : kAnd ta tb ρ M = bnd (kAnd1 tb ρ) (ta ρ M) := rfl
@[simp] theorem kAnd1_ap : kAnd1 tb ρ (b, M) = if b = true then tb ρ M else some (false, M) := rfl
@[simp] theorem kOr_ap : kOr ta tb ρ M = bnd (kOr1 tb ρ) (ta ρ M) := rfl
@[simp] theorem kOr1_ap : kOr1 tb ρ (b, M) = if b = true then some (true, M) else tb ρ M := rfl
@[simp] theorem kNot_ap : kNot ta ρ M = bnd kNot1 (ta ρ M) := rfl
@[simp] theorem kNot1_ap : kNot1 (b, M) = some (!b, M) := rfl
theorem mg_andB {p : Prop} [Decidable p] : (if p then some (c, M) else some (false, M)) = some (decide p && c, M) := by by_cases h : p <;> simp [h]
theorem mg_orB {p : Prop} [Decidable p] : (if p then some (true, M) else some (c, M)) = some (decide p || c, M) := by by_cases h : p <;> simp [h]
@[simp] theorem mg_B {p : Prop} [Decidable p] : (if p then some (b, M) else some (c, M)) = some (if p then b else c, M) := by split <;> rfl
def cAnd1 (fb : Ef) (ρ : Slots) (p : Rz × Mem) : Option (Rz × Mem) := match p.1.d with | .bl true => fb ρ p.2 | .bl false => some (.val (.bl false), p.2) | _ => none
def cOr1 (fb : Ef) (ρ : Slots) (p : Rz × Mem) : Option (Rz × Mem) := match p.1.d with | .bl true => some (.val (.bl true), p.2) | .bl false => fb ρ p.2 | _ => none
def cNot1 (p : Rz × Mem) : Option (Rz × Mem) := match p.1.d with | .bl b => some (.val (.bl (!b)), p.2) | _ => none
def cIf1 (fa fb : Ef) (ρ : Slots) (p : Bool × Mem) : Option (Rz × Mem) := if p.1 = true then fa ρ p.2 else fb ρ p.2
@[simp] theorem cAnd_ap : cAnd fa fb ρ M = bnd (cAnd1 fb ρ) (fa ρ M) := rfl
@[simp] theorem cAnd1_ap : cAnd1 fb ρ (.val (.bl b), M) = if b = true then fb ρ M else some (.val (.bl false), M) := by cases b <;> rfl
@[simp] theorem cOr_ap : cOr fa fb ρ M = bnd (cOr1 fb ρ) (fa ρ M) := rfl
@[simp] theorem cOr1_ap : cOr1 fb ρ (.val (.bl b), M) = if b = true then some (.val (.bl true), M) else fb ρ M := by cases b <;> rfl
@[simp] theorem cNot_ap : cNot fa ρ M = bnd cNot1 (fa ρ M) := rfl
@[simp] theorem cNot1_ap : cNot1 (.val (.bl b), M) = some (.val (.bl (!b)), M) := rfl
@[simp] theorem cIf_ap : cIf t fa fb ρ M = bnd (cIf1 fa fb ρ) (t ρ M) := rfl
@[simp] theorem cIf1_ap : cIf1 fa fb ρ (b, M) = if b = true then fa ρ M else fb ρ M := rfl
@[simp] theorem mg_bl {p : Prop} [Decidable p] : (if p then some (Rz.val (.bl b), M) else some (Rz.val (.bl c), M)) = some (Rz.val (.bl (if p then b else c)), M) := by split <;> rfl
@[simp] theorem mg_int {p : Prop} [Decidable p] : (if p then some (Rz.val (.int i), M) else some (Rz.val (.int j), M)) = some (Rz.val (.int (if p then i else j)), M) := by split <;> rfl
@[simp] theorem mg_str {p : Prop} [Decidable p] {i j : Str} : (if p then some (Rz.val (.str i), M) else some (Rz.val (.str j), M)) = some (Rz.val (.str (if p then i else j)), M) := by split <;> rfl
/-! argument lists, displays -/
def aCons1 (g : Af) (ρ : Slots) (p : Rz × Mem) : Option (List D × Mem) := (g ρ p.2).bind fun q => some (p.1.d :: q.1, q.2)
def aCons2 (d : D) (q : List D × Mem) : Option (List D × Mem) := some (d :: q.1, q.2)
@[simp] theorem aNil_ap : aNil ρ M = some ([], M) := rfl
@[simp] theorem aCons_ap : aCons f g ρ M = bnd (aCons1 g ρ) (f ρ M) := rfl
@[simp] theorem aCons1_ap : aCons1 g ρ (r, M) = bnd (aCons2 r.d) (g ρ M) := rfl
@[simp] theorem aCons2_ap : aCons2 d (ds, M) = some (d :: ds, M) := rfl
def aStar2 (g : Af) (ρ : Slots) (M : Mem) (ds : List D) : Option (List D × Mem) := (g ρ M).bind fun q => some (ds ++ q.1, q.2)
def aStar1 (g : Af) (ρ : Slots) (p : Rz × Mem) : Option (List D × Mem) := (asS p.2 p.1.d).bind (aStar2 g ρ p.2)
def aStar3 (ds : List D) (q : List D × Mem) : Option (List D × Mem) := some (ds ++ q.1, q.2)
@[simp] theorem aStar_ap : aStar' f g ρ M = bnd (aStar1 g ρ) (f ρ M) := rfl
@[simp] theorem aStar1_ap : aStar1 g ρ (r, M) = bnd (aStar2 g ρ M) (asS M r.d) := rfl
@[simp] theorem aStar2_ap : aStar2 g ρ M ds = bnd (aStar3 ds) (g ρ M) := rfl
@[simp] theorem aStar3_ap {es : List D} : aStar3 ds (es, M) = some (ds ++ es, M) := rfl
def cTup1 (p : List D × Mem) : Option (Rz × Mem) := if p.1.length ≤ sizeLine then some (.val (.tup p.1), p.2) else none
def cLst1 (p : List D × Mem) : Option (Rz × Mem) := if p.1.length ≤ sizeLine then some (.new p.1, p.2) else none
@[simp] theorem cTup_ap : cTup g ρ M = bnd cTup1 (g ρ M) := rfl
@[simp] theorem cTup1_ap : cTup1 (ds, M) = if ds.length ≤ sizeLine then some (.val (.tup ds), M) else none := rfl
@[simp] theorem cLst_ap : cLst g ρ M = bnd cLst1 (g ρ M) := rfl
@[simp] theorem cLst1_ap : cLst1 (ds, M) = if ds.length ≤ sizeLine then some (.new ds, M) else none := rfl
def sSome1 (p : Rz × Mem) : Option (Option Int × Mem) := match p.1.d with | .int i => some (some i, p.2) | _ => none
@[simp] theorem sNone_ap : sNone ρ M = some (none, M) := rfl
@[simp] theorem sSome_ap : sSome f ρ M = bnd sSome1 (f ρ M) := rfl
@[simp] theorem sSome1_ap : sSome1 (.val (.int i), M) = some (some i, M) := rfl
def cSl3 (lo : Option Int) (d : D) (q : Option Int × Mem) : Option (Rz × Mem) := (oSl lo q.1 d q.2).bind fun z => some (z, q.2)
def cSl2 (h : Of) (ρ : Slots) (d : D) (q : Option Int × Mem) : Option (Rz × Mem) := (h ρ q.2).bind (cSl3 q.1 d)
def cSl1 (l h : Of) (ρ : Slots) (p : Rz × Mem) : Option (Rz × Mem) := (l ρ p.2).bind (cSl2 h ρ p.1.d)
@[simp] theorem cSl_ap {l h : Of} : cSl f l h ρ M = bnd (cSl1 l h ρ) (f ρ M) := rfl
@[simp] theorem cSl1_ap {l h : Of} : cSl1 l h ρ (r, M) = bnd (cSl2 h ρ r.d) (l ρ M) := rfl
@[simp] theorem cSl2_ap {h : Of} {lo : Option Int} : cSl2 h ρ d (lo, M) = bnd (cSl3 lo d) (h ρ M) := rfl
@[simp] theorem cSl3_ap {lo hi : Option Int} : cSl3 lo d (hi, M) = bnd (ret1 M) (oSl lo hi d M) := rfl
def cCB1 (o : Cop) (p : List D × Mem) : Option (Rz × Mem) := (o p.1 p.2).bind fun r => some (r, p.2)
@[simp] theorem cCB_ap {o : Cop} : cCB o g ρ M = bnd (cCB1 o) (g ρ M) := rfl
@[simp] theorem cCB1_ap {o : Cop} : cCB1 o (ds, M) = bnd (ret1 M) (o ds M) := rfl
def isI3 (M : Mem) (b : Bool) : Option (Rz × Mem) := some (.val (.bl b), M)
def isI2 (n : String) (M : Mem) (t : String) : Option (Rz × Mem) := (kitB t n).bind (isI3 M)
def isI1 (n : String) (p : Rz × Mem) : Option (Rz × Mem) := (tyOf p.2 p.1.d).bind (isI2 n p.2)
@[simp] theorem cIsI_ap {n : String} : cIsI n f ρ M = bnd (isI1 n) (f ρ M) := rfl
@[simp] theorem isI1_ap {n : String} : isI1 n (r, M) = bnd (isI2 n M) (tyOf M r.d) := rfl
@[simp] theorem isI2_ap {n t : String} : isI2 n M t = bnd (isI3 M) (kitB t n) := rfl
@[simp] theorem isI3_ap : isI3 M b = some (.val (.bl b), M) := rfl
def toTr2 (M : Mem) (b : Bool) : Option (Bool × Mem) := some (b, M)
def toTr1 (p : Rz × Mem) : Option (Bool × Mem) := (trD p.2 p.1.d).bind (toTr2 p.2)
@[simp] theorem toTr_ap : toTr f ρ M = bnd toTr1 (f ρ M) := rfl
@[simp] theorem toTr1_ap : toTr1 (r, M) = bnd (toTr2 M) (trD M r.d) := rfl
@[simp] theorem toTr2_ap : toTr2 M b = some (b, M) := rfl
def cCall1 (F : Fn) (p : List D × Mem) : Option (Rz × Mem) := F p.1 p.2
@[simp] theorem cCall_ap {F : Fn} : cCall F g ρ M = bnd (cCall1 F) (g ρ M) := rfl
@[simp] theorem cCall1_ap {F : Fn} : cCall1 F (ds, M) = F ds M := rfl
def cNew2 (k : Nat) (q : Rz × Mem) : Option (Rz × Mem) := match q.1 with | .val .non => some (.val (.loc k), q.2) | _ => none
def cNew1 (c : Str) (F : Fn) (p : List D × Mem) : Option (Rz × Mem) := (F (.loc p.2.length :: p.1) (p.2 ++ [.ins c []])).bind (cNew2 p.2.length)
@[simp] theorem cNew_ap {F : Fn} {c : Str} : cNew c F g ρ M = bnd (cNew1 c F) (g ρ M) := rfl
@[simp] theorem cNew1_ap {F : Fn} {c : Str} : cNew1 c F (ds, M) = bnd (cNew2 M.length) (F (.loc M.length :: ds) (M ++ [.ins c []])) := rfl
@[simp] theorem cNew2_ap {k : Nat} : cNew2 k (.val .non, M) = some (.val (.loc k), M) := rfl
def cMe2 (F : Fn) (k : Nat) (q : List D × Mem) : Option (Rz × Mem) := F (.loc k :: q.1) q.2
def cMe3 (c m : Str) (F : Fn) (g : Af) (ρ : Slots) (k : Nat) (M : Mem) (o : O) : Option (Rz × Mem) := match o with
  | .ins c' fs => if c' = c ∧ fs.lookup m = none then (g ρ M).bind (cMe2 F k) else none
  | _ => none
def cMe1 (c m : Str) (F : Fn) (g : Af) (ρ : Slots) (p : Rz × Mem) : Option (Rz × Mem) := match p.1.d with
  | .loc k => (p.2[k]?).bind (cMe3 c m F g ρ k p.2)
  | _ => none
@[simp] theorem cMeth_ap {F : Fn} {c m : Str} : cMeth c m F f g ρ M = bnd (cMe1 c m F g ρ) (f ρ M) := by
  show (f ρ M).bind _ = (f ρ M).bind _
  congr 1
  funext ⟨r, M2⟩
  unfold cMe1
  cases hd : r.d with
  | loc k =>
    simp only [hd]
    cases hk : M2[k]? with
    | none => rfl
    | some o => cases o <;> rfl
  | _ => simp only [hd]
@[simp] theorem cMe1_ap {F : Fn} {c m : Str} {k : Nat} : cMe1 c m F g ρ (.val (.loc k), M) = bnd (cMe3 c m F g ρ k M) M[k]? := rfl
@[simp] theorem cMe3_ap {F : Fn} {c c' m : Str} {k : Nat} {fs : List (Str × D)} : cMe3 c m F g ρ k M (.ins c' fs) = if c' = c ∧ fs.lookup m = none then bnd (cMe2 F k) (g ρ M) else none := rfl
@[simp] theorem cMe2_ap {F : Fn} {k : Nat} : cMe2 F k (ds, M) = F (.loc k :: ds) M := rfl
def cFl2 (cs : List Str) (n : Str) (M : Mem) (o : O) : Option (Rz × Mem) := match o with
  | .ins c fs => if c ∈ cs then (fs.lookup n).bind (var1 M) else none
  | _ => none
def cFl1 (cs : List Str) (n : Str) (p : Rz × Mem) : Option (Rz × Mem) := match p.1.d with
  | .loc k => (p.2[k]?).bind (cFl2 cs n p.2)
  | _ => none
@[simp] theorem cFld_ap {cs : List Str} {n : Str} : cFld cs n f ρ M = bnd (cFl1 cs n) (f ρ M) := by
  show (f ρ M).bind _ = (f ρ M).bind _
  congr 1
  funext ⟨r, M2⟩
  unfold cFl1
  cases hd : r.d with
  | loc k =>
    simp only [hd]
    cases hk : M2[k]? with
    | none => rfl
    | some o => cases o <;> rfl
  | _ => simp only [hd]
@[simp] theorem cFl1_ap {cs : List Str} {n : Str} {k : Nat} : cFl1 cs n (.val (.loc k), M) = bnd (cFl2 cs n M) M[k]? := rfl
@[simp] theorem cFl2_ap {cs : List Str} {n c : Str} {fs : List (Str × D)} : cFl2 cs n M (.ins c fs) = if c ∈ cs then bnd (var1 M) (fs.lookup n) else none := rfl
def cBM2 (o : Mop) (d : D) (q : List D × Mem) : Option (Rz × Mem) := o d q.1 q.2
def cBM1 (T : String) (o : Mop) (g : Af) (ρ : Slots) (p : Rz × Mem) : Option (Rz × Mem) := if tyOf p.2 p.1.d = some T then (g ρ p.2).bind (cBM2 o p.1.d) else none
@[simp] theorem cBM_ap {T : String} {o : Mop} : cBM T o f g ρ M = bnd (cBM1 T o g ρ) (f ρ M) := rfl
@[simp] theorem cBM1_ap {T : String} {o : Mop} : cBM1 T o g ρ (r, M) = if tyOf M r.d = some T then bnd (cBM2 o r.d) (g ρ M) else none := rfl
@[simp] theorem cBM2_ap {o : Mop} : cBM2 o d (ds, M) = o d ds M := rfl
def cNeg1 (p : Rz × Mem) : Option (Rz × Mem) := match p.1.d with | .int i => some (.val (.int (-i)), p.2) | _ => none
@[simp] theorem cNeg_ap : cNeg f ρ M = bnd cNeg1 (f ρ M) := rfl
@[simp] theorem cNeg1_ap : cNeg1 (.val (.int i), M) = some (.val (.int (-i)), M) := rfl
def lRg2 (d : D) (q : Rz × Mem) : Option (Rz × Mem) := match d, q.1.d with
  | .int i, .int j => if bRg i j = true then some (.new (rgD i (j - i).toNat), q.2) else none
  | _, _ => none
def lRg1 (fb : Ef) (ρ : Slots) (p : Rz × Mem) : Option (Rz × Mem) := (fb ρ p.2).bind (lRg2 p.1.d)
@[simp] theorem cLRg_ap : cLRg fa fb ρ M = bnd (lRg1 fb ρ) (fa ρ M) := rfl
@[simp] theorem lRg1_ap : lRg1 fb ρ (r, M) = bnd (lRg2 r.d) (fb ρ M) := rfl
@[simp] theorem lRg2_ap : lRg2 (.int i) (.val (.int j), M) = if bRg i j = true then some (.new (rgD i (j - i).toNat), M) else none := rfl
/-! statements -/
variable {s s' : Sf} {n : Nat} {x : Str} {cs : List Str}
def sCons1 (s : Sf) (p : Fl × Slots × Mem) : Option (Fl × Slots × Mem) := match p.1 with | .nx => s p.2.1 p.2.2 | fl => some (fl, p.2.1, p.2.2)
@[simp] theorem sNil_ap : sNil ρ M = some (.nx, ρ, M) := rfl
@[simp] theorem sCons_ap : sCons s s' ρ M = bnd (sCons1 s') (s ρ M) := rfl
@[simp] theorem sCons1_nx : sCons1 s (.nx, ρ, M) = s ρ M := rfl
@[simp] theorem sCons1_rt : sCons1 s (.rt r, ρ, M) = some (.rt r, ρ, M) := rfl
@[simp] theorem sCons1_bk : sCons1 s (.bk, ρ, M) = some (.bk, ρ, M) := rfl
@[simp] theorem sCons1_ct : sCons1 s (.ct, ρ, M) = some (.ct, ρ, M) := rfl
@[simp] theorem sBreak_ap : sBreak ρ M = some (.bk, ρ, M) := rfl
@[simp] theorem sCont_ap : sCont ρ M = some (.ct, ρ, M) := rfl
def sExpr1 (ρ : Slots) (p : Rz × Mem) : Option (Fl × Slots × Mem) := some (.nx, ρ, p.2)
@[simp] theorem sExpr_ap : sExpr f ρ M = bnd (sExpr1 ρ) (f ρ M) := rfl
@[simp] theorem sExpr1_ap : sExpr1 ρ (r, M) = some (.nx, ρ, M) := rfl
def sRet1 (ρ : Slots) (p : Rz × Mem) : Option (Fl × Slots × Mem) := some (.rt p.1, ρ, p.2)
@[simp] theorem sRet_ap : sRet f ρ M = bnd (sRet1 ρ) (f ρ M) := rfl
@[simp] theorem sRet1_ap : sRet1 ρ (r, M) = some (.rt r, ρ, M) := rfl
@[simp] theorem sRetN_ap : sRetN ρ M = some (.rt (.val .non), ρ, M) := rfl
def sIf1 (s s' : Sf) (ρ : Slots) (p : Bool × Mem) : Option (Fl × Slots × Mem) := if p.1 = true then s ρ p.2 else s' ρ p.2
@[simp] theorem sIf_ap : sIf t s s' ρ M = bnd (sIf1 s s' ρ) (t ρ M) := rfl
@[simp] theorem sIf1_ap : sIf1 s s' ρ (b, M) = if b = true then s ρ M else s' ρ M := rfl
def sSet1 (n : Nat) (ρ : Slots) (p : Rz × Mem) : Option (Fl × Slots × Mem) := some (.nx, ρ.set n (some p.1.d), p.2)
@[simp] theorem sSet_ap : sSet n f ρ M = bnd (sSet1 n ρ) (f ρ M) := rfl
@[simp] theorem sSet1_ap : sSet1 n ρ (r, M) = some (.nx, ρ.set n (some r.d), M) := rfl
def sSetM1 (n : Nat) (ρ : Slots) (p : Rz × Mem) : Option (Fl × Slots × Mem) := match p.1 with
  | .new ds => some (.nx, ρ.set n (some (.loc p.2.length)), p.2 ++ [.lst ds])
  | .val d => some (.nx, ρ.set n (some d), p.2)
@[simp] theorem sSetM_ap : sSetM n f ρ M = bnd (sSetM1 n ρ) (f ρ M) := rfl
@[simp] theorem sSetM1_new : sSetM1 n ρ (.new ds, M) = some (.nx, ρ.set n (some (.loc M.length)), M ++ [.lst ds]) := rfl
@[simp] theorem sSetM1_val : sSetM1 n ρ (.val d, M) = some (.nx, ρ.set n (some d), M) := rfl
def stF2 (cs : List Str) (x : Str) (d : D) (ρ : Slots) (k : Nat) (M : Mem) (o : O) : Option (Fl × Slots × Mem) := match o with
  | .ins c fs => if c ∈ cs ∧ fs.length < 1000 then some (.nx, ρ, M.set k (.ins c (putD x d fs))) else none
  | _ => none
def stF1 (cs : List Str) (x : Str) (d : D) (ρ : Slots) (q : Rz × Mem) : Option (Fl × Slots × Mem) := match q.1.d with
  | .loc k => (q.2[k]?).bind (stF2 cs x d ρ k q.2)
  | _ => none
theorem stFld_ap : stFld cs x fo d ρ M = bnd (stF1 cs x d ρ) (fo ρ M) := by
  show (fo ρ M).bind _ = (fo ρ M).bind _
  congr 1
  funext ⟨r, M2⟩
  unfold stF1
  cases hd : r.d with
  | loc k =>
    simp only [hd]
    cases hk : M2[k]? with
    | none => rfl
    | some o => cases o <;> rfl
  | _ => simp only [hd]
@[simp] theorem stF1_ap {k : Nat} : stF1 cs x d ρ (.val (.loc k), M) = bnd (stF2 cs x d ρ k M) M[k]? := rfl
@[simp] theorem stF2_ap {k : Nat} {c : Str} {fs : List (Str × D)} : stF2 cs x d ρ k M (.ins c fs) = if c ∈ cs ∧ fs.length < 1000 then some (.nx, ρ, M.set k (.ins c (putD x d fs))) else none := rfl
def sFlS1 (cs : List Str) (x : Str) (fo : Ef) (ρ : Slots) (p : Rz × Mem) : Option (Fl × Slots × Mem) := stFld cs x fo p.1.d ρ p.2
def sFlM1 (cs : List Str) (x : Str) (fo : Ef) (ρ : Slots) (p : Rz × Mem) : Option (Fl × Slots × Mem) := match p.1 with
  | .new ds => stFld cs x fo (.loc p.2.length) ρ (p.2 ++ [.lst ds])
  | .val d => stFld cs x fo d ρ p.2
@[simp] theorem sFldS_ap : sFldS cs x fo fv ρ M = bnd (sFlS1 cs x fo ρ) (fv ρ M) := rfl
@[simp] theorem sFlS1_ap : sFlS1 cs x fo ρ (r, M) = bnd (stF1 cs x r.d ρ) (fo ρ M) := stFld_ap
@[simp] theorem sFldM_ap : sFldM cs x fo fv ρ M = bnd (sFlM1 cs x fo ρ) (fv ρ M) := rfl
@[simp] theorem sFlM1_new : sFlM1 cs x fo ρ (.new ds, M) = bnd (stF1 cs x (.loc M.length) ρ) (fo ρ (M ++ [.lst ds])) := stFld_ap
@[simp] theorem sFlM1_val : sFlM1 cs x fo ρ (.val d, M) = bnd (stF1 cs x d ρ) (fo ρ M) := stFld_ap
def sAsg2 (p : Slots × Mem) : Option (Fl × Slots × Mem) := some (.nx, p.1, p.2)
def sAsg1 (gg : Gf) (ρ : Slots) (p : Rz × Mem) : Option (Fl × Slots × Mem) := (gg p.1.d ρ p.2).bind sAsg2
@[simp] theorem sAsg_ap {gg : Gf} : sAsg gg f ρ M = bnd (sAsg1 gg ρ) (f ρ M) := rfl
@[simp] theorem sAsg1_ap {gg : Gf} : sAsg1 gg ρ (r, M) = bnd sAsg2 (gg r.d ρ M) := rfl
@[simp] theorem sAsg2_ap : sAsg2 (ρ, M) = some (.nx, ρ, M) := rfl
@[simp] theorem gNm_ap : gNm n d ρ M = some (ρ.set n (some d), M) := rfl
@[simp] theorem gsNil_ap : gsNil [] ρ M = some (ρ, M) := rfl
def gsC1 (gs : GsF) (ds : List D) (p : Slots × Mem) : Option (Slots × Mem) := gs ds p.1 p.2
@[simp] theorem gsCons_ap {gg : Gf} {gs : GsF} : gsCons gg gs (d :: ds) ρ M = bnd (gsC1 gs ds) (gg d ρ M) := rfl
@[simp] theorem gsC1_ap {gs : GsF} : gsC1 gs ds (ρ, M) = gs ds ρ M := rfl
@[simp] theorem gTp_ap {gs : GsF} : gTp n gs (.tup ds) ρ M = if ds.length = n then gs ds ρ M else none := rfl
def gIx3 (d : D) (k : Nat) (i : Int) (ρ : Slots) (M : Mem) (es : List D) (j : Nat) : Option (Slots × Mem) := some (ρ, M.set k (.lst (es.set j d)))
def gIx2 (d : D) (ρ : Slots) (e : D) (q : Rz × Mem) : Option (Slots × Mem) := match e, q.1.d with
  | .loc k, .int i => match q.2[k]? with
    | some (.lst es) => (ixN es.length i).bind (gIx3 d k i ρ q.2 es)
    | _ => none
  | _, _ => none
def gIx1 (fb : Ef) (d : D) (ρ : Slots) (p : Rz × Mem) : Option (Slots × Mem) := (fb ρ p.2).bind (gIx2 d ρ p.1.d)
@[simp] theorem gIx_ap : gIx fa fb d ρ M = bnd (gIx1 fb d ρ) (fa ρ M) := rfl
@[simp] theorem gIx1_ap : gIx1 fb d ρ (r, M) = bnd (gIx2 d ρ r.d) (fb ρ M) := rfl
theorem gIx2_of {k : Nat} {j : Nat} (h : M[k]? = some (.lst ds)) (hj : ixN ds.length i = some j) : gIx2 d ρ (.loc k) (.val (.int i), M) = some (ρ, M.set k (.lst (ds.set j d))) := by
  show (match M[k]? with | some (.lst es) => (ixN es.length i).bind (gIx3 d k i ρ M es) | _ => none) = _
  rw [h]
  simp only [hj]
  rfl
def iSeq2 (d : D) (M : Mem) (ds : List D) : Option (List D × Option Nat × Mem) := some (ds, gkOf d, M)
def iSeq1 (p : Rz × Mem) : Option (List D × Option Nat × Mem) := (asS p.2 p.1.d).bind (iSeq2 p.1.d p.2)
@[simp] theorem iSeq_ap : iSeq f ρ M = bnd iSeq1 (f ρ M) := rfl
@[simp] theorem iSeq1_ap : iSeq1 (r, M) = bnd (iSeq2 r.d M) (asS M r.d) := rfl
@[simp] theorem iSeq2_ap : iSeq2 d M ds = some (ds, gkOf d, M) := rfl
def iRga (p : Rz × Mem) : Option (List D × Option Nat × Mem) := match p.1.d with | .int j => if rgB j = true then some (rgD 0 j.toNat, none, p.2) else none | _ => none
@[simp] theorem iRg1_ap : iRg1 fa ρ M = bnd iRga (fa ρ M) := rfl
@[simp] theorem iRga_ap : iRga (.val (.int j), M) = if rgB j = true then some (rgD 0 j.toNat, none, M) else none := rfl
def iRgc (d : D) (q : Rz × Mem) : Option (List D × Option Nat × Mem) := match d, q.1.d with | .int i, .int j => if rgB i = true ∧ rgB j = true then some (rgD i (j - i).toNat, none, q.2) else none | _, _ => none
def iRgb (fb : Ef) (ρ : Slots) (p : Rz × Mem) : Option (List D × Option Nat × Mem) := (fb ρ p.2).bind (iRgc p.1.d)
@[simp] theorem iRg2_ap : iRg2 fa fb ρ M = bnd (iRgb fb ρ) (fa ρ M) := rfl
@[simp] theorem iRgb_ap : iRgb fb ρ (r, M) = bnd (iRgc r.d) (fb ρ M) := rfl
@[simp] theorem iRgc_ap : iRgc (.int i) (.val (.int j), M) = if rgB i = true ∧ rgB j = true then some (rgD i (j - i).toNat, none, M) else none := rfl
def iEn1 (p : Rz × Mem) : Option (List D × Option Nat × Mem) := match p.1.d with | .lst ds => some (enD ds, none, p.2) | .scr ns => some (enD (ns.map .int), none, p.2) | _ => none
@[simp] theorem iEn_ap : iEn f ρ M = bnd iEn1 (f ρ M) := rfl
@[simp] theorem iEn1_lst : iEn1 (.val (.lst ds), M) = some (enD ds, none, M) := rfl
@[simp] theorem iEn1_new : iEn1 (.new ds, M) = some (enD ds, none, M) := rfl
def iSt1 (p : Rz × Mem) : Option (List D × Option Nat × Mem) := match p.1.d with | .str x => some (chD x, none, p.2) | _ => none
@[simp] theorem iSt_ap : iSt f ρ M = bnd iSt1 (f ρ M) := rfl
@[simp] theorem iSt1_ap : iSt1 (.val (.str x), M) = some (chD x, none, M) := rfl
/-! loops -/
variable {kl : List Bool} {it : If} {gg : Gf}
noncomputable def sForK1 (kl : List Bool) (gg : Gf) (s : Sf) (ρ : Slots) (p : List D × Option Nat × Mem) : Option (Fl × Slots × Mem) := loopF (stpK kl p.2.1 p.1 gg s) p.1 (keepD kl ρ) p.2.2
@[simp] theorem sForK_ap : sForK kl it gg s ρ M = bnd (sForK1 kl gg s ρ) (it ρ M) := rfl
@[simp] theorem sForK1_ap {gk : Option Nat} : sForK1 kl gg s ρ (ds, gk, M) = loopF (stpK kl gk ds gg s) ds (keepD kl ρ) M := rfl
@[simp] theorem sWhileK_ap : sWhileK kl n t s ρ M = whK kl t s n (keepD kl ρ) M := rfl
end
end CI

/-! N17: operators, memories, loops, reckoned -/
namespace CI
open PySem PySem.Spec PyProof.Rows L2

@[simp] theorem line_le {n : Nat} : (n ≤ sizeLine) = (n ≤ 16777216) := by rw [sizeLine_eq]
@[simp] theorem line_lt {n : Nat} : (n < sizeLine) = (n < 16777216) := by rw [sizeLine_eq]
@[simp] theorem guard_none {ds : List D} {M : Mem} : guard none ds M = True := by
  unfold guard; simp
theorem set_end {M : Mem} {a b : O} : (M ++ [a]).set M.length b = M ++ [b] := by
  rw [List.set_append_right _ _ (Nat.le_refl _)]; simp
theorem get_end {M : Mem} {a : O} : (M ++ [a])[M.length]? = some a := by simp
@[simp] theorem nls_ints {n : Nat} : ∀ {ns : List Int}, nls n (ns.map .int) = true
  | [] => rfl
  | _ :: ns => by rw [List.map_cons, nls, nls_ints, Bool.and_true]; simp [nl]
@[simp] theorem oI_int {g : Int → Int → D} {i j : Int} {M : Mem} : oI g (.int i) (.int j) M = some (.val (g i j)) := rfl
@[simp] theorem oIc_int {C : Int → Int → Bool} {g : Int → Int → D} {i j : Int} {M : Mem} : oIc C g (.int i) (.int j) M = if C i j = true then some (.val (g i j)) else none := rfl
@[simp] theorem oAdd_int {i j : Int} {M : Mem} : oAdd (.int i) (.int j) M = some (.val (.int (i + j))) := rfl
@[simp] theorem oAdd_tup {xs ys : List D} {M : Mem} : oAdd (.tup xs) (.tup ys) M = if xs.length + ys.length ≤ sizeLine then some (.val (.tup (xs ++ ys))) else none := rfl
@[simp] theorem oAdd_lst {xs ys : List D} {M : Mem} : oAdd (.lst xs) (.lst ys) M = if xs.length + ys.length ≤ sizeLine then some (.new (xs ++ ys)) else none := rfl
@[simp] theorem oEq_int {i j : Int} {M : Mem} : oEq (.int i) (.int j) M = some (.val (.bl (decide (i = j)))) := rfl
@[simp] theorem oNe_int {i j : Int} {M : Mem} : oNe (.int i) (.int j) M = some (.val (.bl (!decide (i = j)))) := rfl
@[simp] theorem oEq_str {i j : Str} {M : Mem} : oEq (.str i) (.str j) M = some (.val (.bl (decide (i = j)))) := rfl
@[simp] theorem oNe_str {i j : Str} {M : Mem} : oNe (.str i) (.str j) M = some (.val (.bl (!decide (i = j)))) := rfl
@[simp] theorem oSub_int {i j : Int} {M : Mem} : oSub (.int i) (.int j) M = some (.val (.int (i - j))) := rfl
@[simp] theorem oLt_int {i j : Int} {M : Mem} : oLt (.int i) (.int j) M = some (.val (.bl (decide (i < j)))) := rfl
@[simp] theorem oLe_int {i j : Int} {M : Mem} : oLe (.int i) (.int j) M = some (.val (.bl (decide (i ≤ j)))) := rfl
@[simp] theorem oGt_int {i j : Int} {M : Mem} : oGt (.int i) (.int j) M = some (.val (.bl (decide (j < i)))) := rfl
@[simp] theorem oGe_int {i j : Int} {M : Mem} : oGe (.int i) (.int j) M = some (.val (.bl (decide (j ≤ i)))) := rfl
@[simp] theorem oMul_int {i j : Int} {M : Mem} : oMulI (.int i) (.int j) M = if bMul i j = true then some (.val (.int (i * j))) else none := rfl
@[simp] theorem oDiv_int {i j : Int} {M : Mem} : oDiv (.int i) (.int j) M = if bDiv i j = true then some (.val (.int (i / j))) else none := rfl
@[simp] theorem oMod_int {i j : Int} {M : Mem} : oMod (.int i) (.int j) M = if bMod i j = true then some (.val (.int (i % j))) else none := rfl
@[simp] theorem oPow_int {i j : Int} {M : Mem} : oPow (.int i) (.int j) M = if bPow i j = true then some (.val (.int (i ^ j.toNat))) else none := rfl
@[simp] theorem oInt_int {i : Int} {M : Mem} : oInt [.int i] M = some (.val (.int i)) := rfl
@[simp] theorem bMul_eq {i j : Int} : bMul i j = (sm64 i || sm64 j) := rfl
theorem p64 : (2 : Int) ^ 64 = 18446744073709551616 := by decide
theorem sm64_of {i : Int} (h0 : -1000000000000000000 < i) (h1 : i < 1000000000000000000) : sm64 i = true := by
  unfold sm64
  rw [p64]
  simp only [Bool.and_eq_true, decide_eq_true_eq]
  omega
@[simp] theorem sm64_lit {n : Nat} (h : n < 1000000000000000000) : sm64 (no_index (@OfNat.ofNat Int n instOfNat)) = true := sm64_of (by show (-1000000000000000000 : Int) < (n : Int); omega) (by show (n : Int) < 1000000000000000000; omega)
@[simp] theorem bDiv_eq {i j : Int} : bDiv i j = (decide (0 < j) && decide (j < 1073741824)) := rfl
@[simp] theorem bMod_eq {i j : Int} : bMod i j = decide (0 < j) := rfl
@[simp] theorem bPow_eq {i j : Int} : bPow i j = (decide (0 ≤ j) && decide (j ≤ 1000000) && decide (i.natAbs < 2 ^ 64)) := rfl
@[simp] theorem asS_lst {ds : List D} {M : Mem} : asS M (.lst ds) = some ds := rfl
@[simp] theorem asS_tup {ds : List D} {M : Mem} : asS M (.tup ds) = some ds := rfl
@[simp] theorem asS_scr {ns : List Int} {M : Mem} : asS M (.scr ns) = some (ns.map .int) := rfl
@[simp] theorem asL_lst {ds : List D} {M : Mem} : asL M (.lst ds) = some ds := rfl
@[simp] theorem asL_scr {ns : List Int} {M : Mem} : asL M (.scr ns) = some (ns.map .int) := rfl
theorem asS_loc {k : Nat} {M : Mem} {ds : List D} (h : M[k]? = some (.lst ds)) : asS M (.loc k) = some ds := by
  show (match M[k]? with | some (.lst ds) => some ds | _ => none) = some ds
  rw [h]
theorem asS_end {M : Mem} {ds : List D} : asS (M ++ [.lst ds]) (.loc M.length) = some ds := asS_loc get_end
theorem tyOf_end {M : Mem} {ds : List D} : tyOf (M ++ [.lst ds]) (.loc M.length) = some "list" := by
  show (match (M ++ [O.lst ds])[M.length]? with | some (.lst _) => some "list" | some (.dct _) => some "dict" | _ => none) = _
  rw [get_end]
@[simp] theorem oLen_lst {ds : List D} {M : Mem} : oLen [.lst ds] M = some (.val (.int ds.length)) := rfl
@[simp] theorem oLen_tup {ds : List D} {M : Mem} : oLen [.tup ds] M = some (.val (.int ds.length)) := rfl
@[simp] theorem oLen_scr {ns : List Int} {M : Mem} : oLen [.scr ns] M = some (.val (.int ns.length)) := by
  show some (Rz.val (.int (ns.map D.int).length)) = _
  rw [List.length_map]
theorem oLen_loc {k : Nat} {M : Mem} {ds : List D} (h : M[k]? = some (.lst ds)) : oLen [.loc k] M = some (.val (.int ds.length)) := by
  show ((asS M (.loc k)).bind fun es => some (Rz.val (.int es.length))) = _
  rw [asS_loc h]; rfl
theorem oLen_end {M : Mem} {ds : List D} : oLen [.loc M.length] (M ++ [.lst ds]) = some (.val (.int ds.length)) := oLen_loc get_end
theorem oAppend_loc {k : Nat} {M : Mem} {ds : List D} {d : D} (h : M[k]? = some (.lst ds)) (hl : ds.length < 16777216) : oAppend (.loc k) [d] M = some (.val .non, M.set k (.lst (ds ++ [d]))) := by
  show (match M[k]? with | some (.lst es) => if es.length < sizeLine then some (Rz.val D.non, M.set k (.lst (es ++ [d]))) else none | _ => none) = _
  rw [h]
  simp [hl]
theorem oAppend_end {M : Mem} {ds : List D} {d : D} (hl : ds.length < 16777216) : oAppend (.loc M.length) [d] (M ++ [.lst ds]) = some (.val .non, M ++ [.lst (ds ++ [d])]) := by
  rw [oAppend_loc get_end hl, set_end]
theorem rgB_nat {n : Nat} (h : n < 16777216) : rgB (n : Int) = true := by
  unfold rgB; simp; omega
/-- a loop by an invariant -/
theorem loop_inv {step : Stp} (I : List D → Slots → Mem → Prop) (hs : ∀ d ds ρ M, I (d :: ds) ρ M → ∃ fl ρ' M', step d ρ M = some (fl, ρ', M') ∧ (fl = .nx ∨ fl = .ct) ∧ I ds ρ' M') :
    ∀ ds ρ M, I ds ρ M → ∃ ρ' M', loopF step ds ρ M = some (.nx, ρ', M') ∧ I [] ρ' M'
  | [], ρ, M, h => ⟨ρ, M, rfl, h⟩
  | d :: ds, ρ, M, h => by
    obtain ⟨fl, ρ1, M1, e, hf, h1⟩ := hs d ds ρ M h
    obtain ⟨ρ2, M2, e2, h2⟩ := loop_inv I hs ds ρ1 M1 h1
    refine ⟨ρ2, M2, ?_, h2⟩
    unfold loopF
    rw [e]
    rcases hf with rfl | rfl <;> exact e2
/-- .. counted -/
theorem loop_rg {step : Stp} {lo : Int} {n : Nat} {ρ : Slots} {M : Mem} (I : Nat → Slots → Mem → Prop) (h0 : I 0 ρ M) (hs : ∀ (i : Nat) ρ M, i < n → I i ρ M → ∃ fl ρ' M', step (.int (lo + i)) ρ M = some (fl, ρ', M') ∧ (fl = .nx ∨ fl = .ct) ∧ I (i + 1) ρ' M') :
    ∃ ρ' M', loopF step (rgD lo n) ρ M = some (.nx, ρ', M') ∧ I n ρ' M' := by
  have key : ∀ (k : Nat) ds ρ M, (rgD lo n).drop k = ds → k ≤ n → I k ρ M → ∃ ρ' M', loopF step ds ρ M = some (.nx, ρ', M') ∧ I n ρ' M' := by
    intro k ds
    induction ds generalizing k with
    | nil =>
      intro ρ M e hk h
      have : k = n := by
        have := congrArg List.length e
        rw [List.length_drop, rgD_len] at this
        simp at this; omega
      subst this
      exact ⟨ρ, M, rfl, h⟩
    | cons d ds ih =>
      intro ρ M e hk h
      have hd : (rgD lo n)[k]? = some d := by
        have := congrArg (fun l => l[0]?) e
        simpa [List.getElem?_drop] using this
      obtain ⟨hkn, rfl⟩ := rgD_get hd
      obtain ⟨fl, ρ1, M1, e1, hf, h1⟩ := hs k ρ M hkn h
      obtain ⟨ρ2, M2, e2, h2⟩ := ih (k + 1) ρ1 M1 (by rw [← List.tail_drop, e]; rfl) hkn h1
      refine ⟨ρ2, M2, ?_, h2⟩
      unfold loopF
      rw [e1]
      rcases hf with rfl | rfl <;> exact e2
  exact key 0 _ ρ M rfl (Nat.zero_le _) h0

@[simp] theorem kit_NoneType_bool : kitB "NoneType" "bool" = some false := by decide +kernel
@[simp] theorem kit_NoneType_int : kitB "NoneType" "int" = some false := by decide +kernel
@[simp] theorem kit_NoneType_str : kitB "NoneType" "str" = some false := by decide +kernel
@[simp] theorem kit_NoneType_tuple : kitB "NoneType" "tuple" = some false := by decide +kernel
@[simp] theorem kit_NoneType_list : kitB "NoneType" "list" = some false := by decide +kernel
@[simp] theorem kit_NoneType_dict : kitB "NoneType" "dict" = some false := by decide +kernel
@[simp] theorem kit_bool_bool : kitB "bool" "bool" = some true := by decide +kernel
@[simp] theorem kit_bool_int : kitB "bool" "int" = some true := by decide +kernel
@[simp] theorem kit_bool_str : kitB "bool" "str" = some false := by decide +kernel
@[simp] theorem kit_bool_tuple : kitB "bool" "tuple" = some false := by decide +kernel
@[simp] theorem kit_bool_list : kitB "bool" "list" = some false := by decide +kernel
@[simp] theorem kit_bool_dict : kitB "bool" "dict" = some false := by decide +kernel
@[simp] theorem kit_int_bool : kitB "int" "bool" = some false := by decide +kernel
@[simp] theorem kit_int_int : kitB "int" "int" = some true := by decide +kernel
@[simp] theorem kit_int_str : kitB "int" "str" = some false := by decide +kernel
@[simp] theorem kit_int_tuple : kitB "int" "tuple" = some false := by decide +kernel
@[simp] theorem kit_int_list : kitB "int" "list" = some false := by decide +kernel
@[simp] theorem kit_int_dict : kitB "int" "dict" = some false := by decide +kernel
@[simp] theorem kit_str_bool : kitB "str" "bool" = some false := by decide +kernel
@[simp] theorem kit_str_int : kitB "str" "int" = some false := by decide +kernel
@[simp] theorem kit_str_str : kitB "str" "str" = some true := by decide +kernel
@[simp] theorem kit_str_tuple : kitB "str" "tuple" = some false := by decide +kernel
@[simp] theorem kit_str_list : kitB "str" "list" = some false := by decide +kernel
@[simp] theorem kit_str_dict : kitB "str" "dict" = some false := by decide +kernel
@[simp] theorem kit_tuple_bool : kitB "tuple" "bool" = some false := by decide +kernel
@[simp] theorem kit_tuple_int : kitB "tuple" "int" = some false := by decide +kernel
@[simp] theorem kit_tuple_str : kitB "tuple" "str" = some false := by decide +kernel
@[simp] theorem kit_tuple_tuple : kitB "tuple" "tuple" = some true := by decide +kernel
@[simp] theorem kit_tuple_list : kitB "tuple" "list" = some false := by decide +kernel
@[simp] theorem kit_tuple_dict : kitB "tuple" "dict" = some false := by decide +kernel
@[simp] theorem kit_list_bool : kitB "list" "bool" = some false := by decide +kernel
@[simp] theorem kit_list_int : kitB "list" "int" = some false := by decide +kernel
@[simp] theorem kit_list_str : kitB "list" "str" = some false := by decide +kernel
@[simp] theorem kit_list_tuple : kitB "list" "tuple" = some false := by decide +kernel
@[simp] theorem kit_list_list : kitB "list" "list" = some true := by decide +kernel
@[simp] theorem kit_list_dict : kitB "list" "dict" = some false := by decide +kernel
@[simp] theorem kit_dict_bool : kitB "dict" "bool" = some false := by decide +kernel
@[simp] theorem kit_dict_int : kitB "dict" "int" = some false := by decide +kernel
@[simp] theorem kit_dict_str : kitB "dict" "str" = some false := by decide +kernel
@[simp] theorem kit_dict_tuple : kitB "dict" "tuple" = some false := by decide +kernel
@[simp] theorem kit_dict_list : kitB "dict" "list" = some false := by decide +kernel
@[simp] theorem kit_dict_dict : kitB "dict" "dict" = some true := by decide +kernel

@[simp] theorem oIs_non {b : Bool} {d : D} {M : Mem} : oIs b d .non M = some (.val (.bl (b != isNon d))) := rfl
@[simp] theorem oIs_bl {b c : Bool} {d : D} {M : Mem} : oIs b d (.bl c) M = some (.val (.bl (b != isBl c d))) := rfl
@[simp] theorem trD_bl {b : Bool} {M : Mem} : trD M (.bl b) = some b := rfl
@[simp] theorem ge_nat {n : Nat} : ((n : Int) < 0) = False := by simp

@[simp] theorem isNon_non : isNon .non = true := rfl
@[simp] theorem isNon_bl {b} : isNon (.bl b) = false := rfl
@[simp] theorem isNon_int {b} : isNon (.int b) = false := rfl
@[simp] theorem isNon_str {b} : isNon (.str b) = false := rfl
@[simp] theorem isNon_tup {b} : isNon (.tup b) = false := rfl
@[simp] theorem isNon_lst {b} : isNon (.lst b) = false := rfl
@[simp] theorem isNon_scr {b} : isNon (.scr b) = false := rfl
@[simp] theorem isNon_loc {b} : isNon (.loc b) = false := rfl
@[simp] theorem isBl_bl {b c} : isBl b (.bl c) = decide (c = b) := rfl
@[simp] theorem isBl_non {b} : isBl b .non = false := rfl
@[simp] theorem isBl_int {b c} : isBl b (.int c) = false := rfl
@[simp] theorem isBl_str {b c} : isBl b (.str c) = false := rfl
@[simp] theorem isBl_tup {b c} : isBl b (.tup c) = false := rfl
@[simp] theorem isBl_lst {b c} : isBl b (.lst c) = false := rfl
@[simp] theorem isBl_scr {b c} : isBl b (.scr c) = false := rfl
@[simp] theorem isBl_loc {b c} : isBl b (.loc c) = false := rfl
@[simp] theorem tyOf_non {M} : tyOf M .non = some "NoneType" := rfl
@[simp] theorem tyOf_bl {M b} : tyOf M (.bl b) = some "bool" := rfl
@[simp] theorem tyOf_int {M b} : tyOf M (.int b) = some "int" := rfl
@[simp] theorem tyOf_str {M b} : tyOf M (.str b) = some "str" := rfl
@[simp] theorem tyOf_tup {M b} : tyOf M (.tup b) = some "tuple" := rfl
@[simp] theorem tyOf_lst {M b} : tyOf M (.lst b) = some "list" := rfl
@[simp] theorem tyOf_scr {M b} : tyOf M (.scr b) = some "list" := rfl
theorem tyOf_loc {k : Nat} {M : Mem} {ds : List D} (h : M[k]? = some (.lst ds)) : tyOf M (.loc k) = some "list" := by
  show (match M[k]? with | some (.lst _) => some "list" | some (.dct _) => some "dict" | _ => none) = _
  rw [h]

@[simp] theorem wipeD_nil {ρ : Slots} : wipeD ρ [] = ρ := rfl
@[simp] theorem wipeD_cons {ρ : Slots} {v : Nat} {vs : List Nat} : wipeD ρ (v :: vs) = (wipeD ρ vs).set v none := rfl
@[simp] theorem tYesF_ap {ρ : Slots} {M : Mem} : tYesF ρ M = some (true, M) := rfl

@[simp] theorem filter_true {ds : List D} : ds.filter (fun _ => true) = ds := by simp

theorem guard_app {gk : Option Nat} {ds : List D} {M : Mem} (h : guard gk ds M) (x : O) : guard gk ds (M ++ [x]) := fun k e => by
  have := h k e
  rw [List.getElem?_append_left (List.getElem?_eq_some_iff.mp this).1]; exact this

/-! ### memories -/
@[simp] theorem get_app0 {M : Mem} {a : O} {A : Mem} : (M ++ a :: A)[M.length]? = some a := by
  rw [List.getElem?_append_right (Nat.le_refl _)]; simp
@[simp] theorem get_appj {M A : Mem} {j : Nat} : (M ++ A)[M.length + j]? = A[j]? := by
  rw [List.getElem?_append_right (Nat.le_add_right _ _)]; simp
theorem get_lt {M A : Mem} {k : Nat} (h : k < M.length) : (M ++ A)[k]? = M[k]? := List.getElem?_append_left h
theorem get_pre {M A : Mem} {k : Nat} {o : O} (h : M[k]? = some o) : (M ++ A)[k]? = some o := by
  rw [List.getElem?_append_left (List.getElem?_eq_some_iff.mp h).1]; exact h
@[simp] theorem set_app0 {M : Mem} {a b : O} {A : Mem} : (M ++ a :: A).set M.length b = M ++ b :: A := by
  rw [List.set_append_right _ _ (Nat.le_refl _)]; simp
@[simp] theorem set_appj {M A : Mem} {j : Nat} {b : O} : (M ++ A).set (M.length + j) b = M ++ A.set j b := by
  rw [List.set_append_right _ _ (Nat.le_add_right _ _)]; simp
@[simp] theorem take_app {M A : Mem} : (M ++ A).take M.length = M := by simp
@[simp] theorem take_appj {M A : Mem} {j : Nat} : (M ++ A).take (M.length + j) = M ++ A.take j := by
  rw [List.take_append, List.take_of_length_le (by omega), Nat.add_sub_cancel_left]
@[simp] theorem take_len {M : Mem} : M.take M.length = M := List.take_length
/-! ### what is trimmed -/
@[simp] theorem trimOk_refl {M : Mem} : trimOk M M := ⟨Nat.le_refl _, fun k o _ h => .inl h⟩
@[simp] theorem trimOk_app {M A : Mem} : trimOk M (M ++ A) := ⟨by simp, fun k o hk h => .inl (by rw [List.getElem?_append_left hk] at h; exact h)⟩
def trimC (n : Nat) : Mem → Mem → Prop
  | [], _ => True
  | o :: M, o' :: Me => (o' = o ∨ nlO n o' = true) ∧ trimC n M Me
  | _ :: _, [] => False
theorem trimC_len {n : Nat} : ∀ {M Me : Mem}, trimC n M Me → M.length ≤ Me.length
  | [], _, _ => Nat.zero_le _
  | _ :: M, _ :: Me, h => by simp; exact trimC_len h.2
theorem trimC_get {n : Nat} : ∀ {M Me : Mem}, trimC n M Me → ∀ {k : Nat} {o : O}, k < M.length → Me[k]? = some o → M[k]? = some o ∨ nlO n o = true
  | [], _, _, k, o, hk, _ => by simp at hk
  | a :: M, b :: Me, h, k, o, hk, q => by
    cases k with
    | zero =>
      simp at q
      subst q
      rcases h.1 with e | e
      · exact .inl (by rw [e]; rfl)
      · exact .inr e
    | succ k => simpa using trimC_get h.2 (k := k) (by simpa using hk) (by simpa using q)
theorem trimOk_C {M Me : Mem} (h : trimC M.length M Me) : trimOk M Me := ⟨trimC_len h, fun k o hk q => trimC_get h hk q⟩
theorem trimOk_C2 {M A B : Mem} (h : trimC (M.length + A.length) A B) : trimOk (M ++ A) (M ++ B) := by
  refine ⟨by simp; exact trimC_len h, fun k o hk q => ?_⟩
  by_cases hm : k < M.length
  · rw [List.getElem?_append_left hm] at q ⊢; exact .inl q
  · rw [List.getElem?_append_right (by omega)] at q ⊢
    rw [List.length_append] at hk ⊢
    exact trimC_get h (by omega) q
theorem trimOk_set {M Me : Mem} {k : Nat} {o : O} (h : trimOk M Me) (hn : k < M.length → nlO M.length o = true) : trimOk M (Me.set k o) := by
  refine ⟨by simp; exact h.1, fun j p hj q => ?_⟩
  by_cases e : j = k
  · subst e
    have : j < Me.length := Nat.lt_of_lt_of_le hj h.1
    rw [List.getElem?_set_self this] at q
    cases q
    exact .inr (hn hj)
  · rw [List.getElem?_set_ne (Ne.symm e)] at q
    exact h.2 j p hj q
@[simp] theorem nl_non {n} : nl n .non = true := rfl
@[simp] theorem nl_bl {n b} : nl n (.bl b) = true := rfl
@[simp] theorem nl_int {n i} : nl n (.int i) = true := rfl
@[simp] theorem nl_str {n i} : nl n (.str i) = true := rfl
@[simp] theorem nl_scr {n i} : nl n (.scr i) = true := rfl
@[simp] theorem nl_tup {n ds} : nl n (.tup ds) = nls n ds := by rw [nl]
@[simp] theorem nl_lst {n ds} : nl n (.lst ds) = nls n ds := by rw [nl]
@[simp] theorem nl_loc {n k} : nl n (.loc k) = decide (k < n) := by rw [nl]
@[simp] theorem nls_nil {n} : nls n [] = true := rfl
@[simp] theorem nls_cons {n d ds} : nls n (d :: ds) = (nl n d && nls n ds) := rfl
theorem nls_of {n : Nat} : ∀ {ds : List D}, (∀ d ∈ ds, nl n d = true) → nls n ds = true
  | [], _ => rfl
  | d :: ds, h => by rw [nls, h d List.mem_cons_self, nls_of fun e he => h e (List.mem_cons_of_mem _ he)]; rfl
@[simp] theorem nls_app {n : Nat} : ∀ {ds es : List D}, nls n (ds ++ es) = (nls n ds && nls n es)
  | [], _ => by simp
  | d :: ds, es => by rw [List.cons_append, nls_cons, nls_cons, nls_app, Bool.and_assoc]
theorem nls_map {α : Type} {n : Nat} {f : α → D} (h : ∀ x, nl n (f x) = true) (xs : List α) : nls n (xs.map f) = true := nls_of fun d hd => by
  obtain ⟨x, _, rfl⟩ := List.mem_map.mp hd; exact h x
@[simp] theorem nls_mp {α : Type} {n : Nat} {f : α → D} {xs : List α} (h : ∀ x, nl n (f x) = true) : nls n (xs.map f) = true := nls_map h xs
@[simp] theorem nlO_lst {n ds} : nlO n (.lst ds) = nls n ds := rfl
@[simp] theorem nlO_ins {n c fs} : nlO n (.ins c fs) = nlF n fs := rfl
@[simp] theorem nlO_dct {n fs} : nlO n (.dct fs) = nlK n fs := rfl
@[simp] theorem nlF_nil {n} : nlF n [] = true := rfl
@[simp] theorem nlF_cons {n f d fs} : nlF n ((f, d) :: fs) = (nl n d && nlF n fs) := rfl
@[simp] theorem nlK_nil {n} : nlK n [] = true := rfl
@[simp] theorem nlK_cons {n f d fs} : nlK n ((f, d) :: fs) = (nl n d && nlK n fs) := rfl
@[simp] theorem nlS_nil {n} : nlS n [] = true := rfl
@[simp] theorem nlS_none {n ρ} : nlS n (none :: ρ) = nlS n ρ := rfl
@[simp] theorem nlS_some {n d ρ} : nlS n (some d :: ρ) = (nl n d && nlS n ρ) := rfl
@[simp] theorem keepD_nil {ρ} : keepD [] ρ = ρ := by cases ρ <;> rfl
@[simp] theorem keepD_t {bs o ρ} : keepD (true :: bs) (o :: ρ) = o :: keepD bs ρ := rfl
@[simp] theorem keepD_f {bs o ρ} : keepD (false :: bs) (o :: ρ) = none :: keepD bs ρ := rfl
/-! ### the end of a def -/
section
variable {M Me G : Mem} {r : Rz}
theorem finK_same {r : Rz} : finK M r M = (r, M) := by
  unfold finK
  rw [if_pos trimOk_refl, List.take_length]
  cases r with
  | new ds => simp only; split <;> rfl
  | val d =>
    cases d with
    | loc k =>
      simp only
      split
      · rfl
      · rename_i h
        rw [List.getElem?_eq_none (by omega)]
    | _ => simp only; split <;> rfl
theorem finK_val {d : D} (t : trimOk M Me) (h : nl M.length d = true) : finK M (.val d) Me = (.val d, Me.take M.length) := by
  unfold finK
  rw [if_pos t]
  cases d with
  | loc k => rw [nl_loc] at h; simp only; rw [if_pos (of_decide_eq_true h)]
  | _ => simp only; rw [if_pos h]
theorem finK_new {ds : List D} (t : trimOk M Me) (h : nls M.length ds = true) : finK M (.new ds) Me = (.new ds, Me.take M.length) := by
  unfold finK
  rw [if_pos t]
  simp only
  rw [if_pos h]
theorem finK_loc {k : Nat} {ds : List D} (t : trimOk M Me) (hk : ¬ k < M.length) (hd : Me[k]? = some (.lst ds)) (h : nls M.length ds = true) : finK M (.val (.loc k)) Me = (.new ds, Me.take M.length) := by
  unfold finK
  rw [if_pos t]
  simp only
  rw [if_neg hk, hd]
  simp only
  rw [if_pos h]
@[simp] theorem finK_id {r : Rz} : finK M r M = (r, M) := finK_same
@[simp] theorem finK_appV {d : D} (h : nl M.length d = true) : finK M (.val d) (M ++ G) = (.val d, M) := by rw [finK_val trimOk_app h, take_app]
@[simp] theorem finK_appN {ds : List D} (h : nls M.length ds = true) : finK M (.new ds) (M ++ G) = (.new ds, M) := by rw [finK_new trimOk_app h, take_app]
@[simp] theorem finK_appL0 {ds : List D} (h : nls M.length ds = true) : finK M (.val (.loc M.length)) (M ++ .lst ds :: G) = (.new ds, M) := by
  rw [finK_loc trimOk_app (by omega) get_app0 h, take_app]
theorem finK_appL {j : Nat} {ds : List D} (hd : G[j]? = some (.lst ds)) (h : nls M.length ds = true) : finK M (.val (.loc (M.length + j))) (M ++ G) = (.new ds, M) := by
  rw [finK_loc trimOk_app (by omega) (by rw [get_appj]; exact hd) h, take_app]
@[simp] theorem finK_appL1 {a : O} {ds : List D} (h : nls M.length ds = true) : finK M (.val (.loc (M.length + 1))) (M ++ a :: .lst ds :: G) = (.new ds, M) := finK_appL rfl h
@[simp] theorem finK_appL2 {a b : O} {ds : List D} (h : nls M.length ds = true) : finK M (.val (.loc (M.length + 2))) (M ++ a :: b :: .lst ds :: G) = (.new ds, M) := finK_appL rfl h
end
noncomputable def fnOut (M : Mem) : Option (Fl × Slots × Mem) → Option (Rz × Mem)
  | some (.rt r, _, Me) => some (finK M r Me)
  | some (.nx, _, Me) => some (finK M (.val .non) Me)
  | _ => none
theorem mkFnK_eq {np ns : Nat} {body : Sf} {ds : List D} {M : Mem} : mkFnK np ns body ds M = if ds.length = np then fnOut M (body (ds.map some ++ List.replicate (ns - ds.length) none) M) else none := by
  unfold mkFnK fnOut
  split
  · split <;> simp_all
  · rfl
@[simp] theorem fnOut_rt {M Me : Mem} {r : Rz} {ρ : Slots} : fnOut M (some (.rt r, ρ, Me)) = some (finK M r Me) := rfl
@[simp] theorem fnOut_nx {M Me : Mem} {ρ : Slots} : fnOut M (some (.nx, ρ, Me)) = some (finK M (.val .non) Me) := rfl
@[simp] theorem fnOut_ite {M : Mem} {c : Prop} [Decidable c] {a b : Option (Fl × Slots × Mem)} : fnOut M (if c then a else b) = if c then fnOut M a else fnOut M b := by split <;> rfl
theorem fnOut_congr {M : Mem} {a b : Option (Fl × Slots × Mem)} (h : a = b) : fnOut M a = fnOut M b := by rw [h]
/-! ### a turn of a loop -/
section
variable {kl : List Bool} {M Me G : Mem} {ρ : Slots} {gk : Option Nat} {ds : List D} {g : Gf} {body : Sf} {d : D}
@[simp] theorem tidy_same : tidy kl M ρ M = (keepD kl ρ, M) := by
  unfold tidy
  rw [List.take_length]
  split <;> rfl
theorem tidy_trim (t : trimOk M Me) (h : nlS M.length (keepD kl ρ) = true) : tidy kl M ρ Me = (keepD kl ρ, Me.take M.length) := by
  unfold tidy
  rw [if_pos ⟨t, h⟩]
@[simp] theorem tidy_app (h : nlS M.length (keepD kl ρ) = true) : tidy kl M ρ (M ++ G) = (keepD kl ρ, M) := by rw [tidy_trim trimOk_app h, take_app]
noncomputable def stpOut (kl : List Bool) (gk : Option Nat) (ds : List D) (M : Mem) (q : Fl × Slots × Mem) : Option (Fl × Slots × Mem) := open Classical in
  if q.1.goes = true then (if guard gk ds (tidy kl M q.2.1 q.2.2).2 then some (q.1, tidy kl M q.2.1 q.2.2) else none) else some (match q.1 with
  | .rt r => (.rt r, [], q.2.2)
  | _ => q)
noncomputable def stpK1 (kl : List Bool) (gk : Option Nat) (ds : List D) (body : Sf) (M : Mem) (p : Slots × Mem) : Option (Fl × Slots × Mem) := (body p.1 p.2).bind (stpOut kl gk ds M)
@[simp] theorem stpK_ap : stpK kl gk ds g body d ρ M = bnd (stpK1 kl gk ds body M) (g d ρ M) := rfl
@[simp] theorem stpK1_ap {M2 : Mem} : stpK1 kl gk ds body M (ρ, M2) = bnd (stpOut kl gk ds M) (body ρ M2) := rfl
@[simp] theorem stpOut_nx : stpOut kl none ds M (.nx, ρ, Me) = some (.nx, tidy kl M ρ Me) := by
  show (if (true = true) then _ else _) = _
  rw [if_pos rfl, if_pos (by simp)]
@[simp] theorem stpOut_ct : stpOut kl none ds M (.ct, ρ, Me) = some (.ct, tidy kl M ρ Me) := by
  show (if (true = true) then _ else _) = _
  rw [if_pos rfl, if_pos (by simp)]
@[simp] theorem stpOut_bk : stpOut kl gk ds M (.bk, ρ, Me) = some (.bk, ρ, Me) := rfl
@[simp] theorem stpOut_rt {r : Rz} : stpOut kl gk ds M (.rt r, ρ, Me) = some (.rt r, [], Me) := rfl
theorem stpOut_nxL {k : Nat} (h : (tidy kl M ρ Me).2[k]? = some (.lst ds)) : stpOut kl (some k) ds M (.nx, ρ, Me) = some (.nx, tidy kl M ρ Me) := by
  show (if (true = true) then _ else _) = _
  rw [if_pos rfl, if_pos (show guard _ _ _ from fun j e => by cases e; exact h)]
theorem stpOut_ctL {k : Nat} (h : (tidy kl M ρ Me).2[k]? = some (.lst ds)) : stpOut kl (some k) ds M (.ct, ρ, Me) = some (.ct, tidy kl M ρ Me) := by
  show (if (true = true) then _ else _) = _
  rw [if_pos rfl, if_pos (show guard _ _ _ from fun j e => by cases e; exact h)]
@[simp] theorem gkOf_lst {ds} : gkOf (.lst ds) = none := rfl
@[simp] theorem gkOf_tup {ds} : gkOf (.tup ds) = none := rfl
@[simp] theorem gkOf_scr {ds} : gkOf (.scr ds) = none := rfl
@[simp] theorem gkOf_loc {k} : gkOf (.loc k) = some k := rfl
end
/-! ### loops over typed items -/
theorem loop_fold {α σ : Type} {step : Stp} (e : α → D) (S : σ → Slots) (N : σ → Mem) (f : σ → α → σ) (I : List α → σ → Prop)
    (hs : ∀ x xs s, I (x :: xs) s → (∃ fl : Fl, fl.goes = true ∧ step (e x) (S s) (N s) = some (fl, S (f s x), N (f s x))) ∧ I xs (f s x)) :
    ∀ xs s, I xs s → loopF step (xs.map e) (S s) (N s) = some (.nx, S (xs.foldl f s), N (xs.foldl f s))
  | [], s, _ => rfl
  | x :: xs, s, h => by
    obtain ⟨⟨fl, hf, h1⟩, h2⟩ := hs x xs s h
    have ih := loop_fold e S N f I hs xs (f s x) h2
    rw [List.map_cons, List.foldl_cons]
    unfold loopF
    rw [h1]
    cases fl with
    | nx => exact ih
    | ct => exact ih
    | bk => cases hf
    | rt r => cases hf
/-- a step that may return -/
theorem loop_exit {α σ β : Type} {step : Stp} (e : α → D) (S : σ → Slots) (N : σ → Mem) (R : β → Rz) (NB : β → Mem) (f : σ → α → Except β σ) (I : List α → σ → Prop)
    (hs : ∀ x xs s, I (x :: xs) s → (∀ s', f s x = .ok s' → (∃ fl : Fl, fl.goes = true ∧ step (e x) (S s) (N s) = some (fl, S s', N s')) ∧ I xs s') ∧ (∀ b, f s x = .error b → step (e x) (S s) (N s) = some (.rt (R b), [], NB b))) :
    ∀ xs s, I xs s → loopF step (xs.map e) (S s) (N s) = (match xs.foldlM f s with
      | .ok s' => some (.nx, S s', N s')
      | .error b => some (.rt (R b), [], NB b))
  | [], s, _ => rfl
  | x :: xs, s, h => by
    obtain ⟨h1, h2⟩ := hs x xs s h
    rw [List.map_cons, List.foldlM_cons]
    unfold loopF
    cases q : f s x with
    | error b =>
      rw [h2 b q]
      rfl
    | ok s' =>
      obtain ⟨⟨fl, hf, h3⟩, h4⟩ := h1 s' q
      have ih := loop_exit e S N R NB f I hs xs s' h4
      rw [h3]
      cases fl with
      | nx => exact ih
      | ct => exact ih
      | bk => cases hf
      | rt r => cases hf
theorem rgD_map {lo : Int} {n : Nat} : rgD lo n = (List.range n).map fun (i : Nat) => D.int (lo + i) := rfl
/-! ### comprehensions over typed items -/
def elemF (g : Gf) (tt : Tf) (te : Ef) (ρw : Slots) (d : D) (M : Mem) : Option (Option D × Mem) := (g d ρw M).bind fun p => (tt p.1 p.2).bind fun b => if b.1 = true then (te p.1 b.2).bind fun r => some (some r.1.d, r.2) else some (none, b.2)
def elem3 (r : Rz × Mem) : Option (Option D × Mem) := some (some r.1.d, r.2)
def elem2 (te : Ef) (ρ : Slots) (b : Bool × Mem) : Option (Option D × Mem) := if b.1 = true then (te ρ b.2).bind elem3 else some (none, b.2)
def elem1 (tt : Tf) (te : Ef) (p : Slots × Mem) : Option (Option D × Mem) := (tt p.1 p.2).bind (elem2 te p.1)
@[simp] theorem elemF_ap {g : Gf} {tt : Tf} {te : Ef} {ρw : Slots} {d : D} {M : Mem} : elemF g tt te ρw d M = bnd (elem1 tt te) (g d ρw M) := rfl
@[simp] theorem elem1_ap {tt : Tf} {te : Ef} {ρ : Slots} {M : Mem} : elem1 tt te (ρ, M) = bnd (elem2 te ρ) (tt ρ M) := rfl
@[simp] theorem elem2_ap {te : Ef} {ρ : Slots} {b : Bool} {M : Mem} : elem2 te ρ (b, M) = if b = true then bnd elem3 (te ρ M) else some (none, M) := rfl
@[simp] theorem elem3_ap {r : Rz} {M : Mem} : elem3 (r, M) = some (some r.d, M) := rfl
theorem lcF_ty {α : Type} {g : Gf} {tt : Tf} {te : Ef} {ρw : Slots} {M : Mem} {gk : Option Nat} {ds0 : List D} (e : α → D) (q : α → Option D) (hgd : ∀ x : O, guard gk ds0 (M ++ [x])) : ∀ (xs : List α) (acc : List D), acc.length + xs.length ≤ 16777216 →
    (∀ x ∈ xs, ∀ acc, elemF g tt te ρw (e x) (M ++ [.lst acc]) = some (q x, M ++ [.lst acc])) →
    lcF g tt te ρw M.length gk ds0 (xs.map e) (M ++ [.lst acc]) = some (M ++ [.lst (acc ++ xs.filterMap q)])
  | [], acc, _, _ => by rw [List.map_nil]; unfold lcF; simp
  | x :: xs, acc, hl, hd => by
    have h1 := hd x List.mem_cons_self acc
    have ih := fun acc' hl' => lcF_ty e q hgd xs acc' hl' fun d' h' => hd d' (List.mem_cons_of_mem _ h')
    rw [List.map_cons]
    unfold lcF
    unfold elemF at h1
    cases eg : g (e x) ρw (M ++ [.lst acc]) with
    | none => rw [eg] at h1; cases h1
    | some p =>
      rw [eg] at h1
      simp only [Option.bind_some] at h1 ⊢
      cases et : tt p.1 p.2 with
      | none => rw [et] at h1; cases h1
      | some b =>
        rw [et] at h1
        simp only [Option.bind_some] at h1 ⊢
        by_cases hb : b.1 = true
        · rw [if_pos hb] at h1 ⊢
          cases ev : te p.1 b.2 with
          | none => rw [ev] at h1; cases h1
          | some r =>
            rw [ev] at h1
            simp only [Option.bind_some, Option.some.injEq, Prod.mk.injEq] at h1 ⊢
            obtain ⟨h2, h3⟩ := h1
            rw [h3, get_end]
            simp only
            have hz : acc.length < sizeLine := by rw [line_lt]; simp at hl; omega
            rw [if_pos hz, set_end, if_pos (hgd _), ih _ (by simp at hl ⊢; omega), List.filterMap_cons, ← h2]
            simp
        · rw [if_neg hb] at h1 ⊢
          simp only [Option.some.injEq, Prod.mk.injEq] at h1
          obtain ⟨h2, h3⟩ := h1
          rw [h3, if_pos (hgd _), ih _ (by simp at hl ⊢; omega), List.filterMap_cons, ← h2]
theorem cLc_ty {α : Type} {it : If} {vs : List Nat} {g : Gf} {tt : Tf} {te : Ef} {ρ : Slots} {M : Mem} {gk : Option Nat} (e : α → D) (q : α → Option D) (xs : List α) (hi : it ρ M = some (xs.map e, gk, M)) (hgd : guard gk (xs.map e) M) (hl : xs.length ≤ 16777216)
    (hd : ∀ x ∈ xs, ∀ acc, elemF g tt te (wipeD ρ vs) (e x) (M ++ [.lst acc]) = some (q x, M ++ [.lst acc]))
    (hn : ∀ x ∈ xs, ∀ y, q x = some y → nl M.length y = true) : cLc it vs g tt te ρ M = some (.new (xs.filterMap q), M) := by
  unfold cLc
  rw [hi]
  simp only [Option.bind_some]
  rw [lcF_ty e q (guard_app hgd) xs [] (by simpa using hl) hd]
  simp only [Option.bind_some, List.nil_append]
  rw [get_end]
  simp only
  rw [if_pos]
  · simp
  · refine ⟨by simp, .inl (by simp), nls_of fun y hy => ?_⟩
    obtain ⟨x, hx, hq⟩ := List.mem_filterMap.mp hy
    exact hn x hx y hq
theorem fm_map {α : Type} {xs : List α} {h : α → D} : xs.filterMap (fun x => some (h x)) = xs.map h := by
  induction xs <;> simp [*]
theorem fm_ite {α : Type} {xs : List α} {p : α → Bool} {h : α → D} : xs.filterMap (fun x => if p x = true then some (h x) else none) = (xs.filter p).map h := by
  induction xs with
  | nil => rfl
  | cons x xs ih =>
    rw [List.filterMap_cons, List.filter_cons]
    cases p x <;> simp [ih]
/-! ### methods of lists -/
@[simp] theorem oAppend_ap {k : Nat} {x : D} {M : Mem} : oAppend (.loc k) [x] M = (match M[k]? with
    | some (.lst es) => if es.length < sizeLine then some (.val .non, M.set k (.lst (es ++ [x]))) else none
    | _ => none) := rfl
theorem asS_locE {k : Nat} {M : Mem} : asS M (.loc k) = (match M[k]? with | some (.lst ds) => some ds | _ => none) := rfl
theorem tyOf_locE {k : Nat} {M : Mem} : tyOf M (.loc k) = (match M[k]? with | some (.lst _) => some "list" | some (.dct _) => some "dict" | _ => none) := rfl
theorem oLen_locE {k : Nat} {M : Mem} : oLen [.loc k] M = (asS M (.loc k)).bind fun es => some (.val (.int es.length)) := rfl


/-- data to a depth -/
def plD : Nat → D → Bool
  | 0, _ => false
  | n + 1, d => match d with
    | .tup ds => decide (ds.length < 10000) && ds.all (plD n)
    | .lst ds => decide (ds.length < 10000) && ds.all (plD n)
    | .scr _ => false
    | .loc _ => false
    | _ => true
theorem plD_tup {n : Nat} {ds : List D} : plD (n + 1) (.tup ds) = (decide (ds.length < 10000) && ds.all (plD n)) := rfl
theorem plD_lst {n : Nat} {ds : List D} : plD (n + 1) (.lst ds) = (decide (ds.length < 10000) && ds.all (plD n)) := rfl
theorem plD_int {n : Nat} {i : Int} : plD (n + 1) (.int i) = true := rfl
theorem plD_ints {n : Nat} {l : List Int} : (l.map D.int).all (plD (n + 1)) = true := by
  rw [List.all_eq_true]; intro x hx
  obtain ⟨i, _, rfl⟩ := List.mem_map.mp hx; rfl

/-- None or an int -/
def stD : Option Int → D
  | none => .non
  | some i => .int i
@[simp] theorem nl_stD {n : Nat} {s : Option Int} : nl n (stD s) = true := by cases s <;> simp [stD, nl]
theorem eqB_st (a b : Option Int) (M : Mem) : eqB M (stD a) (stD b) = some (decide (a = b)) := by
  cases a with
  | none =>
    cases b with
    | none => simp [stD, eqB, py, py0, PyData.eqv]; decide
    | some j => simp [stD, eqB, py, py0, PyData.eqv]; exact ⟨by decide, rfl⟩
  | some i =>
    cases b with
    | none => simp [stD, eqB, py, py0, PyData.eqv]; exact ⟨rfl, by decide⟩
    | some j => simp [stD, eqB]
theorem oEq_st (a b : Option Int) (M : Mem) : oEq (stD a) (stD b) M = some (.val (.bl (decide (a = b)))) := by
  unfold oEq; rw [eqB_st]; rfl
@[simp] theorem isNon_st {s : Option Int} : isNon (stD s) = s.isNone := by cases s <;> rfl

end CI

/-! N18: more methods of lists -/
namespace CI
open PySem PySem.Spec PyProof.Rows L2
def oPop : Mop := fun d ds M => match d, ds with
  | .loc k, [] => match M[k]? with
    | some (.lst es) => (es[es.length - 1]?).bind fun y => some (.val y, M.set k (.lst es.dropLast))
    | _ => none
  | _, _ => none
def oPopAt : Mop := fun d ds M => match d, ds with
  | .loc k, [.int i] => match M[k]? with
    | some (.lst es) => if -(2 ^ 63) ≤ i ∧ i < 2 ^ 63 then (seqIndex? i es.length).bind fun j => (es[j]?).bind fun y => some (.val y, M.set k (.lst (es.eraseIdx j))) else none
    | _ => none
  | _, _ => none
def oInsert : Mop := fun d ds M => match d, ds with
  | .loc k, [.int i, y] => match M[k]? with
    | some (.lst es) => if es.length < sizeLine ∧ 0 ≤ i ∧ i < 2 ^ 63 then some (.val .non, M.set k (.lst (es.take i.toNat ++ y :: es.drop i.toNat))) else none
    | _ => none
  | _, _ => none
def oReverse : Mop := fun d ds M => match d, ds with
  | .loc k, [] => match M[k]? with
    | some (.lst es) => some (.val .non, M.set k (.lst es.reverse))
    | _ => none
  | _, _ => none
section
variable {K : PySem.W.Frag} {H : Hp} {m : List Addr}
theorem Rls.dropLast : ∀ {ds : List D} {vs : List V}, Rls K H m ds vs → Rls K H m ds.dropLast vs.dropLast
  | ds, vs, h => by rw [List.dropLast_eq_take, List.dropLast_eq_take, ← h.length]; exact h.take _
theorem Rls.snoc {ds : List D} {vs : List V} {d : D} {v : V} (h : Rls K H m ds vs) (r : Rl K H m d v) : Rls K H m (d :: ds) (v :: vs) := by
  rw [Rls]; exact ⟨v, vs, rfl, r, h⟩
theorem Rls.reverse : ∀ {ds : List D} {vs : List V}, Rls K H m ds vs → Rls K H m ds.reverse vs.reverse
  | [], _, h => by rw [rls_nil h]; rw [List.reverse_nil, List.reverse_nil, Rls]
  | d :: ds, _, h => by
    rw [Rls] at h
    obtain ⟨v, r, rfl, h1, h2⟩ := h
    rw [List.reverse_cons, List.reverse_cons]
    exact (Rls.reverse h2).append (by rw [Rls]; exact ⟨v, [], rfl, h1, by rw [Rls]⟩)
end
section
variable {X : Cx}
theorem ok_pop : MtOk X "list" "list.pop" oPop := by
  refine ⟨_, mt_pop, fun H m M d ds x xs z M' Q w rd rds ho P => ?_⟩
  unfold oPop at ho
  split at ho
  · rename_i k
    split at ho
    · rename_i es hk
      cases q : es[es.length - 1]? with
      | none => rw [q] at ho; cases ho
      | some y =>
        rw [q] at ho
        cases ho
        rw [Rl] at rd
        obtain ⟨a, rfl, ha⟩ := rd
        obtain ⟨b, hb, vs, h1, h2⟩ := w.get hk
        rw [ha] at hb; cases hb
        obtain ⟨v, hv, rv⟩ := h2.get q
        have e := w.ext_set (K := X.K) (u := .lst vs.dropLast) ha
        exact ⟨a, vs, v, rfl, rls_nil rds, h1, by rw [← h2.length]; exact hv, P.set w ha ⟨_, upd_same, (h2.ext e).dropLast⟩ (rv.ext e)⟩
    · cases ho
  · cases ho
theorem ok_popAt : MtOk X "list" "list.pop" oPopAt := by
  refine ⟨_, mt_popAt, fun H m M d ds x xs z M' Q w rd rds ho P => ?_⟩
  unfold oPopAt at ho
  split at ho
  · rename_i k i
    split at ho
    · rename_i es hk
      split at ho
      · rename_i hi
        cases q0 : seqIndex? i es.length with
        | none => rw [q0] at ho; cases ho
        | some j =>
          rw [q0] at ho
          simp only [Option.bind_some] at ho
          cases q : es[j]? with
          | none => rw [q] at ho; cases ho
          | some y =>
            rw [q] at ho
            cases ho
            rw [Rl] at rd
            obtain ⟨a, rfl, ha⟩ := rd
            obtain ⟨b, hb, vs, h1, h2⟩ := w.get hk
            rw [ha] at hb; cases hb
            obtain ⟨v, hv, rv⟩ := h2.get q
            obtain ⟨u, rfl, ru⟩ := rds.one
            rw [Rl] at ru; subst ru
            have e := w.ext_set (K := X.K) (u := .lst (vs.eraseIdx j)) ha
            exact ⟨a, vs, i, j, v, rfl, rfl, h1, hi.1, hi.2, by rw [← h2.length]; exact q0, hv, P.set w ha ⟨_, upd_same, (h2.ext e).eraseIdx j⟩ (rv.ext e)⟩
      · cases ho
    · cases ho
  · cases ho
theorem ok_insert : MtOk X "list" "list.insert" oInsert := by
  refine ⟨_, mt_insert, fun H m M d ds x xs z M' Q w rd rds ho P => ?_⟩
  unfold oInsert at ho
  split at ho
  · rename_i k i y
    split at ho
    · rename_i es hk
      split at ho
      · rename_i hi
        cases ho
        rw [Rl] at rd
        obtain ⟨a, rfl, ha⟩ := rd
        obtain ⟨b, hb, vs, h1, h2⟩ := w.get hk
        rw [ha] at hb; cases hb
        obtain ⟨u, v, rfl, ru, rv⟩ := rds.two
        rw [Rl] at ru; subst ru
        have eq : vs.take i.toNat ++ [v] ++ vs.drop i.toNat = vs.take i.toNat ++ v :: vs.drop i.toNat := by simp
        have e := w.ext_set (K := X.K) (u := .lst (vs.take i.toNat ++ v :: vs.drop i.toNat)) ha
        refine ⟨a, vs, i, v, rfl, rfl, h1, by rw [← h2.length]; exact hi.1, hi.2.1, hi.2.2, ?_⟩
        rw [eq]
        exact P.set w ha ⟨_, upd_same, ((h2.ext e).take _).append (((h2.ext e).drop _).snoc (rv.ext e))⟩ rl_non
      · cases ho
    · cases ho
  · cases ho
theorem ok_reverse : MtOk X "list" "list.reverse" oReverse := by
  refine ⟨_, mt_reverse, fun H m M d ds x xs z M' Q w rd rds ho P => ?_⟩
  unfold oReverse at ho
  split at ho
  · rename_i k
    split at ho
    · rename_i es hk
      cases ho
      rw [Rl] at rd
      obtain ⟨a, rfl, ha⟩ := rd
      obtain ⟨b, hb, vs, h1, h2⟩ := w.get hk
      rw [ha] at hb; cases hb
      have e := w.ext_set (K := X.K) (u := .lst vs.reverse) ha
      exact ⟨a, vs, rfl, rls_nil rds, h1, P.set w ha ⟨_, upd_same, (h2.ext e).reverse⟩ rl_non⟩
    · cases ho
  · cases ho
end
section
variable {k : Nat} {M : Mem} {i : Int} {y : D}
@[simp] theorem oPop_ap : oPop (.loc k) [] M = (match M[k]? with
    | some (.lst es) => (es[es.length - 1]?).bind fun y => some (.val y, M.set k (.lst es.dropLast))
    | _ => none) := rfl
@[simp] theorem oPopAt_ap : oPopAt (.loc k) [.int i] M = (match M[k]? with
    | some (.lst es) => if -(2 ^ 63) ≤ i ∧ i < 2 ^ 63 then (seqIndex? i es.length).bind fun j => (es[j]?).bind fun y => some (.val y, M.set k (.lst (es.eraseIdx j))) else none
    | _ => none) := rfl
@[simp] theorem oInsert_ap : oInsert (.loc k) [.int i, y] M = (match M[k]? with
    | some (.lst es) => if es.length < sizeLine ∧ 0 ≤ i ∧ i < 2 ^ 63 then some (.val .non, M.set k (.lst (es.take i.toNat ++ y :: es.drop i.toNat))) else none
    | _ => none) := rfl
@[simp] theorem oReverse_ap : oReverse (.loc k) [] M = (match M[k]? with
    | some (.lst es) => some (.val .non, M.set k (.lst es.reverse))
    | _ => none) := rfl
end
end CI

/-! N19: memories with a part at the end; places in lists; typed items -/
namespace CI
open PySem PySem.Spec PyProof.Rows L2
def tyO : Option O → Option String
  | some (.lst _) => some "list"
  | some (.dct _) => some "dict"
  | _ => none
@[simp] theorem tyOf_loc' {k : Nat} {M : Mem} : tyOf M (.loc k) = tyO M[k]? := by
  show (match M[k]? with | some (.lst _) => some "list" | some (.dct _) => some "dict" | _ => none) = _
  cases M[k]? with
  | none => rfl
  | some o => cases o <;> rfl
@[simp] theorem tyO_lst {ds} : tyO (some (.lst ds)) = some "list" := rfl
@[simp] theorem tyO_dct {ds} : tyO (some (.dct ds)) = some "dict" := rfl
def lsO : Option O → Option (List D)
  | some (.lst ds) => some ds
  | _ => none
@[simp] theorem asS_loc' {k : Nat} {M : Mem} : asS M (.loc k) = lsO M[k]? := by
  show (match M[k]? with | some (.lst ds) => some ds | _ => none) = _
  cases M[k]? with
  | none => rfl
  | some o => cases o <;> rfl
@[simp] theorem lsO_lst {ds} : lsO (some (.lst ds)) = some ds := rfl
@[simp] theorem asL_loc' {k : Nat} {M : Mem} : asL M (.loc k) = lsO M[k]? := asS_loc'
def lenO (ds : List D) : Option Rz := some (.val (.int ds.length))
@[simp] theorem lenO_ap {ds} : lenO ds = some (.val (.int ds.length)) := rfl
@[simp] theorem oLen_loc' {k : Nat} {M : Mem} : oLen [.loc k] M = bnd lenO (lsO M[k]?) := by
  show ((asS M (.loc k)).bind fun es => some (Rz.val (.int es.length))) = _
  rw [asS_loc']; rfl
section
variable {kl : List Bool} {M A B : Mem} {ρ : Slots}
theorem tidy_C2 (t : trimC (M.length + A.length) A B) (h : nlS (M.length + A.length) (keepD kl ρ) = true) : tidy kl (M ++ A) ρ (M ++ B) = (keepD kl ρ, M ++ B.take A.length) := by
  rw [tidy_trim (trimOk_C2 t) (by rw [List.length_append]; exact h), List.length_append, take_appj]
theorem tidy_C (t : trimC A.length A B) (h : nlS A.length (keepD kl ρ) = true) : tidy kl A ρ B = (keepD kl ρ, B.take A.length) := tidy_trim (trimOk_C t) h
@[simp] theorem tidy_a1 {a a' : O} (t : a' = a ∨ nlO (M.length + 1) a' = true) (h : nlS (M.length + 1) (keepD kl ρ) = true) : tidy kl (M ++ [a]) ρ (M ++ a' :: B) = (keepD kl ρ, M ++ [a']) := tidy_C2 (A := [a]) ⟨t, trivial⟩ h
@[simp] theorem tidy_a2 {a a' b b' : O} (t : a' = a ∨ nlO (M.length + 2) a' = true) (t2 : b' = b ∨ nlO (M.length + 2) b' = true) (h : nlS (M.length + 2) (keepD kl ρ) = true) : tidy kl (M ++ [a, b]) ρ (M ++ a' :: b' :: B) = (keepD kl ρ, M ++ [a', b']) := tidy_C2 (A := [a, b]) ⟨t, t2, trivial⟩ h
@[simp] theorem tidy_a3 {a a' b b' c c' : O} (t : a' = a ∨ nlO (M.length + 3) a' = true) (t2 : b' = b ∨ nlO (M.length + 3) b' = true) (t3 : c' = c ∨ nlO (M.length + 3) c' = true) (h : nlS (M.length + 3) (keepD kl ρ) = true) : tidy kl (M ++ [a, b, c]) ρ (M ++ a' :: b' :: c' :: B) = (keepD kl ρ, M ++ [a', b', c']) := tidy_C2 (A := [a, b, c]) ⟨t, t2, t3, trivial⟩ h
@[simp] theorem trimC_nil {n} {B} : trimC n [] B = True := rfl
@[simp] theorem trimC_cons {n a b} {A B} : trimC n (a :: A) (b :: B) = ((b = a ∨ nlO n b = true) ∧ trimC n A B) := rfl
end
/-! ### places -/
theorem at_nat {α : Type} {xs : List α} {i : Int} (h0 : 0 ≤ i) : L2.atI xs i = xs[i.toNat]? := by
  unfold L2.atI
  by_cases h : i < xs.length
  · have : ixN xs.length i = some i.toNat := by unfold ixN; split <;> (try split) <;> first | rfl | omega | simp_all
    rw [this]; rfl
  · have e : xs[i.toNat]? = none := List.getElem?_eq_none (by omega)
    have : ixN xs.length i = none := by unfold ixN; split <;> (try split) <;> first | rfl | omega | simp_all
    rw [this, e]; rfl
theorem at_neg {α : Type} {xs : List α} {i : Int} (h0 : i < 0) (h1 : -(xs.length : Int) ≤ i) : L2.atI xs i = xs[(i + xs.length).toNat]? := by
  unfold L2.atI
  have : ixN xs.length i = some (i + xs.length).toNat := by unfold ixN; split <;> (try split) <;> first | rfl | omega | simp_all
  rw [this]; rfl
theorem at_map {α : Type} {xs : List α} {f : α → D} {i : Int} : L2.atI (xs.map f) i = (L2.atI xs i).map f := by
  unfold L2.atI
  rw [List.length_map]
  cases ixN xs.length i with
  | none => rfl
  | some j => simp
def ixO (o : Option D) : Option Rz := o.bind fun x => some (.val x)
@[simp] theorem ixO_some {x : D} : ixO (some x) = some (.val x) := rfl
@[simp] theorem oIx_tup {ds : List D} {i : Int} {M : Mem} : oIx (.tup ds) (.int i) M = ixO (L2.atI ds i) := rfl
@[simp] theorem oIx_lst {ds : List D} {i : Int} {M : Mem} : oIx (.lst ds) (.int i) M = ixO (L2.atI ds i) := rfl
@[simp] theorem oIx_scr {ns : List Int} {i : Int} {M : Mem} : oIx (.scr ns) (.int i) M = ixO (L2.atI (ns.map D.int) i) := rfl
def ixL (i : Int) (ds : List D) : Option Rz := ixO (L2.atI ds i)
@[simp] theorem ixL_ap {i ds} : ixL i ds = ixO (L2.atI ds i) := rfl
@[simp] theorem oIx_loc {k : Nat} {i : Int} {M : Mem} : oIx (.loc k) (.int i) M = bnd (ixL i) (lsO M[k]?) := by
  show ((asS M (.loc k)).bind fun ds => (L2.atI ds i).bind fun x => some (Rz.val x)) = _
  rw [asS_loc']; rfl
@[simp] theorem atI_0 {α : Type} {x : α} {xs : List α} : L2.atI (x :: xs) 0 = some x := by rw [at_nat (by omega)]; rfl
@[simp] theorem atI_1 {α : Type} {x y : α} {xs : List α} : L2.atI (x :: y :: xs) 1 = some y := by rw [at_nat (by omega)]; rfl
@[simp] theorem atI_2 {α : Type} {x y z : α} {xs : List α} : L2.atI (x :: y :: z :: xs) 2 = some z := by rw [at_nat (by omega)]; rfl
@[simp] theorem atI_3 {α : Type} {x y z u : α} {xs : List α} : L2.atI (x :: y :: z :: u :: xs) 3 = some u := by rw [at_nat (by omega)]; rfl
@[simp] theorem atI_4 {α : Type} {x y z u v : α} {xs : List α} : L2.atI (x :: y :: z :: u :: v :: xs) 4 = some v := by rw [at_nat (by omega)]; rfl
@[simp] theorem atI_5 {α : Type} {x y z u v w : α} {xs : List α} : L2.atI (x :: y :: z :: u :: v :: w :: xs) 5 = some w := by rw [at_nat (by omega)]; rfl
/-! ### slices -/
def cutL {α : Type} (xs : List α) (lo hi : Option Int) : List α := (xs.drop (HT.sIx xs.length 0 lo)).take (HT.sIx xs.length xs.length hi - HT.sIx xs.length 0 lo)
@[simp] theorem cutD_map {α : Type} {xs : List α} {f : α → D} {lo hi : Option Int} : cutD (xs.map f) lo hi = (cutL xs lo hi).map f := by
  unfold cutD cutL
  rw [List.length_map, List.map_take, List.map_drop]
@[simp] theorem oSl_tup {ds : List D} {lo hi : Option Int} {M : Mem} : oSl lo hi (.tup ds) M = some (.val (.tup (cutD ds lo hi))) := rfl
@[simp] theorem oSl_lst {ds : List D} {lo hi : Option Int} {M : Mem} : oSl lo hi (.lst ds) M = some (.new (cutD ds lo hi)) := rfl
@[simp] theorem oSl_scr {ns : List Int} {lo hi : Option Int} {M : Mem} : oSl lo hi (.scr ns) M = some (.new ((cutL ns lo hi).map .int)) := by
  rw [← cutD_map]; rfl
def slL (lo hi : Option Int) (ds : List D) : Option Rz := some (.new (cutD ds lo hi))
@[simp] theorem slL_ap {lo hi ds} : slL lo hi ds = some (.new (cutD ds lo hi)) := rfl
@[simp] theorem oSl_loc {k : Nat} {lo hi : Option Int} {M : Mem} : oSl lo hi (.loc k) M = bnd (slL lo hi) (lsO M[k]?) := by
  show ((asL M (.loc k)).bind fun ds => some (Rz.new (cutD ds lo hi))) = _
  rw [asL_loc']; rfl
theorem cutL_len {α : Type} {xs : List α} {lo hi : Option Int} : (cutL xs lo hi).length ≤ xs.length := by unfold cutL; simp; omega
section
variable {α : Type} {xs : List α} {a b : Int}
theorem cutL_hi (h : 0 ≤ b) : cutL xs none (some b) = xs.take b.toNat := by
  show (xs.drop 0).take ((if b < 0 then (b + (xs.length : Int)).toNat else min b.toNat xs.length) - 0) = _
  rw [if_neg (by omega), List.drop_zero, Nat.sub_zero]
  by_cases q : b.toNat ≤ xs.length
  · rw [Nat.min_eq_left q]
  · rw [Nat.min_eq_right (by omega), List.take_length, List.take_of_length_le (by omega)]
theorem cutL_lo (h : 0 ≤ a) : cutL xs (some a) none = xs.drop a.toNat := by
  show (xs.drop (if a < 0 then (a + (xs.length : Int)).toNat else min a.toNat xs.length)).take (xs.length - (if a < 0 then (a + (xs.length : Int)).toNat else min a.toNat xs.length)) = _
  rw [if_neg (by omega)]
  by_cases q : a.toNat ≤ xs.length
  · rw [Nat.min_eq_left q, List.take_of_length_le (by simp)]
  · rw [Nat.min_eq_right (by omega), List.drop_length, List.drop_of_length_le (by omega), List.take_nil]
theorem cutL_mid (h : 0 ≤ a) (h2 : 0 ≤ b) : cutL xs (some a) (some b) = (xs.take b.toNat).drop a.toNat := by
  show (xs.drop (if a < 0 then (a + (xs.length : Int)).toNat else min a.toNat xs.length)).take ((if b < 0 then (b + (xs.length : Int)).toNat else min b.toNat xs.length) - (if a < 0 then (a + (xs.length : Int)).toNat else min a.toNat xs.length)) = _
  rw [if_neg (by omega), if_neg (by omega), List.drop_take]
  by_cases q : a.toNat ≤ xs.length
  · rw [Nat.min_eq_left q]
    by_cases q2 : b.toNat ≤ xs.length
    · rw [Nat.min_eq_left q2]
    · rw [Nat.min_eq_right (by omega)]
      rw [List.take_of_length_le (by simp), List.take_of_length_le (by simp; omega)]
  · rw [Nat.min_eq_right (a := a.toNat) (b := xs.length) (by omega), List.drop_length, List.drop_of_length_le (by omega), List.take_nil, List.take_nil]
theorem cutL_last (n : Nat) (hn : 0 < n) : cutL xs (some (-(n : Int))) none = xs.drop (xs.length - n) := by
  show (xs.drop (if -(n : Int) < 0 then (-(n : Int) + (xs.length : Int)).toNat else min (-(n : Int)).toNat xs.length)).take (xs.length - (if -(n : Int) < 0 then (-(n : Int) + (xs.length : Int)).toNat else min (-(n : Int)).toNat xs.length)) = _
  rw [if_pos (by omega)]
  have : (-(n : Int) + (xs.length : Int)).toNat = xs.length - n := by omega
  rw [this, List.take_of_length_le (by simp)]
theorem cutL_but : cutL xs none (some (-1)) = xs.dropLast := by
  show (xs.drop 0).take ((if (-1 : Int) < 0 then (-1 + (xs.length : Int)).toNat else min (-1 : Int).toNat xs.length) - 0) = _
  rw [if_pos (by omega), List.drop_zero, Nat.sub_zero, List.dropLast_eq_take]
  congr 1; omega
end
@[simp] theorem inD_str {k : Str} : ∀ {ks : List Str}, inD (.str k) (ks.map .str) = decide (k ∈ ks)
  | [] => by simp [inD]
  | x :: ks => by
    have ih := inD_str (k := k) (ks := ks)
    unfold inD at ih ⊢
    rw [List.map_cons, List.any_cons, ih]
    show ((x == k) || decide (k ∈ ks)) = _
    by_cases h : x = k
    · subst h; simp
    · have h2 : ¬ k = x := fun e => h e.symm
      simp [h, h2]
@[simp] theorem inD_int {k : Int} : ∀ {ks : List Int}, inD (.int k) (ks.map .int) = decide (k ∈ ks)
  | [] => by simp [inD]
  | x :: ks => by
    have ih := inD_int (k := k) (ks := ks)
    unfold inD at ih ⊢
    rw [List.map_cons, List.any_cons, ih]
    show ((x == k) || decide (k ∈ ks)) = _
    by_cases h : x = k
    · subst h; simp
    · have h2 : ¬ k = x := fun e => h e.symm
      simp [h, h2]
@[simp] theorem allfl_str {ks : List Str} : (ks.map D.str).all fl = true := by
  rw [List.all_eq_true]; intro x hx
  obtain ⟨y, _, rfl⟩ := List.mem_map.mp hx; rfl
@[simp] theorem allfl_int {ks : List Int} : (ks.map D.int).all fl = true := by
  rw [List.all_eq_true]; intro x hx
  obtain ⟨y, _, rfl⟩ := List.mem_map.mp hx; rfl
@[simp] theorem fl_str {x} : fl (.str x) = true := rfl
@[simp] theorem fl_int {x} : fl (.int x) = true := rfl
def in1 (neg : Bool) (d : D) (ds : List D) : Option Rz := if fl d = true ∧ ds.all fl = true then some (.val (.bl (if neg then !inD d ds else inD d ds))) else none
@[simp] theorem oIn_ap {neg : Bool} {d e : D} {M : Mem} : oIn neg d e M = bnd (in1 neg d) (asS M e) := rfl
@[simp] theorem in1_str {neg : Bool} {k : Str} {ks : List Str} : in1 neg (.str k) (ks.map .str) = some (.val (.bl (if neg then !decide (k ∈ ks) else decide (k ∈ ks)))) := by
  unfold in1; rw [if_pos ⟨rfl, allfl_str⟩, inD_str]
@[simp] theorem in1_int {neg : Bool} {k : Int} {ks : List Int} : in1 neg (.int k) (ks.map .int) = some (.val (.bl (if neg then !decide (k ∈ ks) else decide (k ∈ ks)))) := by
  unfold in1; rw [if_pos ⟨rfl, allfl_int⟩, inD_int]
/-! loops over written lists -/
def loopF1 (step : Stp) (ds : List D) (p : Fl × Slots × Mem) : Option (Fl × Slots × Mem) := match p.1 with
  | .nx => loopF step ds p.2.1 p.2.2
  | .ct => loopF step ds p.2.1 p.2.2
  | .bk => some (.nx, p.2.1, p.2.2)
  | .rt r => some (.rt r, p.2.1, p.2.2)
section
variable {step : Stp} {d : D} {ds : List D} {ρ : Slots} {M : Mem} {r : Rz}
@[simp] theorem loopF_nil : loopF step [] ρ M = some (.nx, ρ, M) := rfl
@[simp] theorem loopF_cons : loopF step (d :: ds) ρ M = bnd (loopF1 step ds) (step d ρ M) := rfl
@[simp] theorem loopF1_nx : loopF1 step ds (.nx, ρ, M) = loopF step ds ρ M := rfl
@[simp] theorem loopF1_ct : loopF1 step ds (.ct, ρ, M) = loopF step ds ρ M := rfl
@[simp] theorem loopF1_bk : loopF1 step ds (.bk, ρ, M) = some (.nx, ρ, M) := rfl
@[simp] theorem loopF1_rt : loopF1 step ds (.rt r, ρ, M) = some (.rt r, ρ, M) := rfl
end
/-! calls -/
def tupO (ds : List D) : Option Rz := some (.val (.tup ds))
@[simp] theorem tupO_ap {ds} : tupO ds = some (.val (.tup ds)) := rfl
@[simp] theorem oTuple_ap {d : D} {M : Mem} : oTuple [d] M = bnd tupO (asS M d) := rfl
def lisO (ds : List D) : Option Rz := some (.new ds)
@[simp] theorem lisO_ap {ds} : lisO ds = some (.new ds) := rfl
@[simp] theorem oList_ap {d : D} {M : Mem} : oList [d] M = bnd lisO (asS M d) := rfl
theorem oMin2_if {i j : Int} {M : Mem} : oMin2 [.int i, .int j] M = some (.val (.int (if j < i then j else i))) := rfl
theorem oMax2_if {i j : Int} {M : Mem} : oMax2 [.int i, .int j] M = some (.val (.int (if j > i then j else i))) := rfl
@[simp] theorem oMin2_ap {i j : Int} {M : Mem} : oMin2 [.int i, .int j] M = some (.val (.int (min i j))) := by
  rw [oMin2_if]; congr 3; split <;> omega
@[simp] theorem oMax2_ap {i j : Int} {M : Mem} : oMax2 [.int i, .int j] M = some (.val (.int (max i j))) := by
  rw [oMax2_if]; congr 3; split <;> omega
@[simp] theorem oInt_bl {b : Bool} {M : Mem} : oInt [.bl b] M = some (.val (.int (if b then 1 else 0))) := rfl
def srt2 (is : List Int) : Option Rz := some (.new ((isort is).map .int))
def srt1 (ds : List D) : Option Rz := (intsD ds).bind srt2
@[simp] theorem oSorted_ap {d : D} {M : Mem} : oSorted [d] M = bnd srt1 (asL M d) := rfl
@[simp] theorem srt1_ints {is : List Int} : srt1 (is.map .int) = some (.new ((isort is).map .int)) := by unfold srt1; rw [intsD_map]; rfl
@[simp] theorem oStr_int {i : Int} {M : Mem} : oStr [.int i] M = if i.natAbs.log2 < 1920 then some (.val (.str (toString i))) else none := rfl
@[simp] theorem trD_int {i : Int} {M : Mem} : trD M (.int i) = some (i != 0) := rfl
@[simp] theorem trD_non {M : Mem} : trD M .non = some false := rfl
def trO (ds : List D) : Option Bool := some (!ds.isEmpty)
@[simp] theorem trO_ap {ds} : trO ds = some (!ds.isEmpty) := rfl
@[simp] theorem trD_tup {ds} {M : Mem} : trD M (.tup ds) = some (!ds.isEmpty) := rfl
@[simp] theorem trD_lst {ds} {M : Mem} : trD M (.lst ds) = some (!ds.isEmpty) := rfl
@[simp] theorem trD_loc {k : Nat} {M : Mem} : trD M (.loc k) = bnd trO (lsO M[k]?) := by
  show ((asS M (.loc k)).bind fun ds => some (!ds.isEmpty)) = _
  rw [asS_loc']; rfl
end CI

/-! N20: * of ints, tuples, lists -/
namespace CI
open PySem PySem.Spec PyProof.Rows L2
section
variable {X : Cx}
def rMulE (K : PySem.W.Frag) : R2 := fun x y H Q => ∃ l k, x = .ref l ∧ y = .int k ∧ SqT K H l [] ∧ -1000000 < k ∧ k < 1000000 ∧ Q (.ref l) H
theorem op_mulE : OpR X (binaryOp .Mult) (rMulE X.K) := by
  intro pins s σ H x y v u Q I rx ry h
  obtain ⟨l, k, rfl, rfl, hT, h1, h2, q⟩ := h
  cases rx
  obtain ⟨t, rfl⟩ := ry
  obtain ⟨its, r, ⟨⟨cls, dd, data, sl⟩, ho, hc, n, hd⟩, hs⟩ := I.tuple hT
  simp only at hc hd
  subst hc hd
  have hle : its.length = 0 := r.length.symm
  have hn : its = [] := List.eq_nil_of_length_eq_zero hle
  have c0 : (decide (k < -(2 ^ 63)) || decide (k ≥ 2 ^ 63)) = false := by
    rw [decide_eq_false (by omega), decide_eq_false (by omega)] <;> rfl
  have c1 : (its.toArray.isEmpty || k == 1) = true := by rw [hn]; rfl
  refine wpAny_binaryOp_repeat_ref (T := "tuple") (U := "int") (by decide) ⟨_, ho, rfl⟩ (fun s' => typeIs_int s' k t) noFill_tuple_mul F.fills_int_mul F.slot_int_rmul repeat_tuple F.slot_int_index.lookup
    (call_meets F.slot_int_rmul (typeIs_int s k t) F.entry_int_rmul (F.args_int_rmul_2 _ _) (int_rmul_tuple k t l its.toArray n dd sl)
      ⟨ho, rfl, ⟨_, ho, rfl⟩, call_meets F.slot_tuple_mul ⟨_, ho, rfl⟩ F.entry_tuple_mul (F.args_tuple_mul_2 _ _) (tuple_mul1 l its.toArray n dd sl k t c0 c1) ⟨ho, ?_⟩⟩)
  exact ⟨.ref l, H, I, rfl, q⟩
def oMulA : Bop := fun d e M => match d, e with
  | .int i, .int j => if bMul i j = true then some (.val (.int (i * j))) else none
  | .tup ds, .int k => if -1000000 < k ∧ k ≤ 1000 ∧ ds.length ≤ 1000 then some (.val (.tup (List.replicate k.toNat ds).flatten)) else none
  | d, .int k => (asW M d).bind fun ds => if -1000000 < k ∧ k ≤ 1000 ∧ ds.length ≤ 1000 then some (.new (List.replicate k.toNat ds).flatten) else none
  | _, _ => none
theorem rep_nil {α : Type} : ∀ n : Nat, (List.replicate n ([] : List α)).flatten = []
  | 0 => rfl
  | n + 1 => by rw [List.replicate_succ, List.flatten_cons, rep_nil n]; rfl
theorem ok_mulA : OpOk X (binaryOp .Mult) oMulA := by
  refine ⟨_, op_mul.or (op_repT.or (op_mul1.or (op_mul0.or (op_mulE.or op_rep)))), fun H m M d e x y z Q w rd re ho P => ?_⟩
  unfold oMulA at ho
  split at ho
  · rename_i i j
    split at ho
    · rename_i hb
      cases ho
      rw [Rl] at rd; rw [Rl] at re
      refine .inl ⟨i, j, rd, re, ?_, P.val w rl_int⟩
      unfold bMul sm64 at hb
      simp only [Bool.or_eq_true, Bool.and_eq_true, decide_eq_true_eq] at hb
      exact hb
    · cases ho
  · rename_i ds k
    split at ho
    · rename_i hc
      obtain ⟨h2, h3, h4⟩ := hc
      cases ho
      have rd0 := rd
      rw [Rl] at rd; rw [Rl] at re; subst re
      obtain ⟨a, vs, rfl, hs, hr⟩ := rd
      by_cases hd : ds = []
      · subst hd
        have hv := rls_nil hr
        subst hv
        rw [rep_nil] at P
        exact .inr (.inr (.inr (.inr (.inl ⟨a, k, rfl, rfl, hs, h2, by omega, P.val w rd0⟩))))
      · have hv : vs ≠ [] := fun e => hd (by subst e; exact rls_of_nil hr)
        by_cases q1 : 2 ≤ k
        · exact .inr (.inl ⟨a, k, vs, rfl, rfl, hs, hv, q1, h3, by rw [← hr.length]; exact h4, P.tup w (hr.rep _)⟩)
        · by_cases q2 : k = 1
          · subst q2
            refine .inr (.inr (.inl ⟨a, vs, rfl, rfl, hs, P.val w ?_⟩))
            simpa using rd0
          · have hk : k.toNat = 0 := by omega
            rw [hk] at P
            exact .inr (.inr (.inr (.inl ⟨a, k, vs, rfl, rfl, hs, hv, by omega, h2, P.tup (ds := []) w (by rw [Rls])⟩)))
    · cases ho
  · rename_i k h1 h2
    cases q : asW M d with
    | none => rw [q] at ho; cases ho
    | some ds =>
      rw [q] at ho
      simp only [Option.bind_some] at ho
      split at ho
      · rename_i hc
        cases ho
        obtain ⟨a, vs, rfl, hv, hr⟩ := asW_ok w rd q
        rw [Rl] at re; subst re
        refine .inr (.inr (.inr (.inr (.inr ⟨a, k, vs, rfl, rfl, hv, by omega, by omega, ?_, P.new w (hr.rep _)⟩))))
        rw [← hr.length, sizeLine_eq]
        have : k.toNat ≤ 1000 := by omega
        calc ds.length * k.toNat ≤ 1000 * 1000 := Nat.mul_le_mul hc.2.2 this
          _ ≤ _ := by decide
      · cases ho
  · cases ho
@[simp] theorem oMulA_int {i j : Int} {M : Mem} : oMulA (.int i) (.int j) M = if bMul i j = true then some (.val (.int (i * j))) else none := rfl
@[simp] theorem oMulA_tup {ds : List D} {k : Int} {M : Mem} : oMulA (.tup ds) (.int k) M = if -1000000 < k ∧ k ≤ 1000 ∧ ds.length ≤ 1000 then some (.val (.tup (List.replicate k.toNat ds).flatten)) else none := rfl
@[simp] theorem oMulA_lst {ds : List D} {k : Int} {M : Mem} : oMulA (.lst ds) (.int k) M = if -1000000 < k ∧ k ≤ 1000 ∧ ds.length ≤ 1000 then some (.new (List.replicate k.toNat ds).flatten) else none := rfl
end
theorem rep_one {d : D} : ∀ n : Nat, (List.replicate n [d]).flatten = List.replicate n d
  | 0 => rfl
  | n + 1 => by rw [List.replicate_succ, List.flatten_cons, rep_one n]; rfl
end CI

/-! N21: == of data, by their trees -/
namespace CI
open PySem PySem.Spec PyProof.Rows L2
mutual
def deq : D → D → Bool
  | .non, .non => true
  | .bl a, .bl b => decide (a = b)
  | .bl a, .int b => decide ((if a then 1 else 0) = b)
  | .int a, .bl b => decide (a = (if b then 1 else 0))
  | .int a, .int b => decide (a = b)
  | .str a, .str b => decide (a = b)
  | .tup a, .tup b => deqs a b
  | .lst a, .lst b => deqs a b
  | _, _ => false
def deqs : List D → List D → Bool
  | [], [] => true
  | a :: as, b :: bs => deq a b && deqs as bs
  | _, _ => false
end
mutual
theorem deq_py : ∀ (n m : Nat) (d e : D) (p q : PyData), py0 d = some p → py0 e = some q → plS n d = true → plS m e = true → PyData.eqv p q = deq d e
  | 0, _, d, _, _, _, _, _, h, _ => by cases h
  | _ + 1, 0, _, e, _, _, _, _, _, h => by cases h
  | n + 1, m + 1, d, e, p, q, hp, hq, h1, h2 => by
    cases d with
    | scr _ => cases h1
    | loc _ => cases h1
    | non => cases hp; cases e <;> first | (cases h2; done) | (simp [py0] at hq; first | (subst hq; simp [PyData.eqv, deq]; done) | (subst hq; simp only [PyData.eqv, deq]; first | rfl | (rw [Bool.eq_iff_iff]; simp; done)) | (obtain ⟨ps, hps, rfl⟩ := hq; simp [PyData.eqv, deq]; done))
    | bl b => cases hp; cases e <;> first | (cases h2; done) | (simp [py0] at hq; first | (subst hq; simp [PyData.eqv, deq]; done) | (subst hq; simp only [PyData.eqv, deq]; first | rfl | (rw [Bool.eq_iff_iff]; simp; done)) | (obtain ⟨ps, hps, rfl⟩ := hq; simp [PyData.eqv, deq]; done))
    | int b => cases hp; cases e <;> first | (cases h2; done) | (simp [py0] at hq; first | (subst hq; simp [PyData.eqv, deq]; done) | (subst hq; simp only [PyData.eqv, deq]; first | rfl | (rw [Bool.eq_iff_iff]; simp; done)) | (obtain ⟨ps, hps, rfl⟩ := hq; simp [PyData.eqv, deq]; done))
    | str b => cases hp; cases e <;> first | (cases h2; done) | (simp [py0] at hq; first | (subst hq; simp [PyData.eqv, deq]; done) | (subst hq; simp only [PyData.eqv, deq]; first | rfl | (rw [Bool.eq_iff_iff]; simp; done)) | (obtain ⟨ps, hps, rfl⟩ := hq; simp [PyData.eqv, deq]; done))
    | tup as =>
      simp [py0] at hp
      obtain ⟨ps, hps, rfl⟩ := hp
      cases e with
      | scr _ => cases h2
      | loc _ => cases h2
      | tup bs =>
        simp [py0] at hq
        obtain ⟨qs, hqs, rfl⟩ := hq
        rw [PyData.eqv, deq]
        exact deqs_py n m as bs ps qs hps hqs h1 h2
      | lst bs => simp [py0] at hq; obtain ⟨qs, hqs, rfl⟩ := hq; simp [PyData.eqv, deq]
      | _ => simp [py0] at hq; subst hq; simp [PyData.eqv, deq]
    | lst as =>
      simp [py0] at hp
      obtain ⟨ps, hps, rfl⟩ := hp
      cases e with
      | scr _ => cases h2
      | loc _ => cases h2
      | lst bs =>
        simp [py0] at hq
        obtain ⟨qs, hqs, rfl⟩ := hq
        rw [PyData.eqv, deq]
        exact deqs_py n m as bs ps qs hps hqs h1 h2
      | tup bs => simp [py0] at hq; obtain ⟨qs, hqs, rfl⟩ := hq; simp [PyData.eqv, deq]
      | _ => simp [py0] at hq; subst hq; simp [PyData.eqv, deq]
theorem deqs_py : ∀ (n m : Nat) (ds es : List D) (ps qs : List PyData), py0s ds = some ps → py0s es = some qs → ds.all (plS n) = true → es.all (plS m) = true → PyData.eqvAll ps qs = deqs ds es
  | _, _, [], [], _, _, hp, hq, _, _ => by cases hp; cases hq; simp [PyData.eqvAll, deqs]
  | _, _, [], e :: es, _, qs, hp, hq, _, _ => by
    cases hp
    rw [py0s] at hq
    cases h : py0 e with
    | none => rw [h] at hq; cases hq
    | some q => cases h' : py0s es with
      | none => rw [h, h'] at hq; cases hq
      | some qs' => rw [h, h'] at hq; cases hq; simp [PyData.eqvAll, deqs]
  | _, _, d :: ds, [], ps, _, hp, hq, _, _ => by
    cases hq
    rw [py0s] at hp
    cases h : py0 d with
    | none => rw [h] at hp; cases hp
    | some q => cases h' : py0s ds with
      | none => rw [h, h'] at hp; cases hp
      | some qs' => rw [h, h'] at hp; cases hp; simp [PyData.eqvAll, deqs]
  | n, m, d :: ds, e :: es, ps, qs, hp, hq, h1, h2 => by
    rw [py0s] at hp hq
    rw [List.all_cons, Bool.and_eq_true] at h1 h2
    cases a1 : py0 d with
    | none => rw [a1] at hp; cases hp
    | some p =>
      cases a2 : py0s ds with
      | none => rw [a1, a2] at hp; cases hp
      | some ps' =>
        cases b1 : py0 e with
        | none => rw [b1] at hq; cases hq
        | some q =>
          cases b2 : py0s es with
          | none => rw [b1, b2] at hq; cases hq
          | some qs' =>
            rw [a1, a2] at hp; rw [b1, b2] at hq; cases hp; cases hq
            rw [PyData.eqvAll, deqs, deq_py n m d e p q a1 b1 h1.1 h2.1, deqs_py n m ds es ps' qs' a2 b2 h1.2 h2.2]
end
theorem eqB_deq {M : Mem} {n m : Nat} {d e : D} (hn : n ≤ 64) (hm : m ≤ 64) (h1 : plS n d = true) (h2 : plS m e = true) : eqB M d e = some (deq d e) := by
  obtain ⟨p, p1, p2, p3⟩ := plS_ok n d h1
  obtain ⟨q, q1, q2, q3⟩ := plS_ok m e h2
  have sp : SeqAt.shaped p = true := by unfold SeqAt.shaped; rw [p2, Bool.true_and]; exact decide_eq_true (by omega)
  have sq : SeqAt.shaped q = true := by unfold SeqAt.shaped; rw [q2, Bool.true_and]; exact decide_eq_true (by omega)
  have hk := deq_py n m d e p q p1 q1 h1 h2
  have hd : py M d = some p := by cases d <;> first | exact p1 | cases p1
  have he : py M e = some q := by cases e <;> first | exact q1 | cases q1
  have gen : (match py M d, py M e with
    | some a, some b => if SeqAt.shaped a = true ∧ SeqAt.shaped b = true then some (PyData.eqv a b) else none
    | _, _ => none) = some (deq d e) := by
    rw [hd, he]
    simp only [sp, sq, and_self, if_true, hk]
  unfold eqB
  split
  · rw [deq]
  · rw [deq]
  · rw [deq]
  · exact gen
theorem oEq_deq {M : Mem} {n m : Nat} {d e : D} (hn : n ≤ 64) (hm : m ≤ 64) (h1 : plS n d = true) (h2 : plS m e = true) : oEq d e M = some (.val (.bl (deq d e))) := by
  unfold oEq; rw [eqB_deq hn hm h1 h2]; rfl
theorem oNe_deq {M : Mem} {n m : Nat} {d e : D} (hn : n ≤ 64) (hm : m ≤ 64) (h1 : plS n d = true) (h2 : plS m e = true) : oNe d e M = some (.val (.bl (!deq d e))) := by
  unfold oNe; rw [eqB_deq hn hm h1 h2]; rfl
theorem deqs_map {α : Type} [DecidableEq α] {f : α → D} (hf : ∀ a b, deq (f a) (f b) = decide (a = b)) : ∀ xs ys : List α, deqs (xs.map f) (ys.map f) = decide (xs = ys)
  | [], [] => by simp [deqs]
  | [], y :: ys => by simp [deqs]
  | x :: xs, [] => by simp [deqs]
  | x :: xs, y :: ys => by
    rw [List.map_cons, List.map_cons, deqs, hf, deqs_map hf xs ys]
    by_cases h : x = y <;> by_cases h' : xs = ys <;> simp [h, h']
@[simp] theorem deq_int (a b : Int) : deq (.int a) (.int b) = decide (a = b) := by rw [deq]
@[simp] theorem deq_bl (a b : Bool) : deq (.bl a) (.bl b) = decide (a = b) := by rw [deq]
@[simp] theorem deq_str (a b : Str) : deq (.str a) (.str b) = decide (a = b) := by rw [deq]
@[simp] theorem deq_tup (a b : List D) : deq (.tup a) (.tup b) = deqs a b := by rw [deq]
@[simp] theorem deq_lst (a b : List D) : deq (.lst a) (.lst b) = deqs a b := by rw [deq]
@[simp] theorem deqs_nil : deqs [] [] = true := by rw [deqs]
@[simp] theorem deqs_nc {a as} : deqs [] (a :: as) = false := by simp [deqs]
@[simp] theorem deqs_cn {a as} : deqs (a :: as) [] = false := by simp [deqs]
@[simp] theorem deqs_cons {a b as bs} : deqs (a :: as) (b :: bs) = (deq a b && deqs as bs) := by rw [deqs]
@[simp] theorem deq_non : deq .non .non = true := by rw [deq]
@[simp] theorem deqs_ints {a b : List Int} : deqs (a.map .int) (b.map .int) = decide (a = b) := deqs_map (fun x y => deq_int x y) a b
theorem plS_ints {n : Nat} {l : List Int} : (l.map D.int).all (plS (n + 1)) = true := by
  rw [List.all_eq_true]; intro x hx
  obtain ⟨i, _, rfl⟩ := List.mem_map.mp hx; rfl
theorem plS_all {α : Type} {n : Nat} {f : α → D} (h : ∀ x, plS n (f x) = true) (xs : List α) : (xs.map f).all (plS n) = true := by
  rw [List.all_eq_true]; intro x hx
  obtain ⟨i, _, rfl⟩ := List.mem_map.mp hx; exact h i
theorem oEq_ints {a b : List Int} {M : Mem} : oEq (.tup (a.map .int)) (.tup (b.map .int)) M = some (.val (.bl (decide (a = b)))) := by
  rw [oEq_deq (n := 2) (m := 2) (by decide) (by decide) (by rw [plS_tup]; exact plS_ints) (by rw [plS_tup]; exact plS_ints), deq_tup, deqs_ints]
theorem oNe_ints {a b : List Int} {M : Mem} : oNe (.tup (a.map .int)) (.tup (b.map .int)) M = some (.val (.bl (!decide (a = b)))) := by
  rw [oNe_deq (n := 2) (m := 2) (by decide) (by decide) (by rw [plS_tup]; exact plS_ints) (by rw [plS_tup]; exact plS_ints), deq_tup, deqs_ints]
theorem oEq_intsL {a b : List Int} {M : Mem} : oEq (.lst (a.map .int)) (.lst (b.map .int)) M = some (.val (.bl (decide (a = b)))) := by
  rw [oEq_deq (n := 2) (m := 2) (by decide) (by decide) (by rw [plS_lst]; exact plS_ints) (by rw [plS_lst]; exact plS_ints), deq_lst, deqs_ints]
theorem oNe_intsL {a b : List Int} {M : Mem} : oNe (.lst (a.map .int)) (.lst (b.map .int)) M = some (.val (.bl (!decide (a = b)))) := by
  rw [oNe_deq (n := 2) (m := 2) (by decide) (by decide) (by rw [plS_lst]; exact plS_ints) (by rw [plS_lst]; exact plS_ints), deq_lst, deqs_ints]
theorem eqB_deqL {M : Mem} {n m k : Nat} {d : D} {es : List D} (hn : n ≤ 64) (hm : m ≤ 64) (h1 : plS n d = true) (h2 : plS m (.lst es) = true) (hk : M[k]? = some (.lst es)) : eqB M d (.loc k) = some (deq d (.lst es)) := by
  obtain ⟨p, p1, p2, p3⟩ := plS_ok n d h1
  obtain ⟨q, q1, q2, q3⟩ := plS_ok m _ h2
  have sp : SeqAt.shaped p = true := by unfold SeqAt.shaped; rw [p2, Bool.true_and]; exact decide_eq_true (by omega)
  have sq : SeqAt.shaped q = true := by unfold SeqAt.shaped; rw [q2, Bool.true_and]; exact decide_eq_true (by omega)
  have hq := deq_py n m d _ p q p1 q1 h1 h2
  have hd : py M d = some p := by cases d <;> first | exact p1 | cases p1
  have he : py M (.loc k) = some q := by
    show (match M[k]? with | some (.lst ds) => (py0s ds).map PyData.list | _ => none) = _
    rw [hk]
    rw [py0] at q1
    exact q1
  have gen : (match py M d, py M (.loc k) with
    | some a, some b => if SeqAt.shaped a = true ∧ SeqAt.shaped b = true then some (PyData.eqv a b) else none
    | _, _ => none) = some (deq d (.lst es)) := by
    rw [hd, he]
    simp only [sp, sq, and_self, if_true, hq]
  cases d <;> exact gen
theorem oEq_deqL {M : Mem} {n m k : Nat} {d : D} {es : List D} (hn : n ≤ 64) (hm : m ≤ 64) (h1 : plS n d = true) (h2 : plS m (.lst es) = true) (hk : M[k]? = some (.lst es)) : oEq d (.loc k) M = some (.val (.bl (deq d (.lst es)))) := by
  unfold oEq; rw [eqB_deqL hn hm h1 h2 hk]; rfl
theorem oNe_deqL {M : Mem} {n m k : Nat} {d : D} {es : List D} (hn : n ≤ 64) (hm : m ≤ 64) (h1 : plS n d = true) (h2 : plS m (.lst es) = true) (hk : M[k]? = some (.lst es)) : oNe d (.loc k) M = some (.val (.bl (!deq d (.lst es)))) := by
  unfold oNe; rw [eqB_deqL hn hm h1 h2 hk]; rfl
theorem deq_refl : ∀ (n : Nat) (d : D), plS n d = true → deq d d = true
  | 0, _, h => by cases h
  | n + 1, d, h => by
    have all : ∀ ds : List D, ds.all (plS n) = true → deqs ds ds = true := by
      intro ds
      induction ds with
      | nil => intro _; simp
      | cons d ds ih =>
        intro h
        rw [List.all_cons, Bool.and_eq_true] at h
        rw [deqs_cons, deq_refl n d h.1, ih h.2]; rfl
    cases d with
    | scr _ => cases h
    | loc _ => cases h
    | tup ds => rw [deq_tup]; exact all ds h
    | lst ds => rw [deq_lst]; exact all ds h
    | _ => simp
end CI

/-! N22: memories that are written out -/
namespace CI
open PySem PySem.Spec PyProof.Rows L2
section
variable {kl : List Bool} {M A B Me : Mem} {ρ : Slots} {a b : O} {d : D} {ds : List D} {k : Nat}
theorem trimOk_nil : trimOk [] Me := ⟨Nat.zero_le _, fun k o hk _ => by simp at hk⟩
@[simp] theorem tidy_nil (h : nlS 0 (keepD kl ρ) = true) : tidy kl [] ρ Me = (keepD kl ρ, []) := tidy_trim trimOk_nil h
@[simp] theorem tidy_cons (t : trimC (A.length + 1) (a :: A) (b :: B)) (h : nlS (A.length + 1) (keepD kl ρ) = true) : tidy kl (a :: A) ρ (b :: B) = (keepD kl ρ, b :: B.take A.length) := tidy_C t h
@[simp] theorem finK_nil (h : nl 0 d = true) : finK [] (.val d) Me = (.val d, []) := finK_val trimOk_nil h
@[simp] theorem finK_nilN (h : nls 0 ds = true) : finK [] (.new ds) Me = (.new ds, []) := finK_new trimOk_nil h
theorem finK_cons (t : trimC (A.length + 1) (a :: A) (b :: B)) (h : nl (A.length + 1) d = true) : finK (a :: A) (.val d) (b :: B) = (.val d, b :: B.take A.length) := finK_val (trimOk_C t) h
theorem finK_consN (t : trimC (A.length + 1) (a :: A) (b :: B)) (h : nls (A.length + 1) ds = true) : finK (a :: A) (.new ds) (b :: B) = (.new ds, b :: B.take A.length) := finK_new (trimOk_C t) h
end
@[simp] theorem nls_take {n k : Nat} {ds : List D} (h : nls n ds = true) : nls n (ds.take k) = true := by
  have : nls n (ds.take k ++ ds.drop k) = true := by rw [List.take_append_drop]; exact h
  rw [nls_app, Bool.and_eq_true] at this
  exact this.1
@[simp] theorem nls_drop {n k : Nat} {ds : List D} (h : nls n ds = true) : nls n (ds.drop k) = true := by
  have : nls n (ds.take k ++ ds.drop k) = true := by rw [List.take_append_drop]; exact h
  rw [nls_app, Bool.and_eq_true] at this
  exact this.2
end CI

/-! N23: enumerate of a tuple -/
namespace CI
open PySem PySem.Spec PyProof.Rows L2
open AutoSeq1 (wpAny_loadPart')
section enumT
variable {pg : Program} {wd : World} {Ar : Around} {Er : Value → Shared → Prop} {sh : Shared} {e it tu : Addr} {i : Nat} {items : Array Value} {x old : Value}
theorem newT (tu : Addr) (items : Array Value) (n : Nat) (dct : Option Addr) (sl : Array (Option Value)) :
    Meets (Builtin.«enumerate.__new__» ⟨[.type "enumerate", .ref tu], []⟩) (fun _ Rr sh => sh.heap.get? tu = some { cls := .type "tuple", dict := dct, data := .seq items n, slots := sl } ∧
      Rr (.ok (.ret (.ref (sh.heap.push { cls := .type "tuple_iterator", data := .fields #[.ref tu, .int 0 0] }).objs.size)))
        { sh with heap := (sh.heap.push { cls := .type "tuple_iterator", data := .fields #[.ref tu, .int 0 0] }).push { cls := .type "enumerate", data := .fields #[.none, .bool false, .ref sh.heap.objs.size, rawInt 0, .none, .none] } }) :=
  .of_wp fun pg wd Ar Rr sh hh => by
    obtain ⟨hp, g, dd, tk, os⟩ := sh; obtain ⟨ht, hh⟩ := hh
    have hsub := sub_enumerate
    have hT : Heap.IsTuple (Shared.heap ⟨hp, g, dd, tk, os⟩) tu items := ⟨_, ht, rfl, n, rfl⟩
    wp_walk using wpAny_loadPart' ht
    refine wpAny_stack_any fun stt => wpAny_pure ?_
    split
    · rename_i cc _ _ _ _ _
      cases (cc == Value.type "enumerate")
      · wp_walk using wpAny_loadPart' ht, wpAny_pyIter_tuple hT
        exact ⟨_, rfl, hh⟩
      · wp_walk using wpAny_loadPart' ht, wpAny_pyIter_tuple hT
        exact ⟨_, rfl, hh⟩
    · wp_walk using wpAny_loadPart' ht, wpAny_pyIter_tuple hT
      exact ⟨_, rfl, hh⟩
theorem callT {Qr : Value → Shared → Prop} (hT : sh.heap.IsTuple tu items)
    (hh : ∀ hq, IsEnum hq (sh.heap.objs.size + 1) sh.heap.objs.size 0 .none → hq.IsTupleIter sh.heap.objs.size tu 0 → hq.objs.size = sh.heap.objs.size + 2 →
      (∀ b o, sh.heap.get? b = some o → hq.get? b = some o) → Qr (.ref (sh.heap.objs.size + 1)) { sh with heap := hq }) :
    wpAny (model pg wd) Ar (call (.type "enumerate") [.ref tu]) Qr Er sh := by
  obtain ⟨⟨cc, dct, dt, sl⟩, ht, hc, n, hd⟩ := hT
  replace hc : cc = .type "tuple" := hc
  replace hd : dt = .seq items n := hd
  subst hc hd
  refine callType_new F.called_enumerate (by decide) (F.typeCall_enumerate_1 _) (F.newCall_enumerate_1 _) (fun ob => F.args_object_init_2 ob _) F.entry_enumerate_new
    (newT tu items n dct sl) ⟨ht, ?_⟩
  have hz : (sh.heap.push { cls := .type "tuple_iterator", data := .fields #[.ref tu, .int 0 0] }).objs.size = sh.heap.objs.size + 1 := Heap.size_push ..
  show _ ∧ _
  rw [hz]
  have he : IsEnum ((sh.heap.push { cls := .type "tuple_iterator", data := .fields #[.ref tu, .int 0 0] }).push
      { cls := .type "enumerate", data := .fields #[.none, .bool false, .ref sh.heap.objs.size, rawInt 0, .none, .none] }) (sh.heap.objs.size + 1) sh.heap.objs.size 0 .none := by
    have := Heap.get?_push_size (sh.heap.push { cls := .type "tuple_iterator", data := .fields #[.ref tu, .int 0 0] })
      (o := { cls := .type "enumerate", data := .fields #[.none, .bool false, .ref sh.heap.objs.size, rawInt 0, .none, .none] }) rfl
    rw [hz] at this; exact this
  refine ⟨⟨_, he, rfl⟩, hh _ he ⟨_, Heap.get?_push_of_some _ (Heap.get?_push_size _ rfl), rfl, rfl⟩ (by rw [Heap.size_push, hz]) fun b o q => Heap.get?_push_of_some _ (Heap.get?_push_of_some _ q)⟩
theorem nextT {Qr : Value → Shared → Prop} (hit : sh.heap.IsTupleIter it tu i) (ht : sh.heap.IsTuple tu items) (hx : items[i]? = some x)
    (hQ : ∀ hq, hq.IsTupleIter it tu (i + 1) → Heap.SameBut it sh.heap hq → Qr x { sh with heap := hq }) :
    wpAny (model pg wd) Ar (Builtin.SmallTypes.nextOf (.ref it)) Qr Er sh := by
  obtain ⟨o, ho, hc, hd⟩ := id hit
  obtain ⟨ot, hot, _, nt, hdt⟩ := ht
  unfold Builtin.SmallTypes.nextOf
  refine wpAny_bind (wpAny_callSpecial?_slot (name := Str.ofString "__next__") hit.typeIs F.slot_tuple_iterator_next (wpAny_call_entry F.slot_tuple_iterator_next hit.typeIs F.entry_tuple_iterator_next ?_ (F.args_tuple_iterator_next_1 _)))
  show wpAny _ _ (field (.ref it) 0 >>= _) _ _ sh
  refine wpAny_bind (wpAny_field ho hd (x := .ref tu) rfl ?_)
  show wpAny _ _ (if (Value.ref tu == Value.none) = true then _ else _) _ _ sh
  rw [if_neg (show ¬ ((Value.ref tu == Value.none) = true) from Bool.false_ne_true)]
  show wpAny _ _ (field (.ref it) 1 >>= _) _ _ sh
  refine wpAny_bind (wpAny_field ho hd (x := .int i 0) rfl ?_)
  show wpAny _ _ (seqItems? (.ref tu) >>= _) _ _ sh
  refine wpAny_bind (wpAny_seqItems hot hdt ?_)
  simp only [Int.toNat_natCast, hx]
  refine wpAny_bind (wpAny_setField ho hd (by simp) (wpAny_pure ⟨x, rfl, wpAny_pure (hQ _ ⟨_, Heap.get?_update_self _ ho (Obj.isFreed_of_fields (Obj.data_mapFields hd _)), (Obj.cls_mapFields ..).trans hc, by rw [Obj.data_mapFields hd]; simp [rawInt]⟩ (Heap.SameBut.update ..))⟩))
theorem nextTend {Qr : Value → Shared → Prop} (hn : Ar.handled = none) (hit : sh.heap.IsTupleIter it tu i) (ht : sh.heap.IsTuple tu items) (hx : items[i]? = none)
    (hE : ∀ hq ee, Heap.ExtBut it sh.heap hq → (∃ o, hq.get? ee = some o ∧ o.cls = .type "StopIteration") → Er (.ref ee) { sh with heap := hq }) :
    wpAny (model pg wd) Ar (Builtin.SmallTypes.nextOf (.ref it)) Qr Er sh := by
  obtain ⟨o, ho, hc, hd⟩ := id hit
  obtain ⟨ot, hot, _, nt, hdt⟩ := ht
  unfold Builtin.SmallTypes.nextOf
  refine wpAny_bind (wpAny_callSpecial?_slot (name := Str.ofString "__next__") hit.typeIs F.slot_tuple_iterator_next (wpAny_call_entry F.slot_tuple_iterator_next hit.typeIs F.entry_tuple_iterator_next ?_ (F.args_tuple_iterator_next_1 _)))
  show wpAny _ _ (field (.ref it) 0 >>= _) _ _ sh
  refine wpAny_bind (wpAny_field ho hd (x := .ref tu) rfl ?_)
  show wpAny _ _ (if (Value.ref tu == Value.none) = true then _ else _) _ _ sh
  rw [if_neg (show ¬ ((Value.ref tu == Value.none) = true) from Bool.false_ne_true)]
  show wpAny _ _ (field (.ref it) 1 >>= _) _ _ sh
  refine wpAny_bind (wpAny_field ho hd (x := .int i 0) rfl ?_)
  show wpAny _ _ (seqItems? (.ref tu) >>= _) _ _ sh
  refine wpAny_bind (wpAny_seqItems hot hdt ?_)
  simp only [Int.toNat_natCast, hx]
  refine wpAny_bind (wpAny_rule (wpAny_bind (wpAny_setField ho hd (by simp) ?_)))
  show wpAny _ _ (newExc (.type "StopIteration") [] >>= _) _ _ _
  refine wpAny_bind ?_
  simp only [newExc, newTuple]
  refine wpAny_bind (wpAny_newObj_type (wpAny_bind (m := firstArgMember _ _) (wpAny_of_eq (a := Value.none) (by first | rfl | (simp only [firstArgMember]; rfl)) (wpAny_newObj_type ?_ (by size_fits)))) (by size_fits))
  simp only [raiseNew]
  refine wpAny_bind (wpAny_handled ?_)
  first | rw [show Ar.in1.handled = none from hn] | rw [hn]
  exact wpAny_bind (wpAny_pure (wpAny_throw (hE _ _ (((Heap.SameBut.update ..).extBut.push _).push _) ⟨_, Heap.get?_push_size _ rfl, rfl⟩)))
theorem enumTitem {Qr : Value → Shared → Prop} (he : IsEnum sh.heap e it i old) (hit : sh.heap.IsTupleIter it tu i) (ht : sh.heap.IsTuple tu items) (hx : items[i]? = some x) (hne : e ≠ it)
    (hQ : ∀ hq, IsEnumOut hq e it ((i : Int) + 1) x sh.heap.objs.size → hq.IsTupleIter it tu (i + 1) →
      hq.get? sh.heap.objs.size = some { cls := .type "tuple", data := .seq #[.int i sh.toks, x] } → hq.objs.size = sh.heap.objs.size + 1 →
      (∀ b o, b ≠ e → b ≠ it → sh.heap.get? b = some o → hq.get? b = some o) → Qr (.ref sh.heap.objs.size) { sh with heap := hq, toks := sh.toks + 1 }) :
    wpAny (model pg wd) Ar (Builtin.«enumerate.__next__» ⟨[.ref e], []⟩) (fun fin s2 => ∃ v, fin = .done (.ret v) ∧ Qr v s2) Er sh := by
  obtain ⟨hp, g, dd, tk, os⟩ := sh
  show wpAny _ _ (field (.ref e) 2 >>= _) _ _ _
  refine wpAny_bind (wpAny_field he rfl (x := .ref it) rfl ?_)
  refine wpAny_bind (nextT hit ht hx fun k1 kit1 ks1 => ?_)
  replace ks1 : Heap.SameBut it hp k1 := ks1
  have ke1 : IsEnum k1 e it i old := (ks1.2 e hne).trans he
  show wpAny _ _ (field (.ref e) 3 >>= _) _ _ ⟨k1, g, dd, tk, os⟩
  refine wpAny_bind (wpAny_field ke1 rfl (x := rawInt i) rfl ?_)
  show wpAny _ _ (field (.ref e) 4 >>= _) _ _ ⟨k1, g, dd, tk, os⟩
  refine wpAny_bind (wpAny_field ke1 rfl (x := .none) rfl ?_)
  show wpAny _ _ (mkInt i >>= _) _ _ ⟨k1, g, dd, tk, os⟩
  refine wpAny_bind (wpAny_mkInt ?_)
  show wpAny _ _ (setField (.ref e) 3 (rawInt ((i : Int) + 1)) >>= _) _ _ ⟨k1, g, dd, tk + 1, os⟩
  refine wpAny_bind (wpAny_setField_rec ke1 (by simp) fun k2 ke2 ks2 => ?_)
  replace ks2 : Heap.SameBut e k1 k2 := ks2
  replace ke2 : IsEnum k2 e it ((i : Int) + 1) old := ke2
  show wpAny _ _ (setField (.ref e) 4 .none >>= _) _ _ ⟨k2, g, dd, tk + 1, os⟩
  refine wpAny_bind (wpAny_setField_rec ke2 (by simp) fun k3 ke3 ks3 => ?_)
  replace ks3 : Heap.SameBut e k2 k3 := ks3
  replace ke3 : IsEnum k3 e it ((i : Int) + 1) old := ke3
  show wpAny _ _ (newTuple [.int i tk, x] >>= _) _ _ ⟨k3, g, dd, tk + 1, os⟩
  refine wpAny_bind (wpAny_newTuple ?_)
  have ke4 : IsEnum (k3.push { cls := .type "tuple", data := .seq #[.int i tk, x] }) e it ((i : Int) + 1) old := Heap.get?_push_of_some _ ke3
  generalize kh4 : k3.push { cls := .type "tuple", data := .seq #[.int i tk, x] } = k4 at ke4
  have ksz : k3.objs.size = hp.objs.size := by rw [ks3.1, ks2.1, ks1.1]
  have kel : e < hp.objs.size := Heap.lt_size he
  have kt4 : k4.get? hp.objs.size = some { cls := .type "tuple", data := .seq #[.int i tk, x] } := by rw [← kh4, ← ksz]; exact Heap.get?_push_size _ rfl
  have kz4 : k4.objs.size = hp.objs.size + 1 := by rw [← kh4, Heap.size_push, ksz]
  have kk4 : ∀ b o, b ≠ e → b ≠ it → hp.get? b = some o → k4.get? b = some o := fun b o q1 q2 hb => by
    rw [← kh4]; exact Heap.get?_push_of_some _ (ks3.extBut b o q1 (ks2.extBut b o q1 (ks1.extBut b o q2 hb)))
  have kit4 : k4.IsTupleIter it tu (i + 1) := by
    rw [← kh4]; obtain ⟨o, ho, r⟩ := (kit1.extBut ks2.extBut (Ne.symm hne)).extBut ks3.extBut (Ne.symm hne); exact ⟨o, Heap.get?_push_of_some _ ho, r⟩
  show wpAny _ _ (Builtin.SmallTypes.ownedTupleIsFree (.ref e) >>= _) _ _ ⟨k4, g, dd, tk + 1, os⟩
  rw [ksz]
  clear kh4 ke3 ks3 ke2 ks2 ke1 ks1 kit1 ksz k3 k2 k1
  refine wpAny_bind ?_
  unfold Builtin.SmallTypes.ownedTupleIsFree
  refine wpAny_bind (wpAny_field ke4 rfl (x := .none) rfl (wpAny_pure ?_))
  simp only [if_true]
  refine wpAny_bind (wpAny_rule ?_)
  refine wpAny_bind (wpAny_field ke4 rfl (x := old) rfl ?_)
  refine wpAny_bind (wpAny_setField_rec ke4 (by simp) fun k5 ke5 ks5 => ?_)
  replace ks5 : Heap.SameBut e k4 k5 := ks5
  replace ke5 : IsEnum k5 e it ((i : Int) + 1) x := ke5
  show wpAny _ _ (Builtin.SmallTypes.ownedTupleHandOut (.ref e) (.ref hp.objs.size) >>= _) _ _ ⟨k5, g, dd, tk + 1, os⟩
  refine wpAny_bind ?_
  unfold Builtin.SmallTypes.ownedTupleHandOut
  refine wpAny_bind (wpAny_setField_rec ke5 (by simp) fun k6 ke6 ks6 => ?_)
  replace ks6 : Heap.SameBut e k5 k6 := ks6
  replace ke6 : IsEnumOut k6 e it ((i : Int) + 1) x hp.objs.size := ke6
  refine wpAny_setField_rec ke6 (by simp) fun k7 ke7 ks7 => ?_
  replace ks7 : Heap.SameBut e k6 k7 := ks7
  replace ke7 : IsEnumOut k7 e it ((i : Int) + 1) x hp.objs.size := ke7
  refine wpAny_bind (wpAny_letGo (wpAny_pure ⟨_, rfl, hQ k7 ke7 (((kit4.extBut ks5.extBut (Ne.symm hne)).extBut ks6.extBut (Ne.symm hne)).extBut ks7.extBut (Ne.symm hne))
    (ks7.extBut _ _ (Nat.ne_of_gt kel) (ks6.extBut _ _ (Nat.ne_of_gt kel) (ks5.extBut _ _ (Nat.ne_of_gt kel) kt4))) (by rw [ks7.1, ks6.1, ks5.1, kz4])
    fun b o q1 q2 hb => ks7.extBut b o q1 (ks6.extBut b o q1 (ks5.extBut b o q1 (kk4 b o q1 q2 hb)))⟩))
theorem pyNextT {Qr : Option Value → Shared → Prop} (he : IsEnum sh.heap e it i old) (hit : sh.heap.IsTupleIter it tu i) (ht : sh.heap.IsTuple tu items) (hx : items[i]? = some x) (hne : e ≠ it)
    (hQ : ∀ hq, IsEnumOut hq e it ((i : Int) + 1) x sh.heap.objs.size → hq.IsTupleIter it tu (i + 1) →
      hq.get? sh.heap.objs.size = some { cls := .type "tuple", data := .seq #[.int i sh.toks, x] } → hq.objs.size = sh.heap.objs.size + 1 →
      (∀ b o, b ≠ e → b ≠ it → sh.heap.get? b = some o → hq.get? b = some o) → Qr (some (.ref sh.heap.objs.size)) { sh with heap := hq, toks := sh.toks + 1 }) :
    wpAny (model pg wd) Ar (pyNext (.ref e)) Qr Er sh := by
  have hT : sh.TypeIs (.ref e) "enumerate" := ⟨_, he, rfl⟩
  unfold pyNext
  exact wpAny_bind (wpAny_attempt (wpAny_callSpecial?_slot (name := Str.ofString "__next__") hT F.slot_enumerate_next (wpAny_call_entry F.slot_enumerate_next hT F.entry_enumerate_next
      (enumTitem he hit ht hx hne fun hq a b c d k => wpAny_pure (hQ hq a b c d k)) (F.args_enumerate_next_1 _))))
theorem pyNextTend {Qr : Option Value → Shared → Prop} (hn : Ar.handled = none) (he : IsEnum sh.heap e it i old) (hit : sh.heap.IsTupleIter it tu i) (ht : sh.heap.IsTuple tu items) (hx : items[i]? = none)
    (hQ : ∀ hq, Heap.ExtBut it sh.heap hq → Qr none { sh with heap := hq }) : wpAny (model pg wd) Ar (pyNext (.ref e)) Qr Er sh := by
  have hT : sh.TypeIs (.ref e) "enumerate" := ⟨_, he, rfl⟩
  unfold pyNext
  refine wpAny_bind (wpAny_attempt (wpAny_callSpecial?_slot (name := Str.ofString "__next__") hT F.slot_enumerate_next (wpAny_call_entry F.slot_enumerate_next hT F.entry_enumerate_next ?_ (F.args_enumerate_next_1 _))))
  show wpAny _ _ (field (.ref e) 2 >>= _) _ _ _
  refine wpAny_bind (wpAny_field he rfl (x := .ref it) rfl ?_)
  refine wpAny_bind (nextTend hn hit ht hx fun hq ee he2 ⟨o, ho, hc⟩ => ?_)
  exact wpAny_bind (wpAny_isInstance (T := "StopIteration") (b := true) ⟨o, ho, hc⟩ isSubtype_stop (wpAny_pure (hQ _ he2)))
end enumT
/-- the tuple at a, each item in a new pair -/
def IteT (K : PySem.W.Frag) (a : Addr) : It :=
  ⟨fun i H => ∃ (xs : List V) (x : V), SqT K H a xs ∧ xs[i]? = some x, fun i H v H' => ∃ T x, v = .ref T ∧ H T = none ∧ H' = upd H T (.tup [.int (i : Nat), x]) ∧ ∀ xs, SqT K H a xs → xs[i]? = some x, fun i H => ∃ xs : List V, SqT K H a xs ∧ xs.length ≤ i⟩
theorem tupOf {h : Heap} {a : Addr} {its : Array Value} (p : IsTup h a its) : h.IsTuple a its := p
theorem turnT {Pg : Program} {wd : World} {K : PySem.W.Frag} {elts : List Expr} {kk : Nat} {tpos : Pos} (a e it : Addr) :
    Turn Pg wd K (.Tuple elts kk tpos) (IteT K a) [e, it] e (fun i h => (∃ old, IsEnum h e it ((i : Nat) : Int) old) ∧ h.IsTupleIter it a i ∧ e ≠ it) where
  mem := by simp
  obj := fun i h st b hb => by
    obtain ⟨⟨old, he⟩, ⟨o, ho, hc, hd⟩, _⟩ := st
    have e2 : b = e ∨ b = it := by simpa using hb
    rcases e2 with z | z
    · rw [z]; exact ⟨_, he, fun v q => nomatch q⟩
    · rw [z]; exact ⟨o, ho, fun v q => by rw [hd] at q; cases q⟩
  keep := fun i h h2 st k => let ⟨⟨old, he⟩, ⟨o, ho, r⟩, hne⟩ := st; ⟨⟨old, k e (by simp) _ he⟩, ⟨o, k it (by simp) o ho, r⟩, hne⟩
  item := by
    intro X hP hw hK hc i pins sh σ H E I hf st hg
    subst hP hw hK
    obtain ⟨⟨old, he⟩, hit, hne⟩ := st
    obtain ⟨xs, x, hq, hx⟩ := hg
    obtain ⟨its, rv, p, hz⟩ := I.tuple hq
    obtain ⟨u, hu, ru⟩ := rv.get hx
    have hel : e < sh.heap.objs.size := Heap.lt_size he
    have hil : it < sh.heap.objs.size := by obtain ⟨_, q, _⟩ := hit; exact Heap.lt_size q
    refine pyNextT he hit (tupOf p) (x := u) (by simpa using hu) hne fun h1 ho hit1 hT hsz hk => ?_
    refine ⟨_, rfl, wpAny_letOwnedTupleGo_enum (s := { sh with heap := h1, toks := sh.toks + 1 }) ho fun h2 he2 sb => ?_⟩
    have hT2 : h2.get? sh.heap.objs.size = some { cls := .type "tuple", data := .seq #[.int i sh.toks, u] } := (sb.2 _ (Nat.ne_of_gt hel)).trans hT
    have new : ObjOk X.prog X.w (upd H sh.heap.objs.size (.tup [.int (i : Nat), x])) h2 sh.heap.objs.size (.tup [.int (i : Nat), x]) :=
      ⟨by show 2 ≤ sizeLine; decide, [.int i sh.toks, u], .cons ⟨_, rfl⟩ (.cons ru .nil), ⟨_, hT2, rfl, _, rfl⟩⟩
    have I1 : Inv X pins σ (upd H sh.heap.objs.size (.tup [.int (i : Nat), x])) { sh with heap := h2, toks := sh.toks + 1 } :=
      I.turnedNew (ch := [e, it]) (fun b ob hb q => (sb.2 b (fun z => hb (by simp [z]))).trans (hk b ob (fun z => hb (by simp [z])) (fun z => hb (by simp [z])) q)) hf (Nat.le_refl _) new
    refine ⟨.ref sh.heap.objs.size, _, I1, rfl, ⟨_, x, rfl, I.hok.fresh (Nat.le_refl _), rfl, fun ys hy => by rw [I.tuple_inj hy hq]; exact hx⟩, ⟨⟨u, ?_⟩, ?_, hne⟩, fun b hb => ?_⟩
    · have e1 : ((i + 1 : Nat) : Int) = (i : Int) + 1 := by omega
      rw [e1]; exact he2
    · obtain ⟨o, ho2, r⟩ := hit1
      exact ⟨o, (sb.2 it (Ne.symm hne)).trans ho2, r⟩
    · have hb2 : b < sh.heap.objs.size := by
        have e2 : b = e ∨ b = it := by simpa using hb
        rcases e2 with z | z
        · rw [z]; exact hel
        · rw [z]; exact hil
      rw [upd_ne (Nat.ne_of_lt hb2)]
      exact (hf b hb).1
  done := by
    intro X hP hw hK hc i pins sh σ H E I hf st hg
    subst hP hw hK
    obtain ⟨⟨old, he⟩, hit, hne⟩ := st
    obtain ⟨xs, hq, hx⟩ := hg
    obtain ⟨its, rv, p, hz⟩ := I.tuple hq
    obtain ⟨f0, f1, f2, f3, f4, f5⟩ := hf it (by simp)
    have hl := rv.length
    exact pyNextTend (I.ok.hd hc) he hit (tupOf p) (by simp; omega) fun h1 eb => ⟨rfl, I.turned (t' := sh.toks) (fun b o hb q => eb b o hb q) f0 f1 f3 f4 f5⟩
  self := fun Ar i sh Q E st h => let ⟨⟨_, he⟩, _⟩ := st; wpAny_pyIter_enum he h
def iEnumTu (K : PySem.W.Frag) (ta : TA) : TI := fun σ H R => ta σ H fun vs H1 => ∃ a xs, vs = [.ref a] ∧ SqT K H1 a xs ∧ R (IteT K a) H1
theorem pi_enumT {X : Cx} {e : Expr} {ta : TA} {p pos tpos : Pos} {elts : List Expr} {kk : Nat} (hg : Gl X "enumerate") (hm : X.mg "enumerate" = none) (ha : PA X [e] ta) (hs : starEach [e] X.env = [(false, eval e X.env)] := by rfl) :
    PI X (.Tuple elts kk tpos) (.Call (.Name "enumerate" p) [e] [] pos) (iEnumTu X.K ta) := by
  refine ⟨fun pins sh σ H R I h => ?_⟩
  refine Call_ (ld_blt I hg hm boot_enumerate (PyProof.Rows.callWith_type1 (thn (ha.run pos pins sh σ H _ I h) fun us s1 ⟨vs, H1, I1, r1, q1⟩ => ?_) hs rfl))
  obtain ⟨a, xs, ex, hq, q⟩ := q1
  subst ex
  cases r1 with
  | cons r rr =>
    cases rr
    cases r
    obtain ⟨its, rv, p2, hz⟩ := I1.tuple hq
    refine callT (tupOf p2) fun h1 he hit hsz hk => wpAny_pyIter_enum he ?_
    have I2 : Inv X pins σ H1 { s1 with heap := h1 } := I1.kept (t' := s1.toks) hk
    refine ⟨s1.heap.objs.size + 1, [s1.heap.objs.size + 1, s1.heap.objs.size], _, _, H1, rfl, I2, turnT a (s1.heap.objs.size + 1) s1.heap.objs.size, ⟨⟨.none, he⟩, hit, Nat.succ_ne_self _⟩, fun b hb => ?_, q⟩
    have e2 : b = s1.heap.objs.size + 1 ∨ b = s1.heap.objs.size := by simpa using hb
    have hle : s1.heap.objs.size ≤ b := by
      rcases e2 with z | z
      · rw [z]; exact Nat.le_succ _
      · rw [z]; exact Nat.le_refl _
    exact I1.fpOk hle (I1.hok.fresh hle)
theorem yl_enT {K : PySem.W.Frag} {H : Hp} {m : List Addr} {a : Addr} {ds : List D} {vs : List V} (h : SqT K H a vs) (r : Rls K H m ds vs) : Yl K H m (IteT K a) (enD ds) none where
  go := fun i H1 m1 hi e _ => by
    have hl := r.length
    rw [enD_len] at hi
    exact ⟨vs, vs[i], sqT_ext e h, List.getElem?_eq_getElem (by omega)⟩
  yld := fun i d H1 m1 M1 x H' q e _ w y => by
    obtain ⟨T, u, rfl, hn, rfl, y⟩ := y
    obtain ⟨d0, q0, rfl⟩ := enD_get q
    obtain ⟨v, h1, h2⟩ := (r.ext e).get q0
    have := y vs (sqT_ext e h)
    rw [h1] at this; cases this
    refine ⟨.new hn, w.new hn, ?_⟩
    rw [Rl]
    refine ⟨T, _, rfl, .of upd_same, ?_⟩
    rw [Rls]
    refine ⟨_, _, rfl, by rw [Rl], ?_⟩
    rw [Rls]
    refine ⟨_, _, rfl, h2.ext (.new hn), ?_⟩
    rw [Rls]
  stop := fun H1 m1 e _ => ⟨vs, sqT_ext e h, by rw [enD_len, r.length]; exact Nat.le_refl _⟩
def iEnT (f : Ef) : If := fun ρ M => (f ρ M).bind fun p => match p.1.d with
  | .tup ds => some (enD ds, none, p.2)
  | .lst ds => some (enD ds, none, p.2)
  | .scr ns => some (enD (ns.map .int), none, p.2)
  | _ => none
theorem ci_enT {X : Cx} {a : Expr} {fa : Ef} {p pos tpos : Pos} {elts : List Expr} {kk : Nat} (hg : Gl X "enumerate") (hm : X.mg "enumerate" = none) (ha : CEx X a fa) (hs : starEach [a] X.env = [(false, eval a X.env)] := by rfl) (hs' : starEach [a] X.env = (false, eval a X.env) :: starEach [] X.env := by rfl) :
    CIx X (.Tuple elts kk tpos) (.Call (.Name "enumerate" p) [a] [] pos) (iEnT fa) :=
  PI.imp (PI.or (pi_enum hg hm (pa_cons ha pa_nil hs') hs) (pi_enumT hg hm (pa_cons ha pa_nil hs') hs)) fun σ H R ⟨ρ, M, m, ds, gk, M', rs, w, hf, P⟩ => by
    unfold iEnT at hf
    cases ea : fa ρ M with
    | none => rw [ea] at hf; cases hf
    | some q =>
      rw [ea] at hf
      simp only [Option.bind_some] at hf
      split at hf
      · rename_i es he
        cases hf
        refine .inr (bindE rs w ea fun H1 m1 v e1 w1 rs1 r1 => ?_)
        rw [he, Rl] at r1
        obtain ⟨b, vs, rfl, h1, h2⟩ := r1
        exact ⟨b, vs, rfl, h1, P H1 m1 _ e1 w1 gd_none (yl_enT h1 h2)⟩
      · rename_i es he
        cases hf
        refine .inl (bindE rs w ea fun H1 m1 v e1 w1 rs1 r1 => ?_)
        rw [he, Rl] at r1
        obtain ⟨b, vs, rfl, hn, h1, h2⟩ := r1
        exact ⟨b, vs, rfl, .of h1, P H1 m1 _ e1 w1 gd_none (yl_en (fun H2 m2 e2 => .of (e2.lst _ _ hn h1)) h2)⟩
      · rename_i ns he
        cases hf
        refine .inl (bindE rs w ea fun H1 m1 v e1 w1 rs1 r1 => ?_)
        rw [he, Rl] at r1
        obtain ⟨b, rfl, h1⟩ := r1
        exact ⟨b, _, rfl, h1.l, P H1 m1 _ e1 w1 gd_none (yl_en (fun H2 m2 e2 => (SqS.l (h1.imp (fun ⟨o, s⟩ => ⟨o, e2.frz _ _ _ s⟩) id))) .ints)⟩
      · cases hf
def iEnT1 (p : Rz × Mem) : Option (List D × Option Nat × Mem) := match p.1.d with | .tup ds => some (enD ds, none, p.2) | .lst ds => some (enD ds, none, p.2) | .scr ns => some (enD (ns.map .int), none, p.2) | _ => none
section
variable {f : Ef} {ρ : Slots} {M : Mem} {ds : List D}
@[simp] theorem iEnT_ap : iEnT f ρ M = bnd iEnT1 (f ρ M) := rfl
@[simp] theorem iEnT1_tup : iEnT1 (.val (.tup ds), M) = some (enD ds, none, M) := rfl
@[simp] theorem iEnT1_lst : iEnT1 (.val (.lst ds), M) = some (enD ds, none, M) := rfl
@[simp] theorem iEnT1_new : iEnT1 (.new ds, M) = some (enD ds, none, M) := rfl
end
theorem enD_map {α : Type} {f : α → D} {xs : List α} : enD (xs.map f) = xs.zipIdx.map fun p => D.tup [.int ((p.2 : Nat) : Int), f p.1] := by
  unfold enD
  rw [List.zipIdx_map, List.map_map]
  rfl
end CI

/-! N24: stores at places -/
namespace CI
open PySem PySem.Spec PyProof.Rows L2
section
variable {d : D} {ρ : Slots} {k : Nat} {i : Int} {M : Mem} {es : List D} {j : Nat}
def gIx4 (d : D) (ρ : Slots) (k : Nat) (i : Int) (M : Mem) (es : List D) : Option (Slots × Mem) := (ixN es.length i).bind (gIx3 d k i ρ M es)
@[simp] theorem gIx2_loc : gIx2 d ρ (.loc k) (.val (.int i), M) = bnd (gIx4 d ρ k i M) (lsO M[k]?) := by
  show (match M[k]? with | some (.lst es) => (ixN es.length i).bind (gIx3 d k i ρ M es) | _ => none) = _
  cases M[k]? with
  | none => rfl
  | some o => cases o <;> rfl
@[simp] theorem gIx4_ap : gIx4 d ρ k i M es = bnd (gIx3 d k i ρ M es) (ixN es.length i) := rfl
@[simp] theorem gIx3_ap : gIx3 d k i ρ M es j = some (ρ, M.set k (.lst (es.set j d))) := rfl
theorem ixN_nat {n : Nat} (h0 : 0 ≤ i) (h1 : i < n) : ixN n i = some i.toNat := by unfold ixN; rw [if_pos h0, if_pos h1]
end
@[simp] theorem nls_set {n : Nat} {e : D} (he : nl n e = true) : ∀ {ds : List D} {i : Nat}, nls n ds = true → nls n (ds.set i e) = true
  | [], _, _ => rfl
  | d :: ds, 0, h => by
    rw [nls_cons, Bool.and_eq_true] at h
    rw [List.set_cons_zero, nls_cons, he, h.2]; rfl
  | d :: ds, i + 1, h => by
    rw [nls_cons, Bool.and_eq_true] at h
    rw [List.set_cons_succ, nls_cons, h.1, nls_set he h.2]; rfl
end CI

/-! N25: x in range(..) -/
namespace CI
open PySem PySem.Spec PyProof.Rows L2
section
variable {X : Cx} {a b c : Expr} {fa fb fc : Ef} {p pos pos2 : Pos}
def rInR (neg : Bool) : R2 := fun x y H Q => ∃ i ad lo hi, x = V.int i ∧ y = V.ref ad ∧ H ad = some (.rng lo hi) ∧ Q (.bl (if neg then !decide (lo ≤ i ∧ i < hi) else decide (lo ≤ i ∧ i < hi))) H
theorem op_inR : OpR X (compareOp .In) (rInR false) := op_in_rng
theorem op_notInR : OpR X (compareOp .NotIn) (rInR true) := by
  intro pins sh σ H x y v u Q I rx ry h
  obtain ⟨i, ad, lo, hi, rfl, rfl, ha, q⟩ := h
  obtain ⟨k, rfl⟩ := rx
  obtain rfl : u = Value.ref ad := ry
  obtain ⟨t1, t2, t3, ho⟩ := I.hok ad _ ha
  show wpAny _ _ (do return Value.bool !(← contains (Value.ref ad) (Value.int i k))) _ _ sh
  refine wpAny_bind (wpAny_contains_slot (T := "range") ⟨_, ho, rfl⟩ F.slot_range_contains (call_meets F.slot_range_contains ⟨_, ho, rfl⟩ F.entry_range_contains (F.args_range_contains_2 _ _) (q_contains ad lo hi i t1 t2 t3 k) ⟨ho, wpAny_truthy_bool (wpAny_pure ⟨.bl _, H, I, rfl, ?_⟩)⟩))
  rw [place1]
  exact q
theorem cr_range1' : CallR X (.type "range") (fun vs H Q => ∃ j, vs = [V.int j] ∧ ∀ q, H q = none → Q (.ref q) (upd H q (.rng 0 j))) := by
  intro pins sh σ H vs us Q I r h
  obtain ⟨j, rfl, q⟩ := h
  obtain ⟨u1, rfl, ri⟩ := vals1 r
  obtain ⟨t, rfl⟩ := ri
  refine call_range_1 ⟨.ref sh.heap.objs.size, upd H sh.heap.objs.size (.rng 0 j), I.laid (t' := sh.toks + 2) (fun b o e => Heap.get?_push_of_some _ e) (Nat.le_refl _) ?_, rfl, q _ (I.hok.fresh (Nat.le_refl _))⟩
  exact ⟨_, _, _, Heap.get?_push_size _ rfl⟩
/-- x in range(lo, hi) -/
def cInR (neg : Bool) (fa fb fc : Ef) : Ef := fun ρ M => (fa ρ M).bind fun p => (fb ρ p.2).bind fun q => (fc ρ q.2).bind fun r => match p.1.d, q.1.d, r.1.d with
  | .int i, .int lo, .int hi => some (.val (.bl (if neg then !decide (lo ≤ i ∧ i < hi) else decide (lo ≤ i ∧ i < hi))), r.2)
  | _, _, _ => none
theorem inR_of {neg : Bool} {σ : L2.St} {H : Hp} {Q : VK} (h : tE X.K (cInR neg fa fb fc) σ H Q) :
    tE X.K fa σ H fun x H1 => tE X.K fb σ H1 fun y H2 => tE X.K fc σ H2 fun z H3 => ∃ lo hi, [y, z] = [V.int lo, V.int hi] ∧ ∀ q, H3 q = none → rInR neg x (.ref q) (upd H3 q (.rng lo hi)) Q := by
  obtain ⟨ρ, M, m, z, M', rs, w, hf, P⟩ := h
  unfold cInR at hf
  cases ea : fa ρ M with
  | none => rw [ea] at hf; cases hf
  | some p =>
    cases eb : fb ρ p.2 with
    | none => simp [ea, eb] at hf
    | some q =>
      cases ec : fc ρ q.2 with
      | none => simp [ea, eb, ec] at hf
      | some r =>
        simp only [ea, eb, ec, Option.bind_some] at hf
        refine bindE rs w ea fun H1 m1 v1 e1 w1 rs1 r1 => bindE rs1 w1 eb fun H2 m2 v2 e2 w2 rs2 r2 => bindE rs2 w2 ec fun H3 m3 v3 e3 w3 rs3 r3 => ?_
        split at hf
        · rename_i i lo hi h1 h2 h3
          cases hf
          rw [h1, Rl] at r1; subst r1
          rw [h2, Rl] at r2; subst r2
          rw [h3, Rl] at r3; subst r3
          refine ⟨lo, hi, rfl, fun ad hn => ⟨i, ad, lo, hi, rfl, rfl, upd_same, ?_⟩⟩
          exact (P.ext (((e1.trans e2).trans e3).trans (.new hn))).val (w3.new hn) (by rw [Rl])
        · cases hf
theorem ce_inR2 {op : CmpOp} {neg : Bool} (ho : OpR X (compareOp op) (rInR neg)) (hg : Gl X "range") (hm : X.mg "range" = none) (ha : CEx X a fa) (hb : CEx X b fb) (hc : CEx X c fc) (hk : behindInMarks op (.Call (.Name "range" p) [b, c] [] pos2) = false := by rfl)
    (na : starEach [b, c] X.env = (false, eval b X.env) :: starEach [c] X.env := by rfl) (nb : starEach [c] X.env = (false, eval c X.env) :: starEach [] X.env := by rfl) (hpl : (backTo pos2 (starEach [c] X.env)).any (·.1) = false := by rfl) :
    CEx X (.Compare a [op] [.Call (.Name "range" p) [b, c] [] pos2] pos) (cInR neg fa fb fc) :=
  PE.imp (pe_cmpR ho ha (pe_callTy cr_range2 hg hm (by decide +kernel) (pa_cons hb (pa_cons hc pa_nil nb) na) (by decide) (by decide) na hpl) hk) fun σ H Q h => inR_of h
def cInR1 (neg : Bool) (fa fc : Ef) : Ef := cInR neg fa (cInt 0) fc
theorem inR1_of {neg : Bool} {σ : L2.St} {H : Hp} {Q : VK} (h : tE X.K (cInR1 neg fa fc) σ H Q) :
    tE X.K fa σ H fun x H1 => tE X.K fc σ H1 fun z H3 => ∃ hi, [z] = [V.int hi] ∧ ∀ q, H3 q = none → rInR neg x (.ref q) (upd H3 q (.rng 0 hi)) Q := by
  obtain ⟨ρ, M, m, z, M', rs, w, hf, P⟩ := h
  unfold cInR1 cInR at hf
  cases ea : fa ρ M with
  | none => rw [ea] at hf; cases hf
  | some p =>
    rw [ea] at hf
    simp only [Option.bind_some] at hf
    rw [show cInt 0 ρ p.2 = some (.val (.int 0), p.2) from rfl] at hf
    cases ec : fc ρ p.2 with
    | none => simp [ec] at hf
    | some r =>
      simp only [ec, Option.bind_some] at hf
      refine bindE rs w ea fun H1 m1 v1 e1 w1 rs1 r1 => bindE rs1 w1 ec fun H3 m3 v3 e3 w3 rs3 r3 => ?_
      split at hf
      · rename_i i lo hi h1 h2 h3
        cases hf
        cases h2
        rw [h1, Rl] at r1; subst r1
        rw [h3, Rl] at r3; subst r3
        refine ⟨hi, rfl, fun ad hn => ⟨i, ad, 0, hi, rfl, rfl, upd_same, ?_⟩⟩
        exact (P.ext ((e1.trans e3).trans (.new hn))).val (w3.new hn) (by rw [Rl])
      · cases hf
theorem ce_inR1 {op : CmpOp} {neg : Bool} (ho : OpR X (compareOp op) (rInR neg)) (hg : Gl X "range") (hm : X.mg "range" = none) (ha : CEx X a fa) (hc : CEx X c fc) (hk : behindInMarks op (.Call (.Name "range" p) [c] [] pos2) = false := by rfl)
    (nb : starEach [c] X.env = (false, eval c X.env) :: starEach [] X.env := by rfl) :
    CEx X (.Compare a [op] [.Call (.Name "range" p) [c] [] pos2] pos) (cInR1 neg fa fc) :=
  PE.imp (pe_cmpR ho ha (pe_callTy cr_range1' hg hm (by decide +kernel) (pa_cons hc pa_nil nb) (by decide) (by decide) nb (by rfl)) hk) fun σ H Q h => inR1_of h
theorem ct_of {e : Expr} {f : Ef} {t : TT} (h : PT X e t) (i : ∀ σ H Q, tT X.K (toB f) σ H Q → t σ H Q) : CTx X e (toB f) := PT.imp h i
theorem ct_inR2 {op : CmpOp} {neg : Bool} (ho : OpR X (compareOp op) (rInR neg)) (hg : Gl X "range") (hm : X.mg "range" = none) (ha : CEx X a fa) (hb : CEx X b fb) (hc : CEx X c fc) (hk : behindInMarks op (.Call (.Name "range" p) [b, c] [] pos2) = false := by rfl)
    (na : starEach [b, c] X.env = (false, eval b X.env) :: starEach [c] X.env := by rfl) (nb : starEach [c] X.env = (false, eval c X.env) :: starEach [] X.env := by rfl) (hpl : (backTo pos2 (starEach [c] X.env)).any (·.1) = false := by rfl) :
    CTx X (.Compare a [op] [.Call (.Name "range" p) [b, c] [] pos2] pos) (toB (cInR neg fa fb fc)) :=
  PT.imp (pt_cmpR ho ha (pe_callTy cr_range2 hg hm (by decide +kernel) (pa_cons hb (pa_cons hc pa_nil nb) na) (by decide) (by decide) na hpl) hk) fun σ H Q h => inR_of (tst_of h)
theorem ct_inR1 {op : CmpOp} {neg : Bool} (ho : OpR X (compareOp op) (rInR neg)) (hg : Gl X "range") (hm : X.mg "range" = none) (ha : CEx X a fa) (hc : CEx X c fc) (hk : behindInMarks op (.Call (.Name "range" p) [c] [] pos2) = false := by rfl)
    (nb : starEach [c] X.env = (false, eval c X.env) :: starEach [] X.env := by rfl) :
    CTx X (.Compare a [op] [.Call (.Name "range" p) [c] [] pos2] pos) (toB (cInR1 neg fa fc)) :=
  PT.imp (pt_cmpR ho ha (pe_callTy cr_range1' hg hm (by decide +kernel) (pa_cons hc pa_nil nb) (by decide) (by decide) nb (by rfl)) hk) fun σ H Q h => inR1_of (tst_of h)
def inR3 (neg : Bool) (d e : D) (r : Rz × Mem) : Option (Rz × Mem) := match d, e, r.1.d with
  | .int i, .int lo, .int hi => some (.val (.bl (if neg then !decide (lo ≤ i ∧ i < hi) else decide (lo ≤ i ∧ i < hi))), r.2)
  | _, _, _ => none
def inR2 (neg : Bool) (fc : Ef) (ρ : Slots) (d : D) (q : Rz × Mem) : Option (Rz × Mem) := (fc ρ q.2).bind (inR3 neg d q.1.d)
def inR1 (neg : Bool) (fb fc : Ef) (ρ : Slots) (p : Rz × Mem) : Option (Rz × Mem) := (fb ρ p.2).bind (inR2 neg fc ρ p.1.d)
variable {ρ : Slots} {M : Mem} {neg : Bool} {r : Rz} {d : D} {i lo hi : Int}
@[simp] theorem cInR_ap : cInR neg fa fb fc ρ M = bnd (inR1 neg fb fc ρ) (fa ρ M) := rfl
@[simp] theorem cInR1_ap : cInR1 neg fa fc ρ M = bnd (inR1 neg (cInt 0) fc ρ) (fa ρ M) := rfl
@[simp] theorem inR1_ap : inR1 neg fb fc ρ (r, M) = bnd (inR2 neg fc ρ r.d) (fb ρ M) := rfl
@[simp] theorem inR2_ap : inR2 neg fc ρ d (r, M) = bnd (inR3 neg d r.d) (fc ρ M) := rfl
@[simp] theorem inR3_ap : inR3 neg (.int i) (.int lo) (.val (.int hi), M) = some (.val (.bl (if neg then !decide (lo ≤ i ∧ i < hi) else decide (lo ≤ i ∧ i < hi))), M) := rfl
end
end CI

/-! N26: small helps for walks: == of objects, results that hold an object, loops with an accumulating list -/
namespace CI
open PySem PySem.Spec PyProof.Rows L2
theorem stpK_ds {kl : List Bool} {ds ds' : List D} {g : Gf} {body : Sf} : stpK kl none ds g body = stpK kl none ds' g body := by
  funext d ρ M
  unfold stpK
  simp only [guard_none]
theorem ints_at (ds : List Int) (j : Nat) (h : j < ds.length) : L2.atI (ds.map D.int) (j : Int) = some (.int (ds.getD j 0)) := by
  rw [at_map, at_nat (by omega)]
  simp [h]
theorem ints_ix (ds : List Int) (j : Nat) (h : j < ds.length) (M : Mem) : oIx (.lst (ds.map .int)) (.int (j : Int)) M = some (.val (.int (ds.getD j 0))) := by
  rw [oIx_lst, ints_at ds j h]; rfl
theorem scr_ix (ns : List Int) (j : Nat) (h : j < ns.length) (M : Mem) : oIx (.scr ns) (.int (j : Int)) M = some (.val (.int (ns.getD j 0))) := by
  rw [oIx_scr, ints_at ns j h]; rfl
theorem ints_dr {ds : List Int} (hb : ∀ d ∈ ds, 0 ≤ d ∧ d < 1000) {j : Nat} (h : j < ds.length) : 0 ≤ ds.getD j 0 ∧ ds.getD j 0 < 1000 :=
  hb _ (by rw [List.getD_eq_getElem?_getD, List.getElem?_eq_getElem h]; exact List.getElem_mem _)
theorem tidy_out {kl : List Bool} {M Me : Mem} {ρ : Slots} (h : nlS M.length (keepD kl ρ) = false) : tidy kl M ρ Me = (keepD kl ρ, Me) := by
  unfold tidy; rw [if_neg (by rw [h]; simp)]
theorem finK_out {M Me : Mem} {ds : List D} (h : nl M.length (.tup ds) = false) : finK M (.val (.tup ds)) Me = (.val (.tup ds), Me) := by
  unfold finK; split <;> simp [h]
theorem oAdd_end (M : Mem) (xs ys : List D) (h : xs.length + ys.length ≤ 16777216) : oAdd (.loc M.length) (.lst ys) (M ++ [.lst xs]) = some (.new (xs ++ ys)) := by
  have e : asW (M ++ [.lst xs]) (.loc M.length) = some xs := by
    show (match (M ++ [O.lst xs])[M.length]? with | some (.lst ds) => some ds | _ => none) = some xs
    rw [get_end]
  have e2 : asW (M ++ [.lst xs]) (.lst ys) = some ys := rfl
  show (match asW (M ++ [.lst xs]) (.loc M.length), asW (M ++ [.lst xs]) (.lst ys) with | some as, some bs => if as.length + bs.length ≤ sizeLine then some (Rz.new (as ++ bs)) else none | _, _ => none) = _
  rw [e, e2]
  simp [h]
theorem py_loc {M : Mem} {k : Nat} {es : List D} (hk : M[k]? = some (.lst es)) : py M (.loc k) = py M (.lst es) := by
  have a : py M (.loc k) = (py0s es).map PyData.list := by
    show (match M[k]? with | some (.lst ds) => (py0s ds).map PyData.list | _ => none) = _
    rw [hk]
  have b : py M (.lst es) = (py0s es).map PyData.list := by
    show py0 (.lst es) = _
    rw [py0]
  rw [a, b]
theorem eqB_locL {M : Mem} {k : Nat} {es : List D} {e : D} (hk : M[k]? = some (.lst es)) : eqB M (.loc k) e = eqB M (.lst es) e := by
  have h := py_loc hk
  unfold eqB
  cases e <;> simp only [h]
theorem eqB_locR {M : Mem} {k : Nat} {es : List D} {e : D} (hk : M[k]? = some (.lst es)) : eqB M e (.loc k) = eqB M e (.lst es) := by
  have h := py_loc hk
  unfold eqB
  cases e <;> simp only [h]
theorem oNe_locL {M : Mem} {k : Nat} {es : List D} {e : D} (hk : M[k]? = some (.lst es)) : oNe (.loc k) e M = oNe (.lst es) e M := by unfold oNe; rw [eqB_locL hk]
theorem oNe_locR {M : Mem} {k : Nat} {es : List D} {e : D} (hk : M[k]? = some (.lst es)) : oNe e (.loc k) M = oNe e (.lst es) M := by unfold oNe; rw [eqB_locR hk]
theorem oEq_locL {M : Mem} {k : Nat} {es : List D} {e : D} (hk : M[k]? = some (.lst es)) : oEq (.loc k) e M = oEq (.lst es) e M := by unfold oEq; rw [eqB_locL hk]
theorem oEq_locR {M : Mem} {k : Nat} {es : List D} {e : D} (hk : M[k]? = some (.lst es)) : oEq e (.loc k) M = oEq e (.lst es) M := by unfold oEq; rw [eqB_locR hk]
theorem strOk_lit (s : String) : PyData.strOk (Str.ofString s) = true := by
  rw [Str.ofString_eq_toList]
  unfold PyData.strOk
  simp only [List.all_toArray, List.all_map, List.all_eq_true, Function.comp, decide_eq_true_eq]
  intro c _
  have := c.valid
  show c.val.toNat < 1114112
  rcases this with h | h
  · have : c.val.toNat < 55296 := h
    omega
  · exact h.2
theorem plS_lit (n : Nat) (s : String) : plS (n + 1) (.str (Str.ofString s)) = true := strOk_lit s
/-- a loop with a list at the end of the memory that grows, or is made anew -/
theorem loop_acc {α σ β : Type} {step : Stp} (e : α → D) (b : β → D) (ρ : Nat → σ → Slots) (f : σ × List β → α → σ × List β) (I : List α → σ × List β → Prop)
    (hs : ∀ x xs s T M1, I (x :: xs) (s, T) → (∃ G fl, (fl = .nx ∨ fl = .ct) ∧ step (e x) (ρ M1.length s) (M1 ++ [.lst (T.map b)]) = some (fl, ρ (M1 ++ G).length (f (s, T) x).1, M1 ++ G ++ [.lst ((f (s, T) x).2.map b)])) ∧ I xs (f (s, T) x)) :
    ∀ xs s T (M1 : Mem), I xs (s, T) → ∃ G, loopF step (xs.map e) (ρ M1.length s) (M1 ++ [.lst (T.map b)]) = some (.nx, ρ (M1 ++ G).length (xs.foldl f (s, T)).1, M1 ++ G ++ [.lst ((xs.foldl f (s, T)).2.map b)])
  | [], s, T, M1, _ => ⟨[], by simp [loopF]⟩
  | x :: xs, s, T, M1, h => by
    obtain ⟨⟨G, fl, hf, e1⟩, h1⟩ := hs x xs s T M1 h
    obtain ⟨G2, e2⟩ := loop_acc e b ρ f I hs xs (f (s, T) x).1 (f (s, T) x).2 (M1 ++ G) h1
    refine ⟨G ++ G2, ?_⟩
    rw [← List.append_assoc, List.map_cons, List.foldl_cons]
    unfold loopF
    rw [e1]
    rcases hf with rfl | rfl <;> exact e2
theorem whK_stop {kl : List Bool} {t : Tf} {body : Sf} {n : Nat} {ρ : Slots} {M M' : Mem} (ht : t ρ M = some (false, M')) : whK kl t body (n + 1) ρ M = some (.nx, ρ, M') := by
  unfold whK; rw [ht]; rfl
theorem whK_go {kl : List Bool} {t : Tf} {body : Sf} {n : Nat} {ρ ρ2 : Slots} {M M' M2 : Mem} (ht : t ρ M = some (true, M')) (hb : body ρ M' = some (.nx, ρ2, M2)) : whK kl t body (n + 1) ρ M = whK kl t body n (tidy kl M ρ2 M2).1 (tidy kl M ρ2 M2).2 := by
  conv => lhs; unfold whK
  rw [ht]
  simp only [Option.bind_some, if_true]
  rw [hb]
  rfl
end CI

/-! N27: lists lent to a def that only reads them -/
namespace CI
open PySem PySem.Spec PyProof.Rows L2
mutual
/-- no list and no place in it: numbers, words, tuples of such -/
def flat : D → Bool
  | .tup ds => flats ds
  | .lst _ => false
  | .loc _ => false
  | _ => true
def flats : List D → Bool
  | [] => true
  | d :: ds => flat d && flats ds
end
def flatR : Rz → Bool
  | .val d => flat d
  | .new ds => flats ds
def isLo : O → Bool
  | .lst _ => true
  | _ => false
def lend (M : Mem) (d : D) : D := match d with
  | .loc k => match M[k]? with
    | some (.lst ds) => .lst ds
    | _ => .loc k
  | d => d
def cLend1 (F : Fn) (p : List D × Mem) : Option (Rz × Mem) :=
  if nls 0 (p.1.map (lend p.2)) = true then (F (p.1.map (lend p.2)) []).bind fun q => if q.2 = [] ∧ flatR q.1 = true then some (q.1, p.2) else none else none
def cLend (F : Fn) (g : Af) : Ef := fun ρ M => (g ρ M).bind (cLend1 F)
section
variable {K : PySem.W.Frag} {H : Hp} {m : List Addr} {M : Mem}
mutual
theorem Rl.up : ∀ {d : D} {v : V}, flat d = true → Rl K H [] d v → Rl K H m d v
  | .non, _, _, h => h
  | .bl _, _, _, h => h
  | .int _, _, _, h => h
  | .str _, _, _, h => h
  | .scr _, _, _, h => h
  | .tup ds, _, f, h => by
    rw [Rl] at h ⊢
    obtain ⟨a, vs, h1, h2, h3⟩ := h
    rw [flat] at f
    exact ⟨a, vs, h1, h2, Rls.up f h3⟩
  | .lst _, _, f, _ => by rw [flat] at f; cases f
  | .loc _, _, f, _ => by rw [flat] at f; cases f
theorem Rls.up : ∀ {ds : List D} {vs : List V}, flats ds = true → Rls K H [] ds vs → Rls K H m ds vs
  | [], _, _, h => by rw [Rls] at h ⊢; exact h
  | d :: ds, _, f, h => by
    rw [Rls] at h ⊢
    obtain ⟨v, r, h1, h2, h3⟩ := h
    rw [flats, Bool.and_eq_true] at f
    exact ⟨v, r, h1, Rl.up f.1 h2, Rls.up f.2 h3⟩
end
theorem lend_ok {d : D} {v : V} (w : Wd K H m M) (r : Rl K H m d v) (n : nl 0 (lend M d) = true) : Rl K H [] (lend M d) v := by
  have cut : ∀ {d : D} {v : V}, nl 0 d = true → Rl K H m d v → Rl K H [] d v := fun n r => Rl.cut (m := []) (l := m) r n
  cases d with
  | loc k =>
    unfold lend at n ⊢
    simp only at n ⊢
    cases q : M[k]? with
    | none => rw [q] at n; simp [nl] at n
    | some o =>
      rw [q] at n
      cases o with
      | lst ds =>
        simp only at n ⊢
        rw [Rl] at r
        obtain ⟨a, rfl, hk⟩ := r
        have ro := w.at_ k a _ hk q
        obtain ⟨vs, h1, h2⟩ := ro
        rw [Rl]
        refine ⟨a, vs, rfl, by simp, h1, ?_⟩
        exact Rls.cut' (m := []) (l := m) h2 (by simpa [nl] using n)
      | ins c fs => simp [nl] at n
      | dct kv => simp [nl] at n
  | _ => exact cut n r
theorem lends_ok (w : Wd K H m M) : ∀ {ds : List D} {vs : List V}, Rls K H m ds vs → nls 0 (ds.map (lend M)) = true → Rls K H [] (ds.map (lend M)) vs
  | [], _, r, _ => by rw [Rls] at r; rw [List.map_nil, Rls]; exact r
  | d :: ds, _, r, n => by
    rw [Rls] at r
    obtain ⟨v, vs, rfl, h1, h2⟩ := r
    rw [List.map_cons, nls, Bool.and_eq_true] at n
    rw [List.map_cons, Rls]
    exact ⟨v, vs, rfl, lend_ok w h1 n.1, lends_ok w h2 n.2⟩
/-- what a def did that held nothing: all that stood stands -/
theorem back_ok (w : Wd K H m M) {H1 : Hp} {m1 : List Addr} (e : Ext H [] H1 m1) (w1 : Wd K H1 m1 []) : Ext H m H1 m ∧ Wd K H1 m M := by
  have hm1 : m1 = [] := List.length_eq_zero_iff.mp w1.len
  subst hm1
  have e2 : Ext H m H1 m := ⟨e.tup, e.frz, fun a u _ h => e.oth a u (by simp) h, e.trk, [], by simp, fun _ h => nomatch h⟩
  refine ⟨e2, w.len, w.nd, fun k a o h1 h2 => ?_⟩
  have ro := w.at_ k a o h1 h2
  obtain ⟨u, h3, _⟩ := ro.there
  exact ro.ext e2 (by rw [h3]; exact e.oth a u (by simp) h3)
end
section
variable {X : Cx} {k : Nat} {f : Addr} {fd : FuncData} {ps : List Str} {x m c : Str} {p pos apos : Pos} {e o : Expr} {es : List Expr} {G : Fn} {fo : Ef} {g : Af}
theorem lend_of {σ : L2.St} {H : Hp} {Q : VK} {E : XK} (h : tE X.K (cLend G g) σ H Q) : tCall (spF X.K G) [] E (tA X.K g) σ H Q := by
  obtain ⟨ρ, M, m, z, M', rs, w, hf, P⟩ := h
  unfold cLend at hf
  cases ea : g ρ M with
  | none => rw [ea] at hf; cases hf
  | some p =>
    rw [ea] at hf
    simp only [Option.bind_some] at hf
    unfold cLend1 at hf
    split at hf
    · rename_i hc
      cases eb : G (p.1.map (lend p.2)) [] with
      | none => rw [eb] at hf; cases hf
      | some q =>
        rw [eb] at hf
        simp only [Option.bind_some] at hf
        split at hf
        · rename_i hq
          cases hf
          refine bindA rs w ea fun H1 m1 vs e1 w1 rs1 r1 => ?_
          obtain ⟨q1, q2⟩ := q
          simp only at hq hc
          obtain ⟨rfl, hfl⟩ := hq
          refine ⟨p.1.map (lend p.2), [], [], q1, [], by rw [List.append_nil]; exact lends_ok w1 r1 hc, ⟨rfl, .nil, fun _ _ _ h => by cases h⟩, eb, ?_⟩
          intro H2 m2 e2 w2
          obtain ⟨e3, w3⟩ := back_ok w1 e2 w2
          have hm2 : m2 = [] := List.length_eq_zero_iff.mp w2.len
          subst hm2
          have P2 := P H2 m1 (e1.trans e3) w3
          cases q1 with
          | val d => exact fun v r => P2 v (Rl.up hfl r)
          | new ds => exact fun vs a r n => P2 vs a (Rls.up hfl r) n
        · cases hf
    · cases hf
theorem ce_lend (F : FnOk X.prog X.w X.K X.mg X.base CX0 k f fd ps (spF X.K G)) (hr : Room k X.A) (hg : Gl X x) (hm : X.mg x = some (.ref f)) (hk : PySem.W.keepIn X.K (.ref f) = true) (hb : Binds X.K fd ps [])
    (ha : CAx X (e :: es) g) (hdb : (x == ("__debug__" : Str)) = false := by decide) (he : starEach (e :: es) X.env = (false, eval e X.env) :: starEach es X.env := by rfl) (hpl : (backTo pos (starEach es X.env)).any (·.1) = false := by rfl) :
    CEx X (.Call (.Name x p) (e :: es) [] pos) (cLend G g) := PE.imp (pe_call F hr hg hm hk hb .nil pass0 ha hdb he hpl) fun _ _ _ h => lend_of h
end
@[simp] theorem cLend_ap {F : Fn} {g : Af} {ρ : Slots} {M : Mem} : cLend F g ρ M = bnd (cLend1 F) (g ρ M) := rfl
end CI

/-! N28: written dicts: d[k], k in d for a dict of the module's top -/
namespace CI
open PySem PySem.Spec PyProof.Rows L2
def keyD : D → Option Key
  | .int i => some (.inl i)
  | .str x => some (.inr x)
  | _ => none
def lkD (kvs : List (Key × D)) (k : Key) : Option D := (kvs.find? fun p => decide (p.1 = k)).map (·.2)
@[simp] theorem lkD_nil {k : Key} : lkD [] k = none := rfl
@[simp] theorem lkD_cons {k : Key} {p : Key × D} {kvs : List (Key × D)} : lkD (p :: kvs) k = if p.1 = k then some p.2 else lkD kvs k := by
  unfold lkD
  rw [List.find?_cons]
  by_cases h : p.1 = k <;> simp [h]
/-- the entries of the object are these pairs -/
def Ents (K : PySem.W.Frag) (w : World) : List DictEntry → List (Key × D) → Prop
  | [], [] => True
  | e :: es, p :: ps => (keyIs p.1 e.key = true ∧ e.hash = keyH w p.1 ∧ cv K p.2 e.val = true) ∧ Ents K w es ps
  | _, _ => False
def WD (K : PySem.W.Frag) (w : World) (a : Addr) (kvs : List (Key × D)) : Prop := ∃ es n, K.lookup a = some ⟨.type "dict", none, .dict es n, #[]⟩ ∧ (a == sysModules) = false ∧ Ents K w es.toList kvs
theorem keyIs_inj {v : Value} {a b : Key} (ha : keyIs a v = true) (hb : keyIs b v = true) : a = b := by
  rcases keyIs_shape ha with ⟨i, t, rfl, rfl⟩ | ⟨x, t, rfl, rfl⟩
  · rcases keyIs_shape hb with ⟨j, u, rfl, e⟩ | ⟨y, u, rfl, e⟩
    · injection e with e1 _; rw [e1]
    · exact nomatch e
  · rcases keyIs_shape hb with ⟨j, u, rfl, e⟩ | ⟨y, u, rfl, e⟩
    · exact nomatch e
    · injection e with e1 _; rw [e1]
theorem ents_find {K : PySem.W.Frag} {w : World} (k : Key) : ∀ {es : List DictEntry} {ps : List (Key × D)}, Ents K w es ps → match lkD ps k with
    | some d => ∃ e, es.find? (fun e => keyIs k e.key) = some e ∧ cv K d e.val = true
    | none => es.find? (fun e => keyIs k e.key) = none
  | [], [], _ => rfl
  | [], _ :: _, h => h.elim
  | _ :: _, [], h => h.elim
  | e :: es, p :: ps, h => by
    obtain ⟨⟨h1, h2, h3⟩, h4⟩ := h
    rw [lkD_cons, List.find?_cons]
    by_cases z : p.1 = k
    · rw [if_pos z, ← z, h1]
      exact ⟨e, rfl, h3⟩
    · have n : keyIs k e.key = false := by
        cases q : keyIs k e.key with
        | false => rfl
        | true => exact absurd (keyIs_inj h1 q) z
      rw [if_neg z, n]
      exact ents_find k h4
theorem ents_keys {K : PySem.W.Frag} {w : World} : ∀ {es : List DictEntry} {ps : List (Key × D)}, Ents K w es ps → ∀ e ∈ es, ∃ k, keyIs k e.key = true ∧ e.hash = keyH w k
  | [], [], _, _, h => nomatch h
  | [], _ :: _, h, _, _ => h.elim
  | _ :: _, [], h, _, _ => h.elim
  | e :: es, p :: ps, h, x, hx => by
    rcases List.mem_cons.mp hx with rfl | q
    · exact ⟨p.1, h.1.1, h.1.2.1⟩
    · exact ents_keys h.2 x q
theorem WD.map {K : PySem.W.Frag} {w : World} {P : Program} {h : Heap} {a : Addr} {kvs : List (Key × D)} (W : WD K w a kvs) (X : K.In h) : ∃ f : Key → Option Value, h.MapOf (mixKind P w) a f ∧ (a == sysModules) = false ∧ ∀ k, match lkD kvs k with
    | some d => ∃ v x, f k = some v ∧ RelV x v ∧ ∀ H m, Rl K H m d x
    | none => f k = none := by
  obtain ⟨es, n, h1, h2, h3⟩ := W
  refine ⟨fun k => findBy keyIs es k, ⟨_, es, n, X _ _ h1, ⟨rfl, rfl, rfl⟩, rfl, fun e he => ?_, fun _ => rfl⟩, h2, fun k => ?_⟩
  · exact ents_keys h3 e (Array.mem_toList_iff.mpr he)
  · have := ents_find k h3
    have e1 : findBy keyIs es k = (es.toList.find? fun e => keyIs k e.key).map (·.val) := by
      obtain ⟨l⟩ := es
      unfold findBy
      rw [List.find?_toArray]
    dsimp only
    rw [e1]
    cases q : lkD kvs k with
    | none => rw [q] at this; simp only at this ⊢; rw [this]; rfl
    | some d =>
      rw [q] at this
      obtain ⟨e, h4, h5⟩ := this
      obtain ⟨x, h6, h7⟩ := cv_ok h5
      simp only
      rw [h4]
      exact ⟨e.val, x, rfl, h6, h7⟩
theorem key_rel {K : PySem.W.Frag} {H : Hp} {m : List Addr} {d : D} {k : Key} {y : V} {u : Value} (h : keyD d = some k) (r : Rl K H m d y) (ry : RelV y u) : keyIs k u = true := by
  cases d <;> first | (cases h; done) | skip
  · cases h; rw [Rl] at r; subst r; obtain ⟨t, rfl⟩ := ry; exact keyIs_int _ _
  · cases h; rw [Rl] at r; subst r; obtain ⟨t, rfl⟩ := ry; exact keyIs_str _ _
def rWx (K : PySem.W.Frag) (w : World) : R2 := fun x y H Q => ∃ a kvs d k e m, x = .ref a ∧ WD K w a kvs ∧ Rl K H m d y ∧ keyD d = some k ∧ lkD kvs k = some e ∧ ∀ v, (∀ H m, Rl K H m e v) → Q v H
theorem ix_w {X : Cx} : IxR X (rWx X.K X.w) := by
  intro value slice pins s σ H x y v u Q I rx ry h hs
  obtain ⟨a, kvs, d, k, e, m, rfl, W, r, hk, hl, q⟩ := h
  obtain rfl : v = Value.ref a := rx
  obtain ⟨f, hm, _, hf⟩ := W.map (P := X.prog) I.kIn
  have := hf k
  rw [hl] at this
  obtain ⟨v, z, h1, h2, h3⟩ := this
  exact tail_any hm.typeIs PySem.F.slot_dict_getitem.lookup (wpAny_getItem_of (knd := mixKind X.prog X.w) (key_rel hk r ry) hm h1 ⟨z, H, I.tok _, h2, q z h3⟩) hs
def rWin (K : PySem.W.Frag) (w : World) (neg : Bool) : R2 := fun y x H Q => ∃ a kvs d k m, x = .ref a ∧ WD K w a kvs ∧ Rl K H m d y ∧ keyD d = some k ∧ Q (.bl (neg != (lkD kvs k).isSome)) H
theorem some_w {kvs : List (Key × D)} {K : PySem.W.Frag} {f : Key → Option Value} {k : Key} (h : match lkD kvs k with | some d => ∃ v x, f k = some v ∧ RelV x v ∧ ∀ H m, Rl K H m d x | none => f k = none) : (f k).isSome = (lkD kvs k).isSome := by
  cases q : lkD kvs k with
  | none => rw [q] at h; simp only at h; rw [h]; rfl
  | some d => rw [q] at h; obtain ⟨v, x, h1, _⟩ := h; rw [h1]; rfl
theorem op_win {X : Cx} : OpR X (compareOp .In) (rWin X.K X.w false) := by
  intro pins s σ H y x u v Q I ry rx h
  obtain ⟨a, kvs, d, k, m, rfl, W, r, hk, q⟩ := h
  obtain rfl : v = Value.ref a := rx
  obtain ⟨f, hm, hd, hf⟩ := W.map (P := X.prog) I.kIn
  refine wpAny_in_of (knd := mixKind X.prog X.w) (key_rel hk r ry) hd hm ⟨.bl _, H, I.tok _, rfl, ?_⟩
  rw [some_w (hf k)]
  simpa using q
theorem op_wnin {X : Cx} : OpR X (compareOp .NotIn) (rWin X.K X.w true) := by
  intro pins s σ H y x u v Q I ry rx h
  obtain ⟨a, kvs, d, k, m, rfl, W, r, hk, q⟩ := h
  obtain rfl : v = Value.ref a := rx
  obtain ⟨f, hm, hd, hf⟩ := W.map (P := X.prog) I.kIn
  refine wpAny_notIn_of (knd := mixKind X.prog X.w) (key_rel hk r ry) hd hm ⟨.bl _, H, I.tok _, rfl, ?_⟩
  rw [some_w (hf k)]
  simpa using q
/-! ### expressions -/
def cGIx (kvs : List (Key × D)) (f : Ef) : Ef := fun ρ M => (f ρ M).bind fun p => (keyD p.1.d).bind fun k => (lkD kvs k).bind fun d => some (.val d, p.2)
def cGIn (neg : Bool) (kvs : List (Key × D)) (f : Ef) : Ef := fun ρ M => (f ρ M).bind fun p => (keyD p.1.d).bind fun k => some (.val (.bl (neg != (lkD kvs k).isSome)), p.2)
section
variable {X : Cx} {a b : Expr} {x : Str} {f : Ef} {p pos : Pos} {kvs : List (Key × D)} {ad : Addr}
theorem ce_gix (ha : PE X a (tC (.ref ad))) (W : WD X.K X.w ad kvs) (hb : CEx X b f) (hs : PlainIx b) : CEx X (.Subscript a b pos) (cGIx kvs f) := PE.imp (pe_ix ix_w ha hb hs) fun σ H Q ⟨ρ, M, m, z, M', rs, w, hf, P⟩ => by
  unfold cGIx at hf
  cases ea : f ρ M with
  | none => rw [ea] at hf; cases hf
  | some q =>
    rw [ea] at hf; simp only [Option.bind_some] at hf
    cases ek : keyD q.1.d with
    | none => rw [ek] at hf; cases hf
    | some k =>
      rw [ek] at hf; simp only [Option.bind_some] at hf
      cases el : lkD kvs k with
      | none => rw [el] at hf; cases hf
      | some e =>
        rw [el] at hf; cases hf
        refine bindE rs w ea fun H1 m1 v e1 w1 rs1 r1 => ?_
        exact ⟨ad, kvs, q.1.d, k, e, m1, rfl, W, r1, ek, el, fun v hv => P H1 m1 e1 w1 v (hv H1 m1)⟩
theorem ce_gin {op : CmpOp} {neg : Bool} (ho : OpR X (compareOp op) (rWin X.K X.w neg)) (ha : PE X a (tC (.ref ad))) (W : WD X.K X.w ad kvs) (hb : CEx X b f) (hm : behindInMarks op a = false) : CEx X (.Compare b [op] [a] pos) (cGIn neg kvs f) := PE.imp (pe_cmpR ho hb ha hm) fun σ H Q ⟨ρ, M, m, z, M', rs, w, hf, P⟩ => by
  unfold cGIn at hf
  cases ea : f ρ M with
  | none => rw [ea] at hf; cases hf
  | some q =>
    rw [ea] at hf; simp only [Option.bind_some] at hf
    cases ek : keyD q.1.d with
    | none => rw [ek] at hf; cases hf
    | some k =>
      rw [ek] at hf; cases hf
      refine bindE rs w ea fun H1 m1 v e1 w1 rs1 r1 => ?_
      exact ⟨ad, kvs, q.1.d, k, m1, rfl, W, r1, ek, P H1 m1 e1 w1 _ rl_bl⟩
theorem ct_gin {op : CmpOp} {neg : Bool} (ho : OpR X (compareOp op) (rWin X.K X.w neg)) (ha : PE X a (tC (.ref ad))) (W : WD X.K X.w ad kvs) (hb : CEx X b f) (hm : behindInMarks op a = false) : CTx X (.Compare b [op] [a] pos) (toB (cGIn neg kvs f)) := PT.imp (pt_cmpR ho hb ha hm) fun σ H Q h => by
  have h2 := tst_of h
  obtain ⟨ρ, M, m, z, M', rs, w, hf, P⟩ := h2
  unfold cGIn at hf
  cases ea : f ρ M with
  | none => rw [ea] at hf; cases hf
  | some q =>
    rw [ea] at hf; simp only [Option.bind_some] at hf
    cases ek : keyD q.1.d with
    | none => rw [ek] at hf; cases hf
    | some k =>
      rw [ek] at hf; cases hf
      refine bindE rs w ea fun H1 m1 v e1 w1 rs1 r1 => ?_
      exact ⟨ad, kvs, q.1.d, k, m1, rfl, W, r1, ek, P H1 m1 e1 w1 _ rl_bl⟩
end
/-! ### the head's Hook with written dicts -/
abbrev Dst : Type := List (Str × List (Key × D))
def keyE (e : DictEntry) : Option (Key × Int) := match e.key with
  | .int i _ => some (.inl i, e.hash)
  | .str x _ => some (.inr x, e.hash)
  | _ => none
def cvE (K : PySem.W.Frag) : List DictEntry → List (Key × D) → Bool
  | [], [] => true
  | e :: es, p :: ps => cv K p.2 e.val && cvE K es ps
  | _, _ => false
def dObs (K : PySem.W.Frag) (q : Str × List (Key × D)) : Option (List (Option (Key × Int))) := match PySem.W.nsIn K mainGlobals q.1 with
  | some (some (.ref a)) => (match K.lookup a with
    | some ⟨.type c, none, .dict es _, sl⟩ => (match decide (c = "dict") && (sl.isEmpty && (!(a == sysModules) && cvE K es.toList q.2)) with
      | true => some (es.toList.map keyE)
      | false => none)
    | _ => none)
  | _ => none
def dVal (w : World) (q : Str × List (Key × D)) : Option (List (Option (Key × Int))) := some (q.2.map fun p => some (p.1, keyH w p.1))
def DOk (K : PySem.W.Frag) (w : World) (q : Str × List (Key × D)) : Prop := ∃ a, PySem.W.nsIn K mainGlobals q.1 = some (some (.ref a)) ∧ WD K w a q.2
theorem ents_of {K : PySem.W.Frag} {w : World} : ∀ {es : List DictEntry} {ps : List (Key × D)}, cvE K es ps = true → es.map keyE = ps.map (fun p => some (p.1, keyH w p.1)) → Ents K w es ps
  | [], [], _, _ => trivial
  | [], _ :: _, h, _ => by cases h
  | _ :: _, [], h, _ => by cases h
  | e :: es, p :: ps, h, h2 => by
    rw [cvE, Bool.and_eq_true] at h
    rw [List.map_cons, List.map_cons] at h2
    injection h2 with h3 h4
    refine ⟨?_, ents_of h.2 h4⟩
    obtain ⟨p1, p2⟩ := p
    unfold keyE at h3
    split at h3
    · rename_i i t q
      obtain ⟨h5, h6⟩ := Prod.mk.inj (Option.some.inj h3)
      have h5 : p1 = .inl i := h5.symm
      subst h5
      exact ⟨by rw [q]; exact keyIs_int _ _, h6, h.1⟩
    · rename_i x t q
      obtain ⟨h5, h6⟩ := Prod.mk.inj (Option.some.inj h3)
      have h5 : p1 = .inr x := h5.symm
      subst h5
      exact ⟨by rw [q]; exact keyIs_str _ _, h6, h.1⟩
    · cases h3
theorem dOk_of {K : PySem.W.Frag} {w : World} {q : Str × List (Key × D)} (h : dObs K q = dVal w q) : DOk K w q := by
  unfold dObs dVal at h
  split at h
  · rename_i a ha
    split at h
    · rename_i c es n sl hl
      split at h
      · rename_i hb
        simp only [Bool.and_eq_true, decide_eq_true_eq] at hb
        obtain ⟨rfl, h1, h2, h3⟩ := hb
        injection h with h
        have : sl = #[] := by simpa using h1
        subst this
        exact ⟨a, ha, es, n, hl, by simpa using h2, ents_of h3 h⟩
      · cases h
    · cases h
  · cases h
abbrev AlE : Type := AlC × List (Option (List (Option (Key × Int))))
def SaysE (fa : List He.Fa) (fn : List He.DefD) (cs : Cst) (ds : Dst) (K : PySem.W.Frag) (w : World) : Prop := SaysC fa fn cs K ∧ ∀ q ∈ ds, DOk K w q
def obsE (n : Nat) (fa : List He.Fa) (fn : List He.DefD) (cs : Cst) (ds : Dst) (g : Addr → Option Obj) : AlE := (obsC n fa fn cs g, ds.map (dObs (He.frG g (He.asD g n))))
theorem dOk_all {K : PySem.W.Frag} {w : World} : ∀ {ds : Dst}, ds.map (dObs K) = ds.map (dVal w) → ∀ q ∈ ds, DOk K w q
  | [], _, _, h => nomatch h
  | p :: ds, e, q, h => by
    rw [List.map_cons, List.map_cons] at e
    injection e with e1 e2
    rcases List.mem_cons.mp h with rfl | z
    · exact dOk_of e1
    · exact dOk_all e2 q z
def hookE (n : Nat) (fa : List He.Fa) (fn : List He.DefD) (cs : Cst) (ds : Dst) : PySem.W.Hook where
  α := AlE
  obs := fun s => obsE n fa fn cs ds s.heap.get?
  val := fun w => ((He.valD fn, true), ds.map (dVal w))
  says := fun w h => ∃ K : PySem.W.Frag, K.In h ∧ SaysE fa fn cs ds K w
  of := fun w _ e => ⟨_, He.frG_in, ⟨congrArg (fun z : AlE => z.1.1) e, congrArg (fun z : AlE => z.1.2) e⟩, dOk_all (congrArg (fun z : AlE => z.2) e)⟩
  keeps := fun _ _ _ ⟨K, hK, c⟩ k => ⟨K, PySem.W.Frag.In.keeps hK k, c⟩
theorem obsE_eq {n : Nat} {fa : List He.Fa} {fn : List He.DefD} {cs : Cst} {ds : Dst} {g : Addr → Option Obj} {s : Shared} (h : ∀ a, g a = s.heap.get? a) : obsE n fa fn cs ds g = (hookE n fa fn cs ds).obs s := by
  have e : g = s.heap.get? := funext h
  subst e; rfl
section
variable {fa : List He.Fa} {fn : List He.DefD} {cs : Cst} {ds : Dst} {K : PySem.W.Frag} {w : World}
theorem SaysE.fact (c : SaysE fa fn cs ds K w) (i : Nat) {f : He.Fa} (h : fa[i]? = some f := by rfl) : f.ok K = true := c.1.fact i h
theorem SaysE.def_ (c : SaysE fa fn cs ds K w) (i : Nat) {d : He.DefD} (h : fn[i]? = some d := by rfl) : ∃ fd, FunD K d.name d.qual d.params d.body d.scope (d.dvs K) (d.kws K) (He.fAd K d.at_) fd := c.1.def_ i h
theorem SaysE.cst (c : SaysE fa fn cs ds K w) (i : Nat) {q : Str × D} (h : cs[i]? = some q := by rfl) : cName K q.1 q.2 = true := c.1.cst i h
theorem SaysE.dct {hp : Heap} {mg : Str → Option Value} (X : K.In hp) (G : hp.Ns mainGlobals mg) (c : SaysE fa fn cs ds K w) (i : Nat) {q : Str × List (Key × D)} (h : ds[i]? = some q := by rfl) : ∃ a, mg q.1 = some (.ref a) ∧ WD K w a q.2 := by
  obtain ⟨a, h1, h2⟩ := c.2 q (List.mem_of_getElem? h)
  exact ⟨a, PySem.W.mg_of X G h1, h2⟩
end
/-! ### reckoning -/
section
variable {ρ : Slots} {M : Mem} {f : Ef} {kvs : List (Key × D)} {neg : Bool}
def gix1 (kvs : List (Key × D)) (M : Mem) (k : Key) : Option (Rz × Mem) := (lkD kvs k).bind fun d => some (.val d, M)
def cGIx1 (kvs : List (Key × D)) (p : Rz × Mem) : Option (Rz × Mem) := (keyD p.1.d).bind (gix1 kvs p.2)
@[simp] theorem cGIx_ap : cGIx kvs f ρ M = bnd (cGIx1 kvs) (f ρ M) := rfl
end
end CI

/-! N29: dicts of one's own: displays, d[k], k in d, d[k] = v; results without what was made on the way -/
namespace CI
open PySem PySem.Spec PyProof.Rows L2
/-- in its place, or at the end -/
def putKD (kvs : List (Key × D)) (k : Key) (d : D) : List (Key × D) := if (kvs.any fun p => decide (p.1 = k)) = true then kvs.map (fun p => if p.1 = k then (p.1, d) else p) else kvs ++ [(k, d)]
def mergeKD (kvs more : List (Key × D)) : List (Key × D) := more.foldl (fun acc p => putKD acc p.1 p.2) kvs
section
variable {K : PySem.W.Frag} {H : Hp} {m : List Addr} {M : Mem}
theorem Rks.look {k : Key} : ∀ {kvs : List (Key × D)} {gs : List (Key × V)}, Rks K H m kvs gs → match lkD kvs k with
    | some d => ∃ v, valV gs k = some v ∧ Rl K H m d v
    | none => valV gs k = none
  | [], _, h => by rw [Rks] at h; subst h; rfl
  | (f, d) :: kvs, _, h => by
    rw [Rks] at h
    obtain ⟨v, r, rfl, h1, h2⟩ := h
    rw [lkD_cons]
    by_cases z : f = k
    · rw [if_pos z, valV_pos z]; exact ⟨v, rfl, h1⟩
    · rw [if_neg z, valV_neg z]; exact Rks.look h2
theorem Rks.any_ {k : Key} : ∀ {kvs : List (Key × D)} {gs : List (Key × V)}, Rks K H m kvs gs → (gs.any fun p => decide (p.1 = k)) = kvs.any fun p => decide (p.1 = k)
  | [], _, h => by rw [Rks] at h; subst h; rfl
  | (f, d) :: kvs, _, h => by
    rw [Rks] at h
    obtain ⟨v, r, rfl, h1, h2⟩ := h
    rw [List.any_cons, List.any_cons, Rks.any_ h2]
theorem Rks.repl {k : Key} {d : D} {v : V} (rd : Rl K H m d v) : ∀ {kvs : List (Key × D)} {gs : List (Key × V)}, Rks K H m kvs gs → Rks K H m (kvs.map fun p => if p.1 = k then (p.1, d) else p) (gs.map fun p => if p.1 = k then (p.1, v) else p)
  | [], _, h => by rw [Rks] at h; subst h; rw [List.map_nil, Rks]; rfl
  | (f, e) :: kvs, _, h => by
    rw [Rks] at h
    obtain ⟨u, r, rfl, h1, h2⟩ := h
    rw [List.map_cons, List.map_cons]
    by_cases z : f = k
    · rw [if_pos z, if_pos z, Rks]; exact ⟨v, _, rfl, rd, Rks.repl rd h2⟩
    · rw [if_neg z, if_neg z, Rks]; exact ⟨u, _, rfl, h1, Rks.repl rd h2⟩
theorem Rks.snoc {k : Key} {d : D} {v : V} (rd : Rl K H m d v) : ∀ {kvs : List (Key × D)} {gs : List (Key × V)}, Rks K H m kvs gs → Rks K H m (kvs ++ [(k, d)]) (gs ++ [(k, v)])
  | [], _, h => by rw [Rks] at h; subst h; rw [List.nil_append, List.nil_append, Rks]; exact ⟨v, [], rfl, rd, by rw [Rks]⟩
  | (f, e) :: kvs, _, h => by
    rw [Rks] at h
    obtain ⟨u, r, rfl, h1, h2⟩ := h
    rw [List.cons_append, List.cons_append, Rks]
    exact ⟨u, _, rfl, h1, Rks.snoc rd h2⟩
theorem Rks.put {k : Key} {d : D} {v : V} (rd : Rl K H m d v) {kvs : List (Key × D)} {gs : List (Key × V)} (h : Rks K H m kvs gs) : Rks K H m (putKD kvs k d) (putK gs k v) := by
  unfold putKD putK
  rw [h.any_]
  split
  · exact h.repl rd
  · exact h.snoc rd
theorem Rks.length : ∀ {kvs : List (Key × D)} {gs : List (Key × V)}, Rks K H m kvs gs → kvs.length = gs.length
  | [], _, h => by rw [Rks] at h; subst h; rfl
  | (f, e) :: kvs, _, h => by
    rw [Rks] at h
    obtain ⟨u, r, rfl, h1, h2⟩ := h
    rw [List.length_cons, List.length_cons, Rks.length h2]
theorem Rks.merge : ∀ {more : List (Key × D)} {ms : List (Key × V)} {kvs : List (Key × D)} {gs : List (Key × V)}, Rks K H m more ms → Rks K H m kvs gs → Rks K H m (mergeKD kvs more) (mergeK gs ms)
  | [], _, _, _, h, r => by rw [Rks] at h; subst h; exact r
  | (f, e) :: more, _, kvs, gs, h, r => by
    rw [Rks] at h
    obtain ⟨u, s, rfl, h1, h2⟩ := h
    show Rks K H m (mergeKD (putKD kvs f e) more) (mergeK (putK gs f u) s)
    exact Rks.merge h2 (r.put h1)
end
/-! ### displays -/
abbrev Pf := Slots → Mem → Option (List (Key × D) × Mem)
def pNilF : Pf := fun _ M => some ([], M)
def pConsF (fk fv : Ef) (r : Pf) : Pf := fun ρ M => (fk ρ M).bind fun p => (fv ρ p.2).bind fun q => (r ρ q.2).bind fun s => (keyD p.1.d).bind fun k => some ((k, q.1.d) :: s.1, s.2)
def tPf (K : PySem.W.Frag) (r : Pf) (trs : List (TE × TE)) : Prop := ∀ σ H (Q : List (V × V) → Hp → Prop), (∃ ρ M m kvs M', Rs K H m ρ σ ∧ Wd K H m M ∧ r ρ M = some (kvs, M') ∧ ∀ H1 m1 gs, Ext H m H1 m1 → Wd K H1 m1 M' → Rks K H1 m1 kvs gs → Q (gs.map fun p => (kV p.1, p.2)) H1) → tPairs trs σ H Q
structure CPs (X : Cx) (pos : Pos) (keys : List (Option Expr)) (values : List Expr) (r : Pf) : Prop where
  pps : ∃ trs, PPs X pos keys values trs ∧ tPf X.K r trs
  all : keys.all (·.isSome) = true
  len : keys.length = values.length
theorem key_kV {K : PySem.W.Frag} {H : Hp} {m : List Addr} {d : D} {k : Key} {y : V} (h : keyD d = some k) (r : Rl K H m d y) : y = kV k := by
  cases d <;> first | (cases h; done) | (cases h; rw [Rl] at r; subst r; rfl)
section
variable {X : Cx} {pos : Pos} {k v : Expr} {ks : List (Option Expr)} {vs : List Expr} {fk fv : Ef} {r : Pf}
theorem cp_nil : CPs X pos [] [] pNilF := ⟨⟨[], pps_nil, fun σ H Q ⟨ρ, M, m, kvs, M', rs, w, hf, P⟩ => by
  cases hf
  exact P H m [] .refl w (by rw [Rks])⟩, rfl, rfl⟩
theorem cp_cons (hk : CEx X k fk) (hv : CEx X v fv) (hr : CPs X pos ks vs r) : CPs X pos (some k :: ks) (v :: vs) (pConsF fk fv r) := by
  obtain ⟨⟨trs, h1, h2⟩, h3, h4⟩ := hr
  refine ⟨⟨_, pps_cons hk hv h1, fun σ H Q ⟨ρ, M, m, kvs, M', rs, w, hf, P⟩ => ?_⟩, by simpa using h3, by simp [h4]⟩
  unfold pConsF at hf
  cases ea : fk ρ M with
  | none => rw [ea] at hf; cases hf
  | some p =>
    rw [ea] at hf; simp only [Option.bind_some] at hf
    cases eb : fv ρ p.2 with
    | none => rw [eb] at hf; cases hf
    | some q =>
      rw [eb] at hf; simp only [Option.bind_some] at hf
      cases ec : r ρ q.2 with
      | none => rw [ec] at hf; cases hf
      | some s =>
        rw [ec] at hf; simp only [Option.bind_some] at hf
        cases ed : keyD p.1.d with
        | none => rw [ed] at hf; cases hf
        | some kk =>
          rw [ed] at hf; cases hf
          refine bindE rs w ea fun H1 m1 x e1 w1 rs1 r1 => bindE rs1 w1 eb fun H2 m2 y e2 w2 rs2 r2 => h2 σ H2 _ ⟨ρ, q.2, m2, s.1, s.2, rs2, w2, ec, fun H3 m3 gs e3 w3 r3 => ?_⟩
          have := P H3 m3 ((kk, y) :: gs) ((e1.trans e2).trans e3) w3 (by rw [Rks]; exact ⟨y, gs, rfl, r2.ext e3, r3⟩)
          rw [List.map_cons] at this
          rw [key_kV ed r1]
          exact this
def cDisp (r : Pf) : Ef := fun ρ M => (r ρ (M ++ [.dct []])).bind fun p => match p.2[M.length]? with
  | some (.dct []) => if p.1.length ≤ 15 then some (.val (.loc M.length), p.2.set M.length (.dct (mergeKD [] p.1))) else none
  | _ => none
theorem ce_disp {keys : List (Option Expr)} {values : List Expr} (h : CPs X pos keys values r) (h0 : keys ≠ []) (h15 : keys.length ≤ 15) : CEx X (.Dict keys values pos) (cDisp r) := by
  obtain ⟨⟨trs, h1, h2⟩, h3, h4⟩ := h
  refine PE.imp (pe_disp h1 h3 h4 h0 h15) fun σ H Q ⟨ρ, M, m, z, M', rs, w, hf, P⟩ => ?_
  intro p hp
  unfold cDisp at hf
  cases ea : r ρ (M ++ [.dct []]) with
  | none => rw [ea] at hf; cases hf
  | some q =>
    rw [ea] at hf; simp only [Option.bind_some] at hf
    split at hf
    · rename_i hd
      split at hf
      · rename_i hl
        cases hf
        have hlen := w.len
        obtain ⟨w1, e1⟩ := w.push (o := .dct []) (u := .dK []) hp ⟨[], upd_same, by rw [Rks]⟩
        refine h2 σ _ _ ⟨ρ, _, _, q.1, q.2, rs.ext e1, w1, ea, fun H1 m1 gs e2 w2 r2 => ?_⟩
        obtain ⟨a, ha, gs0, hb, r0⟩ := w2.get hd
        have ha2 : m1[M.length]? = some p := e2.get (by rw [← hlen, List.getElem?_append_right (Nat.le_refl _)]; simp)
        rw [ha] at ha2; cases ha2
        rw [Rks] at r0; subst r0
        refine ⟨hb, gs, rfl, by rw [← r2.length]; exact hl, ?_⟩
        have e3 := w2.ext_set (u := .dK (mergeK [] gs)) ha
        refine P _ m1 ((e1.trans e2).trans e3) (w2.set ha ⟨mergeK [] gs, upd_same, Rks.merge (r2.ext e3) (by rw [Rks])⟩) _ ?_
        rw [Rl]
        exact ⟨_, rfl, ha⟩
      · cases hf
    · cases hf
def cDNew : Ef := fun _ M => some (.val (.loc M.length), M ++ [.dct []])
theorem ce_dnew : CEx X (.Dict [] [] pos) cDNew := PE.imp pe_dnewK fun σ H Q ⟨ρ, M, m, z, M', rs, w, hf, P⟩ => fun p hp => by
  cases hf
  obtain ⟨w1, e1⟩ := w.push (o := .dct []) (u := .dK []) hp ⟨[], upd_same, by rw [Rks]⟩
  refine P _ _ e1 w1 (.ref p) ?_
  rw [Rl]
  exact ⟨p, rfl, by rw [← w.len, List.getElem?_append_right (Nat.le_refl _)]; simp⟩
end
/-! ### d[k], k in d -/
def dctAt (M : Mem) (d : D) : Option (List (Key × D)) := match d with
  | .loc k => match M[k]? with
    | some (.dct kvs) => some kvs
    | _ => none
  | _ => none
theorem dctAt_ok {K : PySem.W.Frag} {H : Hp} {m : List Addr} {M : Mem} {d : D} {x : V} {kvs : List (Key × D)} (w : Wd K H m M) (r : Rl K H m d x) (h : dctAt M d = some kvs) : ∃ k a gs, d = .loc k ∧ m[k]? = some a ∧ x = .ref a ∧ H a = some (.dK gs) ∧ Rks K H m kvs gs := by
  cases d with
  | loc k =>
    unfold dctAt at h; simp only at h
    split at h
    · rename_i kvs' hk
      cases h
      obtain ⟨a, ha, gs, h1, h2⟩ := w.get hk
      rw [Rl] at r
      obtain ⟨b, rfl, hb⟩ := r
      rw [ha] at hb; cases hb
      exact ⟨k, a, gs, rfl, ha, rfl, h1, h2⟩
    · cases h
  | _ => cases h
def cDGet (fd fk : Ef) : Ef := fun ρ M => (fd ρ M).bind fun p => (fk ρ p.2).bind fun q => (dctAt q.2 p.1.d).bind fun kvs => (keyD q.1.d).bind fun k => (lkD kvs k).bind fun d => some (.val d, q.2)
def cDIn (neg : Bool) (fk fd : Ef) : Ef := fun ρ M => (fk ρ M).bind fun q => (fd ρ q.2).bind fun p => (dctAt p.2 p.1.d).bind fun kvs => (keyD q.1.d).bind fun k => some (.val (.bl (neg != (lkD kvs k).isSome)), p.2)
section
variable {X : Cx} {pos pos' : Pos} {o i value : Expr} {fd fk fv : Ef}
theorem ce_dget (hu : X.A.units + 1 < cLine) (ho : CEx X o fd) (hi : CEx X i fk) (hs : NoSl i) : CEx X (.Subscript o i pos) (cDGet fd fk) := PE.imp (pe_dget hu ho hi hs) fun σ H Q ⟨ρ, M, m, z, M', rs, w, hf, P⟩ => by
  unfold cDGet at hf
  cases ea : fd ρ M with
  | none => rw [ea] at hf; cases hf
  | some p =>
    rw [ea] at hf; simp only [Option.bind_some] at hf
    cases eb : fk ρ p.2 with
    | none => rw [eb] at hf; cases hf
    | some q =>
      rw [eb] at hf; simp only [Option.bind_some] at hf
      cases ec : dctAt q.2 p.1.d with
      | none => rw [ec] at hf; cases hf
      | some kvs =>
        rw [ec] at hf; simp only [Option.bind_some] at hf
        cases ed : keyD q.1.d with
        | none => rw [ed] at hf; cases hf
        | some k =>
          rw [ed] at hf; simp only [Option.bind_some] at hf
          cases el : lkD kvs k with
          | none => rw [el] at hf; cases hf
          | some e =>
            rw [el] at hf; cases hf
            refine bindE rs w ea fun H1 m1 x e1 w1 rs1 r1 => bindE rs1 w1 eb fun H2 m2 y e2 w2 rs2 r2 => ?_
            obtain ⟨n, a, gs, h1, h2, rfl, h3, h4⟩ := dctAt_ok w2 (r1.ext e2) ec
            have := h4.look (k := k)
            rw [el] at this
            obtain ⟨v, h5, h6⟩ := this
            refine ⟨a, v, rfl, ?_, P H2 m2 (e1.trans e2) w2 v h6⟩
            rw [← h5, key_kV ed r2]
            exact DGet.k h3
theorem din_of {neg : Bool} {σ : L2.St} {H : Hp} {Q : VK} (h : tE X.K (cDIn neg fk fd) σ H Q) : tE X.K fk σ H fun y H1 => tE X.K fd σ H1 fun x H2 => ∃ a o, x = .ref a ∧ DGet H2 a y o ∧ Q (.bl (neg != o.isSome)) H2 := by
  obtain ⟨ρ, M, m, z, M', rs, w, hf, P⟩ := h
  unfold cDIn at hf
  cases ea : fk ρ M with
  | none => rw [ea] at hf; cases hf
  | some q =>
    rw [ea] at hf; simp only [Option.bind_some] at hf
    cases eb : fd ρ q.2 with
    | none => rw [eb] at hf; cases hf
    | some p =>
      rw [eb] at hf; simp only [Option.bind_some] at hf
      cases ec : dctAt p.2 p.1.d with
      | none => rw [ec] at hf; cases hf
      | some kvs =>
        rw [ec] at hf; simp only [Option.bind_some] at hf
        cases ed : keyD q.1.d with
        | none => rw [ed] at hf; cases hf
        | some k =>
          rw [ed] at hf; cases hf
          refine bindE rs w ea fun H1 m1 y e1 w1 rs1 r1 => bindE rs1 w1 eb fun H2 m2 x e2 w2 rs2 r2 => ?_
          obtain ⟨n, a, gs, h1, h2, rfl, h3, h4⟩ := dctAt_ok w2 r2 ec
          have := h4.look (k := k)
          refine ⟨a, valV gs k, rfl, by rw [key_kV ed (r1.ext e2)]; exact DGet.k h3, ?_⟩
          have es : (valV gs k).isSome = (lkD kvs k).isSome := by
            cases el : lkD kvs k with
            | none => rw [el] at this; simp only at this; rw [this]; rfl
            | some d => rw [el] at this; obtain ⟨v, h5, _⟩ := this; rw [h5]; rfl
          rw [es]
          exact P H2 m2 (e1.trans e2) w2 _ rl_bl
theorem pc_in_of (hu : X.A.units + 1 < cLine) (hi : CEx X i fk) (ho : CEx X o fd) : PC X .In i o (tE X.K (cDIn false fk fd)) := ⟨fun pins s σ H Q I h => (pc_din hu hi ho).run pins s σ H Q I (by
  obtain ⟨ρ, M, m, z, M', rs, w, hf, P⟩ := din_of h
  exact ⟨ρ, M, m, z, M', rs, w, hf, by simpa using P⟩)⟩
theorem pc_nin_of (hu : X.A.units + 1 < cLine) (hi : CEx X i fk) (ho : CEx X o fd) : PC X .NotIn i o (tE X.K (cDIn true fk fd)) := ⟨fun pins s σ H Q I h => (pc_dnotin hu hi ho).run pins s σ H Q I (by
  obtain ⟨ρ, M, m, z, M', rs, w, hf, P⟩ := din_of h
  exact ⟨ρ, M, m, z, M', rs, w, hf, by simpa using P⟩)⟩
theorem ce_pc {op : CmpOp} {f : Ef} (h : PC X op i o (tE X.K f)) (hm : behindInMarks op o = false) : CEx X (.Compare i [op] [o] pos) f := pe_cmp h hm
theorem ct_pc {op : CmpOp} {f : Ef} (h : PC X op i o (tE X.K f)) (hm : behindInMarks op o = false) : CTx X (.Compare i [op] [o] pos) (toB f) := PT.imp (pt_cmp h hm) fun σ H Q q => tst_of q
/-! ### d[k] = v -/
def sDSet (fd fk fv : Ef) : Sf := fun ρ M => (fv ρ M).bind fun v => (fd ρ v.2).bind fun p => (fk ρ p.2).bind fun q => (dctAt q.2 p.1.d).bind fun kvs => (keyD q.1.d).bind fun k => match p.1.d with
  | .loc n => if kvs.length < sizeLine then some (.nx, ρ, q.2.set n (.dct (putKD kvs k v.1.d))) else none
  | _ => none
theorem cs_dset (hu : X.A.units + 1 < cLine) (ho : CEx X o fd) (hi : CEx X i fk) (hv : CEx X value fv) (hs : swapsWith value (some (.Subscript o i pos')) pos.line X.env = pure false := by rfl) :
    CSx X (.Assign [.Subscript o i pos'] value pos) (sDSet fd fk fv) := PS.imp (ps_dput hu ho hi hv hs) fun Dn σ H ⟨ρ, M, m, fl, ρ', M', rs, w, hf, P⟩ => by
  unfold sDSet at hf
  cases ez : fv ρ M with
  | none => rw [ez] at hf; cases hf
  | some v =>
    rw [ez] at hf; simp only [Option.bind_some] at hf
    cases ea : fd ρ v.2 with
    | none => rw [ea] at hf; cases hf
    | some p =>
      rw [ea] at hf; simp only [Option.bind_some] at hf
      cases eb : fk ρ p.2 with
      | none => rw [eb] at hf; cases hf
      | some q =>
        rw [eb] at hf; simp only [Option.bind_some] at hf
        cases ec : dctAt q.2 p.1.d with
        | none => rw [ec] at hf; cases hf
        | some kvs =>
          rw [ec] at hf; simp only [Option.bind_some] at hf
          cases ed : keyD q.1.d with
          | none => rw [ed] at hf; cases hf
          | some k =>
            rw [ed] at hf; simp only [Option.bind_some] at hf
            refine bindE rs w ez fun H1 m1 x e1 w1 rs1 r1 => bindE rs1 w1 ea fun H2 m2 y e2 w2 rs2 r2 => bindE rs2 w2 eb fun H3 m3 z e3 w3 rs3 r3 => ?_
            obtain ⟨n, a, gs, h1, h2, rfl, h3, h4⟩ := dctAt_ok w3 (r2.ext e3) ec
            rw [h1] at hf
            simp only at hf
            split at hf
            · rename_i hl
              cases hf
              have e4 := w3.ext_set (u := .dK (putK gs k x)) h2
              refine ⟨a, upd H3 a (.dK (putK gs k x)), rfl, by rw [key_kV ed r3]; exact DPut.k h3 (by rw [← h4.length]; exact hl), ?_⟩
              exact P _ m3 σ (((e1.trans e2).trans e3).trans e4) (w3.set h2 ⟨_, upd_same, (h4.ext e4).put (((r1.ext e2).ext e3).ext e4)⟩) (rs3.ext e4)
            · cases hf
/-! ### a result without what was made on the way -/
noncomputable def cFin (f : Ef) : Ef := fun ρ M => (f ρ M).bind fun p => some (finK M p.1 p.2)
theorem ce_fin {e : Expr} {f : Ef} (h : CEx X e f) : CEx X e (cFin f) := PE.imp h fun σ H Q ⟨ρ, M, m, z, M', rs, w, hf, P⟩ => by
  unfold cFin at hf
  cases ea : f ρ M with
  | none => rw [ea] at hf; cases hf
  | some p =>
    rw [ea] at hf; simp only [Option.bind_some, Option.some.injEq] at hf
    have h1 : z = (finK M p.1 p.2).1 := by rw [hf]
    have h2 : M' = (finK M p.1 p.2).2 := by rw [hf]
    subst h1; subst h2
    exact ⟨ρ, M, m, p.1, p.2, rs, w, ea, finK_ok w P⟩
end
end CI

/-! N30: attributes as targets of an unpacking; xs.count(k); sep.join(xs) -/
namespace CI
open PySem PySem.Spec PyProof.Rows L2
def gFldG (K : PySem.W.Frag) (f : Str) (ta : TE) : TG := fun v σ H Q => ta σ H fun x H2 => ∃ a C dx fs, x = .ref a ∧ H2 a = some (.ins C dx fs) ∧ Cls K C ∧ NoAttr K C f ∧ fs.length < 1000 ∧ Q σ (upd H2 a (.ins C dx (putF f v fs)))
section
variable {X : Cx} {o : Expr} {n : Str} {pos : Pos} {fo : Ef} {cs : List Str}
theorem pg_attr {ta : TE} (ha : PE X o ta) : PG X (.Attribute o n pos) (gFldG X.K n ta) := by
  refine ⟨fun pins s σ H v u Q I r h => ?_⟩
  rw [assign_Attribute]
  refine wpAny_bind (wpAny_holding (thn (ha.run pins s σ H _ I h) fun ov s1 ⟨x, H1, I1, r1, a, C, dx, fs, ex, ea, c, nn, l, q⟩ => ?_))
  subst ex
  obtain rfl : ov = Value.ref a := r1
  refine wpAny_bind (wpAny_standAt (wpAny_bind (wpAny_holding (setattr_ok I1 ea c nn l r fun s3 I3 => ?_))))
  exact wpAny_release ⟨σ, _, I3, q⟩
def gFld (cs : List Str) (f : Str) (fo : Ef) : Gf := fun d ρ M => (stFld cs f fo d ρ M).bind fun p => some (p.2.1, p.2.2)
theorem stFld_nx {f : Str} {d : D} {ρ ρ' : Slots} {M M' : Mem} {fl : Fl} (h : stFld cs f fo d ρ M = some (fl, ρ', M')) : fl = .nx := by
  unfold stFld at h
  cases ea : fo ρ M with
  | none => rw [ea] at h; cases h
  | some q =>
    rw [ea] at h; simp only [Option.bind_some] at h
    split at h
    · split at h
      · split at h
        · cases h; rfl
        · cases h
      · cases h
    · cases h
theorem cg_fld (ha : CEx X o fo) (hcs : ∀ c ∈ cs, Cls X.K (He.ga X.K c) ∧ NoAttr X.K (He.ga X.K c) n) : CGx X (.Attribute o n pos) (gFld cs n fo) := PG.imp (pg_attr ha) fun v σ H Q ⟨d, ρ, M, m, ρ', M', r, rs, w, hf, P⟩ => by
  unfold gFld at hf
  cases ea : stFld cs n fo d ρ M with
  | none => rw [ea] at hf; cases hf
  | some p =>
    rw [ea] at hf; cases hf
    obtain ⟨fl, ρ', M'⟩ := p
    have := stFld_nx ea
    subst this
    exact fld_of (Dn := ⟨Q, fun _ _ => False, fun _ _ => False, fun _ _ => False⟩) hcs .refl rs w r ea P
/-! ### count, join -/
def oCount : Mop := fun d ds M => match ds with
  | [.int k] => (asL M d).bind fun es => (intsD es).bind fun is => some (.val (.int (is.count k : Nat)), M)
  | _ => none
theorem ok_count : MtOk X "list" "list.count" oCount := by
  refine ⟨_, mt_lcount, fun H m M d ds x xs z M' Q w r rs ho P => ?_⟩
  unfold oCount at ho
  split at ho
  · rename_i k
    cases ea : asL M d with
    | none => rw [ea] at ho; cases ho
    | some es =>
      rw [ea] at ho; simp only [Option.bind_some] at ho
      cases eb : intsD es with
      | none => rw [eb] at ho; cases ho
      | some is =>
        rw [eb] at ho; cases ho
        obtain ⟨a, vs, rfl, h1, h2⟩ := asL_ok w r ea
        obtain ⟨v, rfl, h3⟩ := rs.one
        rw [Rl] at h3; subst h3
        rw [intsD_eq eb] at h2
        rw [rls_ints h2] at h1
        exact ⟨a, is, k, rfl, rfl, h1, P.val w rl_int⟩
  · cases ho
def strsD : List D → Option (List Str)
  | [] => some []
  | .str x :: ds => (strsD ds).map fun r => x :: r
  | _ => none
theorem strsD_map : ∀ xs : List Str, strsD (xs.map .str) = some xs
  | [] => rfl
  | x :: xs => by rw [List.map_cons, strsD, strsD_map xs]; rfl
theorem strsD_eq : ∀ {ds : List D} {xs : List Str}, strsD ds = some xs → ds = xs.map .str
  | [], _, h => by cases h; rfl
  | d :: ds, xs, h => by
    cases d <;> first | (simp [strsD] at h; done) | skip
    rw [strsD] at h
    cases e : strsD ds with
    | none => rw [e] at h; cases h
    | some r => rw [e] at h; cases h; rw [List.map_cons, strsD_eq e]
theorem rls_strs {K : PySem.W.Frag} {H : Hp} {m : List Addr} : ∀ {xs : List Str} {vs : List V}, Rls K H m (xs.map .str) vs → vs = xs.map V.str
  | [], _, h => by rw [List.map_nil, Rls] at h; exact h
  | x :: xs, _, h => by
    rw [List.map_cons, Rls] at h
    obtain ⟨v, r, rfl, h1, h2⟩ := h
    rw [Rl] at h1
    rw [h1, rls_strs h2]; rfl
/-- sep.join(xs) -/
def cJoin (fo fe : Ef) : Ef := fun ρ M => (fo ρ M).bind fun p => (fe ρ p.2).bind fun q => match p.1.d with
  | .str a => (asS q.2 q.1.d).bind fun ds => (strsD ds).bind fun ys => if (ys.map (·.length)).sum + ys.length * a.length ≤ 16777216 then some (.val (.str (Txt.join a ys)), q.2) else none
  | _ => none
theorem ce_join {e : Expr} {apos : Pos} {fe : Ef} (ho : CEx X o fo) (he : CEx X e fe) (hs : starEach [e] X.env = [(false, eval e X.env)] := by rfl) (hbase : attributeBase o "join" X.env (eval o X.env) = eval o X.env := by rfl) (hline : (apos.endLine == pos.line) = true := by rfl) :
    CEx X (.Call (.Attribute o "join" apos) [e] [] pos) (cJoin fo fe) := PE.imp (pe_join ho he hs hbase hline) fun σ H Q ⟨ρ, M, m, z, M', rs, w, hf, P⟩ => by
  unfold cJoin at hf
  cases ea : fo ρ M with
  | none => rw [ea] at hf; cases hf
  | some p =>
    rw [ea] at hf; simp only [Option.bind_some] at hf
    cases eb : fe ρ p.2 with
    | none => rw [eb] at hf; cases hf
    | some q =>
      rw [eb] at hf; simp only [Option.bind_some] at hf
      refine bindE rs w ea fun H1 m1 x e1 w1 rs1 r1 => ?_
      split at hf
      · rename_i a hp
        cases ec : asS q.2 q.1.d with
        | none => rw [ec] at hf; cases hf
        | some ds =>
          rw [ec] at hf; simp only [Option.bind_some] at hf
          cases ed : strsD ds with
          | none => rw [ed] at hf; cases hf
          | some ys =>
            rw [ed] at hf; simp only [Option.bind_some] at hf
            split at hf
            · rename_i hl
              cases hf
              rw [hp, Rl] at r1; subst r1
              refine ⟨⟨a, rfl⟩, bindE rs1 w1 eb fun H2 m2 y e2 w2 rs2 r2 => ?_⟩
              obtain ⟨ad, vs, rfl, h1, h2⟩ := asS_ok w2 r2 ec
              rw [strsD_eq ed] at h2
              rw [rls_strs h2] at h1
              exact ⟨a, ad, ys, rfl, rfl, h1, hl, (P.ext (e1.trans e2)).val w2 rl_str⟩
            · cases hf
      · cases hf
end
end CI

/-! T1: the typed reading: values of Lean types, an environment of such values, what stands for it in slots and memory -/
namespace TL
open PySem PySem.Spec PyProof.Rows L2 CI
class Enc (α : Type) where
  enc : α → D
  nle : ∀ (n : Nat) (x : α), nl n (enc x) = true
structure Tu (α : Type) where
  l : List α
  deriving DecidableEq
structure Scr where
  l : List Int
structure P3 (α β γ : Type) where
  a : α
  b : β
  c : γ
  deriving DecidableEq
structure P4 (α β γ δ : Type) where
  a : α
  b : β
  c : γ
  d : δ
  deriving DecidableEq
structure P5 (α β γ δ ε : Type) where
  a : α
  b : β
  c : γ
  d : δ
  e : ε
  deriving DecidableEq
section
variable {α β γ δ ε : Type} [Enc α] [Enc β] [Enc γ] [Enc δ] [Enc ε]
instance : Enc Int := ⟨.int, fun _ _ => rfl⟩
instance : Enc Bool := ⟨.bl, fun _ _ => rfl⟩
instance : Enc Str := ⟨.str, fun _ _ => rfl⟩
instance : Enc Unit := ⟨fun _ => .non, fun _ _ => rfl⟩
instance : Enc Scr := ⟨fun s => .scr s.l, fun _ _ => rfl⟩
theorem nls_enc (n : Nat) (xs : List α) : nls n (xs.map Enc.enc) = true := nls_of fun d hd => by
  obtain ⟨x, _, rfl⟩ := List.mem_map.mp hd
  exact Enc.nle n x
instance : Enc (List α) := ⟨fun xs => .lst (xs.map Enc.enc), fun n xs => by rw [nl_lst]; exact nls_enc n xs⟩
instance : Enc (Tu α) := ⟨fun xs => .tup (xs.l.map Enc.enc), fun n xs => by rw [nl_tup]; exact nls_enc n xs.l⟩
instance : Enc (α × β) := ⟨fun p => .tup [Enc.enc p.1, Enc.enc p.2], fun n p => by simp [Enc.nle]⟩
instance : Enc (P3 α β γ) := ⟨fun p => .tup [Enc.enc p.a, Enc.enc p.b, Enc.enc p.c], fun n p => by simp [Enc.nle]⟩
instance : Enc (P4 α β γ δ) := ⟨fun p => .tup [Enc.enc p.a, Enc.enc p.b, Enc.enc p.c, Enc.enc p.d], fun n p => by simp [Enc.nle]⟩
instance : Enc (P5 α β γ δ ε) := ⟨fun p => .tup [Enc.enc p.a, Enc.enc p.b, Enc.enc p.c, Enc.enc p.d, Enc.enc p.e], fun n p => by simp [Enc.nle]⟩
instance : Enc (Option α) := ⟨fun o => match o with | some x => Enc.enc x | none => .non, fun n o => by cases o <;> simp [Enc.nle]⟩
end
abbrev enc {α : Type} [Enc α] (x : α) : D := Enc.enc x

/-! ### objects -/
/-- memories in which no object points beyond the end -/
def Cl (M : Mem) : Prop := ∀ (j : Nat) (o : O), M[j]? = some o → nlO M.length o = true
abbrev Fp := Nat → Prop
def Frm (M : Mem) (fp : Fp) (M' : Mem) : Prop := M.length ≤ M'.length ∧ ∀ (j : Nat), j < M.length → ¬ fp j → M'[j]? = M[j]?
theorem Frm.refl {M : Mem} {fp : Fp} : Frm M fp M := ⟨Nat.le_refl _, fun _ _ _ => rfl⟩
theorem Frm.trans {M M1 M2 : Mem} {fp fp1 : Fp} (h : Frm M fp M1) (hf : ∀ j, fp1 j → fp j ∨ M.length ≤ j) (h1 : Frm M1 fp1 M2) : Frm M fp M2 :=
  ⟨Nat.le_trans h.1 h1.1, fun j hj hn => by
    rw [h1.2 j (Nat.lt_of_lt_of_le hj h.1) (fun q => by rcases hf j q with q | q <;> first | exact hn q | omega), h.2 j hj hn]⟩
class Rep (σ : Type) where
  rep : Mem → Nat → σ → Fp → Prop
  frame : ∀ {M M' k s fp}, rep M k s fp → (∀ j, fp j → M'[j]? = M[j]?) → rep M' k s fp
  bnd : ∀ {M k s fp}, rep M k s fp → ∀ j, fp j → j < M.length
  self : ∀ {M k s fp}, rep M k s fp → fp k
  trim : ∀ {M k s fp} {n : Nat}, rep M k s fp → k < n → (∀ (j : Nat) (o : O), j < n → M[j]? = some o → nlO n o = true) → ∀ j, fp j → j < n
/-- a list of a name of its own -/
structure LS (α : Type) where
  l : List α
theorem lt_of_get {M : Mem} {k : Nat} {o : O} (h : M[k]? = some o) : k < M.length := by
  rcases Nat.lt_or_ge k M.length with q | q
  · exact q
  · rw [List.getElem?_eq_none q] at h; cases h
instance {α : Type} [Enc α] : Rep (LS α) where
  rep M k s fp := M[k]? = some (.lst (s.l.map Enc.enc)) ∧ ∀ j, fp j ↔ j = k
  frame h hf := ⟨by rw [hf _ ((h.2 _).mpr rfl)]; exact h.1, h.2⟩
  bnd h j hj := by rw [(h.2 j).mp hj]; exact lt_of_get h.1
  self h := (h.2 _).mpr rfl
  trim h hk _ j hj := by rw [(h.2 j).mp hj]; exact hk
structure Ob (σ : Type) where
  v : Option σ

/-! ### environments -/
class SlotR (τ : Type) where
  rel : τ → Option D → Mem → Fp → Prop
  frame : ∀ {t d M M' fp}, rel t d M fp → (∀ j, fp j → M'[j]? = M[j]?) → rel t d M' fp
  bnd : ∀ {t d M fp}, rel t d M fp → ∀ j, fp j → j < M.length
  emp : τ
  emp_rel : ∀ d M, rel emp d M fun _ => False
  trim : ∀ {t d M fp} {n : Nat}, rel t d M fp → (∀ x, d = some x → nl n x = true) → (∀ (j : Nat) (o : O), j < n → M[j]? = some o → nlO n o = true) → ∀ j, fp j → j < n
instance {α : Type} [Enc α] : SlotR (Option α) where
  rel t d M fp := (∀ v, t = some v → d = some (Enc.enc v)) ∧ ∀ j, ¬ fp j
  frame h _ := h
  bnd h j hj := absurd hj (h.2 j)
  emp := none
  emp_rel d M := ⟨fun v h => (nomatch h), fun _ h => h⟩
  trim h _ _ j hj := absurd hj (h.2 j)
instance {σ : Type} [Rep σ] : SlotR (Ob σ) where
  rel t d M fp := match t.v with
    | none => ∀ j, ¬ fp j
    | some s => ∃ k, d = some (.loc k) ∧ Rep.rep M k s fp
  frame {t d M M' fp} h hf := by
    cases e : t.v with
    | none => rw [e] at h; exact h
    | some s => rw [e] at h; obtain ⟨k, h1, h2⟩ := h; exact ⟨k, h1, Rep.frame h2 hf⟩
  bnd {t d M fp} h j hj := by
    cases e : t.v with
    | none => rw [e] at h; exact absurd hj (h j)
    | some s => rw [e] at h; obtain ⟨k, h1, h2⟩ := h; exact Rep.bnd h2 j hj
  emp := ⟨none⟩
  emp_rel d M := fun _ h => h
  trim {t d M fp n} h hd hM j hj := by
    cases e : t.v with
    | none => rw [e] at h; exact absurd hj (h j)
    | some s =>
      rw [e] at h
      obtain ⟨k, h1, h2⟩ := h
      have := hd _ h1
      rw [nl_loc] at this
      exact Rep.trim h2 (of_decide_eq_true this) hM j hj
class EnvR (E : Type) where
  rel : E → Slots → Mem → Fp → Prop
  frame : ∀ {e ρ M M' fp}, rel e ρ M fp → (∀ j, fp j → M'[j]? = M[j]?) → rel e ρ M' fp
  bnd : ∀ {e ρ M fp}, rel e ρ M fp → ∀ j, fp j → j < M.length
  keep : List Bool → E → E
  keep_rel : ∀ {e ρ M fp} kl, rel e ρ M fp → ∃ fp', rel (keep kl e) (keepD kl ρ) M fp' ∧ ∀ j, fp' j → fp j
  trim : ∀ {e ρ M fp} {n : Nat}, rel e ρ M fp → nlS n ρ = true → (∀ (j : Nat) (o : O), j < n → M[j]? = some o → nlO n o = true) → ∀ j, fp j → j < n
instance : EnvR Unit where
  rel _ _ _ fp := ∀ j, ¬ fp j
  frame h _ := h
  bnd h j hj := absurd hj (h j)
  keep _ e := e
  keep_rel _ h := ⟨_, h, fun _ q => q⟩
  trim h _ _ j hj := absurd hj (h j)
def keepC {τ E : Type} [SlotR τ] (kE : List Bool → E → E) : List Bool → τ × E → τ × E
  | true :: bs, e => (e.1, kE bs e.2)
  | false :: bs, e => (SlotR.emp, kE bs e.2)
  | [], e => e
instance {τ E : Type} [SlotR τ] [EnvR E] : EnvR (τ × E) where
  rel e ρ M fp := ∃ d ρ' f1 f2, ρ = d :: ρ' ∧ SlotR.rel e.1 d M f1 ∧ EnvR.rel e.2 ρ' M f2 ∧ (∀ j, f1 j → ¬ f2 j) ∧ ∀ j, fp j ↔ f1 j ∨ f2 j
  frame {e ρ M M' fp} h hf := by
    obtain ⟨d, ρ', f1, f2, h1, h2, h3, h4, h5⟩ := h
    exact ⟨d, ρ', f1, f2, h1, SlotR.frame h2 fun j q => hf j ((h5 j).mpr (.inl q)), EnvR.frame h3 fun j q => hf j ((h5 j).mpr (.inr q)), h4, h5⟩
  bnd {e ρ M fp} h j hj := by
    obtain ⟨d, ρ', f1, f2, h1, h2, h3, h4, h5⟩ := h
    rcases (h5 j).mp hj with q | q
    · exact SlotR.bnd h2 j q
    · exact EnvR.bnd h3 j q
  keep := keepC EnvR.keep
  keep_rel {e ρ M fp} kl h := by
    obtain ⟨d, ρ', f1, f2, rfl, h2, h3, h4, h5⟩ := id h
    cases kl with
    | nil => exact ⟨fp, by rw [keepD_nil]; exact h, fun _ q => q⟩
    | cons b bs =>
      obtain ⟨f3, h6, h7⟩ := EnvR.keep_rel bs h3
      cases b with
      | true => exact ⟨fun j => f1 j ∨ f3 j, ⟨d, _, f1, f3, rfl, h2, h6, fun j q q2 => h4 j q (h7 j q2), fun _ => Iff.rfl⟩, fun j q => (h5 j).mpr (q.imp id (h7 j))⟩
      | false => exact ⟨f3, ⟨none, _, _, f3, rfl, SlotR.emp_rel _ _, h6, fun j q => q.elim, fun j => ⟨.inr, fun q => q.elim False.elim id⟩⟩, fun j q => (h5 j).mpr (.inr (h7 j q))⟩
  trim {e ρ M fp n} h hn hM j hj := by
    obtain ⟨d, ρ', f1, f2, rfl, h2, h3, h4, h5⟩ := h
    have n1 : ∀ x, d = some x → nl n x = true := fun x q => by subst q; rw [nlS_some, Bool.and_eq_true] at hn; exact hn.1
    have n2 : nlS n ρ' = true := by
      cases d with
      | none => rw [nlS_none] at hn; exact hn
      | some x => rw [nlS_some, Bool.and_eq_true] at hn; exact hn.2
    rcases (h5 j).mp hj with q | q
    · exact SlotR.trim h2 n1 hM j q
    · exact EnvR.trim h3 n2 hM j q
theorem rel_nil {ρ : Slots} {M : Mem} : EnvR.rel () ρ M fun _ => False := fun _ h => h
theorem rel_cons {τ E : Type} [SlotR τ] [EnvR E] {t : τ} {e : E} {d : Option D} {ρ : Slots} {M : Mem} (h1 : SlotR.rel t d M fun _ => False) (h2 : EnvR.rel e ρ M fun _ => False) : EnvR.rel (t, e) (d :: ρ) M fun _ => False :=
  ⟨d, ρ, _, _, rfl, h1, h2, fun _ q => q.elim, fun _ => ⟨.inl, fun q => q.elim id id⟩⟩
theorem rel_val {α : Type} [Enc α] {v : α} {M : Mem} : SlotR.rel (some v) (some (Enc.enc v)) M fun _ => False := ⟨fun w h => by cases h; rfl, fun _ h => h⟩
theorem rel_emp {τ : Type} [SlotR τ] {d : Option D} {M : Mem} : SlotR.rel (SlotR.emp : τ) d M fun _ => False := SlotR.emp_rel d M
theorem ob_some {σ : Type} [Rep σ] {t : Ob σ} {d : Option D} {M : Mem} {fp : Fp} {s : σ} (h : SlotR.rel t d M fp) (e : t.v = some s) : ∃ k, d = some (.loc k) ∧ Rep.rep M k s fp := by
  cases t with
  | mk v =>
    have e : v = some s := e
    subst e
    exact h
theorem ob_mk {σ : Type} [Rep σ] {d : Option D} {M : Mem} {fp : Fp} {s : σ} {k : Nat} (h1 : d = some (.loc k)) (h : Rep.rep M k s fp) : SlotR.rel (⟨some s⟩ : Ob σ) d M fp := ⟨k, h1, h⟩
theorem ls_get {α : Type} [Enc α] {M : Mem} {k : Nat} {s : LS α} {fp : Fp} (h : Rep.rep M k s fp) : M[k]? = some (.lst (s.l.map Enc.enc)) ∧ ∀ j, fp j ↔ j = k := h
/-- a place of an environment -/
structure Lens (E τ : Type) (i : Nat) where
  get : E → τ
  set : E → τ → E
class LOk {E τ : Type} [EnvR E] [SlotR τ] {i : Nat} (ln : Lens E τ i) : Prop where
  ok : ∀ e ρ M fp, EnvR.rel e ρ M fp → ∃ f1, SlotR.rel (ln.get e) (slot ρ i) M f1 ∧ (∀ j, f1 j → fp j) ∧
    ∀ t' d' M' f1', SlotR.rel t' d' M' f1' → (∀ j, fp j → ¬ f1 j → M'[j]? = M[j]?) → (∀ j, f1' j → f1 j ∨ M.length ≤ j) →
      ∃ fp', EnvR.rel (ln.set e t') (ρ.set i d') M' fp' ∧ ∀ j, fp' j → (fp j ∧ ¬ f1 j) ∨ f1' j
@[reducible] def Lens.hd {E τ : Type} : Lens (τ × E) τ 0 := ⟨fun e => e.1, fun e t => (t, e.2)⟩
@[reducible] def Lens.tl {E τ υ : Type} {i : Nat} (l : Lens E τ i) : Lens (υ × E) τ (i + 1) := ⟨fun e => l.get e.2, fun e t => (e.1, l.set e.2 t)⟩
instance {E τ : Type} [EnvR E] [SlotR τ] : LOk (Lens.hd : Lens (τ × E) τ 0) where
  ok e ρ M fp h := by
    obtain ⟨d, ρ', f1, f2, rfl, h2, h3, h4, h5⟩ := h
    refine ⟨f1, h2, fun j q => (h5 j).mpr (.inl q), fun t' d' M' f1' r hf hn => ?_⟩
    refine ⟨fun j => f1' j ∨ f2 j, ⟨d', ρ', f1', f2, rfl, r, EnvR.frame h3 fun j q => hf j ((h5 j).mpr (.inr q)) (fun z => h4 j z q), fun j q q2 => ?_, fun _ => Iff.rfl⟩, fun j q => ?_⟩
    · rcases hn j q with z | z
      · exact h4 j z q2
      · have := EnvR.bnd h3 j q2; omega
    · rcases q with q | q
      · exact .inr q
      · exact .inl ⟨(h5 j).mpr (.inr q), fun z => h4 j z q⟩
instance {E τ υ : Type} [EnvR E] [SlotR τ] [SlotR υ] {i : Nat} (l : Lens E τ i) [LOk l] : LOk (Lens.tl l : Lens (υ × E) τ (i + 1)) where
  ok e ρ M fp h := by
    obtain ⟨d, ρ', f1, f2, rfl, h2, h3, h4, h5⟩ := h
    obtain ⟨g1, k1, k2, k3⟩ := LOk.ok (ln := l) e.2 ρ' M f2 h3
    refine ⟨g1, k1, fun j q => (h5 j).mpr (.inr (k2 j q)), fun t' d' M' g1' r hf hn => ?_⟩
    obtain ⟨f2', k4, k5⟩ := k3 t' d' M' g1' r (fun j q q2 => hf j ((h5 j).mpr (.inr q)) q2) hn
    refine ⟨fun j => f1 j ∨ f2' j, ⟨d, ρ'.set i d', f1, f2', rfl, SlotR.frame h2 fun j q => hf j ((h5 j).mpr (.inl q)) (fun z => h4 j q (k2 j z)), k4, fun j q q2 => ?_, fun _ => Iff.rfl⟩, fun j q => ?_⟩
    · rcases k5 j q2 with z | z
      · exact h4 j q z.1
      · rcases hn j z with y | y
        · exact h4 j q (k2 j y)
        · have := SlotR.bnd h2 j q; omega
    · rcases q with q | q
      · exact .inl ⟨(h5 j).mpr (.inl q), fun z => h4 j q (k2 j z)⟩
      · rcases k5 j q with z | z
        · exact .inl ⟨(h5 j).mpr (.inr z.1), z.2⟩
        · exact .inr z
/-- what is kept of an environment -/
@[simp] def kpU : Unit → Unit := id
@[simp] def kpT {τ E : Type} (k : E → E) : τ × E → τ × E := fun e => (e.1, k e.2)
@[simp] def kpF {τ E : Type} (z : τ) (k : E → E) : τ × E → τ × E := fun e => (z, k e.2)
class KOk {E : Type} [EnvR E] (kl : List Bool) (kp : E → E) : Prop where
  eq : ∀ e, EnvR.keep kl e = kp e
instance : KOk [] kpU := ⟨fun _ => rfl⟩
instance {τ E : Type} [SlotR τ] [EnvR E] {kl : List Bool} {k : E → E} [h : KOk kl k] : KOk (true :: kl) (kpT k : τ × E → τ × E) := ⟨fun e => by
  show (e.1, EnvR.keep kl e.2) = _
  rw [KOk.eq (kl := kl) (kp := k)]; rfl⟩
instance {α E : Type} [Enc α] [EnvR E] {kl : List Bool} {k : E → E} [h : KOk kl k] : KOk (false :: kl) (kpF none k : Option α × E → Option α × E) := ⟨fun e => by
  show ((none : Option α), EnvR.keep kl e.2) = _
  rw [KOk.eq (kl := kl) (kp := k)]; rfl⟩
instance {σ E : Type} [Rep σ] [EnvR E] {kl : List Bool} {k : E → E} [h : KOk kl k] : KOk (false :: kl) (kpF ⟨none⟩ k : Ob σ × E → Ob σ × E) := ⟨fun e => by
  show ((⟨none⟩ : Ob σ), EnvR.keep kl e.2) = _
  rw [KOk.eq (kl := kl) (kp := k)]; rfl⟩
theorem rel_none {α : Type} [Enc α] {d : Option D} {M : Mem} : SlotR.rel (none : Option α) d M fun _ => False := SlotR.emp_rel (τ := Option α) d M
theorem rel_obn {σ : Type} [Rep σ] {d : Option D} {M : Mem} : SlotR.rel (⟨none⟩ : Ob σ) d M fun _ => False := SlotR.emp_rel (τ := Ob σ) d M
end TL

/-! T2: the typed reading of expressions -/
namespace TL
open PySem PySem.Spec PyProof.Rows L2 CI
def DenF (fp : Fp) (M : Mem) (d d0 : D) : Prop := d = d0 ∨ ∃ k ds, d = .loc k ∧ d0 = .lst ds ∧ M[k]? = some (.lst ds) ∧ fp k
section
variable {E : Type} [EnvR E] {α β γ δ ε σ : Type} [Enc α] [Enc β] [Enc γ] [Enc δ] [Enc ε] [Enc σ]
def EV (g : E → Option α) (f : Ef) : Prop := ∀ e ρ M fp, EnvR.rel e ρ M fp → Cl M → ∀ v, g e = some v → ∃ r, f ρ M = some (r, M) ∧ DenF fp M r.d (Enc.enc v)
def EP (g : E → Option α) (f : Ef) : Prop := ∀ e ρ M fp, EnvR.rel e ρ M fp → Cl M → ∀ v, g e = some v → ∃ r, f ρ M = some (r, M) ∧ r.d = Enc.enc v
def EN (g : E → Option α) (f : Ef) : Prop := ∀ e ρ M fp, EnvR.rel e ρ M fp → Cl M → ∀ v, g e = some v → ∃ ds, f ρ M = some (.new ds, M) ∧ Enc.enc v = .lst ds
def TP (g : E → Option Bool) (t : Tf) : Prop := ∀ e ρ M fp, EnvR.rel e ρ M fp → Cl M → ∀ b, g e = some b → t ρ M = some (b, M)
def OV (g : E → Option (Option Int)) (o : Of) : Prop := ∀ e ρ M fp, EnvR.rel e ρ M fp → Cl M → ∀ v, g e = some v → o ρ M = some (v, M)
theorem EP.v {g : E → Option α} {f : Ef} (h : EP g f) : EV g f := fun e ρ M fp R C v q => by
  obtain ⟨r, h1, h2⟩ := h e ρ M fp R C v q
  exact ⟨r, h1, .inl h2⟩
theorem EN.p {g : E → Option α} {f : Ef} (h : EN g f) : EP g f := fun e ρ M fp R C v q => by
  obtain ⟨ds, h1, h2⟩ := h e ρ M fp R C v q
  exact ⟨_, h1, h2.symm⟩
theorem EN.v {g : E → Option α} {f : Ef} (h : EN g f) : EV g f := h.p.v
/-- values that are no lists -/
class NL (α : Type) [Enc α] : Prop where
  ne : ∀ (x : α) ds, Enc.enc x ≠ D.lst ds
instance : NL Int := ⟨fun _ _ h => nomatch h⟩
instance : NL Bool := ⟨fun _ _ h => nomatch h⟩
instance : NL Str := ⟨fun _ _ h => nomatch h⟩
instance : NL Unit := ⟨fun _ _ h => nomatch h⟩
instance : NL Scr := ⟨fun _ _ h => nomatch h⟩
instance : NL (Tu α) := ⟨fun _ _ h => nomatch h⟩
instance : NL (α × β) := ⟨fun _ _ h => nomatch h⟩
instance : NL (P3 α β γ) := ⟨fun _ _ h => nomatch h⟩
instance : NL (P4 α β γ δ) := ⟨fun _ _ h => nomatch h⟩
instance : NL (P5 α β γ δ ε) := ⟨fun _ _ h => nomatch h⟩
instance [NL α] : NL (Option α) := ⟨fun x ds h => by cases x with | none => exact nomatch h | some x => exact NL.ne x ds h⟩
theorem den [NL α] {fp : Fp} {M : Mem} {d : D} {x : α} (h : DenF fp M d (Enc.enc x)) : d = Enc.enc x := by
  rcases h with h | ⟨k, ds, _, h, _⟩
  · exact h
  · exact absurd h (NL.ne x ds)
theorem EV.p [NL α] {g : E → Option α} {f : Ef} (h : EV g f) : EP g f := fun e ρ M fp R C v q => by
  obtain ⟨r, h1, h2⟩ := h e ρ M fp R C v q
  exact ⟨r, h1, den h2⟩
/-! ### names and constants -/
omit [EnvR E] in
@[simp] def tV {i : Nat} (ln : Lens E (Option α) i) : E → Option α := fun e => ln.get e
theorem t_var {i : Nat} (ln : Lens E (Option α) i) [LOk ln] : EP (tV ln) (cVar i) := fun e ρ M fp R C v q => by
  obtain ⟨f1, h1, _⟩ := LOk.ok (ln := ln) e ρ M fp R
  have h2 := h1.1 v q
  exact ⟨.val (Enc.enc v), by rw [cVar_ap, h2]; rfl, rfl⟩
omit [EnvR E] in
@[simp] def tL {i : Nat} (ln : Lens E (Ob (LS α)) i) : E → Option (List α) := fun e => (ln.get e).v.map (·.l)
theorem t_loc {i : Nat} (ln : Lens E (Ob (LS α)) i) [LOk ln] : EV (tL ln) (cVar i) := fun e ρ M fp R C v q => by
  obtain ⟨f1, h1, h2, _⟩ := LOk.ok (ln := ln) e ρ M fp R
  unfold tL at q
  cases hv : (ln.get e).v with
  | none => rw [hv] at q; cases q
  | some s =>
    rw [hv] at q; cases q
    obtain ⟨k, h3, h4⟩ := ob_some h1 hv
    obtain ⟨h4, h5⟩ := ls_get h4
    exact ⟨.val (.loc k), by rw [cVar_ap, h3]; rfl, .inr ⟨k, _, rfl, rfl, h4, h2 k ((h5 k).mpr rfl)⟩⟩
omit [EnvR E] in
@[simp] def tK (v : α) : E → Option α := fun _ => some v
theorem t_val {v : α} {d : D} (h : Enc.enc v = d) : EP (E := E) (tK v) (cVal d) := fun e ρ M fp R C w q => by
  cases q; exact ⟨.val d, rfl, h.symm⟩
/-! ### coercions -/
omit [EnvR E] in
@[simp] def tSome (g : E → Option α) : E → Option (Option α) := fun e => (g e).map some
omit [EnvR E] in
@[simp] def tUn (g : E → Option (Option α)) : E → Option α := fun e => (g e).bind id
theorem EP.some {g : E → Option α} {f : Ef} (h : EP g f) : EP (tSome g) f := fun e ρ M fp R C v q => by
  unfold tSome at q
  cases hg : g e with
  | none => rw [hg] at q; cases q
  | some x => rw [hg] at q; cases q; exact h e ρ M fp R C x hg
theorem EP.un {g : E → Option (Option α)} {f : Ef} (h : EP g f) : EP (tUn g) f := fun e ρ M fp R C v q => by
  unfold tUn at q
  cases hg : g e with
  | none => rw [hg] at q; cases q
  | some x =>
    rw [hg] at q
    cases x with
    | none => cases q
    | some x => cases q; exact h e ρ M fp R C _ hg
omit [EnvR E] in
@[simp] def tNone (_ : Unit) : E → Option (Option α) := fun _ => some none
theorem t_none : EP (E := E) (α := Option α) (tNone ()) cNon := fun e ρ M fp R C w q => by cases q; exact ⟨.val .non, rfl, rfl⟩
/-! ### operators -/
def OpV (o : Bop) (t : α → β → Option γ) : Prop := ∀ a b c M fp d1 d2, DenF fp M d1 (Enc.enc a) → DenF fp M d2 (Enc.enc b) → t a b = some c → ∃ r, o d1 d2 M = some r ∧ r.d = Enc.enc c
def OpN (o : Bop) (t : α → β → Option γ) : Prop := ∀ a b c M fp d1 d2, DenF fp M d1 (Enc.enc a) → DenF fp M d2 (Enc.enc b) → t a b = some c → ∃ ds, o d1 d2 M = some (.new ds) ∧ Enc.enc c = .lst ds
omit [EnvR E] in
@[simp] def tB (t : α → β → Option γ) (ga : E → Option α) (gb : E → Option β) : E → Option γ := fun e => (ga e).bind fun a => (gb e).bind fun b => t a b
theorem t_bin {o : Bop} {t : α → β → Option γ} {ga : E → Option α} {gb : E → Option β} {fa fb : Ef} (ho : OpV o t) (ha : EV ga fa) (hb : EV gb fb) : EP (tB t ga gb) (cBin o fa fb) := fun e ρ M fp R C v q => by
  unfold tB at q
  cases h1 : ga e with
  | none => rw [h1] at q; cases q
  | some a =>
    cases h2 : gb e with
    | none => rw [h1, h2] at q; cases q
    | some b =>
      rw [h1, h2] at q
      obtain ⟨r1, e1, k1⟩ := ha e ρ M fp R C a h1
      obtain ⟨r2, e2, k2⟩ := hb e ρ M fp R C b h2
      obtain ⟨r, e3, k3⟩ := ho a b v M fp _ _ k1 k2 q
      exact ⟨r, by simp [cBin, e1, e2, e3], k3⟩
theorem t_binN {o : Bop} {t : α → β → Option γ} {ga : E → Option α} {gb : E → Option β} {fa fb : Ef} (ho : OpN o t) (ha : EV ga fa) (hb : EV gb fb) : EN (tB t ga gb) (cBin o fa fb) := fun e ρ M fp R C v q => by
  unfold tB at q
  cases h1 : ga e with
  | none => rw [h1] at q; cases q
  | some a =>
    cases h2 : gb e with
    | none => rw [h1, h2] at q; cases q
    | some b =>
      rw [h1, h2] at q
      obtain ⟨r1, e1, k1⟩ := ha e ρ M fp R C a h1
      obtain ⟨r2, e2, k2⟩ := hb e ρ M fp R C b h2
      obtain ⟨r, e3, k3⟩ := ho a b v M fp _ _ k1 k2 q
      exact ⟨r, by simp [cBin, e1, e2, e3], k3⟩
theorem OpV.of [NL α] [NL β] {o : Bop} {t : α → β → Option γ} (h : ∀ a b c M, t a b = some c → ∃ r, o (Enc.enc a) (Enc.enc b) M = some r ∧ r.d = Enc.enc c) : OpV o t := fun a b c M fp d1 d2 h1 h2 q => by
  rw [den h1, den h2]; exact h a b c M q
@[simp] def addI (a b : Int) : Option Int := some (a + b)
@[simp] def subI (a b : Int) : Option Int := some (a - b)
@[simp] def mulI (a b : Int) : Option Int := if bMul a b = true then some (a * b) else none
@[simp] def divI (a b : Int) : Option Int := if bDiv a b = true then some (a / b) else none
@[simp] def modI (a b : Int) : Option Int := if bMod a b = true then some (a % b) else none
@[simp] def powI (a b : Int) : Option Int := if bPow a b = true then some (a ^ b.toNat) else none
@[simp] def ltI (a b : Int) : Option Bool := some (decide (a < b))
@[simp] def leI (a b : Int) : Option Bool := some (decide (a ≤ b))
@[simp] def gtI (a b : Int) : Option Bool := some (decide (b < a))
@[simp] def geI (a b : Int) : Option Bool := some (decide (b ≤ a))
theorem o_add : OpV oAdd addI := .of fun a b c M q => by cases q; exact ⟨_, rfl, rfl⟩
theorem o_sub : OpV oSub subI := .of fun a b c M q => by cases q; exact ⟨_, rfl, rfl⟩
theorem o_mul : OpV oMulA mulI := .of fun a b c M q => by
  unfold mulI at q; split at q
  · rename_i h; cases q
    exact ⟨_, (oMulA_int (i := a) (j := b) (M := M)).trans (if_pos h), rfl⟩
  · cases q
theorem oic {C : Int → Int → Bool} {g : Int → Int → Int} : OpV (oIc C fun i j => .int (g i j)) (fun a b => if C a b = true then some (g a b) else none) := .of fun a b c M q => by
  split at q
  · rename_i h; cases q; exact ⟨.val (.int (g a b)), if_pos h, rfl⟩
  · cases q
theorem o_div : OpV oDiv divI := oic
theorem o_mod : OpV oMod modI := oic
theorem o_pow : OpV oPow powI := oic
theorem o_lt : OpV oLt ltI := .of fun a b c M q => by cases q; exact ⟨_, rfl, rfl⟩
theorem o_le : OpV oLe leI := .of fun a b c M q => by cases q; exact ⟨_, rfl, rfl⟩
theorem o_gt : OpV oGt gtI := .of fun a b c M q => by cases q; exact ⟨_, rfl, rfl⟩
theorem o_ge : OpV oGe geI := .of fun a b c M q => by cases q; exact ⟨_, rfl, rfl⟩
end
/-! ### equality -/
class EncEq (α : Type) [DecidableEq α] [Enc α] where
  okE : α → Bool
  lv : Nat
  pl : ∀ x, okE x = true → plS lv (Enc.enc x) = true
  dq : ∀ x y : α, deq (Enc.enc x) (Enc.enc y) = decide (x = y)
class NN (α : Type) [Enc α] : Prop where
  nn : ∀ x : α, isNon (Enc.enc x) = false
theorem plS_up : ∀ {n m : Nat} {d : D}, n ≤ m → plS n d = true → plS m d = true
  | 0, _, d, _, h => by simp [plS] at h
  | n + 1, 0, d, hn, _ => by omega
  | n + 1, m + 1, d, hn, h => by
    cases d with
    | tup ds =>
      rw [plS_tup] at h ⊢
      exact List.all_eq_true.mpr fun x hx => plS_up (by omega) (List.all_eq_true.mp h x hx)
    | lst ds =>
      rw [plS_lst] at h ⊢
      exact List.all_eq_true.mpr fun x hx => plS_up (by omega) (List.all_eq_true.mp h x hx)
    | non => rfl
    | bl b => rfl
    | int i => rfl
    | str x => exact h
    | scr x => simp [plS] at h
    | loc x => simp [plS] at h
section
variable {α β γ δ ε : Type} [DecidableEq α] [DecidableEq β] [DecidableEq γ] [DecidableEq δ] [DecidableEq ε] [Enc α] [Enc β] [Enc γ] [Enc δ] [Enc ε] [EncEq α] [EncEq β] [EncEq γ] [EncEq δ] [EncEq ε]
instance : NN Int := ⟨fun _ => rfl⟩
instance : NN Bool := ⟨fun _ => rfl⟩
instance : NN Str := ⟨fun _ => rfl⟩
instance {α : Type} [Enc α] : NN (List α) := ⟨fun _ => rfl⟩
instance {α : Type} [Enc α] : NN (Tu α) := ⟨fun _ => rfl⟩
instance {α β : Type} [Enc α] [Enc β] : NN (α × β) := ⟨fun _ => rfl⟩
instance {α β γ : Type} [Enc α] [Enc β] [Enc γ] : NN (P3 α β γ) := ⟨fun _ => rfl⟩
instance {α β γ δ : Type} [Enc α] [Enc β] [Enc γ] [Enc δ] : NN (P4 α β γ δ) := ⟨fun _ => rfl⟩
instance {α β γ δ ε : Type} [Enc α] [Enc β] [Enc γ] [Enc δ] [Enc ε] : NN (P5 α β γ δ ε) := ⟨fun _ => rfl⟩
instance : EncEq Int := ⟨fun _ => true, 1, fun _ _ => rfl, fun x y => deq_int x y⟩
instance : EncEq Bool := ⟨fun _ => true, 1, fun _ _ => rfl, fun x y => deq_bl x y⟩
instance : EncEq Str := ⟨fun x => PyData.strOk x, 1, fun _ h => h, fun x y => deq_str x y⟩
instance : EncEq Unit := ⟨fun _ => true, 1, fun _ _ => rfl, fun x y => by simp [Enc.enc]⟩
theorem pl_all {xs : List α} (h : xs.all EncEq.okE = true) : (xs.map Enc.enc).all (plS (EncEq.lv α)) = true := by
  rw [List.all_map]
  exact List.all_eq_true.mpr fun x hx => EncEq.pl x (List.all_eq_true.mp h x hx)
instance : EncEq (List α) := ⟨fun xs => xs.all EncEq.okE, EncEq.lv α + 1, fun xs h => by
  show plS _ (.lst _) = true
  rw [plS_lst]; exact pl_all h, fun x y => by
  show deq (.lst _) (.lst _) = _
  rw [deq_lst]; exact deqs_map EncEq.dq x y⟩
instance : EncEq (Tu α) := ⟨fun xs => xs.l.all EncEq.okE, EncEq.lv α + 1, fun xs h => by
  show plS _ (.tup _) = true
  rw [plS_tup]; exact pl_all h, fun x y => by
  show deq (.tup _) (.tup _) = _
  rw [deq_tup, deqs_map EncEq.dq x.l y.l]
  cases x; cases y; simp⟩
instance : EncEq (α × β) := ⟨fun p => EncEq.okE p.1 && EncEq.okE p.2, max (EncEq.lv α) (EncEq.lv β) + 1, fun p h => by
  rw [Bool.and_eq_true] at h
  show plS _ (.tup _) = true
  rw [plS_tup]
  simp [plS_up (Nat.le_max_left _ _) (EncEq.pl p.1 h.1), plS_up (Nat.le_max_right _ _) (EncEq.pl p.2 h.2)], fun x y => by
  show deq (.tup _) (.tup _) = _
  obtain ⟨a, b⟩ := x; obtain ⟨a', b'⟩ := y
  simp [EncEq.dq]⟩
instance : EncEq (P3 α β γ) := ⟨fun p => EncEq.okE p.a && (EncEq.okE p.b && EncEq.okE p.c), max (EncEq.lv α) (max (EncEq.lv β) (EncEq.lv γ)) + 1, fun p h => by
  simp only [Bool.and_eq_true] at h
  show plS _ (.tup _) = true
  rw [plS_tup]
  simp [plS_up (m := max (EncEq.lv α) (max (EncEq.lv β) (EncEq.lv γ))) (by omega) (EncEq.pl p.a h.1), plS_up (m := max (EncEq.lv α) (max (EncEq.lv β) (EncEq.lv γ))) (by omega) (EncEq.pl p.b h.2.1), plS_up (m := max (EncEq.lv α) (max (EncEq.lv β) (EncEq.lv γ))) (by omega) (EncEq.pl p.c h.2.2)], fun x y => by
  show deq (.tup _) (.tup _) = _
  obtain ⟨a, b, c⟩ := x; obtain ⟨a', b', c'⟩ := y
  simp [EncEq.dq]⟩
instance : EncEq (P4 α β γ δ) := ⟨fun p => EncEq.okE p.a && (EncEq.okE p.b && (EncEq.okE p.c && EncEq.okE p.d)), max (EncEq.lv α) (max (EncEq.lv β) (max (EncEq.lv γ) (EncEq.lv δ))) + 1, fun p h => by
  simp only [Bool.and_eq_true] at h
  show plS _ (.tup _) = true
  rw [plS_tup]
  have le : ∀ {m : Nat}, EncEq.lv α ≤ m → EncEq.lv β ≤ m → EncEq.lv γ ≤ m → EncEq.lv δ ≤ m → [Enc.enc p.a, Enc.enc p.b, Enc.enc p.c, Enc.enc p.d].all (plS m) = true := fun h1 h2 h3 h4 => by
    simp [plS_up h1 (EncEq.pl p.a h.1), plS_up h2 (EncEq.pl p.b h.2.1), plS_up h3 (EncEq.pl p.c h.2.2.1), plS_up h4 (EncEq.pl p.d h.2.2.2)]
  exact le (by omega) (by omega) (by omega) (by omega), fun x y => by
  show deq (.tup _) (.tup _) = _
  obtain ⟨a, b, c, d⟩ := x; obtain ⟨a', b', c', d'⟩ := y
  simp [EncEq.dq]⟩
instance : EncEq (P5 α β γ δ ε) := ⟨fun p => EncEq.okE p.a && (EncEq.okE p.b && (EncEq.okE p.c && (EncEq.okE p.d && EncEq.okE p.e))), max (EncEq.lv α) (max (EncEq.lv β) (max (EncEq.lv γ) (max (EncEq.lv δ) (EncEq.lv ε)))) + 1, fun p h => by
  simp only [Bool.and_eq_true] at h
  show plS _ (.tup _) = true
  rw [plS_tup]
  have le : ∀ {m : Nat}, EncEq.lv α ≤ m → EncEq.lv β ≤ m → EncEq.lv γ ≤ m → EncEq.lv δ ≤ m → EncEq.lv ε ≤ m → [Enc.enc p.a, Enc.enc p.b, Enc.enc p.c, Enc.enc p.d, Enc.enc p.e].all (plS m) = true := fun h1 h2 h3 h4 h5 => by
    simp [plS_up h1 (EncEq.pl p.a h.1), plS_up h2 (EncEq.pl p.b h.2.1), plS_up h3 (EncEq.pl p.c h.2.2.1), plS_up h4 (EncEq.pl p.d h.2.2.2.1), plS_up h5 (EncEq.pl p.e h.2.2.2.2)]
  exact le (by omega) (by omega) (by omega) (by omega) (by omega), fun x y => by
  show deq (.tup _) (.tup _) = _
  obtain ⟨a, b, c, d, e⟩ := x; obtain ⟨a', b', c', d', e'⟩ := y
  simp [EncEq.dq]⟩
theorem deq_nonL {d : D} (h : isNon d = false) : deq .non d = false := by cases d <;> first | (cases h; done) | simp [deq]
theorem deq_nonR {d : D} (h : isNon d = false) : deq d .non = false := by cases d <;> first | (cases h; done) | simp [deq]
instance [NN α] : EncEq (Option α) := ⟨fun o => match o with | some x => EncEq.okE x | none => true, EncEq.lv α + 1, fun o h => by
  cases o with
  | none => rfl
  | some x => exact plS_up (Nat.le_succ _) (EncEq.pl x h), fun x y => by
  cases x with
  | none => cases y with
    | none => simp [Enc.enc]
    | some y => rw [show (Enc.enc (none : Option α)) = D.non from rfl, show (Enc.enc (some y)) = Enc.enc y from rfl, deq_nonL (NN.nn y)]; simp
  | some x => cases y with
    | none => rw [show (Enc.enc (none : Option α)) = D.non from rfl, show (Enc.enc (some x)) = Enc.enc x from rfl, deq_nonR (NN.nn x)]; simp
    | some y => rw [show (Enc.enc (some y)) = Enc.enc y from rfl, show (Enc.enc (some x)) = Enc.enc x from rfl, EncEq.dq]; simp⟩
@[simp] def eqT (a b : α) : Option Bool := if (EncEq.okE a && EncEq.okE b) = true then some (decide (a = b)) else none
@[simp] def neT (a b : α) : Option Bool := if (EncEq.okE a && EncEq.okE b) = true then some (!decide (a = b)) else none
theorem eqB_T {a b : α} {M : Mem} {fp : Fp} {d1 d2 : D} (hl : EncEq.lv α ≤ 64) (h1 : DenF fp M d1 (Enc.enc a)) (h2 : DenF fp M d2 (Enc.enc b)) (h : (EncEq.okE a && EncEq.okE b) = true) : eqB M d1 d2 = some (decide (a = b)) := by
  rw [Bool.and_eq_true] at h
  have key : eqB M (Enc.enc a) (Enc.enc b) = some (decide (a = b)) := by
    rw [eqB_deq hl hl (EncEq.pl a h.1) (EncEq.pl b h.2), EncEq.dq]
  have left : eqB M d1 (Enc.enc b) = some (decide (a = b)) := by
    rcases h1 with h1 | ⟨k, ds, h1, h3, h4, _⟩
    · rw [h1]; exact key
    · rw [h1, eqB_locL h4, ← h3]; exact key
  rcases h2 with h2 | ⟨k, ds, h2, h3, h4, _⟩
  · rw [h2]; exact left
  · rw [h2, eqB_locR h4, ← h3]; exact left
theorem o_eq (hl : EncEq.lv α ≤ 64) : OpV oEq (eqT (α := α)) := fun a b c M fp d1 d2 h1 h2 q => by
  unfold eqT at q
  split at q
  · rename_i h; cases q
    exact ⟨_, by unfold oEq; rw [eqB_T hl h1 h2 h]; rfl, rfl⟩
  · cases q
theorem o_ne (hl : EncEq.lv α ≤ 64) : OpV oNe (neT (α := α)) := fun a b c M fp d1 d2 h1 h2 q => by
  unfold neT at q
  split at q
  · rename_i h; cases q
    exact ⟨_, by unfold oNe; rw [eqB_T hl h1 h2 h]; rfl, rfl⟩
  · cases q
end
section
variable {E : Type} [EnvR E] {α β γ δ ε σ : Type} [Enc α] [Enc β] [Enc γ] [Enc δ] [Enc ε] [Enc σ]
/-! ### is None -/
omit [EnvR E] in
@[simp] def tIsN (g : E → Option (Option α)) : E → Option Bool := fun e => (g e).map fun o => o.isNone
omit [EnvR E] in
@[simp] def tNotN (g : E → Option (Option α)) : E → Option Bool := fun e => (g e).map fun o => o.isSome
theorem isn [NN α] {fp : Fp} {M : Mem} {d : D} {o : Option α} (h : DenF fp M d (Enc.enc o)) : isNon d = o.isNone := by
  rcases h with h | ⟨k, ds, h, h2, _⟩
  · rw [h]
    cases o with
    | none => rfl
    | some x => exact NN.nn x
  · rw [h]
    cases o with
    | none => exact nomatch h2
    | some x => rfl
theorem t_isn [NN α] {g : E → Option (Option α)} {f : Ef} (h : EV g f) : EP (tIsN g) (cBin (oIs false) f cNon) := fun e ρ M fp R C v q => by
  unfold tIsN at q
  cases hg : g e with
  | none => rw [hg] at q; cases q
  | some o =>
    rw [hg] at q; cases q
    obtain ⟨r, h1, h2⟩ := h e ρ M fp R C o hg
    refine ⟨.val (.bl (o.isNone)), ?_, rfl⟩
    simp [h1, isn h2]
theorem t_notn [NN α] {g : E → Option (Option α)} {f : Ef} (h : EV g f) : EP (tNotN g) (cBin (oIs true) f cNon) := fun e ρ M fp R C v q => by
  unfold tNotN at q
  cases hg : g e with
  | none => rw [hg] at q; cases q
  | some o =>
    rw [hg] at q; cases q
    obtain ⟨r, h1, h2⟩ := h e ρ M fp R C o hg
    refine ⟨.val (.bl (o.isSome)), ?_, rfl⟩
    cases o <;> simp [h1, isn h2]
/-! ### sequences -/
class Sq (σ : Type) [Enc σ] (α : outParam Type) [Enc α] where
  toL : σ → List α
  ok : ∀ M x, asS M (Enc.enc x) = some ((toL x).map Enc.enc)
instance : Sq (List α) α := ⟨id, fun M x => rfl⟩
instance : Sq (Tu α) α := ⟨Tu.l, fun M x => rfl⟩
instance : Sq Scr Int := ⟨Scr.l, fun M x => rfl⟩
theorem sq_den [Sq σ α] {fp : Fp} {M : Mem} {d : D} {x : σ} (h : DenF fp M d (Enc.enc x)) : asS M d = some ((Sq.toL x).map Enc.enc) := by
  rcases h with h | ⟨k, ds, h, h2, h3, _⟩
  · rw [h]; exact Sq.ok M x
  · have := Sq.ok M x
    rw [h2] at this
    rw [h, asS_loc h3]; exact this
theorem oIx_of {M : Mem} {d : D} {ds : List D} {i : Int} (h : asS M d = some ds) : oIx d (.int i) M = (L2.atI ds i).bind fun x => some (.val x) := by
  cases d <;> first | (unfold oIx; simp only; rw [h]; rfl) | (simp [asS, asL] at h)
@[simp] def tIx [Sq σ α] (x : σ) (i : Int) : Option α := L2.atI (Sq.toL x) i
theorem o_ix [Sq σ α] : OpV oIx (tIx (σ := σ) (α := α)) := fun a b c M fp d1 d2 h1 h2 q => by
  rw [den h2, show (Enc.enc b) = D.int b from rfl, oIx_of (sq_den h1), at_map]
  unfold tIx at q
  rw [q]; exact ⟨_, rfl, rfl⟩
@[simp] def lenT [Sq σ α] (x : σ) : Option Int := some ((Sq.toL x).length : Int)
omit [EnvR E] in
@[simp] def t1 (t : α → Option β) (g : E → Option α) : E → Option β := fun e => (g e).bind t
theorem oLen_of {M : Mem} {d : D} {ds : List D} (h : asS M d = some ds) : oLen [d] M = some (.val (.int ds.length)) := by
  cases d <;> first | (unfold oLen; simp only; rw [h]; rfl) | (simp [asS, asL] at h)
def Op1 (o : Cop) (t : α → Option β) : Prop := ∀ a c M fp d, DenF fp M d (Enc.enc a) → t a = some c → ∃ r, o [d] M = some r ∧ r.d = Enc.enc c
def Op1N (o : Cop) (t : α → Option β) : Prop := ∀ a c M fp d, DenF fp M d (Enc.enc a) → t a = some c → ∃ ds, o [d] M = some (.new ds) ∧ Enc.enc c = .lst ds
theorem t_cb1 {o : Cop} {t : α → Option β} {g : E → Option α} {f : Ef} (ho : Op1 o t) (h : EV g f) : EP (t1 t g) (cCB o (aCons f aNil)) := fun e ρ M fp R C v q => by
  unfold t1 at q
  cases hg : g e with
  | none => rw [hg] at q; cases q
  | some a =>
    rw [hg] at q
    obtain ⟨r, h1, h2⟩ := h e ρ M fp R C a hg
    obtain ⟨r2, h3, h4⟩ := ho a v M fp _ h2 q
    exact ⟨r2, by simp [cCB, aCons, aNil, h1, h3], h4⟩
theorem t_cb1N {o : Cop} {t : α → Option β} {g : E → Option α} {f : Ef} (ho : Op1N o t) (h : EV g f) : EN (t1 t g) (cCB o (aCons f aNil)) := fun e ρ M fp R C v q => by
  unfold t1 at q
  cases hg : g e with
  | none => rw [hg] at q; cases q
  | some a =>
    rw [hg] at q
    obtain ⟨r, h1, h2⟩ := h e ρ M fp R C a hg
    obtain ⟨r2, h3, h4⟩ := ho a v M fp _ h2 q
    exact ⟨r2, by simp [cCB, aCons, aNil, h1, h3], h4⟩
theorem o_len [Sq σ α] : Op1 oLen (lenT (σ := σ) (α := α)) := fun a c M fp d h q => by
  cases q; rw [oLen_of (sq_den h), List.length_map]; exact ⟨_, rfl, rfl⟩
@[simp] def tupT [Sq σ α] (x : σ) : Option (Tu α) := some ⟨Sq.toL x⟩
theorem o_tup [Sq σ α] : Op1 oTuple (tupT (σ := σ) (α := α)) := fun a c M fp d h q => by
  cases q; exact ⟨.val (.tup ((Sq.toL a).map Enc.enc)), by simp [sq_den h], rfl⟩
@[simp] def lisT [Sq σ α] (x : σ) : Option (List α) := some (Sq.toL x)
theorem o_lis [Sq σ α] : Op1N oList (lisT (σ := σ) (α := α)) := fun a c M fp d h q => by
  cases q; exact ⟨((Sq.toL a).map Enc.enc), by simp [sq_den h], rfl⟩
theorem Op1.of [NL α] {o : Cop} {t : α → Option β} (h : ∀ a c M, t a = some c → ∃ r, o [Enc.enc a] M = some r ∧ r.d = Enc.enc c) : Op1 o t := fun a c M fp d h1 q => by rw [den h1]; exact h a c M q
@[simp] def intI (a : Int) : Option Int := some a
@[simp] def intB (a : Bool) : Option Int := some (if a then 1 else 0)
theorem o_intI : Op1 oInt intI := .of fun a c M q => by cases q; exact ⟨_, rfl, rfl⟩
theorem o_intB : Op1 oInt intB := .of fun a c M q => by cases q; exact ⟨_, rfl, rfl⟩
/-- an operation of one argument by what it gives of the value itself -/
def viaI (o : Cop) (x : D) : Option Int := match o [x] [] with
  | some (.val (.int i)) => some i
  | _ => none
def viaS (o : Cop) (x : D) : Option Str := match o [x] [] with
  | some (.val (.str i)) => some i
  | _ => none
theorem viaI_ok {o : Cop} {x : D} {i : Int} (h : viaI o x = some i) : o [x] [] = some (.val (.int i)) := by
  unfold viaI at h; split at h
  · rename_i h2; cases h; exact h2
  · cases h
def intS (s : Str) : Option Int := viaI oIntS (.str s)
def ordS (s : Str) : Option Int := viaI oOrd (.str s)
theorem o_intS : Op1 oIntS intS := .of fun a c M q => ⟨_, viaI_ok q, rfl⟩
theorem o_ordS : Op1 oOrd ordS := .of fun a c M q => ⟨_, viaI_ok q, rfl⟩
@[simp] def strI (a : Int) : Option Str := if a.natAbs.log2 < 1920 then some (toString a) else none
theorem o_str : Op1 oStr strI := .of fun a c M q => by
  unfold strI at q; split at q
  · rename_i h; cases q; exact ⟨.val (.str (toString a)), if_pos h, rfl⟩
  · cases q
@[simp] def srtT (a : List Int) : Option (List Int) := some (isort a)
theorem asL_den {fp : Fp} {M : Mem} {d : D} {x : List α} (h : DenF fp M d (Enc.enc x)) : asL M d = some (x.map Enc.enc) := by
  rcases h with h | ⟨k, ds, h, h2, h3, _⟩
  · rw [h]; rfl
  · cases h2; rw [h, asL_loc', h3]; rfl
theorem asW_den {fp : Fp} {M : Mem} {d : D} {x : List α} (h : DenF fp M d (Enc.enc x)) : asW M d = some (x.map Enc.enc) := by
  rcases h with h | ⟨k, ds, h, h2, h3, _⟩
  · rw [h]; rfl
  · cases h2; rw [h]; unfold asW; simp only; rw [h3]
theorem o_srt : Op1N oSorted srtT := fun a c M fp d h q => by
  cases q
  refine ⟨(isort a).map .int, ?_, rfl⟩
  rw [oSorted_ap, asL_den h, bnd_some]
  exact srt1_ints
@[simp] def minI (a b : Int) : Option Int := some (min a b)
@[simp] def maxI (a b : Int) : Option Int := some (max a b)
theorem t_cb2 {o : Cop} {t : Int → Int → Option Int} {ga gb : E → Option Int} {fa fb : Ef} (ho : ∀ a b c M, t a b = some c → o [.int a, .int b] M = some (.val (.int c))) (ha : EV ga fa) (hb : EV gb fb) : EP (tB t ga gb) (cCB o (aCons fa (aCons fb aNil))) := fun e ρ M fp R C v q => by
  unfold tB at q
  cases h1 : ga e with
  | none => rw [h1] at q; cases q
  | some a =>
    cases h2 : gb e with
    | none => rw [h1, h2] at q; cases q
    | some b =>
      rw [h1, h2] at q
      obtain ⟨r1, e1, k1⟩ := ha.p e ρ M fp R C a h1
      obtain ⟨r2, e2, k2⟩ := hb.p e ρ M fp R C b h2
      exact ⟨.val (.int v), by simp [cCB, aCons, aNil, e1, e2, k1, k2, Enc.enc, ho a b v M q], rfl⟩
theorem o_min : ∀ (a b c : Int) (M : Mem), minI a b = some c → oMin2 [.int a, .int b] M = some (.val (.int c)) := fun a b c M q => by cases q; exact oMin2_ap
theorem o_max : ∀ (a b c : Int) (M : Mem), maxI a b = some c → oMax2 [.int a, .int b] M = some (.val (.int c)) := fun a b c M q => by cases q; exact oMax2_ap
/-! ### + and * of sequences -/
@[simp] def catL (a b : List α) : Option (List α) := if a.length + b.length ≤ 16777216 then some (a ++ b) else none
@[simp] def catT (a b : Tu α) : Option (Tu α) := if a.l.length + b.l.length ≤ 16777216 then some ⟨a.l ++ b.l⟩ else none
theorem oAdd_W {d e : D} {M : Mem} {xs ys : List D} (h : asW M d = some xs) (h2 : asW M e = some ys) : oAdd d e M = if xs.length + ys.length ≤ sizeLine then some (.new (xs ++ ys)) else none := by
  cases d <;> cases e <;> first | (unfold oAdd; simp only; rw [h, h2]) | (simp [asW] at h h2)
theorem o_catL : OpN oAdd (catL (α := α)) := fun a b c M fp d1 d2 h1 h2 q => by
  unfold catL at q
  split at q
  · rename_i h; cases q
    refine ⟨(a ++ b).map Enc.enc, ?_, rfl⟩
    rw [oAdd_W (asW_den h1) (asW_den h2), if_pos (by simpa [sizeLine] using h), List.map_append]
  · cases q
theorem o_catT : OpV oAdd (catT (α := α)) := .of fun a b c M q => by
  unfold catT at q
  split at q
  · rename_i h; cases q
    refine ⟨.val (.tup ((a.l ++ b.l).map Enc.enc)), ?_, rfl⟩
    show oAdd (.tup _) (.tup _) M = _
    unfold oAdd; simp only
    rw [if_pos (by simpa [sizeLine] using h), List.map_append]
  · cases q
@[simp] def repT (a : Tu α) (k : Int) : Option (Tu α) := if -1000000 < k ∧ k ≤ 1000 ∧ a.l.length ≤ 1000 then some ⟨(List.replicate k.toNat a.l).flatten⟩ else none
@[simp] def repL (a : List α) (k : Int) : Option (List α) := if -1000000 < k ∧ k ≤ 1000 ∧ a.length ≤ 1000 then some (List.replicate k.toNat a).flatten else none
theorem rep_map {f : α → D} {xs : List α} : ∀ n : Nat, (List.replicate n (xs.map f)).flatten = ((List.replicate n xs).flatten).map f
  | 0 => rfl
  | n + 1 => by rw [List.replicate_succ, List.replicate_succ, List.flatten_cons, List.flatten_cons, List.map_append, rep_map n]
theorem o_repT : OpV oMulA (repT (α := α)) := .of fun a b c M q => by
  unfold repT at q
  split at q
  · rename_i h; cases q
    refine ⟨.val (.tup (((List.replicate b.toNat a.l).flatten).map Enc.enc)), ?_, rfl⟩
    show oMulA (.tup _) (.int _) M = _
    rw [oMulA_tup, if_pos (by simpa using h), rep_map]
  · cases q
end
end TL

/-! T3: the typed reading of expressions: slices, displays, tests, calls, comprehensions -/
namespace TL
open PySem PySem.Spec PyProof.Rows L2 CI
section
variable {E : Type} [EnvR E] {α β γ δ ε σ : Type} [Enc α] [Enc β] [Enc γ] [Enc δ] [Enc ε] [Enc σ]
/-! ### slices -/
omit [EnvR E] in
@[simp] def vNone : E → Option (Option Int) := fun _ => some none
omit [EnvR E] in
@[simp] def vSome (g : E → Option Int) : E → Option (Option Int) := fun e => (g e).map some
theorem v_none : OV (E := E) vNone sNone := fun e ρ M fp R C v q => by cases q; rfl
theorem v_some {g : E → Option Int} {f : Ef} (h : EV g f) : OV (vSome g) (sSome f) := fun e ρ M fp R C v q => by
  unfold vSome at q
  cases hg : g e with
  | none => rw [hg] at q; cases q
  | some a =>
    rw [hg] at q; cases q
    obtain ⟨r, h1, h2⟩ := h.p e ρ M fp R C a hg
    simp [sSome, h1, h2, Enc.enc]
omit [EnvR E] in
@[simp] def tSl (ga : E → Option (List α)) (gl gh : E → Option (Option Int)) : E → Option (List α) := fun e => (ga e).bind fun a => (gl e).bind fun l => (gh e).map fun h => cutL a l h
omit [EnvR E] in
@[simp] def tSlT (ga : E → Option (Tu α)) (gl gh : E → Option (Option Int)) : E → Option (Tu α) := fun e => (ga e).bind fun a => (gl e).bind fun l => (gh e).map fun h => ⟨cutL a.l l h⟩
omit [EnvR E] in
@[simp] def tSlS (ga : E → Option Scr) (gl gh : E → Option (Option Int)) : E → Option (List Int) := fun e => (ga e).bind fun a => (gl e).bind fun l => (gh e).map fun h => cutL a.l l h
theorem oSl_L {M : Mem} {d : D} {ds : List D} {lo hi : Option Int} (h : asL M d = some ds) : oSl lo hi d M = some (.new (cutD ds lo hi)) := by
  cases d <;> first | (unfold oSl; simp only; rw [h]; rfl) | (simp [asL] at h)
theorem t_sl {ga : E → Option (List α)} {gl gh : E → Option (Option Int)} {f : Ef} {l h : Of} (ha : EV ga f) (hl : OV gl l) (hh : OV gh h) : EN (tSl ga gl gh) (cSl f l h) := fun e ρ M fp R C v q => by
  unfold tSl at q
  cases h1 : ga e with
  | none => rw [h1] at q; cases q
  | some a =>
    cases h2 : gl e with
    | none => rw [h1, h2] at q; cases q
    | some lo =>
      cases h3 : gh e with
      | none => rw [h1, h2, h3] at q; cases q
      | some hi =>
        rw [h1, h2, h3] at q; cases q
        obtain ⟨r1, e1, k1⟩ := ha e ρ M fp R C a h1
        exact ⟨(cutL a lo hi).map Enc.enc, by simp [cSl, e1, hl e ρ M fp R C lo h2, hh e ρ M fp R C hi h3, oSl_L (asL_den k1), cutD_map], rfl⟩
theorem t_slT {ga : E → Option (Tu α)} {gl gh : E → Option (Option Int)} {f : Ef} {l h : Of} (ha : EV ga f) (hl : OV gl l) (hh : OV gh h) : EP (tSlT ga gl gh) (cSl f l h) := fun e ρ M fp R C v q => by
  unfold tSlT at q
  cases h1 : ga e with
  | none => rw [h1] at q; cases q
  | some a =>
    cases h2 : gl e with
    | none => rw [h1, h2] at q; cases q
    | some lo =>
      cases h3 : gh e with
      | none => rw [h1, h2, h3] at q; cases q
      | some hi =>
        rw [h1, h2, h3] at q; cases q
        obtain ⟨r1, e1, k1⟩ := ha.p e ρ M fp R C a h1
        exact ⟨.val (.tup ((cutL a.l lo hi).map Enc.enc)), by simp [cSl, e1, hl e ρ M fp R C lo h2, hh e ρ M fp R C hi h3, k1, Enc.enc, cutD_map], rfl⟩
theorem t_slS {ga : E → Option Scr} {gl gh : E → Option (Option Int)} {f : Ef} {l h : Of} (ha : EV ga f) (hl : OV gl l) (hh : OV gh h) : EN (tSlS ga gl gh) (cSl f l h) := fun e ρ M fp R C v q => by
  unfold tSlS at q
  cases h1 : ga e with
  | none => rw [h1] at q; cases q
  | some a =>
    cases h2 : gl e with
    | none => rw [h1, h2] at q; cases q
    | some lo =>
      cases h3 : gh e with
      | none => rw [h1, h2, h3] at q; cases q
      | some hi =>
        rw [h1, h2, h3] at q; cases q
        obtain ⟨r1, e1, k1⟩ := ha.p e ρ M fp R C a h1
        exact ⟨(cutL a.l lo hi).map .int, by simp [cSl, e1, hl e ρ M fp R C lo h2, hh e ρ M fp R C hi h3, k1, Enc.enc], rfl⟩
/-! ### in -/
class Fla (α : Type) [DecidableEq α] [Enc α] : Prop where
  f : ∀ x : α, fl (Enc.enc x) = true
  eq : ∀ x y : α, eqF (Enc.enc x) (Enc.enc y) = decide (x = y)
instance : Fla Int := ⟨fun _ => rfl, fun x y => by show (x == y) = _; by_cases h : x = y <;> simp [h]⟩
instance : Fla Str := ⟨fun _ => rfl, fun x y => by show (x == y) = _; by_cases h : x = y <;> simp [h]⟩
instance : Fla (Option Int) := ⟨fun x => by cases x <;> rfl, fun x y => by
  cases x with
  | none => cases y with
    | none => rfl
    | some y => rfl
  | some x => cases y with
    | none => rfl
    | some y => show (x == y) = _; by_cases h : x = y <;> simp [h]⟩
@[simp] def inT [DecidableEq α] [Sq σ α] (x : α) (xs : σ) : Option Bool := some (decide (x ∈ Sq.toL xs))
@[simp] def ninT [DecidableEq α] [Sq σ α] (x : α) (xs : σ) : Option Bool := some (!decide (x ∈ Sq.toL xs))
theorem inD_T [DecidableEq α] [Fla α] (x : α) : ∀ xs : List α, inD (Enc.enc x) (xs.map Enc.enc) = decide (x ∈ xs)
  | [] => by simp [inD]
  | y :: xs => by
    have := inD_T x xs
    unfold inD at this ⊢
    rw [List.map_cons, List.any_cons, this, Fla.eq]
    by_cases h : y = x
    · subst h; simp
    · have h2 : ¬ x = y := fun z => h z.symm
      simp [h, h2]
theorem allfl_T [DecidableEq α] [Fla α] (xs : List α) : (xs.map Enc.enc).all fl = true := by
  rw [List.all_map]; exact List.all_eq_true.mpr fun x _ => Fla.f x
theorem den_fl [DecidableEq α] [Fla α] {fp : Fp} {M : Mem} {d : D} {x : α} (h : DenF fp M d (Enc.enc x)) : d = Enc.enc x := by
  rcases h with h | ⟨k, ds, _, h, _⟩
  · exact h
  · have := Fla.f x; rw [h] at this; cases this
theorem o_in [DecidableEq α] [Fla α] [Sq σ α] : OpV (oIn false) (inT (α := α) (σ := σ)) := fun a b c M fp d1 d2 h1 h2 q => by
  cases q
  refine ⟨.val (.bl _), ?_, rfl⟩
  rw [den_fl h1]
  unfold oIn
  rw [sq_den h2]
  simp only [Option.bind_some]
  rw [if_pos ⟨Fla.f a, allfl_T _⟩, inD_T]; rfl
theorem o_nin [DecidableEq α] [Fla α] [Sq σ α] : OpV (oIn true) (ninT (α := α) (σ := σ)) := fun a b c M fp d1 d2 h1 h2 q => by
  cases q
  refine ⟨.val (.bl _), ?_, rfl⟩
  rw [den_fl h1]
  unfold oIn
  rw [sq_den h2]
  simp only [Option.bind_some]
  rw [if_pos ⟨Fla.f a, allfl_T _⟩, inD_T]; rfl
/-! ### arguments and displays -/
class Args (A : Type) where
  encs : A → List D
instance : Args Unit := ⟨fun _ => []⟩
instance {A : Type} [Args A] : Args (α × A) := ⟨fun p => Enc.enc p.1 :: Args.encs p.2⟩
def AP {A : Type} [Args A] (g : E → Option A) (f : Af) : Prop := ∀ e ρ M fp, EnvR.rel e ρ M fp → Cl M → ∀ v, g e = some v → f ρ M = some (Args.encs v, M)
omit [EnvR E] in
@[simp] def pNil : E → Option Unit := fun _ => some ()
omit [EnvR E] in
@[simp] def pCons {A : Type} (g : E → Option α) (gs : E → Option A) : E → Option (α × A) := fun e => (g e).bind fun a => (gs e).map fun r => (a, r)
theorem p_nil : AP (E := E) pNil aNil := fun e ρ M fp R C v q => by cases q; rfl
theorem p_cons {A : Type} [Args A] {g : E → Option α} {gs : E → Option A} {f : Ef} {fs : Af} (h1 : EP g f) (h2 : AP gs fs) : AP (pCons g gs) (aCons f fs) := fun e ρ M fp R C v q => by
  unfold pCons at q
  cases hg : g e with
  | none => rw [hg] at q; cases q
  | some a =>
    cases hr : gs e with
    | none => rw [hg, hr] at q; cases q
    | some rr =>
      rw [hg, hr] at q; cases q
      obtain ⟨r, k1, k2⟩ := h1 e ρ M fp R C a hg
      simp [aCons, k1, k2, h2 e ρ M fp R C rr hr, Args.encs]
def AL (g : E → Option (List α)) (f : Af) : Prop := ∀ e ρ M fp, EnvR.rel e ρ M fp → Cl M → ∀ v, g e = some v → f ρ M = some (v.map Enc.enc, M)
omit [EnvR E] in
@[simp] def lNil : E → Option (List α) := fun _ => some []
omit [EnvR E] in
@[simp] def lCons (g : E → Option α) (gs : E → Option (List α)) : E → Option (List α) := fun e => (g e).bind fun a => (gs e).map fun r => a :: r
omit [EnvR E] in
@[simp] def lStar [Sq σ α] (g : E → Option σ) (gs : E → Option (List α)) : E → Option (List α) := fun e => (g e).bind fun a => (gs e).map fun r => Sq.toL a ++ r
theorem l_nil : AL (E := E) (α := α) lNil aNil := fun e ρ M fp R C v q => by cases q; rfl
theorem l_cons {g : E → Option α} {gs : E → Option (List α)} {f : Ef} {fs : Af} (h1 : EP g f) (h2 : AL gs fs) : AL (lCons g gs) (aCons f fs) := fun e ρ M fp R C v q => by
  unfold lCons at q
  cases hg : g e with
  | none => rw [hg] at q; cases q
  | some a =>
    cases hr : gs e with
    | none => rw [hg, hr] at q; cases q
    | some rr =>
      rw [hg, hr] at q; cases q
      obtain ⟨r, k1, k2⟩ := h1 e ρ M fp R C a hg
      simp [aCons, k1, k2, h2 e ρ M fp R C rr hr]
theorem l_star [Sq σ α] {g : E → Option σ} {gs : E → Option (List α)} {f : Ef} {fs : Af} (h1 : EV g f) (h2 : AL gs fs) : AL (lStar g gs) (aStar' f fs) := fun e ρ M fp R C v q => by
  unfold lStar at q
  cases hg : g e with
  | none => rw [hg] at q; cases q
  | some a =>
    cases hr : gs e with
    | none => rw [hg, hr] at q; cases q
    | some rr =>
      rw [hg, hr] at q; cases q
      obtain ⟨r, k1, k2⟩ := h1 e ρ M fp R C a hg
      simp [aStar', k1, sq_den k2, h2 e ρ M fp R C rr hr]
omit [EnvR E] in
@[simp] def tLst (g : E → Option (List α)) : E → Option (List α) := fun e => (g e).bind fun xs => if xs.length ≤ 16777216 then some xs else none
omit [EnvR E] in
@[simp] def tTup (g : E → Option (List α)) : E → Option (Tu α) := fun e => (g e).bind fun xs => if xs.length ≤ 16777216 then some ⟨xs⟩ else none
theorem t_lst {g : E → Option (List α)} {f : Af} (h : AL g f) : EN (tLst g) (cLst f) := fun e ρ M fp R C v q => by
  unfold tLst at q
  cases hg : g e with
  | none => rw [hg] at q; cases q
  | some xs =>
    rw [hg] at q; simp only [Option.bind_some] at q
    split at q
    · rename_i hl; cases q
      exact ⟨_, by simp [cLst, h e ρ M fp R C _ hg, sizeLine, hl], rfl⟩
    · cases q
theorem t_tup {g : E → Option (List α)} {f : Af} (h : AL g f) : EP (tTup g) (cTup f) := fun e ρ M fp R C v q => by
  unfold tTup at q
  cases hg : g e with
  | none => rw [hg] at q; cases q
  | some xs =>
    rw [hg] at q; simp only [Option.bind_some] at q
    split at q
    · rename_i hl; cases q
      exact ⟨_, by simp [cTup, h e ρ M fp R C _ hg, sizeLine, hl]; rfl, rfl⟩
    · cases q
omit [EnvR E] in
/-- tuples of written length -/
@[simp] def tPr (conv : γ → δ) (g : E → Option γ) : E → Option δ := fun e => (g e).map conv
@[simp] def mk2 (p : α × β × Unit) : α × β := (p.1, p.2.1)
@[simp] def mk3 (p : α × β × γ × Unit) : P3 α β γ := ⟨p.1, p.2.1, p.2.2.1⟩
@[simp] def mk4 (p : α × β × γ × δ × Unit) : P4 α β γ δ := ⟨p.1, p.2.1, p.2.2.1, p.2.2.2.1⟩
@[simp] def mk5 (p : α × β × γ × δ × ε × Unit) : P5 α β γ δ ε := ⟨p.1, p.2.1, p.2.2.1, p.2.2.2.1, p.2.2.2.2.1⟩
theorem t_pr {A : Type} [Args A] {conv : A → δ} {g : E → Option A} {f : Af} (h : AP g f) (hc : ∀ a, Enc.enc (conv a) = .tup (Args.encs a)) (hl : ∀ a : A, (Args.encs a).length ≤ 16777216) : EP (tPr conv g) (cTup f) := fun e ρ M fp R C v q => by
  unfold tPr at q
  cases hg : g e with
  | none => rw [hg] at q; cases q
  | some a =>
    rw [hg] at q; cases q
    exact ⟨.val (.tup (Args.encs a)), by simp [cTup, h e ρ M fp R C _ hg, sizeLine, hl a], (hc a).symm⟩
theorem t_pr2 {g : E → Option (α × β × Unit)} {f : Af} (h : AP g f) : EP (tPr mk2 g) (cTup f) := t_pr h (fun _ => rfl) fun _ => by show 2 ≤ _; decide
theorem t_pr3 {g : E → Option (α × β × γ × Unit)} {f : Af} (h : AP g f) : EP (tPr mk3 g) (cTup f) := t_pr h (fun _ => rfl) fun _ => by show 3 ≤ _; decide
theorem t_pr4 {g : E → Option (α × β × γ × δ × Unit)} {f : Af} (h : AP g f) : EP (tPr mk4 g) (cTup f) := t_pr h (fun _ => rfl) fun _ => by show 4 ≤ _; decide
theorem t_pr5 {g : E → Option (α × β × γ × δ × ε × Unit)} {f : Af} (h : AP g f) : EP (tPr mk5 g) (cTup f) := t_pr h (fun _ => rfl) fun _ => by show 5 ≤ _; decide
omit [EnvR E] in
/-- a written place of a tuple of written length -/
@[simp] def tMap (p : α → β) (g : E → Option α) : E → Option β := fun e => (g e).map p
theorem t_at {p : α → β} {g : E → Option α} {f : Ef} {i : Int} (h : EP g f) (hp : ∀ a M, oIx (Enc.enc a) (.int i) M = some (.val (Enc.enc (p a)))) : EP (tMap p g) (cBin oIx f (cInt i)) := fun e ρ M fp R C v q => by
  unfold tMap at q
  cases hg : g e with
  | none => rw [hg] at q; cases q
  | some a =>
    rw [hg] at q; cases q
    obtain ⟨r, k1, k2⟩ := h e ρ M fp R C a hg
    exact ⟨.val (Enc.enc (p a)), by simp [cBin, cVal, k1, k2, hp a M], rfl⟩
/-! ### tests -/
theorem p_B {g : E → Option Bool} {f : Ef} (h : EV g f) : TP g (toB f) := fun e ρ M fp R C b q => by
  obtain ⟨r, k1, k2⟩ := h.p e ρ M fp R C b q
  simp [toB, k1, k2, Enc.enc]
class Tr (α : Type) [Enc α] where
  tr : α → Bool
  ok : ∀ x M d fp, DenF fp M d (Enc.enc x) → trD M d = some (tr x)
instance : Tr Int := ⟨fun x => x != 0, fun x M d fp h => by rw [den h]; rfl⟩
instance : Tr Bool := ⟨id, fun x M d fp h => by rw [den h]; rfl⟩
instance : Tr Unit := ⟨fun _ => false, fun x M d fp h => by rw [den h]; rfl⟩
theorem isE_map {xs : List α} {f : α → D} : (xs.map f).isEmpty = xs.isEmpty := by cases xs <;> rfl
instance : Tr (List α) := ⟨fun x => !x.isEmpty, fun x M d fp h => by
  have := sq_den h
  rcases h with h | ⟨k, ds, h, h2, h3, _⟩
  · rw [h]; show some (!(List.map _ _).isEmpty) = _; rw [isE_map]
  · cases h2; rw [h, trD_loc, h3]; show some (!(List.map _ _).isEmpty) = _; rw [isE_map]⟩
instance : Tr (Tu α) := ⟨fun x => !x.l.isEmpty, fun x M d fp h => by rw [den h]; show some (!(List.map _ _).isEmpty) = _; rw [isE_map]⟩
omit [EnvR E] in
@[simp] def tTr [Tr α] (g : E → Option α) : E → Option Bool := fun e => (g e).map Tr.tr
theorem p_Tr [Tr α] {g : E → Option α} {f : Ef} (h : EV g f) : TP (tTr g) (toTr f) := fun e ρ M fp R C b q => by
  unfold tTr at q
  cases hg : g e with
  | none => rw [hg] at q; cases q
  | some a =>
    rw [hg] at q; cases q
    obtain ⟨r, k1, k2⟩ := h e ρ M fp R C a hg
    simp [toTr, k1, Tr.ok a M _ fp k2]
omit [EnvR E] in
@[simp] def tAnd (ga gb : E → Option Bool) : E → Option Bool := fun e => (ga e).bind fun b => if b = true then gb e else some false
omit [EnvR E] in
@[simp] def tOr (ga gb : E → Option Bool) : E → Option Bool := fun e => (ga e).bind fun b => if b = true then some true else gb e
omit [EnvR E] in
@[simp] def tNot (ga : E → Option Bool) : E → Option Bool := fun e => (ga e).map fun b => !b
theorem p_and {ga gb : E → Option Bool} {a b : Tf} (ha : TP ga a) (hb : TP gb b) : TP (tAnd ga gb) (kAnd a b) := fun e ρ M fp R C v q => by
  unfold tAnd at q
  cases hg : ga e with
  | none => rw [hg] at q; cases q
  | some x =>
    rw [hg] at q
    cases x with
    | true => simp [kAnd, ha e ρ M fp R C _ hg, hb e ρ M fp R C v (by simpa using q)]
    | false => simp at q; subst q; simp [kAnd, ha e ρ M fp R C _ hg]
theorem p_or {ga gb : E → Option Bool} {a b : Tf} (ha : TP ga a) (hb : TP gb b) : TP (tOr ga gb) (kOr a b) := fun e ρ M fp R C v q => by
  unfold tOr at q
  cases hg : ga e with
  | none => rw [hg] at q; cases q
  | some x =>
    rw [hg] at q
    cases x with
    | false => simp [kOr, ha e ρ M fp R C _ hg, hb e ρ M fp R C v (by simpa using q)]
    | true => simp at q; subst q; simp [kOr, ha e ρ M fp R C _ hg]
theorem p_not {ga : E → Option Bool} {a : Tf} (ha : TP ga a) : TP (tNot ga) (kNot a) := fun e ρ M fp R C v q => by
  unfold tNot at q
  cases hg : ga e with
  | none => rw [hg] at q; cases q
  | some x => rw [hg] at q; cases q; simp [kNot, ha e ρ M fp R C _ hg]
theorem t_and {ga gb : E → Option Bool} {a b : Ef} (ha : EV ga a) (hb : EV gb b) : EP (tAnd ga gb) (cAnd a b) := fun e ρ M fp R C v q => by
  unfold tAnd at q
  cases hg : ga e with
  | none => rw [hg] at q; cases q
  | some x =>
    rw [hg] at q
    obtain ⟨r, k1, k2⟩ := ha.p e ρ M fp R C x hg
    cases x with
    | true =>
      obtain ⟨r2, k3, k4⟩ := hb.p e ρ M fp R C v (by simpa using q)
      exact ⟨r2, by simp [cAnd, k1, k2, k3, Enc.enc], k4⟩
    | false => simp at q; subst q; exact ⟨.val (.bl false), by simp [cAnd, k1, k2, Enc.enc], rfl⟩
theorem t_or {ga gb : E → Option Bool} {a b : Ef} (ha : EV ga a) (hb : EV gb b) : EP (tOr ga gb) (cOr a b) := fun e ρ M fp R C v q => by
  unfold tOr at q
  cases hg : ga e with
  | none => rw [hg] at q; cases q
  | some x =>
    rw [hg] at q
    obtain ⟨r, k1, k2⟩ := ha.p e ρ M fp R C x hg
    cases x with
    | false =>
      obtain ⟨r2, k3, k4⟩ := hb.p e ρ M fp R C v (by simpa using q)
      exact ⟨r2, by simp [cOr, k1, k2, k3, Enc.enc], k4⟩
    | true => simp at q; subst q; exact ⟨.val (.bl true), by simp [cOr, k1, k2, Enc.enc], rfl⟩
theorem t_not {ga : E → Option Bool} {a : Ef} (ha : EV ga a) : EP (tNot ga) (cNot a) := fun e ρ M fp R C v q => by
  unfold tNot at q
  cases hg : ga e with
  | none => rw [hg] at q; cases q
  | some x =>
    rw [hg] at q; cases q
    obtain ⟨r, k1, k2⟩ := ha.p e ρ M fp R C x hg
    exact ⟨.val (.bl (!x)), by simp [cNot, k1, k2, Enc.enc], rfl⟩
omit [EnvR E] in
@[simp] def tIf (gt : E → Option Bool) (ga gb : E → Option α) : E → Option α := fun e => (gt e).bind fun b => if b = true then ga e else gb e
theorem t_if {gt : E → Option Bool} {ga gb : E → Option α} {t : Tf} {a b : Ef} (ht : TP gt t) (ha : EP ga a) (hb : EP gb b) : EP (tIf gt ga gb) (cIf t a b) := fun e ρ M fp R C v q => by
  unfold tIf at q
  cases hg : gt e with
  | none => rw [hg] at q; cases q
  | some x =>
    rw [hg] at q
    have k := ht e ρ M fp R C x hg
    cases x with
    | true => obtain ⟨r, k1, k2⟩ := ha e ρ M fp R C v (by simpa using q); exact ⟨r, by simp [cIf, k, k1], k2⟩
    | false => obtain ⟨r, k1, k2⟩ := hb e ρ M fp R C v (by simpa using q); exact ⟨r, by simp [cIf, k, k1], k2⟩
theorem t_ifN {gt : E → Option Bool} {ga gb : E → Option α} {t : Tf} {a b : Ef} (ht : TP gt t) (ha : EN ga a) (hb : EN gb b) : EN (tIf gt ga gb) (cIf t a b) := fun e ρ M fp R C v q => by
  unfold tIf at q
  cases hg : gt e with
  | none => rw [hg] at q; cases q
  | some x =>
    rw [hg] at q
    have k := ht e ρ M fp R C x hg
    cases x with
    | true => obtain ⟨r, k1, k2⟩ := ha e ρ M fp R C v (by simpa using q); exact ⟨r, by simp [cIf, k, k1], k2⟩
    | false => obtain ⟨r, k1, k2⟩ := hb e ρ M fp R C v (by simpa using q); exact ⟨r, by simp [cIf, k, k1], k2⟩
omit [EnvR E] in
@[simp] def tCh (t : α → β → Option Bool) (t' : β → γ → Option Bool) (ga : E → Option α) (gb : E → Option β) (gc : E → Option γ) : E → Option Bool := fun e =>
  (ga e).bind fun a => (gb e).bind fun b => (t a b).bind fun x => if x = true then (gc e).bind fun c => t' b c else some false
theorem t_ch {o o' : Bop} {t : α → β → Option Bool} {t' : β → γ → Option Bool} {ga : E → Option α} {gb : E → Option β} {gc : E → Option γ} {a b c : Ef} (ho : OpV o t) (ho' : OpV o' t') (ha : EV ga a) (hb : EV gb b) (hc : EV gc c)
    (hv : ∀ d1 d2 M r, o d1 d2 M = some r → ∃ d, r = .val d) : EP (tCh t t' ga gb gc) (cChain o o' a b c) := fun e ρ M fp R C v q => by
  unfold tCh at q
  cases h1 : ga e with
  | none => rw [h1] at q; cases q
  | some x =>
    cases h2 : gb e with
    | none => rw [h1, h2] at q; cases q
    | some y =>
      rw [h1, h2] at q
      simp only [Option.bind_some] at q
      obtain ⟨r1, k1, k2⟩ := ha e ρ M fp R C x h1
      obtain ⟨r2, k3, k4⟩ := hb e ρ M fp R C y h2
      cases h3 : t x y with
      | none => rw [h3] at q; cases q
      | some z =>
        rw [h3] at q
        simp only [Option.bind_some] at q
        obtain ⟨r3, k5, k6⟩ := ho x y z M fp _ _ k2 k4 h3
        obtain ⟨d3, rfl⟩ := hv _ _ _ _ k5
        have k6 : d3 = .bl z := k6
        subst k6
        cases z with
        | false => simp at q; subst q; exact ⟨.val (.bl false), by simp [k1, k3, k5], rfl⟩
        | true =>
          simp only [if_true] at q
          cases h4 : gc e with
          | none => rw [h4] at q; cases q
          | some w =>
            rw [h4] at q
            simp only [Option.bind_some] at q
            obtain ⟨r4, k7, k8⟩ := hc e ρ M fp R C w h4
            obtain ⟨r5, k9, k10⟩ := ho' y w v M fp _ _ k4 k8 q
            exact ⟨r5, by simp [k1, k3, k5, k7, k9], k10⟩
@[simp] def negI (a : Int) : Option Int := some (-a)
theorem t_neg {g : E → Option Int} {f : Ef} (h : EV g f) : EP (t1 negI g) (cNeg f) := fun e ρ M fp R C v q => by
  unfold t1 at q
  cases hg : g e with
  | none => rw [hg] at q; cases q
  | some a =>
    rw [hg] at q; cases q
    obtain ⟨r, k1, k2⟩ := h.p e ρ M fp R C a hg
    exact ⟨.val (.int (-a)), by simp [cNeg, k1, k2, Enc.enc], rfl⟩
end
end TL

/-! T4: the typed reading of calls, iterables, comprehensions -/
namespace TL
open PySem PySem.Spec PyProof.Rows L2 CI
mutual
theorem nl_mono {n m : Nat} (h : n ≤ m) : ∀ {d : D}, nl n d = true → nl m d = true
  | .loc k, q => by rw [nl_loc] at q ⊢; simp at q ⊢; omega
  | .tup ds, q => by rw [nl_tup] at q ⊢; exact nls_mono h q
  | .lst ds, q => by rw [nl_lst] at q ⊢; exact nls_mono h q
  | .non, _ => rfl
  | .bl _, _ => rfl
  | .int _, _ => rfl
  | .str _, _ => rfl
  | .scr _, _ => rfl
theorem nls_mono {n m : Nat} (h : n ≤ m) : ∀ {ds : List D}, nls n ds = true → nls m ds = true
  | [], _ => rfl
  | d :: ds, q => by
    rw [nls_cons, Bool.and_eq_true] at q ⊢
    exact ⟨nl_mono h q.1, nls_mono h q.2⟩
end
theorem nlF_mono {n m : Nat} (h : n ≤ m) : ∀ {fs : List (Str × D)}, nlF n fs = true → nlF m fs = true
  | [], _ => rfl
  | (f, d) :: ds, q => by
    rw [nlF_cons, Bool.and_eq_true] at q ⊢
    exact ⟨nl_mono h q.1, nlF_mono h q.2⟩
theorem nlK_mono {n m : Nat} (h : n ≤ m) : ∀ {fs : List (Key × D)}, nlK n fs = true → nlK m fs = true
  | [], _ => rfl
  | (f, d) :: ds, q => by
    rw [nlK_cons, Bool.and_eq_true] at q ⊢
    exact ⟨nl_mono h q.1, nlK_mono h q.2⟩
theorem nlO_mono {n m : Nat} (h : n ≤ m) : ∀ {o : O}, nlO n o = true → nlO m o = true
  | .lst ds, q => nls_mono h q
  | .ins c fs, q => nlF_mono h q
  | .dct fs, q => nlK_mono h q
theorem cl_nil : Cl [] := fun j o h => by simp at h
theorem cl_push {M : Mem} {o : O} (C : Cl M) (h : nlO M.length o = true) : Cl (M ++ [o]) := fun j x q => by
  rw [List.length_append]
  rcases Nat.lt_or_ge j M.length with z | z
  · rw [List.getElem?_append_left z] at q
    exact nlO_mono (by simp) (C j x q)
  · rw [List.getElem?_append_right z] at q
    cases y : j - M.length with
    | zero => rw [y] at q; simp at q; subst q; exact nlO_mono (by simp) h
    | succ i => rw [y] at q; simp at q
theorem cl_set {M : Mem} {o : O} {k : Nat} (C : Cl M) (h : nlO M.length o = true) : Cl (M.set k o) := fun j x q => by
  rw [List.length_set]
  by_cases z : k = j
  · subst z
    rw [List.getElem?_set_self'] at q
    cases y : M[k]? with
    | none => rw [y] at q; simp at q
    | some u => rw [y] at q; simp at q; subst q; exact h
  · rw [List.getElem?_set_ne z] at q; exact C j x q
section
variable {E : Type} [EnvR E] {α β γ δ ε σ : Type} [Enc α] [Enc β] [Enc γ] [Enc δ] [Enc ε] [Enc σ] {A : Type} [Args A]
/-! ### calls -/
def FnT (F : Fn) (T : A → Option β) : Prop := ∀ a b, T a = some b → ∀ M, Cl M → ∃ r, F (Args.encs a) M = some (r, M) ∧ r.d = Enc.enc b
def FnN (F : Fn) (T : A → Option β) : Prop := ∀ a b, T a = some b → ∀ M, Cl M → ∃ ds, F (Args.encs a) M = some (.new ds, M) ∧ Enc.enc b = .lst ds
theorem FnN.t {F : Fn} {T : A → Option β} (h : FnN F T) : FnT F T := fun a b q M C => by
  obtain ⟨ds, h1, h2⟩ := h a b q M C
  exact ⟨_, h1, h2.symm⟩
omit [EnvR E] in
@[simp] def tCall (T : A → Option β) (g : E → Option A) : E → Option β := fun e => (g e).bind T
theorem t_call {F : Fn} {T : A → Option β} {g : E → Option A} {f : Af} (h : FnT F T) (ha : AP g f) : EP (tCall T g) (cCall F f) := fun e ρ M fp R C v q => by
  unfold tCall at q
  cases hg : g e with
  | none => rw [hg] at q; cases q
  | some a =>
    rw [hg] at q
    obtain ⟨r, h1, h2⟩ := h a v q M C
    exact ⟨r, by simp [cCall, ha e ρ M fp R C a hg, h1], h2⟩
theorem t_callN {F : Fn} {T : A → Option β} {g : E → Option A} {f : Af} (h : FnN F T) (ha : AP g f) : EN (tCall T g) (cCall F f) := fun e ρ M fp R C v q => by
  unfold tCall at q
  cases hg : g e with
  | none => rw [hg] at q; cases q
  | some a =>
    rw [hg] at q
    obtain ⟨r, h1, h2⟩ := h a v q M C
    exact ⟨r, by simp [cCall, ha e ρ M fp R C a hg, h1], h2⟩
def AV (g : E → Option A) (f : Af) : Prop := ∀ e ρ M fp, EnvR.rel e ρ M fp → Cl M → ∀ v, g e = some v → ∃ ds, f ρ M = some (ds, M) ∧ ds.map (lend M) = Args.encs v
theorem den_lend {fp : Fp} {M : Mem} {d : D} {x : α} (h : DenF fp M d (Enc.enc x)) : lend M d = Enc.enc x := by
  rcases h with h | ⟨k, ds, h, h2, h3, _⟩
  · have := Enc.nle 0 x
    rw [h]
    cases hx : Enc.enc x with
    | loc k => rw [hx, nl_loc] at this; simp at this
    | _ => rfl
  · rw [h]; unfold lend; simp only; rw [h3, h2]
theorem v_nil : AV (E := E) pNil aNil := fun e ρ M fp R C v q => by cases q; exact ⟨[], rfl, rfl⟩
theorem v_cons {g : E → Option α} {gs : E → Option A} {f : Ef} {fs : Af} (h1 : EV g f) (h2 : AV gs fs) : AV (pCons g gs) (aCons f fs) := fun e ρ M fp R C v q => by
  unfold pCons at q
  cases hg : g e with
  | none => rw [hg] at q; cases q
  | some a =>
    cases hr : gs e with
    | none => rw [hg, hr] at q; cases q
    | some rr =>
      rw [hg, hr] at q; cases q
      obtain ⟨r, k1, k2⟩ := h1 e ρ M fp R C a hg
      obtain ⟨ds, k3, k4⟩ := h2 e ρ M fp R C rr hr
      exact ⟨r.d :: ds, by simp [aCons, k1, k3], by rw [List.map_cons, k4, den_lend k2]; rfl⟩
class FlatE (α : Type) [Enc α] : Prop where
  f : ∀ x : α, flat (Enc.enc x) = true
theorem flats_map [FlatE α] (xs : List α) : flats (xs.map Enc.enc) = true := by
  induction xs with
  | nil => rfl
  | cons x xs ih => rw [List.map_cons, flats, FlatE.f x, ih]; rfl
instance : FlatE Int := ⟨fun _ => rfl⟩
instance : FlatE Bool := ⟨fun _ => rfl⟩
instance : FlatE Str := ⟨fun _ => rfl⟩
instance : FlatE Unit := ⟨fun _ => rfl⟩
instance [FlatE α] : FlatE (Tu α) := ⟨fun x => by show flat (.tup _) = true; rw [flat]; exact flats_map x.l⟩
instance [FlatE α] [FlatE β] : FlatE (α × β) := ⟨fun x => by show flat (.tup [_, _]) = true; simp [flat, flats, FlatE.f]⟩
instance [FlatE α] [FlatE β] [FlatE γ] : FlatE (P3 α β γ) := ⟨fun x => by show flat (.tup [_, _, _]) = true; simp [flat, flats, FlatE.f]⟩
instance [FlatE α] [FlatE β] [FlatE γ] [FlatE δ] : FlatE (P4 α β γ δ) := ⟨fun x => by show flat (.tup [_, _, _, _]) = true; simp [flat, flats, FlatE.f]⟩
instance [FlatE α] : FlatE (Option α) := ⟨fun x => by cases x with | none => rfl | some x => exact FlatE.f x⟩
theorem lend1_T {F : Fn} {T : A → Option β} (h : FnT F T) {a : A} {b : β} {M : Mem} {ds : List D} (hq : T a = some b) (hd : ds.map (lend M) = Args.encs a) (hn : nls 0 (Args.encs a) = true) :
    ∃ r, F (Args.encs a) [] = some (r, []) ∧ r.d = Enc.enc b ∧ (flatR r = true → cLend1 F (ds, M) = some (r, M)) := by
  obtain ⟨r, h1, h2⟩ := h a b hq [] cl_nil
  refine ⟨r, h1, h2, fun hf => ?_⟩
  unfold cLend1
  simp only
  rw [hd, if_pos hn, h1]
  simp [hf]
theorem t_lend [FlatE β] {F : Fn} {T : A → Option β} {g : E → Option A} {f : Af} (h : FnT F T) (hn : ∀ a : A, nls 0 (Args.encs a) = true) (ha : AV g f) : EP (tCall T g) (cLend F f) := fun e ρ M fp R C v q => by
  unfold tCall at q
  cases hg : g e with
  | none => rw [hg] at q; cases q
  | some a =>
    rw [hg] at q
    obtain ⟨ds, k1, k2⟩ := ha e ρ M fp R C a hg
    obtain ⟨r, h1, h2, h3⟩ := lend1_T h q k2 (hn a)
    have fr : flatR r = true := by
      have := FlatE.f v
      cases r with
      | val d => rw [← h2] at this; exact this
      | new ds => rw [← h2] at this; simp [flat] at this
    exact ⟨r, by simp [k1, h3 fr], h2⟩
theorem t_lendN [FlatE β] {F : Fn} {T : A → Option (List β)} {g : E → Option A} {f : Af} (h : FnN F T) (hn : ∀ a : A, nls 0 (Args.encs a) = true) (ha : AV g f) : EN (tCall T g) (cLend F f) := fun e ρ M fp R C v q => by
  unfold tCall at q
  cases hg : g e with
  | none => rw [hg] at q; cases q
  | some a =>
    rw [hg] at q
    obtain ⟨ds, k1, k2⟩ := ha e ρ M fp R C a hg
    obtain ⟨r, h1, h2, h3⟩ := lend1_T h.t q k2 (hn a)
    obtain ⟨ds2, h4, h5⟩ := h a v q [] cl_nil
    rw [h1] at h4; cases h4
    have h5 : D.lst (v.map Enc.enc) = .lst ds2 := h5
    have fr : flatR (.new ds2) = true := by cases h5; exact flats_map v
    exact ⟨ds2, by simp [k1, h3 fr], h5⟩
/-! ### iterables -/
def IV (g : E → Option (List α)) (it : If) : Prop := ∀ e ρ M fp, EnvR.rel e ρ M fp → Cl M → ∀ xs, g e = some xs → ∃ gk, it ρ M = some (xs.map Enc.enc, gk, M) ∧ ∀ k, gk = some k → M[k]? = some (.lst (xs.map Enc.enc)) ∧ fp k
def IP (g : E → Option (List α)) (it : If) : Prop := ∀ e ρ M fp, EnvR.rel e ρ M fp → Cl M → ∀ xs, g e = some xs → it ρ M = some (xs.map Enc.enc, none, M)
theorem IP.v {g : E → Option (List α)} {it : If} (h : IP g it) : IV g it := fun e ρ M fp R C xs q => ⟨none, h e ρ M fp R C xs q, fun k z => nomatch z⟩
omit [EnvR E] in
@[simp] def iL [Sq σ α] (g : E → Option σ) : E → Option (List α) := fun e => (g e).map Sq.toL
theorem gk_enc (x : α) : gkOf (Enc.enc x) = none := by
  have := Enc.nle 0 x
  cases hx : Enc.enc x with
  | loc k => rw [hx, nl_loc] at this; simp at this
  | _ => rfl
theorem i_seq [Sq σ α] {g : E → Option σ} {f : Ef} (h : EP g f) : IP (iL g) (iSeq f) := fun e ρ M fp R C xs q => by
  unfold iL at q
  cases hg : g e with
  | none => rw [hg] at q; cases q
  | some a =>
    rw [hg] at q; cases q
    obtain ⟨r, k1, k2⟩ := h e ρ M fp R C a hg
    simp [iSeq, k1, k2, Sq.ok, gk_enc]
theorem i_seqV {g : E → Option (List α)} {f : Ef} (h : EV g f) : IV (iL g) (iSeq f) := fun e ρ M fp R C xs q => by
  unfold iL at q
  cases hg : g e with
  | none => rw [hg] at q; cases q
  | some a =>
    rw [hg] at q; cases q
    obtain ⟨r, k1, k2⟩ := h e ρ M fp R C a hg
    have k3 := sq_den k2
    rcases k2 with k2 | ⟨k, ds, k2, k4, k5, k6⟩
    · exact ⟨none, by simp [iSeq, k1, k3]; rw [k2]; exact gk_enc a, fun k z => nomatch z⟩
    · refine ⟨some k, by simp [iSeq, k1, k3]; rw [k2]; rfl, fun k' z => ?_⟩
      cases z; cases k4; exact ⟨k5, k6⟩
def rgT (lo : Int) (n : Nat) : List Int := (List.range n).map fun (i : Nat) => lo + i
theorem rgT_D {lo : Int} {n : Nat} : rgD lo n = (rgT lo n).map Enc.enc := by unfold rgD rgT; rw [List.map_map]; rfl
omit [EnvR E] in
@[simp] def iR1 (g : E → Option Int) : E → Option (List Int) := fun e => (g e).bind fun j => if rgB j = true then some (rgT 0 j.toNat) else none
omit [EnvR E] in
@[simp] def iR2 (ga gb : E → Option Int) : E → Option (List Int) := fun e => (ga e).bind fun i => (gb e).bind fun j => if rgB i = true ∧ rgB j = true then some (rgT i (j - i).toNat) else none
theorem i_rg1 {g : E → Option Int} {f : Ef} (h : EV g f) : IP (iR1 g) (iRg1 f) := fun e ρ M fp R C xs q => by
  unfold iR1 at q
  cases hg : g e with
  | none => rw [hg] at q; cases q
  | some a =>
    rw [hg] at q
    obtain ⟨r, k1, k2⟩ := h.p e ρ M fp R C a hg
    simp only [Option.bind_some] at q
    split at q
    · rename_i hb; cases q
      have k2 : r.d = .int a := k2
      unfold iRg1
      rw [k1]
      simp only [Option.bind_some]
      rw [k2]
      simp only
      rw [if_pos hb, rgT_D]
    · cases q
theorem i_rg2 {ga gb : E → Option Int} {fa fb : Ef} (ha : EV ga fa) (hb : EV gb fb) : IP (iR2 ga gb) (iRg2 fa fb) := fun e ρ M fp R C xs q => by
  unfold iR2 at q
  cases h1 : ga e with
  | none => rw [h1] at q; cases q
  | some a =>
    cases h2 : gb e with
    | none => rw [h1, h2] at q; cases q
    | some b =>
      rw [h1, h2] at q
      obtain ⟨r, k1, k2⟩ := ha.p e ρ M fp R C a h1
      obtain ⟨r2, k3, k4⟩ := hb.p e ρ M fp R C b h2
      simp only [Option.bind_some] at q
      split at q
      · rename_i hc; cases q
        have k2 : r.d = .int a := k2
        have k4 : r2.d = .int b := k4
        unfold iRg2
        rw [k1]
        simp only [Option.bind_some]
        rw [k3]
        simp only [Option.bind_some]
        rw [k2, k4]
        simp only
        rw [if_pos hc, rgT_D]
      · cases q
def enT (xs : List α) : List (Int × α) := xs.zipIdx.map fun p => (((p.2 : Nat) : Int), p.1)
omit [EnvR E] in
@[simp] def iEn [Sq σ α] (g : E → Option σ) : E → Option (List (Int × α)) := fun e => (g e).map fun x => enT (Sq.toL x)
theorem i_en [Sq σ α] {g : E → Option σ} {f : Ef} (h : EP g f) : IP (iEn g) (iEnT f) := fun e ρ M fp R C xs q => by
  unfold iEn at q
  cases hg : g e with
  | none => rw [hg] at q; cases q
  | some a =>
    rw [hg] at q; cases q
    obtain ⟨r, k1, k2⟩ := h e ρ M fp R C a hg
    have k3 : iEnT f ρ M = iEnT1 (r, M) := by rw [iEnT_ap, k1]; rfl
    have k4 : asS M r.d = some ((Sq.toL a).map Enc.enc) := by rw [k2]; exact Sq.ok M a
    have k5 : iEnT1 (r, M) = some (enD ((Sq.toL a).map Enc.enc), none, M) := by
      have nl0 := Enc.nle 0 a
      rw [← k2] at nl0
      unfold iEnT1
      simp only
      cases hd : r.d with
      | tup ds => rw [hd] at k4; cases k4; rfl
      | lst ds => rw [hd] at k4; cases k4; rfl
      | scr ns => rw [hd] at k4; simp [asS, asL] at k4; simp [k4]
      | loc k => rw [hd, nl_loc] at nl0; simp at nl0
      | _ => rw [hd] at k4; simp [asS, asL] at k4
    rw [k3, k5, enD_map]
    unfold enT
    rw [List.map_map]
    rfl
def chS (x : Str) : List Str := x.cps.toList.map fun c => ⟨#[c]⟩
omit [EnvR E] in
@[simp] def iCh (g : E → Option Str) : E → Option (List Str) := fun e => (g e).map chS
theorem i_st {g : E → Option Str} {f : Ef} (h : EV g f) : IP (iCh g) (iSt f) := fun e ρ M fp R C xs q => by
  unfold iCh at q
  cases hg : g e with
  | none => rw [hg] at q; cases q
  | some a =>
    rw [hg] at q; cases q
    obtain ⟨r, k1, k2⟩ := h.p e ρ M fp R C a hg
    have k2 : r.d = .str a := k2
    unfold iSt
    rw [k1]
    simp only [Option.bind_some]
    rw [k2]
    simp only [chS, chD, List.map_map]
    rfl
omit [EnvR E] in
@[simp] def tLRg (ga gb : E → Option Int) : E → Option (List Int) := fun e => (ga e).bind fun i => (gb e).bind fun j => if bRg i j = true then some (rgT i (j - i).toNat) else none
theorem t_lrg {ga gb : E → Option Int} {fa fb : Ef} (ha : EV ga fa) (hb : EV gb fb) : EN (tLRg ga gb) (cLRg fa fb) := fun e ρ M fp R C xs q => by
  unfold tLRg at q
  cases h1 : ga e with
  | none => rw [h1] at q; cases q
  | some a =>
    cases h2 : gb e with
    | none => rw [h1, h2] at q; cases q
    | some b =>
      rw [h1, h2] at q
      obtain ⟨r, k1, k2⟩ := ha.p e ρ M fp R C a h1
      obtain ⟨r2, k3, k4⟩ := hb.p e ρ M fp R C b h2
      simp only [Option.bind_some] at q
      split at q
      · rename_i hc; cases q
        have k2 : r.d = .int a := k2
        have k4 : r2.d = .int b := k4
        refine ⟨rgD a (b - a).toNat, ?_, by rw [rgT_D]; rfl⟩
        unfold cLRg
        rw [k1]
        simp only [Option.bind_some]
        rw [k3]
        simp only [Option.bind_some]
        rw [k2, k4]
        simp only
        rw [if_pos hc]
      · cases q
omit [EnvR E] in
@[simp] def tInR (neg : Bool) (ga gb gc : E → Option Int) : E → Option Bool := fun e => (ga e).bind fun i => (gb e).bind fun lo => (gc e).map fun hi => if neg then !decide (lo ≤ i ∧ i < hi) else decide (lo ≤ i ∧ i < hi)
theorem t_inR {neg : Bool} {ga gb gc : E → Option Int} {fa fb fc : Ef} (ha : EV ga fa) (hb : EV gb fb) (hc : EV gc fc) : EP (tInR neg ga gb gc) (cInR neg fa fb fc) := fun e ρ M fp R C v q => by
  unfold tInR at q
  cases h1 : ga e with
  | none => rw [h1] at q; cases q
  | some a =>
    cases h2 : gb e with
    | none => rw [h1, h2] at q; cases q
    | some b =>
      cases h3 : gc e with
      | none => rw [h1, h2, h3] at q; cases q
      | some c =>
        rw [h1, h2, h3] at q; cases q
        obtain ⟨r, k1, k2⟩ := ha.p e ρ M fp R C a h1
        obtain ⟨r2, k3, k4⟩ := hb.p e ρ M fp R C b h2
        obtain ⟨r3, k5, k6⟩ := hc.p e ρ M fp R C c h3
        have k2 : r.d = .int a := k2
        have k4 : r2.d = .int b := k4
        have k6 : r3.d = .int c := k6
        refine ⟨.val (.bl _), ?_, rfl⟩
        unfold cInR
        rw [k1]
        simp only [Option.bind_some]
        rw [k3]
        simp only [Option.bind_some]
        rw [k5]
        simp only [Option.bind_some]
        rw [k2, k4, k6]
theorem t_inR1 {neg : Bool} {ga gc : E → Option Int} {fa fc : Ef} (ha : EV ga fa) (hc : EV gc fc) : EP (tInR neg ga (tK 0) gc) (cInR1 neg fa fc) := t_inR ha (t_val (v := (0 : Int)) rfl).v hc
/-! ### targets -/
def GP (p : α → E → Option E) (g : Gf) : Prop := ∀ x e ρ M fp, EnvR.rel e ρ M fp → ∀ e', p x e = some e' → ∃ ρ' fp', g (Enc.enc x) ρ M = some (ρ', M) ∧ EnvR.rel e' ρ' M fp' ∧ ∀ j, fp' j → fp j
theorem lens_val {i : Nat} (ln : Lens E (Option α) i) [LOk ln] {e : E} {ρ : Slots} {M : Mem} {fp : Fp} (R : EnvR.rel e ρ M fp) (v : α) : ∃ fp', EnvR.rel (ln.set e (some v)) (ρ.set i (some (Enc.enc v))) M fp' ∧ ∀ j, fp' j → fp j := by
  obtain ⟨f1, h1, h2, h3⟩ := LOk.ok (ln := ln) e ρ M fp R
  obtain ⟨fp', h4, h5⟩ := h3 (some v) (some (Enc.enc v)) M (fun _ => False) rel_val (fun _ _ _ => rfl) (fun _ q => q.elim)
  exact ⟨fp', h4, fun j q => (h5 j q).elim (·.1) False.elim⟩
omit [EnvR E] in
@[simp] def pNm {i : Nat} (ln : Lens E (Option α) i) : α → E → Option E := fun x e => some (ln.set e (some x))
theorem g_nm {i : Nat} (ln : Lens E (Option α) i) [LOk ln] : GP (pNm ln) (gNm i) := fun x e ρ M fp R e' q => by
  cases q
  obtain ⟨fp', h1, h2⟩ := lens_val ln R x
  exact ⟨_, fp', rfl, h1, h2⟩
omit [EnvR E] in
@[simp] def pPr (p1 : α → E → Option E) (p2 : β → E → Option E) : α × β → E → Option E := fun x e => (p1 x.1 e).bind fun e1 => p2 x.2 e1
theorem g_pr {p1 : α → E → Option E} {p2 : β → E → Option E} {g1 g2 : Gf} (h1 : GP p1 g1) (h2 : GP p2 g2) : GP (pPr p1 p2) (gTp 2 (gsCons g1 (gsCons g2 gsNil))) := fun x e ρ M fp R e' q => by
  unfold pPr at q
  cases q1 : p1 x.1 e with
  | none => rw [q1] at q; cases q
  | some e1 =>
    rw [q1] at q
    obtain ⟨ρ1, f1, k1, k2, k3⟩ := h1 x.1 e ρ M fp R e1 q1
    obtain ⟨ρ2, f2, k4, k5, k6⟩ := h2 x.2 e1 ρ1 M f1 k2 e' q
    exact ⟨ρ2, f2, by show gTp 2 _ (.tup [_, _]) ρ M = _; simp [gTp, gsCons, gsNil, k1, k4], k5, fun j z => k3 j (k6 j z)⟩
omit [EnvR E] in
@[simp] def pP3 (p1 : α → E → Option E) (p2 : β → E → Option E) (p3 : γ → E → Option E) : P3 α β γ → E → Option E := fun x e => (p1 x.a e).bind fun e1 => (p2 x.b e1).bind fun e2 => p3 x.c e2
theorem g_p3 {p1 : α → E → Option E} {p2 : β → E → Option E} {p3 : γ → E → Option E} {g1 g2 g3 : Gf} (h1 : GP p1 g1) (h2 : GP p2 g2) (h3 : GP p3 g3) : GP (pP3 p1 p2 p3) (gTp 3 (gsCons g1 (gsCons g2 (gsCons g3 gsNil)))) := fun x e ρ M fp R e' q => by
  unfold pP3 at q
  cases q1 : p1 x.a e with
  | none => rw [q1] at q; cases q
  | some e1 =>
    rw [q1] at q; simp only [Option.bind_some] at q
    cases q2 : p2 x.b e1 with
    | none => rw [q2] at q; cases q
    | some e2 =>
      rw [q2] at q
      obtain ⟨ρ1, f1, k1, k2, k3⟩ := h1 x.a e ρ M fp R e1 q1
      obtain ⟨ρ2, f2, k4, k5, k6⟩ := h2 x.b e1 ρ1 M f1 k2 e2 q2
      obtain ⟨ρ3, f3, k7, k8, k9⟩ := h3 x.c e2 ρ2 M f2 k5 e' q
      exact ⟨ρ3, f3, by show gTp 3 _ (.tup [_, _, _]) ρ M = _; simp [gTp, gsCons, gsNil, k1, k4, k7], k8, fun j z => k3 j (k6 j (k9 j z))⟩
omit [EnvR E] in
@[simp] def pP4 (p1 : α → E → Option E) (p2 : β → E → Option E) (p3 : γ → E → Option E) (p4 : δ → E → Option E) : P4 α β γ δ → E → Option E := fun x e => (p1 x.a e).bind fun e1 => (p2 x.b e1).bind fun e2 => (p3 x.c e2).bind fun e3 => p4 x.d e3
theorem g_p4 {p1 : α → E → Option E} {p2 : β → E → Option E} {p3 : γ → E → Option E} {p4 : δ → E → Option E} {g1 g2 g3 g4 : Gf} (h1 : GP p1 g1) (h2 : GP p2 g2) (h3 : GP p3 g3) (h4 : GP p4 g4) : GP (pP4 p1 p2 p3 p4) (gTp 4 (gsCons g1 (gsCons g2 (gsCons g3 (gsCons g4 gsNil))))) := fun x e ρ M fp R e' q => by
  unfold pP4 at q
  cases q1 : p1 x.a e with
  | none => rw [q1] at q; cases q
  | some e1 =>
    rw [q1] at q; simp only [Option.bind_some] at q
    cases q2 : p2 x.b e1 with
    | none => rw [q2] at q; cases q
    | some e2 =>
      rw [q2] at q; simp only [Option.bind_some] at q
      cases q3 : p3 x.c e2 with
      | none => rw [q3] at q; cases q
      | some e3 =>
        rw [q3] at q
        obtain ⟨ρ1, f1, k1, k2, k3⟩ := h1 x.a e ρ M fp R e1 q1
        obtain ⟨ρ2, f2, k4, k5, k6⟩ := h2 x.b e1 ρ1 M f1 k2 e2 q2
        obtain ⟨ρ3, f3, k7, k8, k9⟩ := h3 x.c e2 ρ2 M f2 k5 e3 q3
        obtain ⟨ρ4, f4, l1, l2, l3⟩ := h4 x.d e3 ρ3 M f3 k8 e' q
        exact ⟨ρ4, f4, by show gTp 4 _ (.tup [_, _, _, _]) ρ M = _; simp [gTp, gsCons, gsNil, k1, k4, k7, l1], l2, fun j z => k3 j (k6 j (k9 j (l3 j z)))⟩
/-- a tuple of any length, into so many names -/
def GL (p : List α → E → Option E) (g : GsF) : Prop := ∀ x e ρ M fp, EnvR.rel e ρ M fp → ∀ e', p x e = some e' → ∃ ρ' fp', g (x.map Enc.enc) ρ M = some (ρ', M) ∧ EnvR.rel e' ρ' M fp' ∧ ∀ j, fp' j → fp j
omit [EnvR E] in
@[simp] def plNil : List α → E → Option E := fun x e => match x with | [] => some e | _ :: _ => none
omit [EnvR E] in
@[simp] def plCons (p : α → E → Option E) (ps : List α → E → Option E) : List α → E → Option E := fun x e => match x with | y :: ys => (p y e).bind fun e1 => ps ys e1 | [] => none
theorem gl_nil : GL (E := E) (α := α) plNil gsNil := fun x e ρ M fp R e' q => by
  cases x with
  | nil => cases q; exact ⟨ρ, fp, rfl, R, fun _ z => z⟩
  | cons _ _ => cases q
theorem gl_cons {p : α → E → Option E} {ps : List α → E → Option E} {g : Gf} {gs : GsF} (h1 : GP p g) (h2 : GL ps gs) : GL (plCons p ps) (gsCons g gs) := fun x e ρ M fp R e' q => by
  cases x with
  | nil => cases q
  | cons y ys =>
    unfold plCons at q
    simp only at q
    cases q1 : p y e with
    | none => rw [q1] at q; cases q
    | some e1 =>
      rw [q1] at q
      obtain ⟨ρ1, f1, k1, k2, k3⟩ := h1 y e ρ M fp R e1 q1
      obtain ⟨ρ2, f2, k4, k5, k6⟩ := h2 ys e1 ρ1 M f1 k2 e' q
      exact ⟨ρ2, f2, by simp [gsCons, k1, k4], k5, fun j z => k3 j (k6 j z)⟩
omit [EnvR E] in
@[simp] def pTu (n : Nat) (ps : List α → E → Option E) : Tu α → E → Option E := fun x e => if x.l.length = n then ps x.l e else none
theorem g_tu {n : Nat} {ps : List α → E → Option E} {gs : GsF} (h : GL ps gs) : GP (pTu n ps) (gTp n gs) := fun x e ρ M fp R e' q => by
  unfold pTu at q
  split at q
  · rename_i hl
    obtain ⟨ρ1, f1, k1, k2, k3⟩ := h x.l e ρ M fp R e' q
    exact ⟨ρ1, f1, by show gTp n gs (.tup _) ρ M = _; unfold gTp; simp only; rw [List.length_map, if_pos hl, k1], k2, k3⟩
  · cases q
/-! ### comprehensions -/
def WP (w : E → E) (vs : List Nat) : Prop := ∀ e ρ M fp, EnvR.rel e ρ M fp → ∃ fp', EnvR.rel (w e) (wipeD ρ vs) M fp' ∧ ∀ j, fp' j → fp j
omit [EnvR E] in
@[simp] def wNil : E → E := id
omit [EnvR E] in
@[simp] def wCons {α : Type} {i : Nat} (ln : Lens E (Option α) i) (w : E → E) : E → E := fun e => ln.set (w e) none
theorem w_nil : WP (E := E) wNil [] := fun e ρ M fp R => ⟨fp, R, fun _ q => q⟩
theorem w_cons {i : Nat} {vs : List Nat} (ln : Lens E (Option α) i) [LOk ln] {w : E → E} (h : WP w vs) : WP (wCons ln w) (i :: vs) := fun e ρ M fp R => by
  obtain ⟨f0, h1, h2⟩ := h e ρ M fp R
  obtain ⟨f1, k1, k2, k3⟩ := LOk.ok (ln := ln) (w e) (wipeD ρ vs) M f0 h1
  obtain ⟨fp', h4, h5⟩ := k3 none none M (fun _ => False) (SlotR.emp_rel (τ := Option α) _ _) (fun _ _ _ => rfl) (fun _ q => q.elim)
  exact ⟨fp', h4, fun j q => (h5 j q).elim (fun z => h2 j z.1) False.elim⟩
def filtM (f : α → Option (Option β)) : List α → Option (List β)
  | [] => some []
  | x :: xs => (f x).bind fun o => (filtM f xs).map fun r => match o with
    | some y => y :: r
    | none => r
omit [EnvR E] in
@[simp] def tElt (asg : α → E → Option E) (tt : E → Option Bool) (te : E → Option β) (e : E) (x : α) : Option (Option β) := (asg x e).bind fun e' => (tt e').bind fun b => if b = true then (te e').map some else some none
omit [EnvR E] in
@[simp] def tC (gi : E → Option (List α)) (w : E → E) (asg : α → E → Option E) (tt : E → Option Bool) (te : E → Option β) : E → Option (List β) := fun e => (gi e).bind fun xs => if xs.length ≤ 16777216 then filtM (tElt asg tt te (w e)) xs else none
omit [EnvR E] in
@[simp] def tYes : E → Option Bool := fun _ => some true
theorem p_yes : TP (E := E) tYes tYesF := fun e ρ M fp R C b q => by cases q; rfl
theorem lcF_T {asg : α → E → Option E} {tt : E → Option Bool} {te : E → Option β} {g : Gf} {t : Tf} {f : Ef} (hg : GP asg g) (ht : TP tt t) (hf : EP te f) {e : E} {ρ : Slots} {M : Mem} {fp : Fp} (R : EnvR.rel e ρ M fp) (C : Cl M) {gk : Option Nat} {ds0 : List D} (hgd : ∀ x : O, guard gk ds0 (M ++ [x])) :
    ∀ (xs : List α) (acc ys : List β), acc.length + xs.length ≤ 16777216 → filtM (tElt asg tt te e) xs = some ys → lcF g t f ρ M.length gk ds0 (xs.map Enc.enc) (M ++ [.lst (acc.map Enc.enc)]) = some (M ++ [.lst ((acc ++ ys).map Enc.enc)])
  | [], acc, ys, _, h => by cases h; simp [lcF]
  | x :: xs, acc, ys, hl, h => by
    unfold filtM at h
    cases q : tElt asg tt te e x with
    | none => rw [q] at h; cases h
    | some o =>
      rw [q] at h
      simp only [Option.bind_some] at h
      cases q2 : filtM (tElt asg tt te e) xs with
      | none => rw [q2] at h; cases h
      | some r =>
        rw [q2] at h
        simp only [Option.map_some, Option.some.injEq] at h
        unfold tElt at q
        have C1 : Cl (M ++ [.lst (acc.map Enc.enc)]) := cl_push C (nls_enc _ acc)
        have R1 : EnvR.rel e ρ (M ++ [.lst (acc.map Enc.enc)]) fp := EnvR.frame R fun j z => List.getElem?_append_left (EnvR.bnd R j z)
        cases q3 : asg x e with
        | none => rw [q3] at q; cases q
        | some e1 =>
          rw [q3] at q; simp only [Option.bind_some] at q
          obtain ⟨ρ1, f1, k1, k2, k3⟩ := hg x e ρ _ fp R1 e1 q3
          cases q4 : tt e1 with
          | none => rw [q4] at q; cases q
          | some b =>
            rw [q4] at q; simp only [Option.bind_some] at q
            have k4 := ht e1 ρ1 _ f1 k2 C1 b q4
            rw [List.map_cons]
            unfold lcF
            rw [k1]
            simp only [Option.bind_some]
            rw [k4]
            simp only [Option.bind_some]
            cases b with
            | false =>
              simp at q
              subst q
              subst h
              rw [if_neg (by simp), if_pos (hgd _)]
              exact lcF_T hg ht hf R C hgd xs acc r (by simp at hl ⊢; omega) q2
            | true =>
              simp only [if_true] at q ⊢
              cases q5 : te e1 with
              | none => rw [q5] at q; cases q
              | some y =>
                rw [q5] at q
                cases q
                subst h
                obtain ⟨z, k5, k6⟩ := hf e1 ρ1 _ f1 k2 C1 y q5
                rw [k5]
                simp only [Option.bind_some]
                rw [get_end]
                simp only [List.length_map]
                have hz : acc.length < sizeLine := by rw [line_lt]; simp at hl; omega
                rw [if_pos hz, set_end, if_pos (hgd _), k6]
                have := lcF_T hg ht hf R C hgd xs (acc ++ [y]) r (by simp at hl ⊢; omega) q2
                rw [List.map_append] at this
                simp only [List.map_cons, List.map_nil] at this
                rw [this]
                simp
theorem t_lc {gi : E → Option (List α)} {w : E → E} {vs : List Nat} {asg : α → E → Option E} {tt : E → Option Bool} {te : E → Option β} {it : If} {g : Gf} {t : Tf} {f : Ef} (hi : IV gi it) (hw : WP w vs) (hg : GP asg g) (ht : TP tt t) (hf : EP te f) :
    EN (tC gi w asg tt te) (cLc it vs g t f) := fun e ρ M fp R C v q => by
  unfold tC at q
  cases q1 : gi e with
  | none => rw [q1] at q; cases q
  | some xs =>
    rw [q1] at q; simp only [Option.bind_some] at q
    split at q
    · rename_i hl
      obtain ⟨gk, k1, k2⟩ := hi e ρ M fp R C xs q1
      obtain ⟨fw, k3, k4⟩ := hw e ρ M fp R
      have gd : guard gk (xs.map Enc.enc) M := fun k z => (k2 k z).1
      have := lcF_T hg ht hf k3 C (guard_app gd) xs [] v (by simpa using hl) q
      simp only [List.map_nil, List.nil_append] at this
      refine ⟨v.map Enc.enc, ?_, rfl⟩
      unfold cLc
      rw [k1]
      simp only [Option.bind_some]
      rw [this]
      simp only [Option.bind_some]
      rw [get_end]
      simp only
      rw [if_pos]
      · simp
      · exact ⟨by simp, .inl (by simp), nls_enc _ v⟩
    · cases q
end
end TL

/-! T5: the typed reading of statements and defs -/
namespace TL
open PySem PySem.Spec PyProof.Rows L2 CI
inductive Fw (β E : Type) where
  | nx (e : E) | bk (e : E) | ct (e : E) | rt (b : β)
section
variable {E : Type} [EnvR E] {α β γ δ ε σ : Type} [Enc α] [Enc β] [Enc γ] [Enc δ] [Enc ε] [Enc σ] {A : Type} [Args A] {fr : Bool}
def RelQ (n : Nat) (fp : Fp) (e : E) (ρ : Slots) (M : Mem) : Prop := ∃ fp', EnvR.rel e ρ M fp' ∧ ∀ j, fp' j → fp j ∨ n ≤ j
def RetR (fr : Bool) (b : β) (r : Rz) (M : Mem) (fp : Fp) : Prop := (fr = false ∧ r.d = Enc.enc b) ∨ (∃ ds, r = .new ds ∧ Enc.enc b = .lst ds) ∨ ∃ k ds, r = .val (.loc k) ∧ M[k]? = some (.lst ds) ∧ Enc.enc b = .lst ds ∧ fp k
def Out (fr : Bool) (n : Nat) (fp : Fp) : Fw β E → Fl → Slots → Mem → Prop
  | .nx e, fl, ρ, M => fl = .nx ∧ RelQ n fp e ρ M
  | .bk e, fl, ρ, M => fl = .bk ∧ RelQ n fp e ρ M
  | .ct e, fl, ρ, M => fl = .ct ∧ RelQ n fp e ρ M
  | .rt b, fl, ρ, M => ∃ r, fl = .rt r ∧ RetR fr b r M fun j => fp j ∨ n ≤ j
def SP (fr : Bool) (g : E → Option (Fw β E)) (f : Sf) : Prop := ∀ e ρ M fp, EnvR.rel e ρ M fp → Cl M → ∀ o, g e = some o → ∃ fl ρ' M', f ρ M = some (fl, ρ', M') ∧ Frm M fp M' ∧ Cl M' ∧ Out fr M.length fp o fl ρ' M'
theorem RelQ.mono {n n1 : Nat} {fp fp1 : Fp} {e : E} {ρ : Slots} {M : Mem} (hf : ∀ j, fp1 j → fp j ∨ n ≤ j) (hn : n ≤ n1) (h : RelQ n1 fp1 e ρ M) : RelQ n fp e ρ M := by
  obtain ⟨fp', h1, h2⟩ := h
  exact ⟨fp', h1, fun j q => (h2 j q).elim (hf j) fun z => .inr (by omega)⟩
theorem RetR.mono {b : β} {r : Rz} {M : Mem} {fp fp1 : Fp} (hf : ∀ j, fp1 j → fp j) (h : RetR fr b r M fp1) : RetR fr b r M fp := by
  rcases h with h | h | ⟨k, ds, h1, h2, h3, h4⟩
  · exact .inl h
  · exact .inr (.inl h)
  · exact .inr (.inr ⟨k, ds, h1, h2, h3, hf k h4⟩)
theorem Out.mono {n n1 : Nat} {fp fp1 : Fp} (hf : ∀ j, fp1 j → fp j ∨ n ≤ j) (hn : n ≤ n1) : ∀ {o : Fw β E} {fl : Fl} {ρ : Slots} {M : Mem}, Out fr n1 fp1 o fl ρ M → Out fr n fp o fl ρ M
  | .nx _, _, _, _, h => ⟨h.1, h.2.mono hf hn⟩
  | .bk _, _, _, _, h => ⟨h.1, h.2.mono hf hn⟩
  | .ct _, _, _, _, h => ⟨h.1, h.2.mono hf hn⟩
  | .rt _, _, _, _, ⟨r, h1, h2⟩ => ⟨r, h1, h2.mono fun j z => z.elim (hf j) fun z => .inr (by omega)⟩
/-! ### plain statements -/
omit [EnvR E] in
@[simp] def tNil : E → Option (Fw β E) := fun e => some (.nx e)
theorem s_nil : SP (E := E) (β := β) fr tNil sNil := fun e ρ M fp R C o q => by
  cases q; exact ⟨_, _, _, rfl, .refl, C, rfl, fp, R, fun _ z => .inl z⟩
omit [EnvR E] in
@[simp] def tSeq1 (g2 : E → Option (Fw β E)) : Fw β E → Option (Fw β E)
  | .nx e => g2 e
  | .bk e => some (.bk e)
  | .ct e => some (.ct e)
  | .rt b => some (.rt b)
omit [EnvR E] in
@[simp] def tSeq (g1 g2 : E → Option (Fw β E)) : E → Option (Fw β E) := fun e => (g1 e).bind (tSeq1 g2)
theorem s_cons {g1 g2 : E → Option (Fw β E)} {f1 f2 : Sf} (h1 : SP fr g1 f1) (h2 : SP fr g2 f2) : SP fr (tSeq g1 g2) (sCons f1 f2) := fun e ρ M fp R C o q => by
  unfold tSeq at q
  cases q1 : g1 e with
  | none => rw [q1] at q; cases q
  | some o1 =>
    rw [q1] at q; simp only [Option.bind_some] at q
    obtain ⟨fl, ρ1, M1, k1, k2, k3, k4⟩ := h1 e ρ M fp R C o1 q1
    unfold sCons
    rw [k1]; simp only [Option.bind_some]
    cases o1 with
    | nx e1 =>
      obtain ⟨rfl, fp1, k5, k6⟩ := k4
      obtain ⟨fl2, ρ2, M2, l1, l2, l3, l4⟩ := h2 e1 ρ1 M1 fp1 k5 k3 o q
      exact ⟨fl2, ρ2, M2, l1, k2.trans k6 l2, l3, l4.mono k6 k2.1⟩
    | bk e1 => cases q; obtain ⟨rfl, k4⟩ := k4; exact ⟨_, _, _, rfl, k2, k3, rfl, k4⟩
    | ct e1 => cases q; obtain ⟨rfl, k4⟩ := k4; exact ⟨_, _, _, rfl, k2, k3, rfl, k4⟩
    | rt b => cases q; obtain ⟨r, rfl, k4⟩ := k4; exact ⟨_, _, _, rfl, k2, k3, r, rfl, k4⟩
omit [EnvR E] in
@[simp] def tSet {i : Nat} (ln : Lens E (Option α) i) (g : E → Option α) : E → Option (Fw β E) := fun e => (g e).map fun v => .nx (ln.set e (some v))
theorem s_set {i : Nat} (ln : Lens E (Option α) i) [LOk ln] {g : E → Option α} {f : Ef} (h : EP g f) : SP (β := β) fr (tSet ln g) (sSet i f) := fun e ρ M fp R C o q => by
  unfold tSet at q
  cases q1 : g e with
  | none => rw [q1] at q; cases q
  | some v =>
    rw [q1] at q; cases q
    obtain ⟨r, k1, k2⟩ := h e ρ M fp R C v q1
    obtain ⟨fp', k3, k4⟩ := lens_val ln R v
    exact ⟨_, _, _, by simp [sSet, k1, k2], .refl, C, rfl, fp', k3, fun j z => .inl (k4 j z)⟩
/-- a slot that is mutable in the untyped reading, with a value that is no new list -/
theorem s_setMV [NL α] {i : Nat} (ln : Lens E (Option α) i) [LOk ln] {g : E → Option α} {f : Ef} (h : EP g f) : SP (β := β) fr (tSet ln g) (sSetM i f) := fun e ρ M fp R C o q => by
  unfold tSet at q
  cases q1 : g e with
  | none => rw [q1] at q; cases q
  | some v =>
    rw [q1] at q; cases q
    obtain ⟨r, k1, k2⟩ := h e ρ M fp R C v q1
    obtain ⟨fp', k3, k4⟩ := lens_val ln R v
    cases r with
    | new ds => exact absurd k2.symm (NL.ne v ds)
    | val d =>
      have k2 : d = Enc.enc v := k2
      exact ⟨_, _, _, by simp [sSetM, k1, k2], .refl, C, rfl, fp', k3, fun j z => .inl (k4 j z)⟩
omit [EnvR E] in
@[simp] def tSetL {i : Nat} (ln : Lens E (Ob (LS α)) i) (g : E → Option (List α)) : E → Option (Fw β E) := fun e => (g e).map fun v => .nx (ln.set e ⟨some ⟨v⟩⟩)
theorem s_setL {i : Nat} (ln : Lens E (Ob (LS α)) i) [LOk ln] {g : E → Option (List α)} {f : Ef} (h : EN g f) : SP (β := β) fr (tSetL ln g) (sSetM i f) := fun e ρ M fp R C o q => by
  unfold tSetL at q
  cases q1 : g e with
  | none => rw [q1] at q; cases q
  | some v =>
    rw [q1] at q; cases q
    obtain ⟨ds, k1, k2⟩ := h e ρ M fp R C v q1
    have k2 : D.lst (v.map Enc.enc) = .lst ds := k2
    cases k2
    obtain ⟨f1, h1, h2, h3⟩ := LOk.ok (ln := ln) e ρ M fp R
    obtain ⟨fp', h4, h5⟩ := h3 ⟨some ⟨v⟩⟩ (some (.loc M.length)) (M ++ [.lst (v.map Enc.enc)]) (fun j => j = M.length) (ob_mk rfl ⟨get_end, fun _ => Iff.rfl⟩)
      (fun j z _ => List.getElem?_append_left (EnvR.bnd R j z)) (fun j z => .inr (by omega))
    refine ⟨.nx, ρ.set i (some (.loc M.length)), M ++ [.lst (v.map Enc.enc)], by simp [sSetM, k1], ⟨by simp, fun j z _ => List.getElem?_append_left z⟩, cl_push C (show nlO M.length (.lst (v.map Enc.enc)) = true from nls_enc _ v), rfl, fp', h4, fun j z => ?_⟩
    rcases h5 j z with z | z
    · exact .inl z.1
    · exact .inr (by omega)
omit [EnvR E] in
@[simp] def tExp (g : E → Option α) : E → Option (Fw β E) := fun e => (g e).map fun _ => .nx e
theorem s_exp {g : E → Option α} {f : Ef} (h : EP g f) : SP (β := β) fr (tExp g) (sExpr f) := fun e ρ M fp R C o q => by
  unfold tExp at q
  cases q1 : g e with
  | none => rw [q1] at q; cases q
  | some v =>
    rw [q1] at q; cases q
    obtain ⟨r, k1, k2⟩ := h e ρ M fp R C v q1
    exact ⟨.nx, ρ, M, by simp [sExpr, k1], .refl, C, rfl, fp, R, fun j z => .inl z⟩
/-- a list of a name of its own is changed in its place -/
theorem ls_upd {i : Nat} (ln : Lens E (Ob (LS α)) i) [LOk ln] {e : E} {ρ : Slots} {M : Mem} {fp : Fp} (R : EnvR.rel e ρ M fp) (C : Cl M) {s : LS α} (hv : (ln.get e).v = some s) : ∃ k, slot ρ i = some (.loc k) ∧ M[k]? = some (.lst (s.l.map Enc.enc)) ∧ fp k ∧
    ∀ xs : List α, (∃ fp', EnvR.rel (ln.set e ⟨some ⟨xs⟩⟩) ρ (M.set k (.lst (xs.map Enc.enc))) fp' ∧ ∀ j, fp' j → fp j) ∧ Frm M fp (M.set k (.lst (xs.map Enc.enc))) ∧ Cl (M.set k (.lst (xs.map Enc.enc))) := by
  obtain ⟨f1, h1, h2, h3⟩ := LOk.ok (ln := ln) e ρ M fp R
  obtain ⟨k, k1, k2⟩ := ob_some h1 hv
  obtain ⟨k3, k4⟩ := ls_get k2
  have hk := lt_of_get k3
  refine ⟨k, k1, k3, h2 k ((k4 k).mpr rfl), fun xs => ⟨?_, ⟨by simp, fun j _ z => List.getElem?_set_ne (fun y => z (by rw [← y]; exact h2 k ((k4 k).mpr rfl)))⟩, cl_set C (nls_enc _ xs)⟩⟩
  obtain ⟨fp', h4, h5⟩ := h3 ⟨some ⟨xs⟩⟩ (some (.loc k)) (M.set k (.lst (xs.map Enc.enc))) (fun j => j = k) (ob_mk rfl ⟨by rw [List.getElem?_set_self hk], fun _ => Iff.rfl⟩)
    (fun j _ z => List.getElem?_set_ne (fun y => z ((k4 j).mpr y.symm))) (fun j z => .inl ((k4 j).mpr z))
  have e1 : ρ.set i (some (.loc k)) = ρ := by
    have := slot_some k1
    exact List.ext_getElem? fun j => by
      by_cases y : i = j
      · subst y; rw [List.getElem?_set_self (List.getElem?_eq_some_iff.mp this).1, this]
      · rw [List.getElem?_set_ne y]
  rw [e1] at h4
  refine ⟨fp', h4, fun j z => ?_⟩
  rcases h5 j z with z | z
  · exact z.1
  · rw [z]; exact h2 k ((k4 k).mpr rfl)
theorem cBM_of {T : String} {o : Mop} {f : Ef} {g : Af} {ρ : Slots} {M : Mem} {k : Nat} (h1 : f ρ M = some (.val (.loc k), M)) (h2 : tyOf M (.loc k) = some T) : cBM T o f g ρ M = (g ρ M).bind fun q => o (.loc k) q.1 q.2 := by
  unfold cBM; rw [h1]; simp only [Option.bind_some]; exact if_pos h2
omit [EnvR E] in
@[simp] def tApp {i : Nat} (ln : Lens E (Ob (LS α)) i) (g : E → Option α) : E → Option (Fw β E) := fun e => (ln.get e).v.bind fun s => (g e).bind fun v => if s.l.length < 16777216 then some (.nx (ln.set e ⟨some ⟨s.l ++ [v]⟩⟩)) else none
theorem s_app {i : Nat} (ln : Lens E (Ob (LS α)) i) [LOk ln] {g : E → Option α} {f : Ef} (h : EP g f) : SP (β := β) fr (tApp ln g) (sExpr (cBM "list" oAppend (cVar i) (aCons f aNil))) := fun e ρ M fp R C o q => by
  unfold tApp at q
  cases hv : (ln.get e).v with
  | none => rw [hv] at q; cases q
  | some s =>
    rw [hv] at q; simp only [Option.bind_some] at q
    cases q1 : g e with
    | none => rw [q1] at q; cases q
    | some v =>
      rw [q1] at q; simp only [Option.bind_some] at q
      split at q
      · rename_i hl; cases q
        obtain ⟨k, k1, k2, k3, k4⟩ := ls_upd ln R C hv
        obtain ⟨⟨fp', k5, k6⟩, k7, k8⟩ := k4 (s.l ++ [v])
        obtain ⟨r, k9, k10⟩ := h e ρ M fp R C v q1
        refine ⟨.nx, ρ, M.set k (.lst ((s.l ++ [v]).map Enc.enc)), ?_, k7, k8, rfl, fp', k5, fun j z => .inl (k6 j z)⟩
        have hap : oAppend (.loc k) [Enc.enc v] M = some (.val .non, M.set k (.lst (s.l.map Enc.enc ++ [Enc.enc v]))) := oAppend_loc k2 (by simpa using hl)
        unfold sExpr
        rw [cBM_of (by rw [cVar_ap, k1]; rfl) (tyOf_loc k2)]
        simp only [aCons, aNil, k9, Option.bind_some, k10, hap]
        simp
      · cases q
omit [EnvR E] in
@[simp] def tPop {i : Nat} (ln : Lens E (Ob (LS α)) i) : E → Option (Fw β E) := fun e => (ln.get e).v.bind fun s => if s.l = [] then none else some (.nx (ln.set e ⟨some ⟨s.l.dropLast⟩⟩))
theorem s_pop {i : Nat} (ln : Lens E (Ob (LS α)) i) [LOk ln] : SP (β := β) fr (tPop ln) (sExpr (cBM "list" oPop (cVar i) aNil)) := fun e ρ M fp R C o q => by
  unfold tPop at q
  cases hv : (ln.get e).v with
  | none => rw [hv] at q; cases q
  | some s =>
    rw [hv] at q; simp only [Option.bind_some] at q
    split at q
    · cases q
    · rename_i hne; cases q
      obtain ⟨k, k1, k2, k3, k4⟩ := ls_upd ln R C hv
      obtain ⟨⟨fp', k5, k6⟩, k7, k8⟩ := k4 s.l.dropLast
      refine ⟨.nx, ρ, M.set k (.lst (s.l.dropLast.map Enc.enc)), ?_, k7, k8, rfl, fp', k5, fun j z => .inl (k6 j z)⟩
      unfold sExpr
      rw [cBM_of (by rw [cVar_ap, k1]; rfl) (tyOf_loc k2)]
      simp only [aNil, Option.bind_some]
      obtain ⟨xs, x, hx⟩ : ∃ xs x, s.l = xs ++ [x] := ⟨_, _, (List.dropLast_concat_getLast hne).symm⟩
      rw [oPop_ap, k2, hx]
      simp
omit [EnvR E] in
@[simp] def tIxSet {i : Nat} (ln : Lens E (Ob (LS α)) i) (gi : E → Option Int) (g : E → Option α) : E → Option (Fw β E) := fun e => (g e).bind fun v => (ln.get e).v.bind fun s => (gi e).bind fun j => (ixN s.l.length j).map fun k => .nx (ln.set e ⟨some ⟨s.l.set k v⟩⟩)
theorem s_ixset {i : Nat} (ln : Lens E (Ob (LS α)) i) [LOk ln] {gi : E → Option Int} {g : E → Option α} {fi f : Ef} (hi : EV gi fi) (h : EP g f) : SP (β := β) fr (tIxSet ln gi g) (sAsg (gIx (cVar i) fi) f) := fun e ρ M fp R C o q => by
  unfold tIxSet at q
  cases q1 : g e with
  | none => rw [q1] at q; cases q
  | some v =>
    rw [q1] at q; simp only [Option.bind_some] at q
    cases hv : (ln.get e).v with
    | none => rw [hv] at q; cases q
    | some s =>
      rw [hv] at q; simp only [Option.bind_some] at q
      cases q2 : gi e with
      | none => rw [q2] at q; cases q
      | some j =>
        rw [q2] at q; simp only [Option.bind_some] at q
        cases q3 : ixN s.l.length j with
        | none => rw [q3] at q; cases q
        | some n =>
          rw [q3] at q; cases q
          obtain ⟨k, k1, k2, k3, k4⟩ := ls_upd ln R C hv
          obtain ⟨⟨fp', k5, k6⟩, k7, k8⟩ := k4 (s.l.set n v)
          obtain ⟨r, k9, k10⟩ := h e ρ M fp R C v q1
          obtain ⟨r2, k11, k12⟩ := hi.p e ρ M fp R C j q2
          have k12 : r2.d = .int j := k12
          refine ⟨.nx, ρ, M.set k (.lst ((s.l.set n v).map Enc.enc)), ?_, k7, k8, rfl, fp', k5, fun j z => .inl (k6 j z)⟩
          unfold sAsg gIx
          rw [k9]
          simp only [Option.bind_some]
          rw [cVar_ap, k1, bnd_some, var1_ap]
          simp only [Option.bind_some, Rz_d_val]
          rw [k11]
          simp only [Option.bind_some]
          rw [k12]
          simp only [k2, List.length_map, q3, Option.bind_some, k10, List.map_set]
omit [EnvR E] in
@[simp] def tAsg (p : α → E → Option E) (g : E → Option α) : E → Option (Fw β E) := fun e => (g e).bind fun v => (p v e).map .nx
theorem s_asg {p : α → E → Option E} {g : E → Option α} {gf : Gf} {f : Ef} (hp : GP p gf) (h : EP g f) : SP (β := β) fr (tAsg p g) (sAsg gf f) := fun e ρ M fp R C o q => by
  unfold tAsg at q
  cases q1 : g e with
  | none => rw [q1] at q; cases q
  | some v =>
    rw [q1] at q; simp only [Option.bind_some] at q
    cases q2 : p v e with
    | none => rw [q2] at q; cases q
    | some e1 =>
      rw [q2] at q; cases q
      obtain ⟨r, k1, k2⟩ := h e ρ M fp R C v q1
      obtain ⟨ρ1, f1, k3, k4, k5⟩ := hp v e ρ M fp R e1 q2
      exact ⟨.nx, ρ1, M, by simp [sAsg, k1, k2, k3], .refl, C, rfl, f1, k4, fun j z => .inl (k5 j z)⟩
omit [EnvR E] in
@[simp] def tIfS (gt : E → Option Bool) (g1 g2 : E → Option (Fw β E)) : E → Option (Fw β E) := fun e => (gt e).bind fun b => if b = true then g1 e else g2 e
theorem s_if {gt : E → Option Bool} {g1 g2 : E → Option (Fw β E)} {t : Tf} {f1 f2 : Sf} (ht : TP gt t) (h1 : SP fr g1 f1) (h2 : SP fr g2 f2) : SP fr (tIfS gt g1 g2) (sIf t f1 f2) := fun e ρ M fp R C o q => by
  unfold tIfS at q
  cases q1 : gt e with
  | none => rw [q1] at q; cases q
  | some b =>
    rw [q1] at q; simp only [Option.bind_some] at q
    have k := ht e ρ M fp R C b q1
    unfold sIf
    rw [k]; simp only [Option.bind_some]
    cases b with
    | true => exact h1 e ρ M fp R C o (by simpa using q)
    | false => exact h2 e ρ M fp R C o (by simpa using q)
omit [EnvR E] in
@[simp] def tRet (g : E → Option β) : E → Option (Fw β E) := fun e => (g e).map .rt
theorem s_ret {g : E → Option β} {f : Ef} (h : EP g f) : SP false (tRet g) (sRet f) := fun e ρ M fp R C o q => by
  unfold tRet at q
  cases q1 : g e with
  | none => rw [q1] at q; cases q
  | some v =>
    rw [q1] at q; cases q
    obtain ⟨r, k1, k2⟩ := h e ρ M fp R C v q1
    exact ⟨.rt r, ρ, M, by simp [sRet, k1], .refl, C, r, rfl, .inl ⟨rfl, k2⟩⟩
theorem s_retN {g : E → Option β} {f : Ef} (h : EN g f) : SP fr (tRet g) (sRet f) := fun e ρ M fp R C o q => by
  unfold tRet at q
  cases q1 : g e with
  | none => rw [q1] at q; cases q
  | some v =>
    rw [q1] at q; cases q
    obtain ⟨ds, k1, k2⟩ := h e ρ M fp R C v q1
    exact ⟨.rt (.new ds), ρ, M, by simp [sRet, k1], .refl, C, _, rfl, .inr (.inl ⟨ds, rfl, k2⟩)⟩
theorem s_retL {i : Nat} (ln : Lens E (Ob (LS α)) i) [LOk ln] : SP fr (tRet (tL ln)) (sRet (cVar i)) := fun e ρ M fp R C o q => by
  unfold tRet tL at q
  cases hv : (ln.get e).v with
  | none => rw [hv] at q; cases q
  | some s =>
    rw [hv] at q; cases q
    obtain ⟨k, k1, k2, k3, k4⟩ := ls_upd ln R C hv
    exact ⟨.rt (.val (.loc k)), ρ, M, by simp [sRet, k1], .refl, C, _, rfl, .inr (.inr ⟨k, _, rfl, k2, rfl, .inl k3⟩)⟩
omit [EnvR E] in
@[simp] def tRet0 (b : β) : E → Option (Fw β E) := fun e => some (.rt b)
theorem s_ret0 {b : β} (h : Enc.enc b = .non) : SP (E := E) false (tRet0 b) sRetN := fun e ρ M fp R C o q => by
  cases q; exact ⟨.rt (.val .non), ρ, M, rfl, .refl, C, _, rfl, .inl ⟨rfl, h.symm⟩⟩
omit [EnvR E] in
@[simp] def tBrk : E → Option (Fw β E) := fun e => some (.bk e)
omit [EnvR E] in
@[simp] def tCnt : E → Option (Fw β E) := fun e => some (.ct e)
theorem s_brk : SP (E := E) (β := β) fr tBrk sBreak := fun e ρ M fp R C o q => by
  cases q; exact ⟨_, _, _, rfl, .refl, C, rfl, fp, R, fun _ z => .inl z⟩
theorem s_cnt : SP (E := E) (β := β) fr tCnt sCont := fun e ρ M fp R C o q => by
  cases q; exact ⟨_, _, _, rfl, .refl, C, rfl, fp, R, fun _ z => .inl z⟩
omit [EnvR E] in
@[simp] def tNev : E → Option (Fw β E) := fun _ => none
theorem s_nev {f : Sf} : SP (E := E) (β := β) fr tNev f := fun e ρ M fp R C o q => by cases q
/-! ### loops -/
theorem tidy_T {kl : List Bool} {e : E} {ρ : Slots} {M Me : Mem} {fp fpe : Fp} (C : Cl M) (Ce : Cl Me) (F : Frm M fp Me) (R : EnvR.rel e ρ Me fpe) (hf : ∀ j, fpe j → fp j ∨ M.length ≤ j) :
    ∃ M3, tidy kl M ρ Me = (keepD kl ρ, M3) ∧ Cl M3 ∧ Frm M fp M3 ∧ RelQ M.length fp (EnvR.keep kl e) (keepD kl ρ) M3 ∧ ∀ (k : Nat) (o : O), k < M.length → Me[k]? = some o → M3[k]? = some o := by
  obtain ⟨f3, k1, k2⟩ := EnvR.keep_rel kl R
  unfold tidy
  split
  · rename_i h
    refine ⟨Me.take M.length, rfl, ?_, ?_, ?_, ?_⟩
    · intro j o q
      have hj := lt_of_get q
      rw [List.length_take] at hj ⊢
      have e1 : min M.length Me.length = M.length := Nat.min_eq_left F.1
      rw [e1] at hj ⊢
      rw [List.getElem?_take_of_lt hj] at q
      rcases h.1.2 j o hj q with z | z
      · exact C j o z
      · exact z
    · refine ⟨by rw [List.length_take]; have := F.1; omega, fun j z y => ?_⟩
      rw [List.getElem?_take_of_lt z]
      exact F.2 j z y
    · have tr : ∀ j, f3 j → j < M.length := EnvR.trim k1 h.2 fun j o z q => by
        rcases h.1.2 j o z q with y | y
        · exact C j o y
        · exact y
      exact ⟨f3, EnvR.frame k1 fun j z => List.getElem?_take_of_lt (tr j z), fun j z => hf j (k2 j z)⟩
    · intro k o z q
      rw [List.getElem?_take_of_lt z]; exact q
  · exact ⟨Me, rfl, Ce, F, ⟨f3, k1, fun j z => hf j (k2 j z)⟩, fun _ _ _ q => q⟩
omit [EnvR E] in
def forT1 (kp : E → E) (asg : α → E → Option E) (body : E → Option (Fw β E)) (rec_ : E → Option (Fw β E)) : Fw β E → Option (Fw β E)
  | .nx e => rec_ (kp e)
  | .ct e => rec_ (kp e)
  | .bk e => some (.nx e)
  | .rt b => some (.rt b)
omit [EnvR E] in
def forT (kp : E → E) (asg : α → E → Option E) (body : E → Option (Fw β E)) : List α → E → Option (Fw β E)
  | [], e => some (.nx e)
  | x :: xs, e => (asg x e).bind fun e1 => (body e1).bind (forT1 kp asg body (forT kp asg body xs))
theorem for_T {kl : List Bool} {asg : α → E → Option E} {body : E → Option (Fw β E)} {g : Gf} {f : Sf} {ds0 : List D} (hg : GP asg g) (hb : SP fr body f) : ∀ (xs : List α) (e : E) (ρ : Slots) (M : Mem) (fp : Fp), EnvR.rel e ρ M fp → Cl M → ∀ o, forT (EnvR.keep kl) asg body xs e = some o →
    ∃ fl ρ' M', loopF (stpK kl none ds0 g f) (xs.map Enc.enc) ρ M = some (fl, ρ', M') ∧ Frm M fp M' ∧ Cl M' ∧ Out fr M.length fp o fl ρ' M'
  | [], e, ρ, M, fp, R, C, o, q => by
    cases q
    exact ⟨.nx, ρ, M, rfl, .refl, C, rfl, fp, R, fun _ z => .inl z⟩
  | x :: xs, e, ρ, M, fp, R, C, o, q => by
    unfold forT at q
    cases q1 : asg x e with
    | none => rw [q1] at q; cases q
    | some e1 =>
      rw [q1] at q; simp only [Option.bind_some] at q
      obtain ⟨ρ1, f1, k1, k2, k3⟩ := hg x e ρ M fp R e1 q1
      cases q2 : body e1 with
      | none => rw [q2] at q; cases q
      | some o1 =>
        rw [q2] at q; simp only [Option.bind_some] at q
        obtain ⟨fl, ρ2, M2, k4, k5, k6, k7⟩ := hb e1 ρ1 M f1 k2 C o1 q2
        have F2 : Frm M fp M2 := ⟨k5.1, fun j z y => k5.2 j z fun w => y (k3 j w)⟩
        have go : ∀ {e2 : E}, RelQ M.length f1 e2 ρ2 M2 → (fl = .nx ∨ fl = .ct) → forT (EnvR.keep kl) asg body xs (EnvR.keep kl e2) = some o →
            ∃ fl' ρ' M', loopF (stpK kl none ds0 g f) ((x :: xs).map Enc.enc) ρ M = some (fl', ρ', M') ∧ Frm M fp M' ∧ Cl M' ∧ Out fr M.length fp o fl' ρ' M' := by
          intro e2 r2 hfl hq
          obtain ⟨fp2, r3, r4⟩ := r2
          obtain ⟨M3, t1, t2, t3, ⟨f3, t4, t5⟩, _⟩ := tidy_T (kl := kl) C k6 F2 r3 fun j z => (r4 j z).elim (fun y => .inl (k3 j y)) .inr
          obtain ⟨fl', ρ', M', l1, l2, l3, l4⟩ := for_T (ds0 := ds0) hg hb xs _ _ M3 f3 t4 t2 o hq
          refine ⟨fl', ρ', M', ?_, t3.trans t5 l2, l3, l4.mono t5 t3.1⟩
          rw [List.map_cons, loopF_cons, stpK_ap, k1, bnd_some, stpK1_ap, k4, bnd_some]
          rcases hfl with rfl | rfl
          · rw [stpOut_nx, t1, bnd_some, loopF1_nx, l1]
          · rw [stpOut_ct, t1, bnd_some, loopF1_ct, l1]
        cases o1 with
        | nx e2 => exact go k7.2 (.inl k7.1) q
        | ct e2 => exact go k7.2 (.inr k7.1) q
        | bk e2 =>
          cases q
          obtain ⟨rfl, fp2, r3, r4⟩ := k7
          refine ⟨.nx, ρ2, M2, ?_, F2, k6, rfl, fp2, r3, fun j z => (r4 j z).elim (fun y => .inl (k3 j y)) .inr⟩
          rw [List.map_cons, loopF_cons, stpK_ap, k1, bnd_some, stpK1_ap, k4, bnd_some, stpOut_bk, bnd_some, loopF1_bk]
        | rt b =>
          cases q
          obtain ⟨r, rfl, r2⟩ := k7
          refine ⟨.rt r, [], M2, ?_, F2, k6, r, rfl, r2.mono fun j z => z.elim (fun y => .inl (k3 j y)) .inr⟩
          rw [List.map_cons, loopF_cons, stpK_ap, k1, bnd_some, stpK1_ap, k4, bnd_some, stpOut_rt, bnd_some, loopF1_rt]
omit [EnvR E] in
@[simp] def tFor (kp : E → E) (gi : E → Option (List α)) (asg : α → E → Option E) (body : E → Option (Fw β E)) : E → Option (Fw β E) := fun e => (gi e).bind fun xs => forT kp asg body xs (kp e)
theorem s_for {kp : E → E} {kl : List Bool} {gi : E → Option (List α)} {asg : α → E → Option E} {body : E → Option (Fw β E)} {it : If} {g : Gf} {f : Sf} (hi : IP gi it) (hg : GP asg g) (hb : SP fr body f) [KOk kl kp] : SP fr (tFor kp gi asg body) (sForK kl it g f) := fun e ρ M fp R C o q => by
  have ek : kp = EnvR.keep kl := funext fun e => (KOk.eq (kl := kl) e).symm
  subst ek
  unfold tFor at q
  cases q1 : gi e with
  | none => rw [q1] at q; cases q
  | some xs =>
    rw [q1] at q; simp only [Option.bind_some] at q
    have k1 := hi e ρ M fp R C xs q1
    obtain ⟨f2, k2, k3⟩ := EnvR.keep_rel kl R
    obtain ⟨fl, ρ', M', l1, l2, l3, l4⟩ := for_T (ds0 := xs.map Enc.enc) hg hb xs _ _ M f2 k2 C o q
    refine ⟨fl, ρ', M', ?_, ⟨l2.1, fun j z y => l2.2 j z fun w => y (k3 j w)⟩, l3, l4.mono (fun j z => .inl (k3 j z)) (Nat.le_refl _)⟩
    unfold sForK
    rw [k1]
    exact l1
omit [EnvR E] in
/-- a loop over a list of a name of its own, that stays as it is -/
noncomputable def forG1 (gd : E → Prop) (kp : E → E) (rec_ : E → Option (Fw β E)) : Fw β E → Option (Fw β E)
  | .nx e => open Classical in if gd (kp e) then rec_ (kp e) else none
  | .ct e => open Classical in if gd (kp e) then rec_ (kp e) else none
  | .bk e => some (.nx e)
  | .rt b => some (.rt b)
omit [EnvR E] in
noncomputable def forG (gd : E → Prop) (kp : E → E) (asg : α → E → Option E) (body : E → Option (Fw β E)) : List α → E → Option (Fw β E)
  | [], e => some (.nx e)
  | x :: xs, e => (asg x e).bind fun e1 => (body e1).bind (forG1 gd kp (forG gd kp asg body xs))
end
end TL

/-! T6: the typed reading of loops over own lists, while, defs; reckoning with them -/
namespace TL
open PySem PySem.Spec PyProof.Rows L2 CI
section
variable {E : Type} [EnvR E] {α β γ δ ε σ : Type} [Enc α] [Enc β] [Enc γ] [Enc δ] [Enc ε] [Enc σ] {A : Type} [Args A] {fr : Bool}
/-! ### while -/
omit [EnvR E] in
def whT1 (kp : E → E) (rec_ : E → Option (Fw β E)) : Fw β E → Option (Fw β E)
  | .nx e => rec_ (kp e)
  | .ct e => rec_ (kp e)
  | .bk e => some (.nx e)
  | .rt b => some (.rt b)
omit [EnvR E] in
def whT (kp : E → E) (t : E → Option Bool) (body : E → Option (Fw β E)) : Nat → E → Option (Fw β E)
  | 0, _ => none
  | n + 1, e => (t e).bind fun b => if b = true then (body e).bind (whT1 kp (whT kp t body n)) else some (.nx e)
theorem wh_T {kl : List Bool} {gt : E → Option Bool} {body : E → Option (Fw β E)} {t : Tf} {f : Sf} (ht : TP gt t) (hb : SP fr body f) : ∀ (n : Nat) (e : E) (ρ : Slots) (M : Mem) (fp : Fp), EnvR.rel e ρ M fp → Cl M → ∀ o, whT (EnvR.keep kl) gt body n e = some o →
    ∃ fl ρ' M', whK kl t f n ρ M = some (fl, ρ', M') ∧ Frm M fp M' ∧ Cl M' ∧ Out fr M.length fp o fl ρ' M'
  | 0, _, _, _, _, _, _, o, q => by cases q
  | n + 1, e, ρ, M, fp, R, C, o, q => by
    unfold whT at q
    cases q1 : gt e with
    | none => rw [q1] at q; cases q
    | some b =>
      rw [q1] at q; simp only [Option.bind_some] at q
      have k1 := ht e ρ M fp R C b q1
      unfold whK
      rw [k1]; simp only [Option.bind_some]
      cases b with
      | false => simp at q; subst q; exact ⟨.nx, ρ, M, by simp, .refl, C, rfl, fp, R, fun _ z => .inl z⟩
      | true =>
        simp only [if_true] at q ⊢
        cases q2 : body e with
        | none => rw [q2] at q; cases q
        | some o1 =>
          rw [q2] at q; simp only [Option.bind_some] at q
          obtain ⟨fl, ρ2, M2, k4, k5, k6, k7⟩ := hb e ρ M fp R C o1 q2
          rw [k4]; simp only [Option.bind_some]
          have go : ∀ {e2 : E}, RelQ M.length fp e2 ρ2 M2 → whT (EnvR.keep kl) gt body n (EnvR.keep kl e2) = some o →
              ∃ fl' ρ' M', whK kl t f n (tidy kl M ρ2 M2).1 (tidy kl M ρ2 M2).2 = some (fl', ρ', M') ∧ Frm M fp M' ∧ Cl M' ∧ Out fr M.length fp o fl' ρ' M' := by
            intro e2 r2 hq
            obtain ⟨fp2, r3, r4⟩ := r2
            obtain ⟨M3, t1, t2, t3, ⟨f3, t4, t5⟩, _⟩ := tidy_T (kl := kl) C k6 k5 r3 r4
            obtain ⟨fl', ρ', M', l1, l2, l3, l4⟩ := wh_T ht hb n _ _ M3 f3 t4 t2 o hq
            exact ⟨fl', ρ', M', by rw [t1]; exact l1, t3.trans t5 l2, l3, l4.mono t5 t3.1⟩
          cases o1 with
          | nx e2 => obtain ⟨rfl, k7⟩ := k7; exact go k7 q
          | ct e2 => obtain ⟨rfl, k7⟩ := k7; exact go k7 q
          | bk e2 => cases q; obtain ⟨rfl, k7⟩ := k7; exact ⟨_, _, _, rfl, k5, k6, rfl, k7⟩
          | rt b => cases q; obtain ⟨r, rfl, r2⟩ := k7; exact ⟨_, _, _, rfl, k5, k6, r, rfl, r2⟩
omit [EnvR E] in
@[simp] def tWhile (kp : E → E) (n : Nat) (gt : E → Option Bool) (body : E → Option (Fw β E)) : E → Option (Fw β E) := fun e => whT kp gt body n (kp e)
theorem s_while {kp : E → E} {kl : List Bool} {n : Nat} {gt : E → Option Bool} {body : E → Option (Fw β E)} {t : Tf} {f : Sf} (ht : TP gt t) (hb : SP fr body f) [KOk kl kp] : SP fr (tWhile kp n gt body) (sWhileK kl n t f) := fun e ρ M fp R C o q => by
  have ek : kp = EnvR.keep kl := funext fun e => (KOk.eq (kl := kl) e).symm
  subst ek
  obtain ⟨f2, k2, k3⟩ := EnvR.keep_rel kl R
  obtain ⟨fl, ρ', M', l1, l2, l3, l4⟩ := wh_T ht hb n _ _ M f2 k2 C o q
  exact ⟨fl, ρ', M', l1, ⟨l2.1, fun j z y => l2.2 j z fun w => y (k3 j w)⟩, l3, l4.mono (fun j z => .inl (k3 j z)) (Nat.le_refl _)⟩
/-! ### defs -/
omit [EnvR E] in
@[simp] def fnE (nx : Option β) : Fw β E → Option β
  | .rt b => some b
  | .nx _ => nx
  | _ => none
omit [EnvR E] in
@[simp] def fnT (init : A → E) (nx : Option β) (body : E → Option (Fw β E)) : A → Option β := fun a => (body (init a)).bind (fnE nx)
theorem frm_app {M M' : Mem} (F : Frm M (fun _ => False) M') : ∃ G, M' = M ++ G := by
  refine ⟨M'.drop M.length, ?_⟩
  conv => lhs; rw [← List.take_append_drop M.length M']
  congr 1
  apply List.ext_getElem?
  intro j
  by_cases h : j < M.length
  · rw [List.getElem?_take_of_lt h]; exact F.2 j h id
  · rw [List.getElem?_eq_none (by rw [List.length_take]; omega), List.getElem?_eq_none (by omega)]
theorem fin_T {b : β} {r : Rz} {M M' : Mem} (F : Frm M (fun _ => False) M') (h : RetR fr b r M' fun j => False ∨ M.length ≤ j) : (fr = false ∧ ∃ r', finK M r M' = (r', M) ∧ r'.d = Enc.enc b) ∨ ∃ ds, finK M r M' = (.new ds, M) ∧ Enc.enc b = .lst ds := by
  obtain ⟨G, rfl⟩ := frm_app F
  have n := Enc.nle M.length b
  rcases h with ⟨h0, h⟩ | ⟨ds, rfl, h⟩ | ⟨k, ds, rfl, h1, h2, h3⟩
  · left
    refine ⟨h0, ?_⟩
    rw [← h] at n
    cases r with
    | val d => exact ⟨_, finK_appV n, h⟩
    | new ds => exact ⟨_, finK_appN (by simpa using n), h⟩
  · right
    rw [h] at n
    exact ⟨ds, finK_appN (by simpa using n), h⟩
  · right
    rw [h2] at n
    have h3 : M.length ≤ k := h3.elim False.elim id
    obtain ⟨j, rfl⟩ : ∃ j, k = M.length + j := ⟨k - M.length, by omega⟩
    rw [get_appj] at h1
    exact ⟨ds, finK_appL h1 (by simpa using n), h2⟩
theorem fn_run {np ns : Nat} {init : A → E} {nx : Option β} {body : E → Option (Fw β E)} {f : Sf} (hi : ∀ a M, EnvR.rel (init a) ((Args.encs a).map some ++ List.replicate (ns - (Args.encs a).length) none) M fun _ => False) (hl : ∀ a : A, (Args.encs a).length = np)
    (hb : SP fr body f) (hn : ∀ b, nx = some b → fr = false ∧ Enc.enc b = .non) {a : A} {b : β} (q : fnT init nx body a = some b) {M : Mem} (C : Cl M) :
    (fr = false ∧ ∃ r', mkFnK np ns f (Args.encs a) M = some (r', M) ∧ r'.d = Enc.enc b) ∨ ∃ ds, mkFnK np ns f (Args.encs a) M = some (.new ds, M) ∧ Enc.enc b = .lst ds := by
  unfold fnT at q
  cases q1 : body (init a) with
  | none => rw [q1] at q; cases q
  | some o =>
    rw [q1] at q; simp only [Option.bind_some] at q
    obtain ⟨fl, ρ', M', k1, k2, k3, k4⟩ := hb (init a) _ M _ (hi a M) C o q1
    rw [mkFnK_eq, if_pos (hl a), k1]
    cases o with
    | rt b' =>
      cases q
      obtain ⟨r, rfl, k5⟩ := k4
      rw [fnOut_rt]
      rcases fin_T k2 k5 with ⟨h0, r', h1, h2⟩ | ⟨ds, h1, h2⟩
      · exact .inl ⟨h0, r', by rw [h1], h2⟩
      · exact .inr ⟨ds, by rw [h1], h2⟩
    | nx e' =>
      obtain ⟨rfl, _⟩ := k4
      rw [fnOut_nx]
      obtain ⟨h0, h1⟩ := hn b q
      rcases fin_T (fr := fr) (b := b) (r := .val .non) k2 (.inl ⟨h0, h1.symm⟩) with ⟨h0, r', h1, h2⟩ | ⟨ds, h1, h2⟩
      · exact .inl ⟨h0, r', by rw [h1], h2⟩
      · exact .inr ⟨ds, by rw [h1], h2⟩
    | bk e' => cases q
    | ct e' => cases q
theorem fn_T {np ns : Nat} {init : A → E} {nx : Option β} {body : E → Option (Fw β E)} {f : Sf} (hi : ∀ a M, EnvR.rel (init a) ((Args.encs a).map some ++ List.replicate (ns - (Args.encs a).length) none) M fun _ => False) (hl : ∀ a : A, (Args.encs a).length = np)
    (hb : SP false body f) (hn : ∀ b, nx = some b → Enc.enc b = .non) : FnT (mkFnK np ns f) (fnT init nx body) := fun a b q M C => by
  rcases fn_run hi hl hb (fun b z => ⟨rfl, hn b z⟩) q C with ⟨_, r, h1, h2⟩ | ⟨ds, h1, h2⟩
  · exact ⟨r, h1, h2⟩
  · exact ⟨_, h1, h2.symm⟩
theorem fn_N {np ns : Nat} {init : A → E} {body : E → Option (Fw β E)} {f : Sf} (hi : ∀ a M, EnvR.rel (init a) ((Args.encs a).map some ++ List.replicate (ns - (Args.encs a).length) none) M fun _ => False) (hl : ∀ a : A, (Args.encs a).length = np)
    (hb : SP true body f) : FnN (mkFnK np ns f) (fnT init none body) := fun a b q M C => by
  rcases fn_run hi hl hb (fun b z => by cases z) q C with ⟨h, _⟩ | ⟨ds, h1, h2⟩
  · cases h
  · exact ⟨ds, h1, h2⟩
/-! ### reckoning -/
/-- a loop, by what each turn makes of a state -/
theorem forT_fold {kp : E → E} {asg : α → E → Option E} {body : E → Option (Fw β E)} {τ : Type} (S : τ → E) (f : τ → α → τ) (I : List α → τ → Prop)
    (hs : ∀ x xs s, I (x :: xs) s → (∃ e1, asg x (S s) = some e1 ∧ ∃ e2, (body e1 = some (.nx e2) ∨ body e1 = some (.ct e2)) ∧ kp e2 = S (f s x)) ∧ I xs (f s x)) :
    ∀ xs s, I xs s → forT kp asg body xs (S s) = some (.nx (S (xs.foldl f s)))
  | [], s, _ => rfl
  | x :: xs, s, h => by
    obtain ⟨⟨e1, h1, e2, h2, h3⟩, h4⟩ := hs x xs s h
    unfold forT
    rw [h1]; simp only [Option.bind_some]
    have := forT_fold S f I hs xs (f s x) h4
    rcases h2 with h2 | h2 <;> (rw [h2]; simp only [Option.bind_some, forT1]; rw [h3]; exact this)
/-- a loop by an invariant -/
theorem forT_inv {kp : E → E} {asg : α → E → Option E} {body : E → Option (Fw β E)} (I : List α → E → Prop)
    (hs : ∀ x xs e, I (x :: xs) e → ∃ e1, asg x e = some e1 ∧ ∃ e2, (body e1 = some (.nx e2) ∨ body e1 = some (.ct e2)) ∧ I xs (kp e2)) :
    ∀ xs e, I xs e → ∃ e', forT kp asg body xs e = some (.nx e') ∧ I [] e'
  | [], e, h => ⟨e, rfl, h⟩
  | x :: xs, e, h => by
    obtain ⟨e1, h1, e2, h2, h3⟩ := hs x xs e h
    unfold forT
    rw [h1]; simp only [Option.bind_some]
    obtain ⟨e', h4, h5⟩ := forT_inv I hs xs _ h3
    rcases h2 with h2 | h2 <;> (rw [h2]; simp only [Option.bind_some, forT1]; exact ⟨e', h4, h5⟩)
/-- a loop that may return -/
theorem forT_exit {kp : E → E} {asg : α → E → Option E} {body : E → Option (Fw β E)} {τ : Type} (S : τ → E) (f : τ → α → Except β τ) (I : List α → τ → Prop)
    (hs : ∀ x xs s, I (x :: xs) s → ∃ e1, asg x (S s) = some e1 ∧ match f s x with
      | .ok s' => (∃ e2, (body e1 = some (.nx e2) ∨ body e1 = some (.ct e2)) ∧ kp e2 = S s') ∧ I xs s'
      | .error b => body e1 = some (.rt b)) :
    ∀ xs s, I xs s → forT kp asg body xs (S s) = some (match xs.foldlM f s with | .ok s' => .nx (S s') | .error b => .rt b)
  | [], s, _ => rfl
  | x :: xs, s, h => by
    obtain ⟨e1, h1, h2⟩ := hs x xs s h
    unfold forT
    rw [h1]; simp only [Option.bind_some, List.foldlM_cons]
    cases hf : f s x with
    | ok s' =>
      rw [hf] at h2
      obtain ⟨⟨e2, h3, h4⟩, h5⟩ := h2
      have := forT_exit S f I hs xs s' h5
      rcases h3 with h3 | h3 <;> (rw [h3]; simp only [Option.bind_some, forT1]; rw [h4]; exact this)
    | error b =>
      rw [hf] at h2
      have h2 : body e1 = some (.rt b) := h2
      rw [h2]; rfl
theorem filtM_map {f : α → Option (Option β)} {h : α → β} : ∀ {xs : List α}, (∀ x ∈ xs, f x = some (some (h x))) → filtM f xs = some (xs.map h)
  | [], _ => rfl
  | x :: xs, q => by
    unfold filtM
    rw [q x List.mem_cons_self, filtM_map fun y hy => q y (List.mem_cons_of_mem _ hy)]; rfl
theorem filtM_filter {f : α → Option (Option β)} {p : α → Bool} {h : α → β} : ∀ {xs : List α}, (∀ x ∈ xs, f x = some (if p x = true then some (h x) else none)) → filtM f xs = some ((xs.filter p).map h)
  | [], _ => rfl
  | x :: xs, q => by
    unfold filtM
    rw [q x List.mem_cons_self, filtM_filter fun y hy => q y (List.mem_cons_of_mem _ hy)]
    by_cases z : p x = true <;> simp [z]
end
end TL

/-! T7: the typed reading of dicts, count, join, signs of words -/
namespace TL
open PySem PySem.Spec PyProof.Rows L2 CI
section
variable {E : Type} [EnvR E] {α β γ κ σ : Type} [Enc α] [Enc β] [Enc γ] [Enc κ] [Enc σ] {fr : Bool}
@[simp] def cntI (xs : List Int) (k : Int) : Option Int := some ((xs.count k : Nat) : Int)
theorem tyOf_den {fp : Fp} {M : Mem} {d : D} {x : List α} (h : DenF fp M d (Enc.enc x)) : tyOf M d = some "list" := by
  rcases h with h | ⟨k, ds, h, h2, h3, _⟩
  · rw [h]; rfl
  · rw [h]; exact tyOf_loc h3
theorem t_cnt {ga : E → Option (List Int)} {gb : E → Option Int} {fa fb : Ef} (ha : EV ga fa) (hb : EV gb fb) : EP (tB cntI ga gb) (cBM "list" oCount fa (aCons fb aNil)) := fun e ρ M fp R C v q => by
  unfold tB at q
  cases h1 : ga e with
  | none => rw [h1] at q; cases q
  | some a =>
    cases h2 : gb e with
    | none => rw [h1, h2] at q; cases q
    | some b =>
      rw [h1, h2] at q; cases q
      obtain ⟨r1, e1, k1⟩ := ha e ρ M fp R C a h1
      obtain ⟨r2, e2, k2⟩ := hb.p e ρ M fp R C b h2
      have k2 : r2.d = .int b := k2
      refine ⟨.val (.int ((a.count b : Nat) : Int)), ?_, rfl⟩
      have ap : oCount r1.d [.int b] M = some (.val (.int ((a.count b : Nat) : Int)), M) := by
        unfold oCount
        simp only
        rw [asL_den k1]
        simp only [Option.bind_some]
        rw [show (a.map Enc.enc) = a.map D.int from rfl, intsD_map]
        rfl
      unfold cBM
      rw [e1]
      simp only [Option.bind_some]
      split
      · simp only [aCons, aNil, e2, Option.bind_some, k2, ap]
      · rename_i hc; exact absurd (tyOf_den k1) hc
@[simp] def joinT (a : Str) (ys : List Str) : Option Str := if (ys.map (·.length)).sum + ys.length * a.length ≤ 16777216 then some (Txt.join a ys) else none
theorem t_join {ga : E → Option Str} {gb : E → Option (List Str)} {fa fb : Ef} (ha : EV ga fa) (hb : EV gb fb) : EP (tB joinT ga gb) (cJoin fa fb) := fun e ρ M fp R C v q => by
  unfold tB at q
  cases h1 : ga e with
  | none => rw [h1] at q; cases q
  | some a =>
    cases h2 : gb e with
    | none => rw [h1, h2] at q; cases q
    | some b =>
      rw [h1, h2] at q
      simp only [Option.bind_some] at q
      obtain ⟨r1, e1, k1⟩ := ha.p e ρ M fp R C a h1
      obtain ⟨r2, e2, k2⟩ := hb e ρ M fp R C b h2
      have k1 : r1.d = .str a := k1
      unfold joinT at q
      split at q
      · rename_i hl; cases q
        refine ⟨.val (.str (Txt.join a b)), ?_, rfl⟩
        unfold cJoin
        rw [e1]; simp only [Option.bind_some]
        rw [e2]; simp only [Option.bind_some]
        rw [k1]
        simp only
        rw [sq_den k2]
        simp only [Option.bind_some]
        rw [show ((Sq.toL b).map Enc.enc) = b.map D.str from rfl, strsD_map]
        simp only [Option.bind_some]
        rw [if_pos hl]
      · cases q
def ixS (z : Str) (i : Int) : Option Str := if z.length ≤ sizeLine then (L2.atI z.cps.toList i).bind fun c => some ⟨#[c]⟩ else none
theorem o_ixS : OpV oIx ixS := .of fun a b c M q => by
  unfold ixS at q
  split at q
  · rename_i h
    cases e : L2.atI a.cps.toList b with
    | none => rw [e] at q; cases q
    | some x =>
      rw [e] at q; cases q
      exact ⟨.val (.str ⟨#[x]⟩), by show (if a.length ≤ sizeLine then (L2.atI a.cps.toList b).bind fun c => some (Rz.val (.str ⟨#[c]⟩)) else none) = _; rw [if_pos h, e]; rfl, rfl⟩
  · cases q
/-! ### dicts -/
class KeyE (κ : Type) [Enc κ] where
  key : κ → Key
  ok : ∀ k : κ, keyD (Enc.enc k) = some (key k)
  inj : ∀ a b : κ, key a = key b → a = b
instance : KeyE Int := ⟨Sum.inl, fun _ => rfl, fun _ _ h => Sum.inl.inj h⟩
instance : KeyE Str := ⟨Sum.inr, fun _ => rfl, fun _ _ h => Sum.inr.inj h⟩
variable [DecidableEq κ] [KeyE κ] [NL κ]
def tblD (t : List (κ × α)) : List (Key × D) := t.map fun p => (KeyE.key p.1, Enc.enc p.2)
@[simp] def lkT (t : List (κ × α)) (k : κ) : Option α := (t.find? fun p => decide (p.1 = k)).map (·.2)
theorem lk_tbl {k : κ} : ∀ t : List (κ × α), lkD (tblD t) (KeyE.key k) = (lkT t k).map Enc.enc
  | [] => rfl
  | p :: t => by
    have := lk_tbl (k := k) t
    unfold tblD at this ⊢
    rw [List.map_cons, lkD_cons, this]
    unfold lkT
    rw [List.find?_cons]
    by_cases h : p.1 = k
    · rw [if_pos (by rw [h]), h]; simp
    · rw [if_neg (fun z => h (KeyE.inj _ _ z)), decide_eq_false h]
omit [EnvR E] in
@[simp] def tGIx (t : List (κ × α)) (g : E → Option κ) : E → Option α := fun e => (g e).bind (lkT t)
omit [EnvR E] in
@[simp] def tGIn (neg : Bool) (t : List (κ × α)) (g : E → Option κ) : E → Option Bool := fun e => (g e).map fun k => neg != (lkT t k).isSome
theorem t_gix {t : List (κ × α)} {kvs : List (Key × D)} {g : E → Option κ} {f : Ef} (hk : kvs = tblD t) (h : EV g f) : EP (tGIx t g) (cGIx kvs f) := fun e ρ M fp R C v q => by
  unfold tGIx at q
  cases h1 : g e with
  | none => rw [h1] at q; cases q
  | some k =>
    rw [h1] at q; simp only [Option.bind_some] at q
    obtain ⟨r, e1, k1⟩ := h.p e ρ M fp R C k h1
    refine ⟨.val (Enc.enc v), ?_, rfl⟩
    unfold cGIx
    rw [e1]; simp only [Option.bind_some]
    rw [k1, KeyE.ok]; simp only [Option.bind_some]
    rw [hk, lk_tbl, q]; rfl
theorem t_gin {neg : Bool} {t : List (κ × α)} {kvs : List (Key × D)} {g : E → Option κ} {f : Ef} (hk : kvs = tblD t) (h : EV g f) : EP (tGIn neg t g) (cGIn neg kvs f) := fun e ρ M fp R C v q => by
  unfold tGIn at q
  cases h1 : g e with
  | none => rw [h1] at q; cases q
  | some k =>
    rw [h1] at q; cases q
    obtain ⟨r, e1, k1⟩ := h.p e ρ M fp R C k h1
    refine ⟨.val (.bl (neg != (lkT t k).isSome)), ?_, rfl⟩
    unfold cGIn
    rw [e1]; simp only [Option.bind_some]
    rw [k1, KeyE.ok]; simp only [Option.bind_some]
    rw [hk, lk_tbl, Option.isSome_map]
/-- a dict of a name of its own -/
structure DS (κ α : Type) where
  l : List (κ × α)
instance : Rep (DS κ α) where
  rep M k s fp := M[k]? = some (.dct (tblD s.l)) ∧ ∀ j, fp j ↔ j = k
  frame h hf := ⟨by rw [hf _ ((h.2 _).mpr rfl)]; exact h.1, h.2⟩
  bnd h j hj := by rw [(h.2 j).mp hj]; exact lt_of_get h.1
  self h := (h.2 _).mpr rfl
  trim h hk _ j hj := by rw [(h.2 j).mp hj]; exact hk
def putT (t : List (κ × α)) (k : κ) (v : α) : List (κ × α) := if (t.any fun p => decide (p.1 = k)) = true then t.map (fun p => if p.1 = k then (p.1, v) else p) else t ++ [(k, v)]
theorem put_tbl {k : κ} {v : α} (t : List (κ × α)) : putKD (tblD t) (KeyE.key k) (Enc.enc v) = tblD (putT t k v) := by
  have any : ((tblD t).any fun p => decide (p.1 = KeyE.key k)) = t.any fun p => decide (p.1 = k) := by
    unfold tblD
    rw [List.any_map]
    congr 1
    funext p
    by_cases h : p.1 = k
    · simp [h]
    · have : ¬ KeyE.key p.1 = KeyE.key k := fun z => h (KeyE.inj _ _ z)
      simp [h, this]
  unfold putKD putT
  rw [any]
  split
  · unfold tblD
    rw [List.map_map, List.map_map]
    apply List.map_congr_left
    intro p _
    by_cases h : p.1 = k
    · simp [h]
    · have : ¬ KeyE.key p.1 = KeyE.key k := fun z => h (KeyE.inj _ _ z)
      simp [h, this]
  · unfold tblD; simp
def mergeT (t more : List (κ × α)) : List (κ × α) := more.foldl (fun acc p => putT acc p.1 p.2) t
theorem merge_tbl : ∀ (more t : List (κ × α)), mergeKD (tblD t) (tblD more) = tblD (mergeT t more)
  | [], _ => rfl
  | p :: more, t => by
    show mergeKD (putKD (tblD t) (KeyE.key p.1) (Enc.enc p.2)) (tblD more) = tblD (mergeT (putT t p.1 p.2) more)
    rw [put_tbl, merge_tbl more]
/-- the pairs of a display -/
def DP (g : E → Option (List (κ × α))) (f : Pf) : Prop := ∀ e ρ M fp, EnvR.rel e ρ M fp → Cl M → ∀ v, g e = some v → f ρ M = some (tblD v, M)
omit [EnvR E] in
@[simp] def dNil : E → Option (List (κ × α)) := fun _ => some []
omit [EnvR E] in
@[simp] def dCons (gk : E → Option κ) (gv : E → Option α) (r : E → Option (List (κ × α))) : E → Option (List (κ × α)) := fun e => (gk e).bind fun k => (gv e).bind fun v => (r e).map fun ps => (k, v) :: ps
theorem dp_nil : DP (E := E) (κ := κ) (α := α) dNil pNilF := fun e ρ M fp R C v q => by cases q; rfl
theorem dp_cons {gk : E → Option κ} {gv : E → Option α} {r : E → Option (List (κ × α))} {fk fv : Ef} {fr : Pf} (hk : EP gk fk) (hv : EP gv fv) (hr : DP r fr) : DP (dCons gk gv r) (pConsF fk fv fr) := fun e ρ M fp R C v q => by
  unfold dCons at q
  cases h1 : gk e with
  | none => rw [h1] at q; cases q
  | some k =>
    cases h2 : gv e with
    | none => rw [h1, h2] at q; cases q
    | some x =>
      cases h3 : r e with
      | none => rw [h1, h2, h3] at q; cases q
      | some ps =>
        rw [h1, h2, h3] at q; cases q
        obtain ⟨r1, e1, k1⟩ := hk e ρ M fp R C k h1
        obtain ⟨r2, e2, k2⟩ := hv e ρ M fp R C x h2
        have e3 := hr e ρ M fp R C ps h3
        simp [pConsF, e1, e2, e3, k1, k2, KeyE.ok, tblD]
theorem disp_T {g : E → Option (List (κ × α))} {f : Pf} (h : DP g f) {e : E} {ρ : Slots} {M : Mem} {fp : Fp} (R : EnvR.rel e ρ M fp) (C : Cl M) {ps : List (κ × α)} (q : g e = some ps) (hl : ps.length ≤ 15) :
    cDisp f ρ M = some (.val (.loc M.length), M ++ [.dct (tblD (mergeT [] ps))]) := by
  have R1 : EnvR.rel e ρ (M ++ [O.dct []]) fp := EnvR.frame R fun j z => List.getElem?_append_left (EnvR.bnd R j z)
  have k1 := h e ρ _ fp R1 (cl_push C rfl) ps q
  unfold cDisp
  rw [k1]; simp only [Option.bind_some]
  rw [get_end]
  simp only
  rw [if_pos (by unfold tblD; rw [List.length_map]; exact hl)]
  have : mergeKD [] (tblD ps) = tblD (mergeT [] ps) := merge_tbl ps []
  rw [this, set_end]
omit [EnvR E] in
@[simp] def tDG (g : E → Option (List (κ × α))) (gk : E → Option κ) : E → Option α := fun e => (g e).bind fun ps => if ps.length ≤ 15 then (gk e).bind (lkT (mergeT [] ps)) else none
theorem t_dispget {g : E → Option (List (κ × α))} {gk : E → Option κ} {f : Pf} {fk : Ef} (h : DP g f) (hk : EV gk fk) : EP (tDG g gk) (cFin (cDGet (cDisp f) fk)) := fun e ρ M fp R C v q => by
  unfold tDG at q
  cases h1 : g e with
  | none => rw [h1] at q; cases q
  | some ps =>
    rw [h1] at q; simp only [Option.bind_some] at q
    split at q
    · rename_i hl
      cases h2 : gk e with
      | none => rw [h2] at q; cases q
      | some k =>
        rw [h2] at q; simp only [Option.bind_some] at q
        have k1 := disp_T h R C h1 hl
        have R1 : EnvR.rel e ρ (M ++ [O.dct (tblD (mergeT [] ps))]) fp := EnvR.frame R fun j z => List.getElem?_append_left (EnvR.bnd R j z)
        have C1 : Cl (M ++ [O.dct (tblD (mergeT [] ps))]) := cl_push C (by
          show nlK _ (tblD _) = true
          unfold tblD
          induction mergeT [] ps with
          | nil => rfl
          | cons p t ih => rw [List.map_cons, nlK_cons, Enc.nle]; exact ih)
        obtain ⟨r, k2, k3⟩ := hk.p e ρ _ fp R1 C1 k h2
        refine ⟨.val (Enc.enc v), ?_, rfl⟩
        have : cDGet (cDisp f) fk ρ M = some (.val (Enc.enc v), M ++ [O.dct (tblD (mergeT [] ps))]) := by
          unfold cDGet
          rw [k1]; simp only [Option.bind_some]
          rw [k2]; simp only [Option.bind_some]
          have : dctAt (M ++ [O.dct (tblD (mergeT [] ps))]) (Rz.val (D.loc M.length)).d = some (tblD (mergeT [] ps)) := by
            show (match (M ++ [O.dct (tblD (mergeT [] ps))])[M.length]? with | some (.dct kvs) => some kvs | _ => none) = _
            rw [get_end]
          rw [this]; simp only [Option.bind_some]
          rw [k3, KeyE.ok]; simp only [Option.bind_some]
          rw [lk_tbl, q]; rfl
        unfold cFin
        rw [this]
        simp only [Option.bind_some]
        rw [finK_appV (Enc.nle _ v)]
    · cases q
/-! assigned, asked, changed -/
theorem nlK_tbl (n : Nat) (t : List (κ × α)) : nlK n (tblD t) = true := by
  unfold tblD
  induction t with
  | nil => rfl
  | cons p t ih => rw [List.map_cons, nlK_cons, Enc.nle]; exact ih
omit [EnvR E] in
@[simp] def tSetD {i : Nat} (ln : Lens E (Ob (DS κ α)) i) (g : E → Option (List (κ × α))) : E → Option (Fw β E) := fun e => (g e).bind fun ps => if ps.length ≤ 15 then some (.nx (ln.set e ⟨some ⟨mergeT [] ps⟩⟩)) else none
theorem ds_new {i : Nat} (ln : Lens E (Ob (DS κ α)) i) [LOk ln] {e : E} {ρ : Slots} {M : Mem} {fp : Fp} (R : EnvR.rel e ρ M fp) (C : Cl M) (t : List (κ × α)) : Frm M fp (M ++ [.dct (tblD t)]) ∧ Cl (M ++ [.dct (tblD t)]) ∧ RelQ M.length fp (ln.set e ⟨some ⟨t⟩⟩) (ρ.set i (some (.loc M.length))) (M ++ [.dct (tblD t)]) := by
  obtain ⟨f1, h1, h2, h3⟩ := LOk.ok (ln := ln) e ρ M fp R
  obtain ⟨fp', h4, h5⟩ := h3 ⟨some ⟨t⟩⟩ (some (.loc M.length)) (M ++ [.dct (tblD t)]) (fun j => j = M.length) (ob_mk rfl ⟨get_end, fun _ => Iff.rfl⟩)
    (fun j z _ => List.getElem?_append_left (EnvR.bnd R j z)) (fun j z => .inr (by omega))
  refine ⟨⟨by simp, fun j z _ => List.getElem?_append_left z⟩, cl_push C (nlK_tbl _ t), fp', h4, fun j z => ?_⟩
  rcases h5 j z with z | z
  · exact .inl z.1
  · exact .inr (by omega)
theorem s_setD {i : Nat} (ln : Lens E (Ob (DS κ α)) i) [LOk ln] {g : E → Option (List (κ × α))} {f : Pf} (h : DP g f) : SP (β := β) fr (tSetD ln g) (sSet i (cDisp f)) := fun e ρ M fp R C o q => by
  unfold tSetD at q
  cases q1 : g e with
  | none => rw [q1] at q; cases q
  | some ps =>
    rw [q1] at q; simp only [Option.bind_some] at q
    split at q
    · rename_i hl
      cases q
      have k1 := disp_T h R C q1 hl
      obtain ⟨k2, k3, k4⟩ := ds_new ln R C (mergeT [] ps)
      exact ⟨.nx, ρ.set i (some (.loc M.length)), M ++ [.dct (tblD (mergeT [] ps))], by unfold sSet; rw [k1]; rfl, k2, k3, rfl, k4⟩
    · cases q
omit [EnvR E] in
@[simp] def tSetD0 {i : Nat} (ln : Lens E (Ob (DS κ α)) i) : E → Option (Fw β E) := fun e => some (.nx (ln.set e ⟨some ⟨[]⟩⟩))
theorem s_setD0 {i : Nat} (ln : Lens E (Ob (DS κ α)) i) [LOk ln] : SP (β := β) fr (tSetD0 ln) (sSet i cDNew) := fun e ρ M fp R C o q => by
  cases q
  obtain ⟨k2, k3, k4⟩ := ds_new ln R C []
  exact ⟨.nx, ρ.set i (some (.loc M.length)), M ++ [.dct (tblD [])], rfl, k2, k3, rfl, k4⟩
theorem ds_at {i : Nat} (ln : Lens E (Ob (DS κ α)) i) [LOk ln] {e : E} {ρ : Slots} {M : Mem} {fp : Fp} (R : EnvR.rel e ρ M fp) {s : DS κ α} (hv : (ln.get e).v = some s) : ∃ k, slot ρ i = some (.loc k) ∧ M[k]? = some (.dct (tblD s.l)) := by
  obtain ⟨f1, h1, _⟩ := LOk.ok (ln := ln) e ρ M fp R
  obtain ⟨k, k1, k2⟩ := ob_some h1 hv
  exact ⟨k, k1, (show M[k]? = some (.dct (tblD s.l)) ∧ _ from k2).1⟩
omit [EnvR E] in
@[simp] def tDGet {i : Nat} (ln : Lens E (Ob (DS κ α)) i) (g : E → Option κ) : E → Option α := fun e => (ln.get e).v.bind fun s => (g e).bind (lkT s.l)
theorem t_dget {i : Nat} (ln : Lens E (Ob (DS κ α)) i) [LOk ln] {g : E → Option κ} {f : Ef} (h : EV g f) : EP (tDGet ln g) (cDGet (cVar i) f) := fun e ρ M fp R C v q => by
  unfold tDGet at q
  cases hv : (ln.get e).v with
  | none => rw [hv] at q; cases q
  | some s =>
    rw [hv] at q; simp only [Option.bind_some] at q
    cases q1 : g e with
    | none => rw [q1] at q; cases q
    | some k =>
      rw [q1] at q; simp only [Option.bind_some] at q
      obtain ⟨n, k1, k2⟩ := ds_at ln R hv
      obtain ⟨r, k3, k4⟩ := h.p e ρ M fp R C k q1
      refine ⟨.val (Enc.enc v), ?_, rfl⟩
      unfold cDGet
      rw [cVar_ap, k1, bnd_some, var1_ap]; simp only [Option.bind_some, Rz_d_val]
      rw [k3]; simp only [Option.bind_some]
      have : dctAt M (.loc n) = some (tblD s.l) := by show (match M[n]? with | some (.dct kvs) => some kvs | _ => none) = _; rw [k2]
      rw [this]; simp only [Option.bind_some]
      rw [k4, KeyE.ok]; simp only [Option.bind_some]
      rw [lk_tbl, q]; rfl
omit [EnvR E] in
@[simp] def tDIn {i : Nat} (neg : Bool) (ln : Lens E (Ob (DS κ α)) i) (g : E → Option κ) : E → Option Bool := fun e => (ln.get e).v.bind fun s => (g e).map fun k => neg != (lkT s.l k).isSome
theorem t_din {i : Nat} {neg : Bool} (ln : Lens E (Ob (DS κ α)) i) [LOk ln] {g : E → Option κ} {f : Ef} (h : EV g f) : EP (tDIn neg ln g) (cDIn neg f (cVar i)) := fun e ρ M fp R C v q => by
  unfold tDIn at q
  cases hv : (ln.get e).v with
  | none => rw [hv] at q; cases q
  | some s =>
    rw [hv] at q; simp only [Option.bind_some] at q
    cases q1 : g e with
    | none => rw [q1] at q; cases q
    | some k =>
      rw [q1] at q; cases q
      obtain ⟨n, k1, k2⟩ := ds_at ln R hv
      obtain ⟨r, k3, k4⟩ := h.p e ρ M fp R C k q1
      refine ⟨.val (.bl (neg != (lkT s.l k).isSome)), ?_, rfl⟩
      unfold cDIn
      rw [k3]; simp only [Option.bind_some]
      rw [cVar_ap, k1, bnd_some, var1_ap]; simp only [Option.bind_some, Rz_d_val]
      have : dctAt M (.loc n) = some (tblD s.l) := by show (match M[n]? with | some (.dct kvs) => some kvs | _ => none) = _; rw [k2]
      rw [this]; simp only [Option.bind_some]
      rw [k4, KeyE.ok]; simp only [Option.bind_some]
      rw [lk_tbl, Option.isSome_map]
omit [EnvR E] in
@[simp] def tDPut {i : Nat} (ln : Lens E (Ob (DS κ α)) i) (gk : E → Option κ) (gv : E → Option α) : E → Option (Fw β E) := fun e => (gv e).bind fun v => (ln.get e).v.bind fun s => (gk e).bind fun k => if s.l.length < 16777216 then some (.nx (ln.set e ⟨some ⟨putT s.l k v⟩⟩)) else none
theorem s_dput {i : Nat} (ln : Lens E (Ob (DS κ α)) i) [LOk ln] {gk : E → Option κ} {gv : E → Option α} {fk fv : Ef} (hk : EV gk fk) (hv : EP gv fv) : SP (β := β) fr (tDPut ln gk gv) (sDSet (cVar i) fk fv) := fun e ρ M fp R C o q => by
  unfold tDPut at q
  cases q0 : gv e with
  | none => rw [q0] at q; cases q
  | some v =>
    rw [q0] at q; simp only [Option.bind_some] at q
    cases hs : (ln.get e).v with
    | none => rw [hs] at q; cases q
    | some s =>
      rw [hs] at q; simp only [Option.bind_some] at q
      cases q1 : gk e with
      | none => rw [q1] at q; cases q
      | some k =>
        rw [q1] at q; simp only [Option.bind_some] at q
        split at q
        · rename_i hl
          cases q
          obtain ⟨f1, h1, h2, h3⟩ := LOk.ok (ln := ln) e ρ M fp R
          obtain ⟨n, k1, k2⟩ := ob_some h1 hs
          obtain ⟨k5, k6⟩ := (show M[n]? = some (.dct (tblD s.l)) ∧ ∀ j, f1 j ↔ j = n from k2)
          have hn := lt_of_get k5
          obtain ⟨r0, l1, l2⟩ := hv e ρ M fp R C v q0
          obtain ⟨r, k3, k4⟩ := hk.p e ρ M fp R C k q1
          obtain ⟨fp', h4, h5⟩ := h3 ⟨some ⟨putT s.l k v⟩⟩ (some (.loc n)) (M.set n (.dct (tblD (putT s.l k v)))) (fun j => j = n) (ob_mk rfl ⟨by rw [List.getElem?_set_self hn], fun _ => Iff.rfl⟩)
            (fun j _ z => List.getElem?_set_ne (fun y => z ((k6 j).mpr y.symm))) (fun j z => .inl ((k6 j).mpr z))
          have e1 : ρ.set i (some (.loc n)) = ρ := by
            have := slot_some k1
            exact List.ext_getElem? fun j => by
              by_cases y : i = j
              · subst y; rw [List.getElem?_set_self (List.getElem?_eq_some_iff.mp this).1, this]
              · rw [List.getElem?_set_ne y]
          rw [e1] at h4
          refine ⟨.nx, ρ, M.set n (.dct (tblD (putT s.l k v))), ?_, ⟨by simp, fun j _ z => List.getElem?_set_ne (fun y => z (by rw [← y]; exact h2 n ((k6 n).mpr rfl)))⟩, cl_set C (nlK_tbl _ _), rfl, fp', h4, fun j z => ?_⟩
          · unfold sDSet
            rw [l1]; simp only [Option.bind_some]
            rw [cVar_ap, k1, bnd_some, var1_ap]; simp only [Option.bind_some, Rz_d_val]
            rw [k3]; simp only [Option.bind_some]
            have : dctAt M (.loc n) = some (tblD s.l) := by show (match M[n]? with | some (.dct kvs) => some kvs | _ => none) = _; rw [k5]
            rw [this]; simp only [Option.bind_some]
            rw [k4, KeyE.ok]; simp only [Option.bind_some]
            rw [if_pos (by rw [line_lt]; unfold tblD; rw [List.length_map]; exact hl), l2, put_tbl]
          · rcases h5 j z with z | z
            · exact .inl z.1
            · exact .inl (by rw [z]; exact h2 n ((k6 n).mpr rfl))
        · cases q
end
end TL

/-! T8: the rest of the typed reading; reckoning -/
namespace TL
open PySem PySem.Spec PyProof.Rows L2 CI
theorem hv_oI {g : Int → Int → D} : ∀ (d1 d2 : D) (M : Mem) (r : Rz), oI g d1 d2 M = some r → ∃ d, r = .val d := fun d1 d2 M r h => by
  unfold oI at h
  split at h
  · cases h; exact ⟨_, rfl⟩
  · cases h
theorem hv_lt : ∀ (d1 d2 : D) (M : Mem) (r : Rz), oLt d1 d2 M = some r → ∃ d, r = .val d := hv_oI
theorem hv_le : ∀ (d1 d2 : D) (M : Mem) (r : Rz), oLe d1 d2 M = some r → ∃ d, r = .val d := hv_oI
theorem hv_gt : ∀ (d1 d2 : D) (M : Mem) (r : Rz), oGt d1 d2 M = some r → ∃ d, r = .val d := hv_oI
theorem hv_ge : ∀ (d1 d2 : D) (M : Mem) (r : Rz), oGe d1 d2 M = some r → ∃ d, r = .val d := hv_oI
theorem hv_eq : ∀ (d1 d2 : D) (M : Mem) (r : Rz), oEq d1 d2 M = some r → ∃ d, r = .val d := fun d1 d2 M r h => by
  unfold oEq at h
  cases e : eqB M d1 d2 with
  | none => rw [e] at h; cases h
  | some b => rw [e] at h; cases h; exact ⟨_, rfl⟩
theorem hv_ne : ∀ (d1 d2 : D) (M : Mem) (r : Rz), oNe d1 d2 M = some r → ∃ d, r = .val d := fun d1 d2 M r h => by
  unfold oNe at h
  cases e : eqB M d1 d2 with
  | none => rw [e] at h; cases h
  | some b => rw [e] at h; cases h; exact ⟨_, rfl⟩
section
variable {E : Type} [EnvR E] {α β γ κ σ τ : Type} [Enc α] [Enc β] [Enc γ] {i : Nat}
theorem o_repL : OpN oMulA (repL (α := α)) := fun a b c M fp d1 d2 h1 h2 q => by
  unfold repL at q
  split at q
  · rename_i h; cases q
    refine ⟨((List.replicate b.toNat a).flatten).map Enc.enc, ?_, rfl⟩
    rw [den h2]
    show oMulA d1 (.int b) M = _
    rcases h1 with h1 | ⟨k, ds, h1, h3, h4, _⟩
    · rw [h1]
      show oMulA (.lst _) (.int b) M = _
      rw [oMulA_lst, if_pos (by simpa using h), rep_map]
    · have h3 : D.lst (a.map Enc.enc) = .lst ds := h3
      cases h3
      rw [h1]
      show ((asW M (.loc k)).bind fun ds => if -1000000 < b ∧ b ≤ 1000 ∧ ds.length ≤ 1000 then some (Rz.new (List.replicate b.toNat ds).flatten) else none) = _
      have : asW M (.loc k) = some (a.map Enc.enc) := by unfold asW; simp only; rw [h4]
      rw [this]
      simp only [Option.bind_some]
      rw [if_pos (by simpa using h), rep_map]
  · cases q
omit [EnvR E] in
@[simp] theorem get_hd {e : τ × E} : (Lens.hd : Lens (τ × E) τ 0).get e = e.1 := rfl
omit [EnvR E] in
@[simp] theorem set_hd {e : τ × E} {t : τ} : (Lens.hd : Lens (τ × E) τ 0).set e t = (t, e.2) := rfl
omit [EnvR E] in
@[simp] theorem get_tl {υ : Type} {l : Lens E τ i} {e : υ × E} : (Lens.tl l : Lens (υ × E) τ (i + 1)).get e = l.get e.2 := rfl
omit [EnvR E] in
@[simp] theorem set_tl {υ : Type} {l : Lens E τ i} {e : υ × E} {t : τ} : (Lens.tl l : Lens (υ × E) τ (i + 1)).set e t = (e.1, l.set e.2 t) := rfl
@[simp] theorem toL_l {xs : List α} : Sq.toL xs = xs := rfl
@[simp] theorem toL_t {xs : Tu α} : Sq.toL xs = xs.l := rfl
@[simp] theorem toL_s {xs : Scr} : Sq.toL xs = xs.l := rfl
@[simp] theorem tr_int {x : Int} : Tr.tr x = (x != 0) := rfl
@[simp] theorem tr_bl {x : Bool} : Tr.tr x = x := rfl
@[simp] theorem tr_l {x : List α} : Tr.tr x = !x.isEmpty := rfl
@[simp] theorem tr_t {x : Tu α} : Tr.tr x = !x.l.isEmpty := rfl
@[simp] theorem okE_int {x : Int} : EncEq.okE x = true := rfl
@[simp] theorem okE_bl {x : Bool} : EncEq.okE x = true := rfl
theorem okE_str {x : Str} : EncEq.okE x = PyData.strOk x := rfl
theorem okE_lit (s : String) : EncEq.okE (Str.ofString s) = true := strOk_lit s
@[simp] theorem okE_l [DecidableEq α] [EncEq α] {x : List α} : EncEq.okE x = x.all EncEq.okE := rfl
@[simp] theorem okE_t [DecidableEq α] [EncEq α] {x : Tu α} : EncEq.okE x = x.l.all EncEq.okE := rfl
@[simp] theorem okE_p [DecidableEq α] [EncEq α] [DecidableEq β] [EncEq β] {x : α × β} : EncEq.okE x = (EncEq.okE x.1 && EncEq.okE x.2) := rfl
@[simp] theorem all_okI {xs : List Int} : xs.all EncEq.okE = true := by simp
omit [EnvR E] in
@[simp] theorem forT_nil {kp : E → E} {asg : α → E → Option E} {body : E → Option (Fw β E)} {e : E} : forT kp asg body [] e = some (.nx e) := rfl
omit [EnvR E] in
@[simp] theorem forT1_nx {kp : E → E} {asg : α → E → Option E} {body : E → Option (Fw β E)} {r : E → Option (Fw β E)} {e : E} : forT1 kp asg body r (.nx e) = r (kp e) := rfl
omit [EnvR E] in
@[simp] theorem forT1_ct {kp : E → E} {asg : α → E → Option E} {body : E → Option (Fw β E)} {r : E → Option (Fw β E)} {e : E} : forT1 kp asg body r (.ct e) = r (kp e) := rfl
omit [EnvR E] in
@[simp] theorem forT1_rt {kp : E → E} {asg : α → E → Option E} {body : E → Option (Fw β E)} {r : E → Option (Fw β E)} {b : β} : forT1 kp asg body r (.rt b) = some (.rt b) := rfl
end
@[simp] def lenS (z : Str) : Option Int := if z.length ≤ sizeLine then some (z.length : Int) else none
theorem o_lenS : Op1 oLen lenS := .of fun a c M q => by
  unfold lenS at q; split at q
  · rename_i h; cases q; exact ⟨.val (.int (a.length : Int)), if_pos h, rfl⟩
  · cases q
/-- the end: a law whose typed reading is true -/
theorem law_of {F : Fn} {T : Scr × Unit → Option Bool} (h : FnT F T) (t : ∀ ns : List Int, ns.length ≤ 63 → T (⟨ns⟩, ()) = some true) : ∀ ns : List Int, ns.length ≤ 63 → ∃ M, F [.scr ns] [] = some (.val (.bl true), M) := fun ns hn => by
  obtain ⟨r, h1, h2⟩ := h _ _ (t ns hn) [] cl_nil
  have h1 : F [.scr ns] [] = some (r, []) := h1
  have h2 : r.d = .bl true := h2
  cases r with
  | val d => have h2 : d = .bl true := h2; subst h2; exact ⟨[], h1⟩
  | new ds => cases h2
end TL

namespace K38
open PySem PySem.Spec PyProof.Rows L2 CI
noncomputable def L__law_draws_1 : Sf :=
    (sIf (toB (cBin oGt (cVar 3) (cInt (0))))
    (sCons (sExpr (cBM "list" oAppend (cVar 2) (aCons (cBin oMod (cCB oInt (aCons (cVar 3) aNil)) (cInt (1000))) aNil)))
    (sSet 3 (cBin oDiv (cVar 3) (cInt (1000)))))
    sNil)
noncomputable def L__law_draws_2 : Sf :=
    (sCons (sSet 4 (cBin oMod (cCB oInt (aCons (cBin oAdd (cBin oAdd (cBin oMulA (cVar 4) (cInt (48271))) (cBin oMulA (cVar 5) (cInt (69621)))) (cInt (7))) aNil)) (cInt (2147483647))))
    (sIf (toB (cBin oLt (cCB oLen (aCons (cVar 2) aNil)) (cVar 1)))
    (sExpr (cBM "list" oAppend (cVar 2) (aCons (cBin oMod (cCB oInt (aCons (cBin oMod (cCB oInt (aCons (cBin oAdd (cBin oMulA (cVar 4) (cInt (69621))) (cInt (5))) aNil)) (cInt (2147483629))) aNil)) (cInt (1000))) aNil)))
    sNil))
noncomputable def B__law_draws : Sf :=
    (sCons (sSetM 2 (cLst aNil))
    (sCons (sSet 3 (cCB oInt (aCons (cVar 0) aNil)))
    (sCons (sIf (toB (cBin oGe (cVar 3) (cBin oPow (cInt (10)) (cInt (18)))))
    (sForK [true, true, true, true, false, false] (iRg1 (cVar 1)) (gNm 5) L__law_draws_1)
    sNil)
    (sCons (sSet 4 (cBin oMod (cCB oInt (aCons (cBin oAdd (cBin oMulA (cCB oInt (aCons (cVar 0) aNil)) (cInt (48271))) (cInt (11))) aNil)) (cInt (2147483647))))
    (sCons (sForK [false, true, true, false, true, false] (iRg1 (cVar 1)) (gNm 5) L__law_draws_2)
    (sRet (cVar 2)))))))
noncomputable def F__law_draws : Fn := mkFnK 2 6 B__law_draws
noncomputable def B__law_kind : Sf :=
    (sCons (sIf (kOr (toB (cInR1 false (cVar 0) (cInt (32)))) (toB (cInR false (cVar 0) (cInt (127)) (cInt (160)))))
    (sRet (cStr "control"))
    sNil)
    (sRet (cIf (toB (cInR false (cVar 0) (cInt (192)) (cInt (256)))) (cStr "wide") (cStr "narrow"))))
noncomputable def F__law_kind : Fn := mkFnK 1 1 B__law_kind
noncomputable def Q_digits_1 : Ef :=
    (cLc (iSt (cCB oStr (aCons (cVar 0) aNil))) [1] (gNm 1) tYesF (cCB oOrd (aCons (cVar 1) aNil)))
noncomputable def B_digits : Sf :=
    (sRet Q_digits_1)
noncomputable def F_digits : Fn := mkFnK 1 2 B_digits
noncomputable def Q_codes_1 : Ef :=
    (cLc (iSt (cVar 0)) [1] (gNm 1) tYesF (cCB oOrd (aCons (cVar 1) aNil)))
noncomputable def B_codes : Sf :=
    (sRet Q_codes_1)
noncomputable def F_codes : Fn := mkFnK 1 2 B_codes
noncomputable def B_kind_of : Sf :=
    (sCons (sIf (kOr (toB (cBin oLt (cVar 0) (cInt (32)))) (toB (cChain oLe oLe (cInt (127)) (cVar 0) (cInt (159)))))
    (sRet (cStr "control"))
    sNil)
    (sCons (sIf (toB (cBin oGe (cVar 0) (cInt (192))))
    (sRet (cStr "wide"))
    sNil)
    (sRet (cStr "narrow"))))
noncomputable def F_kind_of : Fn := mkFnK 1 1 B_kind_of
noncomputable def B_width_of : Sf :=
    (sCons (sSet 1 (cCall F_kind_of (aCons (cVar 0) aNil)))
    (sCons (sIf (toB (cBin oEq (cVar 1) (cStr "control")))
    (sRet (cInt (0)))
    sNil)
    (sCons (sIf (toB (cBin oEq (cVar 1) (cStr "wide")))
    (sRet (cInt (2)))
    sNil)
    (sRet (cInt (1))))))
noncomputable def F_width_of : Fn := mkFnK 1 2 B_width_of
noncomputable def L_is_printable_1 : Sf :=
    (sIf (toB (cBin oEq (cCall F_kind_of (aCons (cVar 1) aNil)) (cStr "control")))
    (sRet (cBl false))
    sNil)
noncomputable def B_is_printable : Sf :=
    (sCons (sForK [false, false] (iSeq (cVar 0)) (gNm 1) L_is_printable_1)
    (sRet (cBl true)))
noncomputable def F_is_printable : Fn := mkFnK 1 2 B_is_printable
noncomputable def Q_law_1 : Ef :=
    (cLc (iSeq (cSl (cVar 3) (sSome (cInt (2))) (sSome (cBin oAdd (cInt (3)) (cBin oMod (cBin oIx (cVar 3) (cInt (1))) (cInt (4))))))) [14] (gNm 14) tYesF (cBin oMod (cVar 14) (cInt (256))))
noncomputable def Q_law_2 : Ef :=
    (cLc (iSeq (cVar 6)) [15] (gNm 15) (toB (cBin oEq (cCall F__law_kind (aCons (cVar 15) aNil)) (cStr "control"))) (cVar 15))
noncomputable def L_law_1 : Sf :=
    (sIf (kOr (toB (cBin oGt (cVar 10) (cInt (0)))) (toB (cBin oEq (cVar 11) (cInt (0)))))
    (sCons (sSet 9 (cBin oAdd (cLst (aCons (cBin oAdd (cInt (48)) (cBin oMod (cCB oInt (aCons (cVar 10) aNil)) (cInt (10)))) aNil)) (cVar 9)))
    (sSet 10 (cBin oDiv (cVar 10) (cInt (10)))))
    sNil)
noncomputable def Q_law_3 : Ef :=
    (cLc (iSeq (cSl (cVar 3) sNone (sSome (cBin oMod (cBin oIx (cVar 3) (cInt (1))) (cInt (7)))))) [14] (gNm 14) tYesF (cBin oMod (cVar 14) (cCB oLen (aCons (cVar 1) aNil))))
noncomputable def Q_law_4 : Ef :=
    (cLc (iSeq (cVar 12)) [16] (gNm 16) tYesF (cBin oIx (cVar 1) (cVar 16)))
noncomputable def Q_law_5 : Ef :=
    (cLc (iSeq (cVar 12)) [16] (gNm 16) tYesF (cCB oOrd (aCons (cBin oIx (cVar 1) (cVar 16)) aNil)))
noncomputable def L_law_2 : Sf :=
    (sCons (sSet 3 (cCall F__law_draws (aCons (cVar 2) (aCons (cInt (9)) aNil))))
    (sCons (sSet 4 (cBin oMod (cBin oIx (cVar 3) (cInt (0))) (cInt (256))))
    (sCons (sIf (toB (cBin oEq (cBin oMod (cBin oIx (cVar 3) (cInt (1))) (cInt (2))) (cInt (0))))
    (sSet 4 (cBin oIx (cLst (aCons (cInt (0)) (aCons (cInt (31)) (aCons (cInt (32)) (aCons (cInt (126)) (aCons (cInt (127)) (aCons (cInt (128)) (aCons (cInt (159)) (aCons (cInt (160)) (aCons (cInt (191)) (aCons (cInt (192)) (aCons (cInt (255)) aNil)))))))))))) (cBin oMod (cBin oIx (cVar 3) (cInt (0))) (cInt (11)))))
    sNil)
    (sCons (sSet 5 (cCall F__law_kind (aCons (cVar 4) aNil)))
    (sCons (sIf (kOr (toB (cBin oNe (cCall F_kind_of (aCons (cVar 4) aNil)) (cVar 5))) (toB (cBin oNe (cCall F_width_of (aCons (cVar 4) aNil)) (cFin (cDGet (cDisp (pConsF (cStr "control") (cInt (0)) (pConsF (cStr "narrow") (cInt (1)) (pConsF (cStr "wide") (cInt (2)) pNilF)))) (cVar 5))))))
    (sRet (cBl false))
    sNil)
    (sCons (sSet 6 (cBin oAdd Q_law_1 (cLst (aCons (cVar 4) aNil))))
    (sCons (sSet 7 (cBin oEq Q_law_2 (cLst aNil)))
    (sCons (sIf (kOr (toB (cBin oNe (cCall F_is_printable (aCons (cVar 6) aNil)) (cVar 7))) (kOr (toB (cBin oNe (cCall F_is_printable (aCons (cCB oTuple (aCons (cSl (cVar 6) (sSome (cNeg (cInt (1)))) sNone) aNil)) aNil)) (cBin oNe (cVar 5) (cStr "control")))) (kNot (toTr (cCall F_is_printable (aCons (cLst aNil) aNil))))))
    (sRet (cBl false))
    sNil)
    (sCons (sSet 8 (cBin oAdd (cBin oMulA (cBin oIx (cVar 3) (cInt (6))) (cBin oIx (cLst (aCons (cInt (1)) (aCons (cInt (1000)) (aCons (cBin oPow (cInt (10)) (cInt (9))) aNil)))) (cBin oMod (cBin oIx (cVar 3) (cInt (7))) (cInt (3))))) (cBin oIx (cVar 3) (cInt (8)))))
    (sCons (sSet 9 (cLst aNil))
    (sCons (sSet 10 (cVar 8))
    (sCons (sForK [false, true, false, true, false, false, false, false, true, true, true, false, false, false, false, false, false] (iRg1 (cInt (20))) (gNm 11) L_law_1)
    (sCons (sIf (toB (cBin oNe (cCall F_digits (aCons (cVar 8) aNil)) (cVar 9)))
    (sRet (cBl false))
    sNil)
    (sCons (sSet 12 Q_law_3)
    (sCons (sSet 13 (cJoin (cStr "") Q_law_4))
    (sIf (toB (cBin oNe (cCall F_codes (aCons (cVar 13) aNil)) Q_law_5))
    (sRet (cBl false))
    sNil))))))))))))))))
noncomputable def B_law : Sf :=
    (sCons (sSet 1 (cStr " abcXYZ019~[;Hm?-_=+"))
    (sCons (sForK [false, true, false, false, false, false, false, false, false, false, false, false, false, false, false, false, false] (iSeq (cVar 0)) (gNm 2) L_law_2)
    (sRet (cBl true))))
noncomputable def F_law : Fn := mkFnK 1 17 B_law
end K38
namespace K38
open PySem PySem.Spec PyProof.Rows L2 CI TL
abbrev E__law_draws : Type := Option Int × Option Int × Ob (LS Int) × Option Int × Option Int × Option Int × Unit
abbrev n__law_draws_0 : Lens E__law_draws (Option Int) 0 := Lens.hd
abbrev n__law_draws_1 : Lens E__law_draws (Option Int) 1 := (Lens.tl Lens.hd)
abbrev n__law_draws_2 : Lens E__law_draws (Ob (LS Int)) 2 := (Lens.tl (Lens.tl Lens.hd))
abbrev n__law_draws_3 : Lens E__law_draws (Option Int) 3 := (Lens.tl (Lens.tl (Lens.tl Lens.hd)))
abbrev n__law_draws_4 : Lens E__law_draws (Option Int) 4 := (Lens.tl (Lens.tl (Lens.tl (Lens.tl Lens.hd))))
abbrev n__law_draws_5 : Lens E__law_draws (Option Int) 5 := (Lens.tl (Lens.tl (Lens.tl (Lens.tl (Lens.tl Lens.hd)))))
abbrev k__law_draws_1 : E__law_draws → E__law_draws := (kpT (kpT (kpT (kpT (kpF none (kpF none kpU))))))
abbrev k__law_draws_2 : E__law_draws → E__law_draws := (kpF none (kpT (kpT (kpF none (kpT (kpF none kpU))))))
noncomputable def tL__law_draws_1 : E__law_draws → Option (Fw (List Int) E__law_draws) :=
    (tIfS (tB gtI (tV n__law_draws_3) (tK (0 : Int)))
    (tSeq (tApp n__law_draws_2 (tB modI (t1 intI (tV n__law_draws_3)) (tK (1000 : Int))))
    (tSet n__law_draws_3 (tB divI (tV n__law_draws_3) (tK (1000 : Int)))))
    tNil)
theorem oL__law_draws_1 : SP (β := (List Int)) true tL__law_draws_1 L__law_draws_1 := by unfold tL__law_draws_1 L__law_draws_1; exact (s_if (p_B ((t_bin o_gt ((t_var n__law_draws_3)).v ((t_val (v := (0 : Int)) rfl)).v)).v)
    (s_cons (s_app n__law_draws_2 (t_bin o_mod ((t_cb1 o_intI ((t_var n__law_draws_3)).v)).v ((t_val (v := (1000 : Int)) rfl)).v))
    (s_set n__law_draws_3 (t_bin o_div ((t_var n__law_draws_3)).v ((t_val (v := (1000 : Int)) rfl)).v)))
    s_nil)
noncomputable def tL__law_draws_2 : E__law_draws → Option (Fw (List Int) E__law_draws) :=
    (tSeq (tSet n__law_draws_4 (tB modI (t1 intI (tB addI (tB addI (tB mulI (tV n__law_draws_4) (tK (48271 : Int))) (tB mulI (tV n__law_draws_5) (tK (69621 : Int)))) (tK (7 : Int)))) (tK (2147483647 : Int))))
    (tIfS (tB ltI (t1 lenT (tL n__law_draws_2)) (tV n__law_draws_1))
    (tApp n__law_draws_2 (tB modI (t1 intI (tB modI (t1 intI (tB addI (tB mulI (tV n__law_draws_4) (tK (69621 : Int))) (tK (5 : Int)))) (tK (2147483629 : Int)))) (tK (1000 : Int))))
    tNil))
theorem oL__law_draws_2 : SP (β := (List Int)) true tL__law_draws_2 L__law_draws_2 := by unfold tL__law_draws_2 L__law_draws_2; exact (s_cons (s_set n__law_draws_4 (t_bin o_mod ((t_cb1 o_intI ((t_bin o_add ((t_bin o_add ((t_bin o_mul ((t_var n__law_draws_4)).v ((t_val (v := (48271 : Int)) rfl)).v)).v ((t_bin o_mul ((t_var n__law_draws_5)).v ((t_val (v := (69621 : Int)) rfl)).v)).v)).v ((t_val (v := (7 : Int)) rfl)).v)).v)).v ((t_val (v := (2147483647 : Int)) rfl)).v))
    (s_if (p_B ((t_bin o_lt ((t_cb1 o_len (t_loc n__law_draws_2))).v ((t_var n__law_draws_1)).v)).v)
    (s_app n__law_draws_2 (t_bin o_mod ((t_cb1 o_intI ((t_bin o_mod ((t_cb1 o_intI ((t_bin o_add ((t_bin o_mul ((t_var n__law_draws_4)).v ((t_val (v := (69621 : Int)) rfl)).v)).v ((t_val (v := (5 : Int)) rfl)).v)).v)).v ((t_val (v := (2147483629 : Int)) rfl)).v)).v)).v ((t_val (v := (1000 : Int)) rfl)).v))
    s_nil))
noncomputable def tB__law_draws : E__law_draws → Option (Fw (List Int) E__law_draws) :=
    (tSeq (tSetL n__law_draws_2 (tLst (lNil (α := Int))))
    (tSeq (tSet n__law_draws_3 (t1 intI (tV n__law_draws_0)))
    (tSeq (tIfS (tB geI (tV n__law_draws_3) (tB powI (tK (10 : Int)) (tK (18 : Int))))
    (tFor k__law_draws_1 (iR1 (tV n__law_draws_1)) (pNm n__law_draws_5) tL__law_draws_1)
    tNil)
    (tSeq (tSet n__law_draws_4 (tB modI (t1 intI (tB addI (tB mulI (t1 intI (tV n__law_draws_0)) (tK (48271 : Int))) (tK (11 : Int)))) (tK (2147483647 : Int))))
    (tSeq (tFor k__law_draws_2 (iR1 (tV n__law_draws_1)) (pNm n__law_draws_5) tL__law_draws_2)
    (tRet (tL n__law_draws_2)))))))
noncomputable def T__law_draws : Int × Int × Unit → Option (List Int) := fnT (E := E__law_draws) (fun a => (some a.1, some a.2.1, ⟨none⟩, none, none, none, ())) none tB__law_draws
theorem tok__law_draws : FnN F__law_draws T__law_draws := fn_N (fun a M => (rel_cons rel_val (rel_cons rel_val (rel_cons rel_obn (rel_cons rel_none (rel_cons rel_none (rel_cons rel_none rel_nil))))))) (fun _ => rfl) (by unfold tB__law_draws B__law_draws; exact (s_cons (s_setL n__law_draws_2 (t_lst (l_nil (α := Int))))
    (s_cons (s_set n__law_draws_3 (t_cb1 o_intI ((t_var n__law_draws_0)).v))
    (s_cons (s_if (p_B ((t_bin o_ge ((t_var n__law_draws_3)).v ((t_bin o_pow ((t_val (v := (10 : Int)) rfl)).v ((t_val (v := (18 : Int)) rfl)).v)).v)).v)
    (s_for (i_rg1 ((t_var n__law_draws_1)).v) (g_nm n__law_draws_5) oL__law_draws_1)
    s_nil)
    (s_cons (s_set n__law_draws_4 (t_bin o_mod ((t_cb1 o_intI ((t_bin o_add ((t_bin o_mul ((t_cb1 o_intI ((t_var n__law_draws_0)).v)).v ((t_val (v := (48271 : Int)) rfl)).v)).v ((t_val (v := (11 : Int)) rfl)).v)).v)).v ((t_val (v := (2147483647 : Int)) rfl)).v))
    (s_cons (s_for (i_rg1 ((t_var n__law_draws_1)).v) (g_nm n__law_draws_5) oL__law_draws_2)
    (s_retL n__law_draws_2)))))))
abbrev E__law_kind : Type := Option Int × Unit
abbrev n__law_kind_0 : Lens E__law_kind (Option Int) 0 := Lens.hd
noncomputable def tB__law_kind : E__law_kind → Option (Fw Str E__law_kind) :=
    (tSeq (tIfS (tOr (tInR false (tV n__law_kind_0) (tK 0) (tK (32 : Int))) (tInR false (tV n__law_kind_0) (tK (127 : Int)) (tK (160 : Int))))
    (tRet (tK ("control" : Str)))
    tNil)
    (tRet (tIf (tInR false (tV n__law_kind_0) (tK (192 : Int)) (tK (256 : Int))) (tK ("wide" : Str)) (tK ("narrow" : Str)))))
noncomputable def T__law_kind : Int × Unit → Option Str := fnT (E := E__law_kind) (fun a => (some a.1, ())) none tB__law_kind
theorem tok__law_kind : FnT F__law_kind T__law_kind := fn_T (fun a M => (rel_cons rel_val rel_nil)) (fun _ => rfl) (by unfold tB__law_kind B__law_kind; exact (s_cons (s_if (p_or (p_B ((t_inR1 ((t_var n__law_kind_0)).v ((t_val (v := (32 : Int)) rfl)).v)).v) (p_B ((t_inR ((t_var n__law_kind_0)).v ((t_val (v := (127 : Int)) rfl)).v ((t_val (v := (160 : Int)) rfl)).v)).v))
    (s_ret (t_val (v := ("control" : Str)) rfl))
    s_nil)
    (s_ret (t_if (p_B ((t_inR ((t_var n__law_kind_0)).v ((t_val (v := (192 : Int)) rfl)).v ((t_val (v := (256 : Int)) rfl)).v)).v) (t_val (v := ("wide" : Str)) rfl) (t_val (v := ("narrow" : Str)) rfl))))) (fun b h => by cases h)
abbrev E_digits : Type := Option Int × Option Str × Unit
abbrev n_digits_0 : Lens E_digits (Option Int) 0 := Lens.hd
abbrev n_digits_1 : Lens E_digits (Option Str) 1 := (Lens.tl Lens.hd)
noncomputable def tQ_digits_1 : E_digits → Option (List Int) :=
    (tC (iCh (t1 strI (tV n_digits_0))) (wCons n_digits_1 wNil) (pNm n_digits_1) tYes (t1 ordS (tV n_digits_1)))
theorem oQ_digits_1 : EN tQ_digits_1 Q_digits_1 := by unfold tQ_digits_1 Q_digits_1; exact (t_lc ((i_st ((t_cb1 o_str ((t_var n_digits_0)).v)).v)).v (w_cons n_digits_1 w_nil) (g_nm n_digits_1) p_yes (t_cb1 o_ordS ((t_var n_digits_1)).v))
noncomputable def tB_digits : E_digits → Option (Fw (List Int) E_digits) :=
    (tRet tQ_digits_1)
noncomputable def T_digits : Int × Unit → Option (List Int) := fnT (E := E_digits) (fun a => (some a.1, none, ())) none tB_digits
theorem tok_digits : FnN F_digits T_digits := fn_N (fun a M => (rel_cons rel_val (rel_cons rel_none rel_nil))) (fun _ => rfl) (by unfold tB_digits B_digits; exact (s_retN oQ_digits_1))
abbrev E_codes : Type := Option Str × Option Str × Unit
abbrev n_codes_0 : Lens E_codes (Option Str) 0 := Lens.hd
abbrev n_codes_1 : Lens E_codes (Option Str) 1 := (Lens.tl Lens.hd)
noncomputable def tQ_codes_1 : E_codes → Option (List Int) :=
    (tC (iCh (tV n_codes_0)) (wCons n_codes_1 wNil) (pNm n_codes_1) tYes (t1 ordS (tV n_codes_1)))
theorem oQ_codes_1 : EN tQ_codes_1 Q_codes_1 := by unfold tQ_codes_1 Q_codes_1; exact (t_lc ((i_st ((t_var n_codes_0)).v)).v (w_cons n_codes_1 w_nil) (g_nm n_codes_1) p_yes (t_cb1 o_ordS ((t_var n_codes_1)).v))
noncomputable def tB_codes : E_codes → Option (Fw (List Int) E_codes) :=
    (tRet tQ_codes_1)
noncomputable def T_codes : Str × Unit → Option (List Int) := fnT (E := E_codes) (fun a => (some a.1, none, ())) none tB_codes
theorem tok_codes : FnN F_codes T_codes := fn_N (fun a M => (rel_cons rel_val (rel_cons rel_none rel_nil))) (fun _ => rfl) (by unfold tB_codes B_codes; exact (s_retN oQ_codes_1))
abbrev E_kind_of : Type := Option Int × Unit
abbrev n_kind_of_0 : Lens E_kind_of (Option Int) 0 := Lens.hd
noncomputable def tB_kind_of : E_kind_of → Option (Fw Str E_kind_of) :=
    (tSeq (tIfS (tOr (tB ltI (tV n_kind_of_0) (tK (32 : Int))) (tCh leI leI (tK (127 : Int)) (tV n_kind_of_0) (tK (159 : Int))))
    (tRet (tK ("control" : Str)))
    tNil)
    (tSeq (tIfS (tB geI (tV n_kind_of_0) (tK (192 : Int)))
    (tRet (tK ("wide" : Str)))
    tNil)
    (tRet (tK ("narrow" : Str)))))
noncomputable def T_kind_of : Int × Unit → Option Str := fnT (E := E_kind_of) (fun a => (some a.1, ())) none tB_kind_of
theorem tok_kind_of : FnT F_kind_of T_kind_of := fn_T (fun a M => (rel_cons rel_val rel_nil)) (fun _ => rfl) (by unfold tB_kind_of B_kind_of; exact (s_cons (s_if (p_or (p_B ((t_bin o_lt ((t_var n_kind_of_0)).v ((t_val (v := (32 : Int)) rfl)).v)).v) (p_B ((t_ch o_le o_le ((t_val (v := (127 : Int)) rfl)).v ((t_var n_kind_of_0)).v ((t_val (v := (159 : Int)) rfl)).v hv_le)).v))
    (s_ret (t_val (v := ("control" : Str)) rfl))
    s_nil)
    (s_cons (s_if (p_B ((t_bin o_ge ((t_var n_kind_of_0)).v ((t_val (v := (192 : Int)) rfl)).v)).v)
    (s_ret (t_val (v := ("wide" : Str)) rfl))
    s_nil)
    (s_ret (t_val (v := ("narrow" : Str)) rfl))))) (fun b h => by cases h)
abbrev E_width_of : Type := Option Int × Option Str × Unit
abbrev n_width_of_0 : Lens E_width_of (Option Int) 0 := Lens.hd
abbrev n_width_of_1 : Lens E_width_of (Option Str) 1 := (Lens.tl Lens.hd)
noncomputable def tB_width_of : E_width_of → Option (Fw Int E_width_of) :=
    (tSeq (tSet n_width_of_1 (tCall T_kind_of (pCons (tV n_width_of_0) pNil)))
    (tSeq (tIfS (tB eqT (tV n_width_of_1) (tK ("control" : Str)))
    (tRet (tK (0 : Int)))
    tNil)
    (tSeq (tIfS (tB eqT (tV n_width_of_1) (tK ("wide" : Str)))
    (tRet (tK (2 : Int)))
    tNil)
    (tRet (tK (1 : Int))))))
noncomputable def T_width_of : Int × Unit → Option Int := fnT (E := E_width_of) (fun a => (some a.1, none, ())) none tB_width_of
theorem tok_width_of : FnT F_width_of T_width_of := fn_T (fun a M => (rel_cons rel_val (rel_cons rel_none rel_nil))) (fun _ => rfl) (by unfold tB_width_of B_width_of; exact (s_cons (s_set n_width_of_1 (t_call tok_kind_of (p_cons (t_var n_width_of_0) p_nil)))
    (s_cons (s_if (p_B ((t_bin (o_eq (by decide)) ((t_var n_width_of_1)).v ((t_val (v := ("control" : Str)) rfl)).v)).v)
    (s_ret (t_val (v := (0 : Int)) rfl))
    s_nil)
    (s_cons (s_if (p_B ((t_bin (o_eq (by decide)) ((t_var n_width_of_1)).v ((t_val (v := ("wide" : Str)) rfl)).v)).v)
    (s_ret (t_val (v := (2 : Int)) rfl))
    s_nil)
    (s_ret (t_val (v := (1 : Int)) rfl)))))) (fun b h => by cases h)
abbrev E_is_printable : Type := Option (List Int) × Option Int × Unit
abbrev n_is_printable_0 : Lens E_is_printable (Option (List Int)) 0 := Lens.hd
abbrev n_is_printable_1 : Lens E_is_printable (Option Int) 1 := (Lens.tl Lens.hd)
abbrev k_is_printable_1 : E_is_printable → E_is_printable := (kpF none (kpF none kpU))
noncomputable def tL_is_printable_1 : E_is_printable → Option (Fw Bool E_is_printable) :=
    (tIfS (tB eqT (tCall T_kind_of (pCons (tV n_is_printable_1) pNil)) (tK ("control" : Str)))
    (tRet (tK false))
    tNil)
theorem oL_is_printable_1 : SP (β := Bool) false tL_is_printable_1 L_is_printable_1 := by unfold tL_is_printable_1 L_is_printable_1; exact (s_if (p_B ((t_bin (o_eq (by decide)) ((t_call tok_kind_of (p_cons (t_var n_is_printable_1) p_nil))).v ((t_val (v := ("control" : Str)) rfl)).v)).v)
    (s_ret (t_val (v := false) rfl))
    s_nil)
noncomputable def tB_is_printable : E_is_printable → Option (Fw Bool E_is_printable) :=
    (tSeq (tFor k_is_printable_1 (iL (tV n_is_printable_0)) (pNm n_is_printable_1) tL_is_printable_1)
    (tRet (tK true)))
noncomputable def T_is_printable : (List Int) × Unit → Option Bool := fnT (E := E_is_printable) (fun a => (some a.1, none, ())) none tB_is_printable
theorem tok_is_printable : FnT F_is_printable T_is_printable := fn_T (fun a M => (rel_cons rel_val (rel_cons rel_none rel_nil))) (fun _ => rfl) (by unfold tB_is_printable B_is_printable; exact (s_cons (s_for (i_seq (t_var n_is_printable_0)) (g_nm n_is_printable_1) oL_is_printable_1)
    (s_ret (t_val (v := true) rfl)))) (fun b h => by cases h)
abbrev E_is_printable_v1 : Type := Option (Tu Int) × Option Int × Unit
abbrev n_is_printable_v1_0 : Lens E_is_printable_v1 (Option (Tu Int)) 0 := Lens.hd
abbrev n_is_printable_v1_1 : Lens E_is_printable_v1 (Option Int) 1 := (Lens.tl Lens.hd)
abbrev k_is_printable_v1_1 : E_is_printable_v1 → E_is_printable_v1 := (kpF none (kpF none kpU))
noncomputable def tL_is_printable_1_v1 : E_is_printable_v1 → Option (Fw Bool E_is_printable_v1) :=
    (tIfS (tB eqT (tCall T_kind_of (pCons (tV n_is_printable_v1_1) pNil)) (tK ("control" : Str)))
    (tRet (tK false))
    tNil)
theorem oL_is_printable_1_v1 : SP (β := Bool) false tL_is_printable_1_v1 L_is_printable_1 := by unfold tL_is_printable_1_v1 L_is_printable_1; exact (s_if (p_B ((t_bin (o_eq (by decide)) ((t_call tok_kind_of (p_cons (t_var n_is_printable_v1_1) p_nil))).v ((t_val (v := ("control" : Str)) rfl)).v)).v)
    (s_ret (t_val (v := false) rfl))
    s_nil)
noncomputable def tB_is_printable_v1 : E_is_printable_v1 → Option (Fw Bool E_is_printable_v1) :=
    (tSeq (tFor k_is_printable_v1_1 (iL (tV n_is_printable_v1_0)) (pNm n_is_printable_v1_1) tL_is_printable_1_v1)
    (tRet (tK true)))
noncomputable def T_is_printable_v1 : (Tu Int) × Unit → Option Bool := fnT (E := E_is_printable_v1) (fun a => (some a.1, none, ())) none tB_is_printable_v1
theorem tok_is_printable_v1 : FnT F_is_printable T_is_printable_v1 := fn_T (fun a M => (rel_cons rel_val (rel_cons rel_none rel_nil))) (fun _ => rfl) (by unfold tB_is_printable_v1 B_is_printable; exact (s_cons (s_for (i_seq (t_var n_is_printable_v1_0)) (g_nm n_is_printable_v1_1) oL_is_printable_1_v1)
    (s_ret (t_val (v := true) rfl)))) (fun b h => by cases h)
abbrev E_law : Type := Option Scr × Option Str × Option Int × Option (List Int) × Option Int × Option Str × Option (List Int) × Option Bool × Option Int × Option (List Int) × Option Int × Option Int × Option (List Int) × Option Str × Option Int × Option Int × Option Int × Unit
abbrev n_law_0 : Lens E_law (Option Scr) 0 := Lens.hd
abbrev n_law_1 : Lens E_law (Option Str) 1 := (Lens.tl Lens.hd)
abbrev n_law_2 : Lens E_law (Option Int) 2 := (Lens.tl (Lens.tl Lens.hd))
abbrev n_law_3 : Lens E_law (Option (List Int)) 3 := (Lens.tl (Lens.tl (Lens.tl Lens.hd)))
abbrev n_law_4 : Lens E_law (Option Int) 4 := (Lens.tl (Lens.tl (Lens.tl (Lens.tl Lens.hd))))
abbrev n_law_5 : Lens E_law (Option Str) 5 := (Lens.tl (Lens.tl (Lens.tl (Lens.tl (Lens.tl Lens.hd)))))
abbrev n_law_6 : Lens E_law (Option (List Int)) 6 := (Lens.tl (Lens.tl (Lens.tl (Lens.tl (Lens.tl (Lens.tl Lens.hd))))))
abbrev n_law_7 : Lens E_law (Option Bool) 7 := (Lens.tl (Lens.tl (Lens.tl (Lens.tl (Lens.tl (Lens.tl (Lens.tl Lens.hd)))))))
abbrev n_law_8 : Lens E_law (Option Int) 8 := (Lens.tl (Lens.tl (Lens.tl (Lens.tl (Lens.tl (Lens.tl (Lens.tl (Lens.tl Lens.hd))))))))
abbrev n_law_9 : Lens E_law (Option (List Int)) 9 := (Lens.tl (Lens.tl (Lens.tl (Lens.tl (Lens.tl (Lens.tl (Lens.tl (Lens.tl (Lens.tl Lens.hd)))))))))
abbrev n_law_10 : Lens E_law (Option Int) 10 := (Lens.tl (Lens.tl (Lens.tl (Lens.tl (Lens.tl (Lens.tl (Lens.tl (Lens.tl (Lens.tl (Lens.tl Lens.hd))))))))))
abbrev n_law_11 : Lens E_law (Option Int) 11 := (Lens.tl (Lens.tl (Lens.tl (Lens.tl (Lens.tl (Lens.tl (Lens.tl (Lens.tl (Lens.tl (Lens.tl (Lens.tl Lens.hd)))))))))))
abbrev n_law_12 : Lens E_law (Option (List Int)) 12 := (Lens.tl (Lens.tl (Lens.tl (Lens.tl (Lens.tl (Lens.tl (Lens.tl (Lens.tl (Lens.tl (Lens.tl (Lens.tl (Lens.tl Lens.hd))))))))))))
abbrev n_law_13 : Lens E_law (Option Str) 13 := (Lens.tl (Lens.tl (Lens.tl (Lens.tl (Lens.tl (Lens.tl (Lens.tl (Lens.tl (Lens.tl (Lens.tl (Lens.tl (Lens.tl (Lens.tl Lens.hd)))))))))))))
abbrev n_law_14 : Lens E_law (Option Int) 14 := (Lens.tl (Lens.tl (Lens.tl (Lens.tl (Lens.tl (Lens.tl (Lens.tl (Lens.tl (Lens.tl (Lens.tl (Lens.tl (Lens.tl (Lens.tl (Lens.tl Lens.hd))))))))))))))
abbrev n_law_15 : Lens E_law (Option Int) 15 := (Lens.tl (Lens.tl (Lens.tl (Lens.tl (Lens.tl (Lens.tl (Lens.tl (Lens.tl (Lens.tl (Lens.tl (Lens.tl (Lens.tl (Lens.tl (Lens.tl (Lens.tl Lens.hd)))))))))))))))
abbrev n_law_16 : Lens E_law (Option Int) 16 := (Lens.tl (Lens.tl (Lens.tl (Lens.tl (Lens.tl (Lens.tl (Lens.tl (Lens.tl (Lens.tl (Lens.tl (Lens.tl (Lens.tl (Lens.tl (Lens.tl (Lens.tl (Lens.tl Lens.hd))))))))))))))))
abbrev k_law_1 : E_law → E_law := (kpF none (kpT (kpF none (kpT (kpF none (kpF none (kpF none (kpF none (kpT (kpT (kpT (kpF none (kpF none (kpF none (kpF none (kpF none (kpF none kpU)))))))))))))))))
abbrev k_law_2 : E_law → E_law := (kpF none (kpT (kpF none (kpF none (kpF none (kpF none (kpF none (kpF none (kpF none (kpF none (kpF none (kpF none (kpF none (kpF none (kpF none (kpF none (kpF none kpU)))))))))))))))))
noncomputable def tQ_law_1 : E_law → Option (List Int) :=
    (tC (iL (tSl (tV n_law_3) (vSome (tK (2 : Int))) (vSome (tB addI (tK (3 : Int)) (tB modI (tB tIx (tV n_law_3) (tK (1 : Int))) (tK (4 : Int))))))) (wCons n_law_14 wNil) (pNm n_law_14) tYes (tB modI (tV n_law_14) (tK (256 : Int))))
theorem oQ_law_1 : EN tQ_law_1 Q_law_1 := by unfold tQ_law_1 Q_law_1; exact (t_lc ((i_seq ((t_sl ((t_var n_law_3)).v (v_some ((t_val (v := (2 : Int)) rfl)).v) (v_some ((t_bin o_add ((t_val (v := (3 : Int)) rfl)).v ((t_bin o_mod ((t_bin o_ix ((t_var n_law_3)).v ((t_val (v := (1 : Int)) rfl)).v)).v ((t_val (v := (4 : Int)) rfl)).v)).v)).v))).p)).v (w_cons n_law_14 w_nil) (g_nm n_law_14) p_yes (t_bin o_mod ((t_var n_law_14)).v ((t_val (v := (256 : Int)) rfl)).v))
noncomputable def tQ_law_2 : E_law → Option (List Int) :=
    (tC (iL (tV n_law_6)) (wCons n_law_15 wNil) (pNm n_law_15) (tB eqT (tCall T__law_kind (pCons (tV n_law_15) pNil)) (tK ("control" : Str))) (tV n_law_15))
theorem oQ_law_2 : EN tQ_law_2 Q_law_2 := by unfold tQ_law_2 Q_law_2; exact (t_lc ((i_seq (t_var n_law_6))).v (w_cons n_law_15 w_nil) (g_nm n_law_15) (p_B ((t_bin (o_eq (by decide)) ((t_call tok__law_kind (p_cons (t_var n_law_15) p_nil))).v ((t_val (v := ("control" : Str)) rfl)).v)).v) (t_var n_law_15))
noncomputable def tL_law_1 : E_law → Option (Fw Bool E_law) :=
    (tIfS (tOr (tB gtI (tV n_law_10) (tK (0 : Int))) (tB eqT (tV n_law_11) (tK (0 : Int))))
    (tSeq (tSet n_law_9 (tB catL (tLst (lCons (tB addI (tK (48 : Int)) (tB modI (t1 intI (tV n_law_10)) (tK (10 : Int)))) lNil)) (tV n_law_9)))
    (tSet n_law_10 (tB divI (tV n_law_10) (tK (10 : Int)))))
    tNil)
theorem oL_law_1 : SP (β := Bool) false tL_law_1 L_law_1 := by unfold tL_law_1 L_law_1; exact (s_if (p_or (p_B ((t_bin o_gt ((t_var n_law_10)).v ((t_val (v := (0 : Int)) rfl)).v)).v) (p_B ((t_bin (o_eq (by decide)) ((t_var n_law_11)).v ((t_val (v := (0 : Int)) rfl)).v)).v))
    (s_cons (s_set n_law_9 ((t_binN o_catL ((t_lst (l_cons (t_bin o_add ((t_val (v := (48 : Int)) rfl)).v ((t_bin o_mod ((t_cb1 o_intI ((t_var n_law_10)).v)).v ((t_val (v := (10 : Int)) rfl)).v)).v) l_nil))).v ((t_var n_law_9)).v)).p)
    (s_set n_law_10 (t_bin o_div ((t_var n_law_10)).v ((t_val (v := (10 : Int)) rfl)).v)))
    s_nil)
noncomputable def tQ_law_3 : E_law → Option (List Int) :=
    (tC (iL (tSl (tV n_law_3) vNone (vSome (tB modI (tB tIx (tV n_law_3) (tK (1 : Int))) (tK (7 : Int)))))) (wCons n_law_14 wNil) (pNm n_law_14) tYes (tB modI (tV n_law_14) (t1 lenS (tV n_law_1))))
theorem oQ_law_3 : EN tQ_law_3 Q_law_3 := by unfold tQ_law_3 Q_law_3; exact (t_lc ((i_seq ((t_sl ((t_var n_law_3)).v v_none (v_some ((t_bin o_mod ((t_bin o_ix ((t_var n_law_3)).v ((t_val (v := (1 : Int)) rfl)).v)).v ((t_val (v := (7 : Int)) rfl)).v)).v))).p)).v (w_cons n_law_14 w_nil) (g_nm n_law_14) p_yes (t_bin o_mod ((t_var n_law_14)).v ((t_cb1 o_lenS ((t_var n_law_1)).v)).v))
noncomputable def tQ_law_4 : E_law → Option (List Str) :=
    (tC (iL (tV n_law_12)) (wCons n_law_16 wNil) (pNm n_law_16) tYes (tB ixS (tV n_law_1) (tV n_law_16)))
theorem oQ_law_4 : EN tQ_law_4 Q_law_4 := by unfold tQ_law_4 Q_law_4; exact (t_lc ((i_seq (t_var n_law_12))).v (w_cons n_law_16 w_nil) (g_nm n_law_16) p_yes (t_bin o_ixS ((t_var n_law_1)).v ((t_var n_law_16)).v))
noncomputable def tQ_law_5 : E_law → Option (List Int) :=
    (tC (iL (tV n_law_12)) (wCons n_law_16 wNil) (pNm n_law_16) tYes (t1 ordS (tB ixS (tV n_law_1) (tV n_law_16))))
theorem oQ_law_5 : EN tQ_law_5 Q_law_5 := by unfold tQ_law_5 Q_law_5; exact (t_lc ((i_seq (t_var n_law_12))).v (w_cons n_law_16 w_nil) (g_nm n_law_16) p_yes (t_cb1 o_ordS ((t_bin o_ixS ((t_var n_law_1)).v ((t_var n_law_16)).v)).v))
noncomputable def tR_law_2_15 : E_law → Option (Fw Bool E_law) :=
    (tIfS (tB neT (tCall T_codes (pCons (tV n_law_13) pNil)) tQ_law_5)
    (tRet (tK false))
    tNil)
noncomputable def tR_law_2_14 : E_law → Option (Fw Bool E_law) :=
    (tSeq (tSet n_law_13 (tB joinT (tK ("" : Str)) tQ_law_4))
    tR_law_2_15)
noncomputable def tR_law_2_13 : E_law → Option (Fw Bool E_law) :=
    (tSeq (tSet n_law_12 tQ_law_3)
    tR_law_2_14)
noncomputable def tR_law_2_12 : E_law → Option (Fw Bool E_law) :=
    (tSeq (tIfS (tB neT (tCall T_digits (pCons (tV n_law_8) pNil)) (tV n_law_9))
    (tRet (tK false))
    tNil)
    tR_law_2_13)
noncomputable def tR_law_2_11 : E_law → Option (Fw Bool E_law) :=
    (tSeq (tFor k_law_1 (iR1 (tK (20 : Int))) (pNm n_law_11) tL_law_1)
    tR_law_2_12)
noncomputable def tR_law_2_10 : E_law → Option (Fw Bool E_law) :=
    (tSeq (tSet n_law_10 (tV n_law_8))
    tR_law_2_11)
noncomputable def tR_law_2_9 : E_law → Option (Fw Bool E_law) :=
    (tSeq (tSet n_law_9 (tLst (lNil (α := Int))))
    tR_law_2_10)
noncomputable def tR_law_2_8 : E_law → Option (Fw Bool E_law) :=
    (tSeq (tSet n_law_8 (tB addI (tB mulI (tB tIx (tV n_law_3) (tK (6 : Int))) (tB tIx (tLst (lCons (tK (1 : Int)) (lCons (tK (1000 : Int)) (lCons (tB powI (tK (10 : Int)) (tK (9 : Int))) lNil)))) (tB modI (tB tIx (tV n_law_3) (tK (7 : Int))) (tK (3 : Int))))) (tB tIx (tV n_law_3) (tK (8 : Int)))))
    tR_law_2_9)
noncomputable def tR_law_2_7 : E_law → Option (Fw Bool E_law) :=
    (tSeq (tIfS (tOr (tB neT (tCall T_is_printable (pCons (tV n_law_6) pNil)) (tV n_law_7)) (tOr (tB neT (tCall T_is_printable_v1 (pCons (t1 tupT (tSl (tV n_law_6) (vSome (t1 negI (tK (1 : Int)))) vNone)) pNil)) (tB neT (tV n_law_5) (tK ("control" : Str)))) (tNot (tTr (tCall T_is_printable (pCons (tLst (lNil (α := Int))) pNil))))))
    (tRet (tK false))
    tNil)
    tR_law_2_8)
noncomputable def tR_law_2_6 : E_law → Option (Fw Bool E_law) :=
    (tSeq (tSet n_law_7 (tB eqT tQ_law_2 (tLst (lNil (α := Int)))))
    tR_law_2_7)
noncomputable def tR_law_2_5 : E_law → Option (Fw Bool E_law) :=
    (tSeq (tSet n_law_6 (tB catL tQ_law_1 (tLst (lCons (tV n_law_4) lNil))))
    tR_law_2_6)
noncomputable def tR_law_2_4 : E_law → Option (Fw Bool E_law) :=
    (tSeq (tIfS (tOr (tB neT (tCall T_kind_of (pCons (tV n_law_4) pNil)) (tV n_law_5)) (tB neT (tCall T_width_of (pCons (tV n_law_4) pNil)) (tDG (dCons (tK ("control" : Str)) (tK (0 : Int)) (dCons (tK ("narrow" : Str)) (tK (1 : Int)) (dCons (tK ("wide" : Str)) (tK (2 : Int)) dNil))) (tV n_law_5))))
    (tRet (tK false))
    tNil)
    tR_law_2_5)
noncomputable def tR_law_2_3 : E_law → Option (Fw Bool E_law) :=
    (tSeq (tSet n_law_5 (tCall T__law_kind (pCons (tV n_law_4) pNil)))
    tR_law_2_4)
noncomputable def tR_law_2_2 : E_law → Option (Fw Bool E_law) :=
    (tSeq (tIfS (tB eqT (tB modI (tB tIx (tV n_law_3) (tK (1 : Int))) (tK (2 : Int))) (tK (0 : Int)))
    (tSet n_law_4 (tB tIx (tLst (lCons (tK (0 : Int)) (lCons (tK (31 : Int)) (lCons (tK (32 : Int)) (lCons (tK (126 : Int)) (lCons (tK (127 : Int)) (lCons (tK (128 : Int)) (lCons (tK (159 : Int)) (lCons (tK (160 : Int)) (lCons (tK (191 : Int)) (lCons (tK (192 : Int)) (lCons (tK (255 : Int)) lNil)))))))))))) (tB modI (tB tIx (tV n_law_3) (tK (0 : Int))) (tK (11 : Int)))))
    tNil)
    tR_law_2_3)
noncomputable def tR_law_2_1 : E_law → Option (Fw Bool E_law) :=
    (tSeq (tSet n_law_4 (tB modI (tB tIx (tV n_law_3) (tK (0 : Int))) (tK (256 : Int))))
    tR_law_2_2)
noncomputable def tL_law_2 : E_law → Option (Fw Bool E_law) :=
    (tSeq (tSet n_law_3 (tCall T__law_draws (pCons (tV n_law_2) (pCons (tK (9 : Int)) pNil))))
    tR_law_2_1)
theorem oL_law_2 : SP (β := Bool) false tL_law_2 L_law_2 := by unfold tL_law_2 tR_law_2_1 tR_law_2_2 tR_law_2_3 tR_law_2_4 tR_law_2_5 tR_law_2_6 tR_law_2_7 tR_law_2_8 tR_law_2_9 tR_law_2_10 tR_law_2_11 tR_law_2_12 tR_law_2_13 tR_law_2_14 tR_law_2_15 L_law_2; exact (s_cons (s_set n_law_3 ((t_callN tok__law_draws (p_cons (t_var n_law_2) (p_cons (t_val (v := (9 : Int)) rfl) p_nil)))).p)
    (s_cons (s_set n_law_4 (t_bin o_mod ((t_bin o_ix ((t_var n_law_3)).v ((t_val (v := (0 : Int)) rfl)).v)).v ((t_val (v := (256 : Int)) rfl)).v))
    (s_cons (s_if (p_B ((t_bin (o_eq (by decide)) ((t_bin o_mod ((t_bin o_ix ((t_var n_law_3)).v ((t_val (v := (1 : Int)) rfl)).v)).v ((t_val (v := (2 : Int)) rfl)).v)).v ((t_val (v := (0 : Int)) rfl)).v)).v)
    (s_set n_law_4 (t_bin o_ix ((t_lst (l_cons (t_val (v := (0 : Int)) rfl) (l_cons (t_val (v := (31 : Int)) rfl) (l_cons (t_val (v := (32 : Int)) rfl) (l_cons (t_val (v := (126 : Int)) rfl) (l_cons (t_val (v := (127 : Int)) rfl) (l_cons (t_val (v := (128 : Int)) rfl) (l_cons (t_val (v := (159 : Int)) rfl) (l_cons (t_val (v := (160 : Int)) rfl) (l_cons (t_val (v := (191 : Int)) rfl) (l_cons (t_val (v := (192 : Int)) rfl) (l_cons (t_val (v := (255 : Int)) rfl) l_nil))))))))))))).v ((t_bin o_mod ((t_bin o_ix ((t_var n_law_3)).v ((t_val (v := (0 : Int)) rfl)).v)).v ((t_val (v := (11 : Int)) rfl)).v)).v))
    s_nil)
    (s_cons (s_set n_law_5 (t_call tok__law_kind (p_cons (t_var n_law_4) p_nil)))
    (s_cons (s_if (p_or (p_B ((t_bin (o_ne (by decide)) ((t_call tok_kind_of (p_cons (t_var n_law_4) p_nil))).v ((t_var n_law_5)).v)).v) (p_B ((t_bin (o_ne (by decide)) ((t_call tok_width_of (p_cons (t_var n_law_4) p_nil))).v ((t_dispget (dp_cons (t_val (v := ("control" : Str)) rfl) (t_val (v := (0 : Int)) rfl) (dp_cons (t_val (v := ("narrow" : Str)) rfl) (t_val (v := (1 : Int)) rfl) (dp_cons (t_val (v := ("wide" : Str)) rfl) (t_val (v := (2 : Int)) rfl) dp_nil))) ((t_var n_law_5)).v)).v)).v))
    (s_ret (t_val (v := false) rfl))
    s_nil)
    (s_cons (s_set n_law_6 ((t_binN o_catL (oQ_law_1).v ((t_lst (l_cons (t_var n_law_4) l_nil))).v)).p)
    (s_cons (s_set n_law_7 (t_bin (o_eq (by decide)) (oQ_law_2).v ((t_lst (l_nil (α := Int)))).v))
    (s_cons (s_if (p_or (p_B ((t_bin (o_ne (by decide)) ((t_call tok_is_printable (p_cons (t_var n_law_6) p_nil))).v ((t_var n_law_7)).v)).v) (p_or (p_B ((t_bin (o_ne (by decide)) ((t_call tok_is_printable_v1 (p_cons (t_cb1 o_tup ((t_sl ((t_var n_law_6)).v (v_some ((t_neg ((t_val (v := (1 : Int)) rfl)).v)).v) v_none)).v) p_nil))).v ((t_bin (o_ne (by decide)) ((t_var n_law_5)).v ((t_val (v := ("control" : Str)) rfl)).v)).v)).v) (p_not (p_Tr ((t_call tok_is_printable (p_cons ((t_lst (l_nil (α := Int)))).p p_nil))).v))))
    (s_ret (t_val (v := false) rfl))
    s_nil)
    (s_cons (s_set n_law_8 (t_bin o_add ((t_bin o_mul ((t_bin o_ix ((t_var n_law_3)).v ((t_val (v := (6 : Int)) rfl)).v)).v ((t_bin o_ix ((t_lst (l_cons (t_val (v := (1 : Int)) rfl) (l_cons (t_val (v := (1000 : Int)) rfl) (l_cons (t_bin o_pow ((t_val (v := (10 : Int)) rfl)).v ((t_val (v := (9 : Int)) rfl)).v) l_nil))))).v ((t_bin o_mod ((t_bin o_ix ((t_var n_law_3)).v ((t_val (v := (7 : Int)) rfl)).v)).v ((t_val (v := (3 : Int)) rfl)).v)).v)).v)).v ((t_bin o_ix ((t_var n_law_3)).v ((t_val (v := (8 : Int)) rfl)).v)).v))
    (s_cons (s_set n_law_9 ((t_lst (l_nil (α := Int)))).p)
    (s_cons (s_set n_law_10 (t_var n_law_8))
    (s_cons (s_for (i_rg1 ((t_val (v := (20 : Int)) rfl)).v) (g_nm n_law_11) oL_law_1)
    (s_cons (s_if (p_B ((t_bin (o_ne (by decide)) ((t_callN tok_digits (p_cons (t_var n_law_8) p_nil))).v ((t_var n_law_9)).v)).v)
    (s_ret (t_val (v := false) rfl))
    s_nil)
    (s_cons (s_set n_law_12 (oQ_law_3).p)
    (s_cons (s_set n_law_13 (t_join ((t_val (v := ("" : Str)) rfl)).v (oQ_law_4).v))
    (s_if (p_B ((t_bin (o_ne (by decide)) ((t_callN tok_codes (p_cons (t_var n_law_13) p_nil))).v (oQ_law_5).v)).v)
    (s_ret (t_val (v := false) rfl))
    s_nil))))))))))))))))
noncomputable def tB_law : E_law → Option (Fw Bool E_law) :=
    (tSeq (tSet n_law_1 (tK (" abcXYZ019~[;Hm?-_=+" : Str)))
    (tSeq (tFor k_law_2 (iL (tV n_law_0)) (pNm n_law_2) tL_law_2)
    (tRet (tK true))))
noncomputable def T_law : Scr × Unit → Option Bool := fnT (E := E_law) (fun a => (some a.1, none, none, none, none, none, none, none, none, none, none, none, none, none, none, none, none, ())) none tB_law
theorem tok_law : FnT F_law T_law := fn_T (fun a M => (rel_cons rel_val (rel_cons rel_none (rel_cons rel_none (rel_cons rel_none (rel_cons rel_none (rel_cons rel_none (rel_cons rel_none (rel_cons rel_none (rel_cons rel_none (rel_cons rel_none (rel_cons rel_none (rel_cons rel_none (rel_cons rel_none (rel_cons rel_none (rel_cons rel_none (rel_cons rel_none (rel_cons rel_none rel_nil)))))))))))))))))) (fun _ => rfl) (by unfold tB_law B_law; exact (s_cons (s_set n_law_1 (t_val (v := (" abcXYZ019~[;Hm?-_=+" : Str)) rfl))
    (s_cons (s_for (i_seq (t_var n_law_0)) (g_nm n_law_2) oL_law_2)
    (s_ret (t_val (v := true) rfl))))) (fun b h => by cases h)
end K38
namespace K38
open PySem PySem.Spec PyProof.Rows L2 CI TL
/-! draws: so many numbers from 0 to 999 -/
def Dr (n : Nat) (ds : List Int) : Prop := ds.length = n ∧ ∀ d ∈ ds, 0 ≤ d ∧ d < 1000
theorem sm_c {j : Int} (h : sm64 j = true) (i : Int) : bMul i j = true := by unfold bMul; rw [h]; simp
theorem draws_ok (c many : Int) (h0 : 0 ≤ many) (h : many ≤ 100000) : ∃ ds, T__law_draws (c, many, ()) = some ds ∧ Dr many.toNat ds := by
  have m1 : ∀ i : Int, bMul i 48271 = true := sm_c (by decide)
  have m2 : ∀ i : Int, bMul i 69621 = true := sm_c (by decide)
  have d1 : bDiv 0 1000 = true := by decide
  have d2 : ∀ i : Int, bDiv i 1000 = true := fun i => d1
  have o1 : ∀ i : Int, bMod i 1000 = true := fun i => rfl
  have o2 : ∀ i : Int, bMod i 2147483647 = true := fun i => rfl
  have o3 : ∀ i : Int, bMod i 2147483629 = true := fun i => rfl
  have p1 : bPow 10 18 = true := by decide
  have r1 : rgB many = true := by unfold rgB; simp; omega
  have g1 : (rgT 0 many.toNat).length = many.toNat := by unfold rgT; simp
  have rng : ∀ (rows : List Int) (x : Int), (∀ d ∈ rows, 0 ≤ d ∧ d < 1000) → ∀ d ∈ rows ++ [x % 1000], 0 ≤ d ∧ d < 1000 := fun rows x hr d hd => by
    rcases List.mem_append.mp hd with q | q
    · exact hr d q
    · rw [List.mem_singleton.mp q]; omega
  have loop1 : ∀ rest : Int, ∃ rows rest', forT k__law_draws_1 (pNm n__law_draws_5) tL__law_draws_1 (rgT 0 many.toNat) (some c, some many, ⟨some ⟨[]⟩⟩, some rest, none, none, ()) =
      some (.nx (some c, some many, ⟨some ⟨rows⟩⟩, some rest', none, none, ())) ∧ rows.length ≤ many.toNat ∧ ∀ d ∈ rows, 0 ≤ d ∧ d < 1000 := fun rest => by
    obtain ⟨e', h1, rows, rest', rfl, h2, h3⟩ := forT_inv (kp := k__law_draws_1) (asg := pNm n__law_draws_5) (body := tL__law_draws_1)
      (fun xs e => ∃ rows rest, e = (some c, some many, ⟨some ⟨rows⟩⟩, some rest, none, none, ()) ∧ rows.length + xs.length ≤ many.toNat ∧ ∀ d ∈ rows, 0 ≤ d ∧ d < 1000)
      (fun x xs e ⟨rows, rest, he, hl, hr⟩ => by
        subst he
        simp only [List.length_cons] at hl
        have hz : rows.length < 16777216 := by omega
        refine ⟨_, rfl, ?_⟩
        by_cases q : 0 < rest
        · refine ⟨_, .inl (by simp [tL__law_draws_1, q, hz, o1, d2]; rfl), rows ++ [rest % 1000], rest / 1000, rfl, by simp; omega, rng rows rest hr⟩
        · refine ⟨_, .inl (by simp [tL__law_draws_1, q]; rfl), rows, rest, rfl, by omega, hr⟩)
      (rgT 0 many.toNat) _ ⟨[], rest, rfl, by rw [g1]; simp, fun d hd => nomatch hd⟩
    exact ⟨rows, rest', h1, by simpa using h2, h3⟩
  have loop2 : ∀ (rows : List Int) (st : Int), rows.length ≤ many.toNat → (∀ d ∈ rows, 0 ≤ d ∧ d < 1000) → ∃ rows' st', forT k__law_draws_2 (pNm n__law_draws_5) tL__law_draws_2 (rgT 0 many.toNat) (none, some many, ⟨some ⟨rows⟩⟩, none, some st, none, ()) =
      some (.nx (none, some many, ⟨some ⟨rows'⟩⟩, none, some st', none, ())) ∧ Dr many.toNat rows' := fun rows st hl0 hr0 => by
    obtain ⟨e', h1, rows', st', rfl, h2, h3, h4⟩ := forT_inv (kp := k__law_draws_2) (asg := pNm n__law_draws_5) (body := tL__law_draws_2)
      (fun xs e => ∃ rows st, e = (none, some many, ⟨some ⟨rows⟩⟩, none, some st, none, ()) ∧ rows.length ≤ many.toNat ∧ many.toNat ≤ rows.length + xs.length ∧ ∀ d ∈ rows, 0 ≤ d ∧ d < 1000)
      (fun x xs e ⟨rows, st, he, hl, hm, hr⟩ => by
        subst he
        simp only [List.length_cons] at hm
        have hz : rows.length < 16777216 := by omega
        refine ⟨_, rfl, ?_⟩
        by_cases q : (rows.length : Int) < many
        · exact ⟨_, .inl (by simp [tL__law_draws_2, q, hz, o1, o2, o3, m1, m2]; rfl), rows ++ [_], _, rfl, by simp; omega, by simp; omega, rng rows _ hr⟩
        · exact ⟨_, .inl (by simp [tL__law_draws_2, q, o2, m1, m2]; rfl), rows, _, rfl, by omega, by omega, hr⟩)
      (rgT 0 many.toNat) _ ⟨rows, st, rfl, hl0, by rw [g1]; omega, hr0⟩
    exact ⟨rows', st', h1, by simp at h3; omega, h4⟩
  by_cases q : (10 : Int) ^ 18 ≤ c
  · obtain ⟨rows, rest', k1, k2, k3⟩ := loop1 c
    obtain ⟨rows', st', k4, k5⟩ := loop2 rows ((c * 48271 + 11) % 2147483647) k2 k3
    refine ⟨rows', ?_, k5⟩
    simp only [T__law_draws, tB__law_draws, fnT]
    have q2 : (1000000000000000000 : Int) ≤ c := by simpa using q
    simp [p1, q2, r1, k1, m1, o2, k4]
  · obtain ⟨rows', st', k4, k5⟩ := loop2 [] ((c * 48271 + 11) % 2147483647) (by simp) (fun d hd => nomatch hd)
    refine ⟨rows', ?_, k5⟩
    simp only [T__law_draws, tB__law_draws, fnT]
    have q2 : ¬ (1000000000000000000 : Int) ≤ c := by simpa using q
    simp [p1, q2, r1, m1, o2, k4]

/-! the digits of a number, as signs -/
def dgT (m : Nat) : List Int := (digs m).map fun d => ((48 + d : Nat) : Int)
theorem ord_one (c : Nat) : ordS ⟨#[c]⟩ = some (c : Int) := rfl
theorem chS_num (m : Nat) : chS (Str.ofString (toString ((m : Nat) : Int))) = (digs m).map fun d => (⟨#[48 + d]⟩ : Str) := by
  have h := chD_num m
  have e : chD (Str.ofString (toString ((m : Nat) : Int))) = (chS (Str.ofString (toString ((m : Nat) : Int)))).map D.str := by unfold chD chS; rw [List.map_map]; rfl
  rw [e] at h
  have e2 : ((digs m).map fun d => D.str ⟨#[48 + d]⟩) = ((digs m).map fun d => (⟨#[48 + d]⟩ : Str)).map D.str := by rw [List.map_map]; rfl
  rw [e2] at h
  exact List.map_inj_right (fun a b z => D.str.inj z) |>.mp h
theorem log_ok {m : Nat} (h : m < 2 ^ 1000) : (((m : Nat) : Int)).natAbs.log2 < 1920 := by
  show m.log2 < 1920
  by_cases z : m = 0
  · rw [z]; decide
  · exact (Nat.log2_lt z).mpr (Nat.lt_trans h (by decide +kernel))
theorem digs_rec (m : Nat) : digs m = if m < 10 then [m] else digs (m / 10) ++ [m % 10] := by
  unfold digs
  by_cases h : m < 10
  · rw [if_pos h, Nat.toDigits_of_lt_base h, List.map_cons, List.map_nil, dig_nat m h]; simp
  · rw [if_neg h, Nat.toDigits_of_base_le (by decide) (by omega), List.map_append, List.map_cons, List.map_nil, dig_nat _ (by omega)]; simp
theorem digs_len (m : Nat) : ∀ k, 0 < k → m < 10 ^ k → (digs m).length ≤ k
  | 0, h, _ => by omega
  | 1, _, h => by rw [digs_rec, if_pos (by omega)]; simp
  | k + 2, _, h => by
    rw [digs_rec]
    split
    · simp
    · have := digs_len (m / 10) (k + 1) (by omega) (by rw [Nat.pow_succ] at h; omega)
      rw [List.length_append]; simp; omega
theorem dig_eq (m : Nat) (h : m < 2 ^ 1000) (hl : (digs m).length ≤ 16777216) : T_digits ((m : Int), ()) = some (dgT m) := by
  have lg := log_ok h
  obtain ⟨S, hS⟩ : ∃ S : Str, S = Str.ofString (toString ((m : Nat) : Int)) := ⟨_, rfl⟩
  have si : strI (m : Int) = some S := by rw [hS]; unfold strI; rw [if_pos lg]
  have cs : chS S = (digs m).map fun d => (⟨#[48 + d]⟩ : Str) := by rw [hS]; exact chS_num m
  have e : filtM (tElt (pNm n_digits_1) tYes (t1 ordS (tV n_digits_1)) ((some (m : Int), none, ()) : E_digits)) (chS S) = some (dgT m) := by
    rw [cs]
    have : ∀ ds : List Nat, filtM (tElt (pNm n_digits_1) tYes (t1 ordS (tV n_digits_1)) ((some (m : Int), none, ()) : E_digits)) (ds.map fun d => (⟨#[48 + d]⟩ : Str)) = some (ds.map fun d => ((48 + d : Nat) : Int)) := fun ds => by
      induction ds with
      | nil => rfl
      | cons d ds ih => rw [List.map_cons]; unfold filtM; rw [ih]; simp [ord_one]
    exact this _
  have l2 : (chS S).length ≤ 16777216 := by rw [cs, List.length_map]; exact hl
  simp only [T_digits, tB_digits, tQ_digits_1, fnT]
  simp [-strI, si, l2]
  rw [e]; rfl

/-! kinds of characters -/
def isCtl (c : Int) : Prop := c < 32 ∨ (127 ≤ c ∧ c ≤ 159)
instance {c : Int} : Decidable (isCtl c) := by unfold isCtl; infer_instance
def kd (c : Int) : Str := if isCtl c then "control" else if 192 ≤ c then "wide" else "narrow"
theorem ok_ctl : EncEq.okE ("control" : Str) = true := okE_lit _
theorem ok_wide : EncEq.okE ("wide" : Str) = true := okE_lit _
theorem ok_nar : EncEq.okE ("narrow" : Str) = true := okE_lit _
theorem kd_ok (c : Int) : EncEq.okE (kd c) = true := by
  unfold kd
  split
  · exact ok_ctl
  · split
    · exact ok_wide
    · exact ok_nar
theorem cw_ne : ¬ ("wide" : Str) = ("control" : Str) := by decide
theorem cn_ne : ¬ ("narrow" : Str) = ("control" : Str) := by decide
theorem wn_ne : ¬ ("narrow" : Str) = ("wide" : Str) := by decide
theorem wc_ne : ¬ ("control" : Str) = ("wide" : Str) := by decide
theorem kd_ctl (c : Int) : kd c = ("control" : Str) ↔ isCtl c := by
  unfold kd
  by_cases h : isCtl c
  · simp [h]
  · by_cases h2 : 192 ≤ c <;> simp [h, h2, cw_ne, cn_ne]
theorem kd_wide (c : Int) : kd c = ("wide" : Str) ↔ 192 ≤ c := by
  unfold kd isCtl
  by_cases h : c < 32 ∨ (127 ≤ c ∧ c ≤ 159)
  · simp only [h, if_true]
    exact ⟨fun z => absurd z wc_ne, fun z => by omega⟩
  · by_cases h2 : 192 ≤ c <;> simp [h, h2, wn_ne]
theorem kind_eq (c : Int) : T_kind_of (c, ()) = some (kd c) := by
  simp only [T_kind_of, tB_kind_of, fnT]
  unfold kd isCtl
  by_cases h1 : c < 32
  · simp [h1]
  · by_cases h2 : 127 ≤ c
    · by_cases h3 : c ≤ 159
      · simp [h1, h2, h3]
      · by_cases h4 : 192 ≤ c <;> simp [h1, h2, h3, h4]
    · by_cases h4 : 192 ≤ c
      · omega
      · simp [h1, h2, h4]

theorem width_eq (c : Int) : T_width_of (c, ()) = some (if isCtl c then 0 else if 192 ≤ c then 2 else 1) := by
  have ke := kind_eq c
  have o1 := kd_ok c
  have e1 := kd_ctl c
  have e2 := kd_wide c
  simp only [T_width_of, tB_width_of, fnT]
  generalize kd c = k at *
  by_cases h1 : isCtl c
  · simp [ke, o1, ok_ctl, e1, h1]
  · by_cases h2 : 192 ≤ c <;> simp [ke, o1, ok_ctl, ok_wide, e1, e2, h1, h2]

theorem ctl_test (c : Int) : tB eqT (fun _ : Unit => T_kind_of (c, ())) (tK ("control" : Str)) () = some (decide (isCtl c)) := by
  have e1 := kd_ctl c
  simp [kind_eq, kd_ok, ok_ctl, e1]
theorem prn_eq (row : List Int) : T_is_printable (row, ()) = some (decide (∀ c ∈ row, ¬ isCtl c)) := by
  have lp := forT_exit (β := Bool) (kp := k_is_printable_1) (asg := pNm n_is_printable_1) (body := tL_is_printable_1) (fun _ : Unit => ((none, none, ()) : E_is_printable)) (fun _ c => if isCtl c then .error false else .ok ()) (fun _ _ => True)
    (fun c xs _ _ => by
      have e1 := kd_ctl c
      refine ⟨_, rfl, ?_⟩
      by_cases h : isCtl c
      · simp [h, tL_is_printable_1, kind_eq, kd_ok, ok_ctl, e1]
      · simp [h, tL_is_printable_1, kind_eq, kd_ok, ok_ctl, e1]) row () trivial
  have f : ∀ row : List Int, (row.foldlM (m := Except Bool) (fun _ c => if isCtl c then .error false else .ok ()) ()) = if (∀ c ∈ row, ¬ isCtl c) then .ok () else .error false := fun row => by
    induction row with
    | nil => rfl
    | cons c r ih =>
      rw [List.foldlM_cons]
      by_cases h : isCtl c
      · simp [h]; rfl
      · simp only [h, if_false]
        show List.foldlM _ () r = _
        rw [ih]; simp [h]
  rw [f] at lp
  simp only [T_is_printable, tB_is_printable, fnT]
  by_cases h : ∀ c ∈ row, ¬ isCtl c
  · rw [if_pos h] at lp
    rw [decide_eq_true h]
    simp [lp]
  · rw [if_neg h] at lp
    simp only [decide_eq_false h]
    simp [lp]

theorem prn1_eq (row : List Int) : T_is_printable_v1 (⟨row⟩, ()) = some (decide (∀ c ∈ row, ¬ isCtl c)) := by
  have lp := forT_exit (β := Bool) (kp := k_is_printable_v1_1) (asg := pNm n_is_printable_v1_1) (body := tL_is_printable_1_v1) (fun _ : Unit => ((none, none, ()) : E_is_printable_v1)) (fun _ c => if isCtl c then .error false else .ok ()) (fun _ _ => True)
    (fun c xs _ _ => by
      have e1 := kd_ctl c
      refine ⟨_, rfl, ?_⟩
      by_cases h : isCtl c
      · simp [h, tL_is_printable_1_v1, kind_eq, kd_ok, ok_ctl, e1]
      · simp [h, tL_is_printable_1_v1, kind_eq, kd_ok, ok_ctl, e1]) row () trivial
  have f : ∀ row : List Int, (row.foldlM (m := Except Bool) (fun _ c => if isCtl c then .error false else .ok ()) ()) = if (∀ c ∈ row, ¬ isCtl c) then .ok () else .error false := fun row => by
    induction row with
    | nil => rfl
    | cons c r ih =>
      rw [List.foldlM_cons]
      by_cases h : isCtl c
      · simp [h]; rfl
      · simp only [h, if_false]
        show List.foldlM _ () r = _
        rw [ih]; simp [h]
  rw [f] at lp
  simp only [T_is_printable_v1, tB_is_printable_v1, fnT]
  by_cases h : ∀ c ∈ row, ¬ isCtl c
  · rw [if_pos h] at lp
    rw [decide_eq_true h]
    simp [lp]
  · rw [if_neg h] at lp
    simp only [decide_eq_false h]
    simp [lp]

/-! the law k38 -/
theorem lkind_eq (c : Int) (h0 : 0 ≤ c) (h1 : c < 256) : T__law_kind (c, ()) = some (kd c) := by
  simp only [T__law_kind, tB__law_kind, fnT]
  unfold kd isCtl
  by_cases a : c < 32
  · simp [a, h0]
  · by_cases b : 127 ≤ c
    · by_cases d : c ≤ 159
      · have : c < 160 := by omega
        simp [a, b, d, this]
      · have : ¬ c < 160 := by omega
        by_cases w : 192 ≤ c <;> simp [a, b, d, this, w, h1]
    · have : ¬ 192 ≤ c := by omega
      simp [a, b, this]
theorem width_law (c : Int) : tDG (E := Unit) (dCons (tK ("control" : Str)) (tK (0 : Int)) (dCons (tK ("narrow" : Str)) (tK (1 : Int)) (dCons (tK ("wide" : Str)) (tK (2 : Int)) dNil))) (fun _ => some (kd c)) () = some (if isCtl c then 0 else if 192 ≤ c then 2 else 1) := by
  have m : mergeT [] [(("control" : Str), (0 : Int)), ("narrow", 1), ("wide", 2)] = [(("control" : Str), (0 : Int)), ("narrow", 1), ("wide", 2)] := by decide
  have n1 : ¬ ("control" : Str) = ("narrow" : Str) := by decide
  have n2 : ¬ ("control" : Str) = ("wide" : Str) := by decide
  have n3 : ¬ ("narrow" : Str) = ("wide" : Str) := by decide
  simp [m]
  unfold kd
  by_cases h1 : isCtl c
  · simp [h1]
  · by_cases h2 : 192 ≤ c
    · simp [h1, h2, n2, n3]
    · simp [h1, h2, n1]
/-! codes of a joined row of signs -/
theorem glue_one : ∀ cs : List Nat, (Str.join ⟨#[]⟩ (cs.map fun c => (⟨#[c]⟩ : Str))).cps.toList = cs
  | [] => rfl
  | [c] => rfl
  | c :: d :: r => by
    have ih := glue_one (d :: r)
    show ((⟨#[c]⟩ : Str) ++ ⟨#[]⟩ ++ Str.join ⟨#[]⟩ ((d :: r).map fun c => (⟨#[c]⟩ : Str))).cps.toList = _
    have : ∀ a b : Str, (a ++ b).cps.toList = a.cps.toList ++ b.cps.toList := fun a b => by
      show (a.cps ++ b.cps).toList = _
      simp
    rw [this, this, ih]; rfl
theorem join_one (cs : List Nat) (h : cs.length ≤ 1000) : ∃ S : Str, joinT ("" : Str) (cs.map fun c => (⟨#[c]⟩ : Str)) = some S ∧ chS S = cs.map fun c => (⟨#[c]⟩ : Str) := by
  refine ⟨Txt.join "" (cs.map fun c => (⟨#[c]⟩ : Str)), ?_, ?_⟩
  · have l : ((cs.map fun c => (⟨#[c]⟩ : Str)).map (·.length)).sum = cs.length := by
      rw [List.map_map]
      clear h
      induction cs with
      | nil => rfl
      | cons c cs ih => rw [List.map_cons, List.sum_cons, ih, List.length_cons]; show 1 + _ = _; omega
    have z : Str.length ("" : Str) = 0 := rfl
    unfold joinT
    rw [if_pos (by rw [l, z]; omega)]
  · have e : Txt.join "" (cs.map fun c => (⟨#[c]⟩ : Str)) = Str.join ⟨#[]⟩ (cs.map fun c => (⟨#[c]⟩ : Str)) := StrLaws.glued_eq_join _ _
    unfold chS
    rw [e, glue_one]
theorem codes_one (S : Str) (cs : List Nat) (h : chS S = cs.map fun c => (⟨#[c]⟩ : Str)) (hl : cs.length ≤ 1000) : T_codes (S, ()) = some (cs.map Int.ofNat) := by
  have e : filtM (tElt (pNm n_codes_1) tYes (t1 ordS (tV n_codes_1)) ((some S, none, ()) : E_codes)) (cs.map fun c => (⟨#[c]⟩ : Str)) = some (cs.map Int.ofNat) := by
    clear h hl
    induction cs with
    | nil => rfl
    | cons d ds ih => rw [List.map_cons]; unfold filtM; rw [ih]; simp [ord_one]
  have l2 : cs.length ≤ 16777216 := by omega
  simp only [T_codes, tB_codes, tQ_codes_1, fnT]
  simp [h, l2]
  rw [e]; rfl

theorem atI_6 {α : Type} {a b c d e f g : α} {xs : List α} : L2.atI (a :: b :: c :: d :: e :: f :: g :: xs) 6 = some g := by rw [at_nat (by omega)]; rfl
theorem atI_7 {α : Type} {a b c d e f g h : α} {xs : List α} : L2.atI (a :: b :: c :: d :: e :: f :: g :: h :: xs) 7 = some h := by rw [at_nat (by omega)]; rfl
theorem atI_8 {α : Type} {a b c d e f g h i : α} {xs : List α} : L2.atI (a :: b :: c :: d :: e :: f :: g :: h :: i :: xs) 8 = some i := by rw [at_nat (by omega)]; rfl
theorem pick11 (r : Int) (h0 : 0 ≤ r) (h1 : r < 11) : ∃ ch : Int, L2.atI [0, 31, 32, 126, 127, 128, 159, 160, 191, 192, 255] r = some ch ∧ 0 ≤ ch ∧ ch < 256 := by
  rcases (by omega : r = 0 ∨ r = 1 ∨ r = 2 ∨ r = 3 ∨ r = 4 ∨ r = 5 ∨ r = 6 ∨ r = 7 ∨ r = 8 ∨ r = 9 ∨ r = 10) with h | h | h | h | h | h | h | h | h | h | h <;> subst h <;> exact ⟨_, rfl, by decide, by decide⟩
theorem pick3 (r : Int) (h0 : 0 ≤ r) (h1 : r < 3) : ∃ m : Int, L2.atI [1, 1000, 1000000000] r = some m ∧ 0 ≤ m ∧ m ≤ 1000000000 := by
  rcases (by omega : r = 0 ∨ r = 1 ∨ r = 2) with h | h | h <;> subst h <;> exact ⟨_, rfl, by decide, by decide⟩
def sgs : Str := " abcXYZ019~[;Hm?-_=+"
theorem sg_at (p : Int) (h0 : 0 ≤ p) (h1 : p < 20) : ∃ c : Nat, ixS sgs p = some ⟨#[c]⟩ := by
  have l : sgs.length ≤ sizeLine := by rw [sizeLine_eq]; decide
  have e : sgs.cps.toList.length = 20 := by decide
  unfold ixS
  rw [if_pos l, at_nat h0, List.getElem?_eq_getElem (by omega)]
  exact ⟨_, rfl⟩
def sgc (p : Int) : Nat := (sgs.cps.toList[p.toNat]?).getD 0
theorem sg_c (p : Int) (h0 : 0 ≤ p) (h1 : p < 20) : ixS sgs p = some ⟨#[sgc p]⟩ := by
  have l : sgs.length ≤ sizeLine := by rw [sizeLine_eq]; decide
  have e : sgs.cps.toList.length = 20 := by decide
  unfold ixS sgc
  rw [if_pos l, at_nat h0, List.getElem?_eq_getElem (by omega)]; rfl

/-! the number's digits, by the law -/
abbrev kmD : E_law → E_law := k_law_1
theorem due_loop (sg : Str) (ds : List Int) (num : Int) : ∀ (k t : Nat) (m : Nat) (due : List Int), due.length + k ≤ 1000 → t + k = 20 → m < 10 ^ k → ∃ rest, forT (kmD) (pNm n_law_11) tL_law_1 ((List.range' t k).map fun (i : Nat) => (0 : Int) + i)
    ((none, some sg, none, some ds, none, none, none, none, some num, some due, some (m : Int), none, none, none, none, none, none, ()) : E_law) =
    some (.nx (none, some sg, none, some ds, none, none, none, none, some num, some ((if 0 < m ∨ (t = 0 ∧ 0 < k) then dgT m else []) ++ due), some rest, none, none, none, none, none, none, ()))
  | 0, t, m, due, _, _, hm => by
    have : m = 0 := by omega
    subst this
    exact ⟨0, by simp [show ¬ (0 < 0 ∨ (t = 0 ∧ 0 < 0)) by omega]⟩
  | k + 1, t, m, due, hl, ht, hm => by
    have d1 : bDiv (m : Int) 10 = true := rfl
    have o1 : bMod (m : Int) 10 = true := rfl
    have hz : due.length + 1 ≤ 16777216 := by omega
    have hz2 : 1 + due.length ≤ 16777216 := by omega
    have e1 : (m : Int) / 10 = ((m / 10 : Nat) : Int) := by omega
    have e2 : 48 + (m : Int) % 10 = ((48 + m % 10 : Nat) : Int) := by omega
    have hm2 : m / 10 < 10 ^ k := by rw [Nat.pow_succ] at hm; omega
    rw [List.range'_succ, List.map_cons]
    unfold forT
    by_cases c : 0 < m ∨ t = 0
    · have step : tL_law_1 ((none, some sg, none, some ds, none, none, none, none, some num, some due, some (m : Int), some (0 + (t : Int)), none, none, none, none, none, ()) : E_law) =
          some (.nx (none, some sg, none, some ds, none, none, none, none, some num, some (((48 + m % 10 : Nat) : Int) :: due), some ((m / 10 : Nat) : Int), some (0 + (t : Int)), none, none, none, none, none, ())) := by
        by_cases c2 : 0 < m
        · have c3 : (0 : Int) < m := by omega
          simp [tL_law_1, c2, d1, o1, hz2]
        · have : t = 0 := by omega
          have m0 : m = 0 := by omega
          subst this; subst m0
          have d2 : bDiv 0 10 = true := rfl
          have o2 : bMod 0 10 = true := rfl
          show tL_law_1 ((none, some sg, none, some ds, none, none, none, none, some num, some due, some (0 : Int), some (0 : Int), none, none, none, none, none, ()) : E_law) =
            some (.nx (none, some sg, none, some ds, none, none, none, none, some num, some ((48 : Int) :: due), some (0 : Int), some (0 : Int), none, none, none, none, none, ()))
          simp [tL_law_1, d2, o2, hz2]
      obtain ⟨rest, ih⟩ := due_loop sg ds num k (t + 1) (m / 10) (((48 + m % 10 : Nat) : Int) :: due) (by simp; omega) (by omega) hm2
      refine ⟨rest, ?_⟩
      show (tL_law_1 ((none, some sg, none, some ds, none, none, none, none, some num, some due, some (m : Int), some (0 + (t : Int)), none, none, none, none, none, ()) : E_law)).bind _ = _
      rw [step]
      show forT _ _ _ _ (kmD _) = _
      have k1 : kmD ((none, some sg, none, some ds, none, none, none, none, some num, some (((48 + m % 10 : Nat) : Int) :: due), some ((m / 10 : Nat) : Int), some (0 + (t : Int)), none, none, none, none, none, ()) : E_law) =
        (none, some sg, none, some ds, none, none, none, none, some num, some (((48 + m % 10 : Nat) : Int) :: due), some ((m / 10 : Nat) : Int), none, none, none, none, none, none, ()) := rfl
      rw [k1, ih]
      have fin : (if 0 < m / 10 ∨ (t + 1 = 0 ∧ 0 < k) then dgT (m / 10) else []) ++ (((48 + m % 10 : Nat) : Int) :: due) = (if 0 < m ∨ (t = 0 ∧ 0 < k + 1) then dgT m else []) ++ due := by
        rw [if_pos (show 0 < m ∨ (t = 0 ∧ 0 < k + 1) by omega)]
        have dm : dgT m = (if 0 < m / 10 then dgT (m / 10) else []) ++ [((48 + m % 10 : Nat) : Int)] := by
          unfold dgT
          rw [digs_rec m]
          by_cases s : m < 10
          · rw [if_pos s, if_neg (by omega)]
            have : m % 10 = m := by omega
            simp [this]
          · rw [if_neg s, if_pos (by omega)]; simp
        rw [dm]
        by_cases s : 0 < m / 10
        · rw [if_pos (.inl s), if_pos s]; simp
        · rw [if_neg (by omega), if_neg s]; simp
      rw [fin]
    · have m0 : m = 0 := by omega
      subst m0
      have t0 : ¬ ((0 : Int) + t = 0) := by omega
      have t1 : ¬ t = 0 := by omega
      obtain ⟨rest, ih⟩ := due_loop sg ds num k (t + 1) 0 due (by omega) (by omega) (Nat.pow_pos (by decide))
      refine ⟨rest, ?_⟩
      have step : tL_law_1 ((none, some sg, none, some ds, none, none, none, none, some num, some due, some ((0 : Nat) : Int), some (0 + (t : Int)), none, none, none, none, none, ()) : E_law) =
          some (.nx (none, some sg, none, some ds, none, none, none, none, some num, some due, some ((0 : Nat) : Int), some (0 + (t : Int)), none, none, none, none, none, ())) := by
        simp [tL_law_1, t1]
      show (tL_law_1 ((none, some sg, none, some ds, none, none, none, none, some num, some due, some ((0 : Nat) : Int), some (0 + (t : Int)), none, none, none, none, none, ()) : E_law)).bind _ = _
      rw [step]
      show forT _ _ _ _ ((none, some sg, none, some ds, none, none, none, none, some num, some due, some ((0 : Nat) : Int), none, none, none, none, none, none, ()) : E_law) = _
      rw [ih, if_neg (by omega), if_neg (by omega)]

/-! the law -/
theorem q1_any (e : E_law) (xs : List Int) : filtM (tElt (pNm n_law_14) TL.tYes (TL.tB modI (tV n_law_14) (tK (256 : Int))) e) xs = some (xs.map (· % 256)) := filtM_map fun x _ => by
  have : bMod x 256 = true := rfl
  simp [this]
theorem q3_any (e : E_law) (he : e.2.1 = some sgs) (xs : List Int) : filtM (tElt (pNm n_law_14) TL.tYes (TL.tB modI (tV n_law_14) (t1 lenS (tV n_law_1))) e) xs = some (xs.map (· % 20)) := filtM_map fun x _ => by
  have l : sgs.length ≤ sizeLine := by rw [sizeLine_eq]; decide
  have n : (sgs.length : Int) = 20 := by decide
  have : bMod x 20 = true := rfl
  simp [he, l, n, this]
theorem q4_any (e : E_law) (he : e.2.1 = some sgs) (xs : List Int) (hx : ∀ x ∈ xs, 0 ≤ x ∧ x < 20) : filtM (tElt (pNm n_law_16) TL.tYes (TL.tB ixS (tV n_law_1) (tV n_law_16)) e) xs = some (xs.map fun p => (⟨#[sgc p]⟩ : Str)) := filtM_map fun x hm => by
  have := sg_c x (hx x hm).1 (hx x hm).2
  simp [he, this]
theorem q5_any (e : E_law) (he : e.2.1 = some sgs) (xs : List Int) (hx : ∀ x ∈ xs, 0 ≤ x ∧ x < 20) : filtM (tElt (pNm n_law_16) TL.tYes (t1 ordS (TL.tB ixS (tV n_law_1) (tV n_law_16))) e) xs = some (xs.map fun p => Int.ofNat (sgc p)) := filtM_map fun x hm => by
  have := sg_c x (hx x hm).1 (hx x hm).2
  simp [he, this, ord_one]
theorem q2_any (e : E_law) (xs : List Int) (hx : ∀ x ∈ xs, 0 ≤ x ∧ x < 256) : filtM (tElt (pNm n_law_15) (TL.tB TL.eqT (TL.tCall T__law_kind (pCons (tV n_law_15) pNil)) (tK ("control" : Str))) (tV n_law_15) e) xs = some (xs.filter fun c => decide (isCtl c)) := by
  have := filtM_filter (f := tElt (pNm n_law_15) (TL.tB TL.eqT (TL.tCall T__law_kind (pCons (tV n_law_15) pNil)) (tK ("control" : Str))) (tV n_law_15) e) (p := fun c => decide (isCtl c)) (h := id) (xs := xs) fun x hm => by
    have k := lkind_eq x (hx x hm).1 (hx x hm).2
    have e1 := kd_ctl x
    by_cases h : isCtl x
    · simp [k, kd_ok, ok_ctl, e1, h]
    · simp [k, kd_ok, ok_ctl, e1, h]
  simpa using this
theorem fil_nil (xs : List Int) : (xs.filter fun c => decide (isCtl c)) = [] ↔ ∀ c ∈ xs, ¬ isCtl c := by
  rw [List.filter_eq_nil_iff]
  simp



theorem st12 (m : Nat) (hm : m < 10 ^ 20) (rest : Int) (d0 d1 d2 d3 d4 d5 d6 d7 d8 : Int) : ∃ e2, tR_law_2_12 ((none, some sgs, none, some [d0, d1, d2, d3, d4, d5, d6, d7, d8], none, none, none, none, some (m : Int), some (dgT m), some rest, none, none, none, none, none, none, ()) : E_law) = some (.nx e2) ∧ e2.2.1 = some sgs := by
  have dg := dig_eq m (Nat.lt_trans hm (by decide)) (by have := digs_len m 20 (by decide) hm; omega)
  have o7 : bMod d1 7 = true := rfl
  obtain ⟨xs, hx⟩ : ∃ xs, xs = cutL [d0, d1, d2, d3, d4, d5, d6, d7, d8] none (some (d1 % 7)) := ⟨_, rfl⟩
  have hl : xs.length ≤ 9 := by rw [hx]; exact cutL_len
  have hl2 : xs.length ≤ 16777216 := by omega
  have pr : ∀ x ∈ xs.map (· % 20), 0 ≤ x ∧ x < 20 := fun x h => by
    obtain ⟨y, _, rfl⟩ := List.mem_map.mp h
    omega
  obtain ⟨S, h1, h2⟩ := join_one ((xs.map (· % 20)).map sgc) (by simp; omega)
  have h3 := codes_one S _ h2 (by simp; omega)
  rw [List.map_map] at h1
  rw [List.map_map] at h3
  have h1 : joinT ("" : Str) ((xs.map (· % 20)).map fun p => (⟨#[sgc p]⟩ : Str)) = some S := h1
  have h3 : T_codes (S, ()) = some ((xs.map (· % 20)).map fun p => Int.ofNat (sgc p)) := h3
  have q3 := fun e he => q3_any e he xs
  have q4 := fun e he => q4_any e he (xs.map (· % 20)) pr
  have q5 := fun e he => q5_any e he (xs.map (· % 20)) pr
  have lp : (xs.map (· % 20)).length ≤ 16777216 := by rw [List.length_map]; exact hl2
  generalize xs.map (· % 20) = ps at *
  refine ⟨(none, some sgs, none, some [d0, d1, d2, d3, d4, d5, d6, d7, d8], none, none, none, none, some (m : Int), some (dgT m), some rest, none, some ps, some S, none, none, none, ()), ?_, rfl⟩
  simp -implicitDefEqProofs [tR_law_2_12, tR_law_2_13, tR_law_2_14, tR_law_2_15, tQ_law_3, tQ_law_4, tQ_law_5, -joinT, dg, o7, ← hx, hl2, lp, q3, q4, q5, h1, h3]

theorem due_eq (ds : List Int) (m : Nat) (hm : m < 10 ^ 20) : ∃ rest, forT (kmD) (pNm n_law_11) tL_law_1 (rgT 0 20) ((none, some sgs, none, some ds, none, none, none, none, some (m : Int), some [], some (m : Int), none, none, none, none, none, none, ()) : E_law) =
    some (.nx (none, some sgs, none, some ds, none, none, none, none, some (m : Int), some (dgT m), some rest, none, none, none, none, none, none, ())) := by
  obtain ⟨rest, h⟩ := due_loop sgs ds (m : Int) 20 0 m [] (by simp) (by omega) hm
  refine ⟨rest, ?_⟩
  rw [if_pos (by omega), List.append_nil] at h
  exact h
theorem st8 (x2 : Option Int) (x4 : Option Int) (x5 : Option Str) (x6 : Option (List Int)) (x7 : Option Bool) (d0 d1 d2 d3 d4 d5 d6 d7 d8 : Int) (h6 : 0 ≤ d6 ∧ d6 < 1000) (h7 : 0 ≤ d7 ∧ d7 < 1000) (h8 : 0 ≤ d8 ∧ d8 < 1000) : ∃ e2, tR_law_2_8 ((none, some sgs, x2, some [d0, d1, d2, d3, d4, d5, d6, d7, d8], x4, x5, x6, x7, none, none, none, none, none, none, none, none, none, ()) : E_law) = some (.nx e2) ∧ e2.2.1 = some sgs := by
  obtain ⟨f, p1, p2, p3⟩ := pick3 (d7 % 3) (by omega) (by omega)
  have o3 : bMod d7 3 = true := rfl
  have w9 : bPow 10 9 = true := by decide
  have mm : sm64 d6 = true := by unfold sm64; simp; omega
  have fd : 0 ≤ d6 * f ∧ d6 * f ≤ 1000 * 1000000000 := ⟨Int.mul_nonneg h6.1 p2, Int.mul_le_mul (by omega) p3 p2 (by decide)⟩
  obtain ⟨m, hm⟩ : ∃ m : Nat, d6 * f + d8 = (m : Int) := ⟨(d6 * f + d8).toNat, by omega⟩
  have hm2 : m < 10 ^ 20 := by have : (10 : Nat) ^ 20 = 100000000000000000000 := by decide
                               omega
  obtain ⟨rest, dl⟩ := due_eq [d0, d1, d2, d3, d4, d5, d6, d7, d8] m hm2
  obtain ⟨e2, s1, s2⟩ := st12 m hm2 rest d0 d1 d2 d3 d4 d5 d6 d7 d8
  have r20 : rgB 20 = true := by decide
  refine ⟨e2, ?_, s2⟩
  unfold kmD at dl
  simp -implicitDefEqProofs [tR_law_2_8, tR_law_2_9, tR_law_2_10, tR_law_2_11, atI_6, atI_7, atI_8, o3, w9, p1, mm, hm, r20, dl, s1]
theorem st5 (x2 : Option Int) (ch : Int) (h0 : 0 ≤ ch) (h1 : ch < 256) (d0 d1 d2 d3 d4 d5 d6 d7 d8 : Int) (h6 : 0 ≤ d6 ∧ d6 < 1000) (h7 : 0 ≤ d7 ∧ d7 < 1000) (h8 : 0 ≤ d8 ∧ d8 < 1000) : ∃ e2, tR_law_2_5 ((none, some sgs, x2, some [d0, d1, d2, d3, d4, d5, d6, d7, d8], some ch, some (kd ch), none, none, none, none, none, none, none, none, none, none, none, ()) : E_law) = some (.nx e2) ∧ e2.2.1 = some sgs := by
  obtain ⟨xs, hx⟩ : ∃ xs, xs = cutL [d0, d1, d2, d3, d4, d5, d6, d7, d8] (some 2) (some (3 + d1 % 4)) := ⟨_, rfl⟩
  have hl : xs.length ≤ 9 := by rw [hx]; exact cutL_len
  have hl2 : xs.length ≤ 16777216 := by omega
  have hl3 : xs.length ≤ 16777215 := by omega
  have o4 : bMod d1 4 = true := rfl
  have q1 := fun e => q1_any e xs
  obtain ⟨row, hrow⟩ : ∃ row, row = xs.map (· % 256) ++ [ch] := ⟨_, rfl⟩
  have hrl : row.length ≤ 10 := by rw [hrow]; simp; omega
  have hrl2 : row.length ≤ 16777216 := by omega
  have rr : ∀ x ∈ row, 0 ≤ x ∧ x < 256 := fun x h => by
    rw [hrow] at h
    rcases List.mem_append.mp h with q | q
    · obtain ⟨y, _, rfl⟩ := List.mem_map.mp q; omega
    · rw [List.mem_singleton.mp q]; exact ⟨h0, h1⟩
  have cat : (xs.map (· % 256)).length + 1 ≤ 16777216 := by rw [List.length_map]; omega
  have q2 := fun e => q2_any e row rr
  have last : cutL row (some (-1)) none = [ch] := by
    have := cutL_last (xs := row) 1 (by decide)
    rw [show (some (-1) : Option Int) = some (-((1 : Nat) : Int)) from rfl, this, hrow]; simp
  have pr := prn_eq row
  have pr1 := prn1_eq [ch]
  have pr0 := prn_eq []
  have fn := fil_nil row
  have kc := kd_ctl ch
  have ko := kd_ok ch
  obtain ⟨e2, s1, s2⟩ := st8 x2 (some ch) (some (kd ch)) (some row) (some (decide (∀ c ∈ row, ¬ isCtl c))) d0 d1 d2 d3 d4 d5 d6 d7 d8 h6 h7 h8
  refine ⟨e2, ?_, s2⟩
  have cln : decide ((row.filter fun c => decide (isCtl c)) = []) = decide (∀ c ∈ row, ¬ isCtl c) := by rw [decide_eq_decide]; exact fn
  unfold tR_law_2_5 tR_law_2_6 tR_law_2_7 tQ_law_1 tQ_law_2
  generalize hF : (row.filter fun c => decide (isCtl c)) = F at *
  have fo : (F.all EncEq.okE) = true := by simp
  have s1' := s1
  generalize decide (∀ c ∈ row, ¬ isCtl c) = b at *
  have p1 : decide (∀ c ∈ [ch], ¬ isCtl c) = !decide (isCtl ch) := by simp
  rw [p1] at pr1
  have p0 : decide (∀ c ∈ ([] : List Int), ¬ isCtl c) = true := by simp
  rw [p0] at pr0
  by_cases hc : isCtl ch
  · simp -implicitDefEqProofs [o4, ← hx, hl2, hl3, q1, cat, ← hrow, hrl2, q2, cln, pr, pr0, pr1, last, ko, ok_ctl, kc, hc, s1]
  · simp -implicitDefEqProofs [o4, ← hx, hl2, hl3, q1, cat, ← hrow, hrl2, q2, cln, pr, pr0, pr1, last, ko, ok_ctl, kc, hc, s1]

theorem wlaw (e : E_law) (ch : Int) (he : e.2.2.2.2.2.1 = some (kd ch)) : tDG (dCons (tK ("control" : Str)) (tK (0 : Int)) (dCons (tK ("narrow" : Str)) (tK (1 : Int)) (dCons (tK ("wide" : Str)) (tK (2 : Int)) dNil))) (tV n_law_5) e = some (if isCtl ch then 0 else if 192 ≤ ch then 2 else 1) := by
  have h := width_law ch
  rw [← h]
  unfold tDG
  simp only [tV, get_tl, get_hd, he]
  rfl
theorem st3 (x2 : Option Int) (ch : Int) (h0 : 0 ≤ ch) (h1 : ch < 256) (d0 d1 d2 d3 d4 d5 d6 d7 d8 : Int) (h6 : 0 ≤ d6 ∧ d6 < 1000) (h7 : 0 ≤ d7 ∧ d7 < 1000) (h8 : 0 ≤ d8 ∧ d8 < 1000) : ∃ e2, tR_law_2_3 ((none, some sgs, x2, some [d0, d1, d2, d3, d4, d5, d6, d7, d8], some ch, none, none, none, none, none, none, none, none, none, none, none, none, ()) : E_law) = some (.nx e2) ∧ e2.2.1 = some sgs := by
  obtain ⟨e2, s1, s2⟩ := st5 x2 ch h0 h1 d0 d1 d2 d3 d4 d5 d6 d7 d8 h6 h7 h8
  have k1 := kind_eq ch
  have k2 := lkind_eq ch h0 h1
  have wd := width_eq ch
  have ko := kd_ok ch
  have w2 := fun e he => wlaw e ch he
  refine ⟨e2, ?_, s2⟩
  unfold tR_law_2_3 tR_law_2_4
  generalize (if isCtl ch then (0 : Int) else if 192 ≤ ch then 2 else 1) = w at *
  simp -implicitDefEqProofs [-tDG, k1, k2, wd, ko, w2, s1]
theorem step (c : Int) : ∃ e2, tL_law_2 ((none, some sgs, some c, none, none, none, none, none, none, none, none, none, none, none, none, none, none, ()) : E_law) = some (.nx e2) ∧ e2.2.1 = some sgs := by
  obtain ⟨ds, hd, hl, hr⟩ := draws_ok c 9 (by decide) (by decide)
  have hl : ds.length = 9 := hl
  match ds, hl with
  | [d0, d1, d2, d3, d4, d5, d6, d7, d8], _ =>
    have r0 := hr d0 (by simp)
    have r6 := hr d6 (by simp)
    have r7 := hr d7 (by simp)
    have r8 := hr d8 (by simp)
    have o2 : bMod d1 2 = true := rfl
    have o1 : bMod d0 256 = true := rfl
    have o11 : bMod d0 11 = true := rfl
    by_cases c2 : d1 % 2 = 0
    · obtain ⟨ch, p1, p2, p3⟩ := pick11 (d0 % 11) (by omega) (by omega)
      obtain ⟨e2, s1, s2⟩ := st3 (some c) ch p2 p3 d0 d1 d2 d3 d4 d5 d6 d7 d8 r6 r7 r8
      exact ⟨e2, by simp -implicitDefEqProofs [tL_law_2, tR_law_2_1, tR_law_2_2, hd, o1, o2, o11, c2, p1, s1], s2⟩
    · obtain ⟨e2, s1, s2⟩ := st3 (some c) (d0 % 256) (by omega) (by omega) d0 d1 d2 d3 d4 d5 d6 d7 d8 r6 r7 r8
      exact ⟨e2, by simp -implicitDefEqProofs [tL_law_2, tR_law_2_1, tR_law_2_2, hd, o1, o2, c2, s1], s2⟩
theorem law_t (ns : List Int) : T_law (⟨ns⟩, ()) = some true := by
  obtain ⟨e', h1, h2⟩ := forT_inv (kp := k_law_2) (asg := pNm n_law_2) (body := tL_law_2)
    (fun _ e => e = ((none, some sgs, none, none, none, none, none, none, none, none, none, none, none, none, none, none, none, ()) : E_law))
    (fun x xs e he => by
      subst he
      obtain ⟨e2, s1, s2⟩ := step x
      refine ⟨_, rfl, e2, .inl s1, ?_⟩
      show ((none, e2.2.1, none, none, none, none, none, none, none, none, none, none, none, none, none, none, none, ()) : E_law) = _
      rw [s2]) ns _ rfl
  have h1 : forT k_law_2 (pNm n_law_2) tL_law_2 ns ((none, some (" abcXYZ019~[;Hm?-_=+" : Str), none, none, none, none, none, none, none, none, none, none, none, none, none, none, none, ()) : E_law) = some (.nx e') := h1
  simp -implicitDefEqProofs [T_law, tB_law, h1]
theorem law_true : ∀ ns : List Int, ns.length ≤ 63 → ∃ M, F_law [.scr ns] [] = some (.val (.bl true), M) := law_of tok_law fun ns _ => law_t ns

end K38
namespace K38
open PySem PySem.Spec PyProof.Rows L2 CI
def top (i : Nat) : Stmt := PySem.Challenge.pw_fardesk_k38_screens_characters.main.body.getD i (.Pass ⟨0, 0, 0, 0⟩)
abbrev s_codes : Stmt := top 1
def d_codes : He.DefD := ⟨("codes", none), "codes", "codes", defArgs s_codes, defBody s_codes, defScope s_codes, [], []⟩
abbrev s_kind_of : Stmt := top 2
def d_kind_of : He.DefD := ⟨("kind_of", none), "kind_of", "kind_of", defArgs s_kind_of, defBody s_kind_of, defScope s_kind_of, [], []⟩
abbrev s_width_of : Stmt := top 3
def d_width_of : He.DefD := ⟨("width_of", none), "width_of", "width_of", defArgs s_width_of, defBody s_width_of, defScope s_width_of, [], []⟩
abbrev s_is_printable : Stmt := top 4
def d_is_printable : He.DefD := ⟨("is_printable", none), "is_printable", "is_printable", defArgs s_is_printable, defBody s_is_printable, defScope s_is_printable, [], []⟩
abbrev s_digits : Stmt := top 5
def d_digits : He.DefD := ⟨("digits", none), "digits", "digits", defArgs s_digits, defBody s_digits, defScope s_digits, [], []⟩
abbrev s__law_draws : Stmt := top 8
def d__law_draws : He.DefD := ⟨("_law_draws", none), "_law_draws", "_law_draws", defArgs s__law_draws, defBody s__law_draws, defScope s__law_draws, [], []⟩
abbrev s__law_kind : Stmt := top 9
def d__law_kind : He.DefD := ⟨("_law_kind", none), "_law_kind", "_law_kind", defArgs s__law_kind, defBody s__law_kind, defScope s__law_kind, [], []⟩
abbrev s_law : Stmt := top 10
def d_law : He.DefD := ⟨("law", none), "law", "law", defArgs s_law, defBody s_law, defScope s_law, [], []⟩
def fn : List He.DefD := [d_codes, d_kind_of, d_width_of, d_is_printable, d_digits, d__law_draws, d__law_kind, d_law]
def fa : List He.Fa := ([.glo "codes", .glo "kind_of", .glo "width_of", .glo "is_printable", .glo "digits", .glo "_law_cell", .glo "_law_draws", .glo "_law_kind", .glo "law", .free "len", .free "int", .free "tuple", .free "str", .free "ord", .free "range"] : List He.Fa)
theorem sc__law_draws : FnScope ["_law_cell_here", "_law_many", "_law_rows", "_law_rest", "_law_state", "_law_k"] ["_law_cell_here", "_law_many"] (defScope s__law_draws) := ⟨rfl, rfl, rfl, by decide +kernel, rfl, by decide +kernel, by decide +kernel⟩
theorem ok__law_draws {P : Program} {w : World} {K : PySem.W.Frag} {h : Heap} {mg : Str → Option Value} {base : Heap} (KX : K.In h) (G : h.Ns mainGlobals mg) (c : He.SaysD fa fn K) {fd : FuncData} (FD : FunD K "_law_draws" "_law_draws" (defArgs s__law_draws) (defBody s__law_draws) (defScope s__law_draws) [] [] (He.fAd K ("_law_draws", none)) fd) : FnOk P w K mg base CX0 1 (He.fAd K ("_law_draws", none)) fd ["_law_cell_here", "_law_many"] (spF K F__law_draws) := by
  unfold F__law_draws
  exact fnK_ok FD sc__law_draws fun cdv A outer s H E hr => by
    unfold B__law_draws
    unfold L__law_draws_2 L__law_draws_1
    exact (cb_cons (cs_setM (ps_set (i := 2) sc__law_draws.nd rfl (by first | exact Or.inl rfl | exact Or.inr rfl) (ce_lst ca_nil)))
    (cb_cons (cs_set (ps_set (i := 3) sc__law_draws.nd rfl (by first | exact Or.inl rfl | exact Or.inr rfl) (ce_callTy ok_int (by rfl) (He.free_ok KX G (c.fact 10 rfl)) (by decide +kernel) (ca_cons (ce_var (pv 0)) ca_nil))))
    (cb_cons (cs_if (ct_cmp ok_ge (ce_var (pv 3)) (ce_bin ok_pow ce_int ce_int) (nomark _))
    (cb_one (cs_forK PassesOwn.never rfl (ci_rg1 (by rfl) (He.free_ok KX G (c.fact 14 rfl)) (ce_var (pv 1))) (cg_of (pg_name (i := 5) sc__law_draws.nd rfl (by first | exact Or.inl rfl | exact Or.inr rfl)))
    (cb_one (cs_if (ct_cmp ok_gt (ce_var (pv 3)) ce_int (nomark _))
    (cb_cons (cs_expr (ce_bm PySem.F.plainAttrs_list PySem.F.slot_list_append PySem.F.type_list_append ok_append (ce_var (pv 2)) (ca_cons (ce_bin ok_mod (ce_callTy ok_int (by rfl) (He.free_ok KX G (c.fact 10 rfl)) (by decide +kernel) (ca_cons (ce_var (pv 3)) ca_nil)) ce_int) ca_nil)))
    (cb_one (cs_set (ps_set (i := 3) sc__law_draws.nd rfl (by first | exact Or.inl rfl | exact Or.inr rfl) (ce_bin ok_div (ce_var (pv 3)) ce_int)))))
    cb_nil))))
    cb_nil)
    (cb_cons (cs_set (ps_set (i := 4) sc__law_draws.nd rfl (by first | exact Or.inl rfl | exact Or.inr rfl) (ce_bin ok_mod (ce_callTy ok_int (by rfl) (He.free_ok KX G (c.fact 10 rfl)) (by decide +kernel) (ca_cons (ce_bin ok_add (ce_bin ok_mulA (ce_callTy ok_int (by rfl) (He.free_ok KX G (c.fact 10 rfl)) (by decide +kernel) (ca_cons (ce_var (pv 0)) ca_nil)) ce_int) ce_int) ca_nil)) ce_int)))
    (cb_cons (cs_forK PassesOwn.never rfl (ci_rg1 (by rfl) (He.free_ok KX G (c.fact 14 rfl)) (ce_var (pv 1))) (cg_of (pg_name (i := 5) sc__law_draws.nd rfl (by first | exact Or.inl rfl | exact Or.inr rfl)))
    (cb_cons (cs_set (ps_set (i := 4) sc__law_draws.nd rfl (by first | exact Or.inl rfl | exact Or.inr rfl) (ce_bin ok_mod (ce_callTy ok_int (by rfl) (He.free_ok KX G (c.fact 10 rfl)) (by decide +kernel) (ca_cons (ce_bin ok_add (ce_bin ok_add (ce_bin ok_mulA (ce_var (pv 4)) ce_int) (ce_bin ok_mulA (ce_var (pv 5)) ce_int)) ce_int) ca_nil)) ce_int)))
    (cb_one (cs_if (ct_cmp ok_lt (ce_callB ok_len (by rfl) (He.free_ok KX G (c.fact 9 rfl)) (by decide +kernel) (ca_cons (ce_var (pv 2)) ca_nil)) (ce_var (pv 1)) (nomark _))
    (cb_one (cs_expr (ce_bm PySem.F.plainAttrs_list PySem.F.slot_list_append PySem.F.type_list_append ok_append (ce_var (pv 2)) (ca_cons (ce_bin ok_mod (ce_callTy ok_int (by rfl) (He.free_ok KX G (c.fact 10 rfl)) (by decide +kernel) (ca_cons (ce_bin ok_mod (ce_callTy ok_int (by rfl) (He.free_ok KX G (c.fact 10 rfl)) (by decide +kernel) (ca_cons (ce_bin ok_add (ce_bin ok_mulA (ce_var (pv 4)) ce_int) ce_int) ca_nil)) ce_int) ca_nil)) ce_int) ca_nil))))
    cb_nil))))
    (cb_one (cs_ret (ce_var (pv 2)))))))))
theorem sc__law_kind : FnScope ["_law_character"] ["_law_character"] (defScope s__law_kind) := ⟨rfl, rfl, rfl, by decide +kernel, rfl, by decide +kernel, by decide +kernel⟩
theorem ok__law_kind {P : Program} {w : World} {K : PySem.W.Frag} {h : Heap} {mg : Str → Option Value} {base : Heap} (KX : K.In h) (G : h.Ns mainGlobals mg) (c : He.SaysD fa fn K) {fd : FuncData} (FD : FunD K "_law_kind" "_law_kind" (defArgs s__law_kind) (defBody s__law_kind) (defScope s__law_kind) [] [] (He.fAd K ("_law_kind", none)) fd) : FnOk P w K mg base CX0 1 (He.fAd K ("_law_kind", none)) fd ["_law_character"] (spF K F__law_kind) := by
  unfold F__law_kind
  exact fnK_ok FD sc__law_kind fun cdv A outer s H E hr => by
    unfold B__law_kind
    exact (cb_cons (cs_if (ct_w (cw_or (ct_inR1 op_inR (by rfl) (He.free_ok KX G (c.fact 14 rfl)) (ce_var (pv 0)) ce_int) (cw_or1 (ct_inR2 op_inR (by rfl) (He.free_ok KX G (c.fact 14 rfl)) (ce_var (pv 0)) ce_int ce_int))))
    (cb_one (cs_ret ce_str))
    cb_nil)
    (cb_one (cs_ret (ce_if (ct_inR2 op_inR (by rfl) (He.free_ok KX G (c.fact 14 rfl)) (ce_var (pv 0)) ce_int ce_int) ce_str ce_str))))
theorem sc_digits : FnScope ["number", "sign"] ["number"] (defScope s_digits) := ⟨rfl, rfl, rfl, by decide +kernel, rfl, by decide +kernel, by decide +kernel⟩
theorem ok_digits {P : Program} {w : World} {K : PySem.W.Frag} {h : Heap} {mg : Str → Option Value} {base : Heap} (KX : K.In h) (G : h.Ns mainGlobals mg) (c : He.SaysD fa fn K) {fd : FuncData} (FD : FunD K "digits" "digits" (defArgs s_digits) (defBody s_digits) (defScope s_digits) [] [] (He.fAd K ("digits", none)) fd) : FnOk P w K mg base CX0 1 (He.fAd K ("digits", none)) fd ["number"] (spF K F_digits) := by
  unfold F_digits
  exact fnK_ok FD sc_digits fun cdv A outer s H E hr => by
    unfold B_digits
    unfold Q_digits_1
    exact (cb_one (cs_ret (ce_lc (own := [("sign", 1)]) rfl sc_digits.nd (ci_st (ce_callTy ok_str (by rfl) (He.free_ok KX G (c.fact 12 rfl)) (by decide +kernel) (ca_cons (ce_var (pv 0)) ca_nil))) (blkOk_by (own := [("sign", 1)]) (N := ["number", "sign"]) (sc := defScope s_digits) (by decide +kernel)) (fun _ _ _ _ _ => (cgw_of (pg_name (i := 1) sc_digits.nd rfl (by first | exact Or.inl rfl | exact Or.inr rfl)) (by decide))) (fun _ _ _ _ _ => cts_nil) (fun _ _ _ _ _ => (ce_callB ok_ord (by rfl) (He.free_ok KX G (c.fact 13 rfl)) (by decide +kernel) (ca_cons (ce_var (pv 1)) ca_nil))))))
theorem sc_codes : FnScope ["string", "sign"] ["string"] (defScope s_codes) := ⟨rfl, rfl, rfl, by decide +kernel, rfl, by decide +kernel, by decide +kernel⟩
theorem ok_codes {P : Program} {w : World} {K : PySem.W.Frag} {h : Heap} {mg : Str → Option Value} {base : Heap} (KX : K.In h) (G : h.Ns mainGlobals mg) (c : He.SaysD fa fn K) {fd : FuncData} (FD : FunD K "codes" "codes" (defArgs s_codes) (defBody s_codes) (defScope s_codes) [] [] (He.fAd K ("codes", none)) fd) : FnOk P w K mg base CX0 1 (He.fAd K ("codes", none)) fd ["string"] (spF K F_codes) := by
  unfold F_codes
  exact fnK_ok FD sc_codes fun cdv A outer s H E hr => by
    unfold B_codes
    unfold Q_codes_1
    exact (cb_one (cs_ret (ce_lc (own := [("sign", 1)]) rfl sc_codes.nd (ci_st (ce_var (pv 0))) (blkOk_by (own := [("sign", 1)]) (N := ["string", "sign"]) (sc := defScope s_codes) (by decide +kernel)) (fun _ _ _ _ _ => (cgw_of (pg_name (i := 1) sc_codes.nd rfl (by first | exact Or.inl rfl | exact Or.inr rfl)) (by decide))) (fun _ _ _ _ _ => cts_nil) (fun _ _ _ _ _ => (ce_callB ok_ord (by rfl) (He.free_ok KX G (c.fact 13 rfl)) (by decide +kernel) (ca_cons (ce_var (pv 1)) ca_nil))))))
theorem sc_kind_of : FnScope ["character"] ["character"] (defScope s_kind_of) := ⟨rfl, rfl, rfl, by decide +kernel, rfl, by decide +kernel, by decide +kernel⟩
theorem ok_kind_of {P : Program} {w : World} {K : PySem.W.Frag} {h : Heap} {mg : Str → Option Value} {base : Heap} (KX : K.In h) (G : h.Ns mainGlobals mg) (c : He.SaysD fa fn K) {fd : FuncData} (FD : FunD K "kind_of" "kind_of" (defArgs s_kind_of) (defBody s_kind_of) (defScope s_kind_of) [] [] (He.fAd K ("kind_of", none)) fd) : FnOk P w K mg base CX0 1 (He.fAd K ("kind_of", none)) fd ["character"] (spF K F_kind_of) := by
  unfold F_kind_of
  exact fnK_ok FD sc_kind_of fun cdv A outer s H E hr => by
    unfold B_kind_of
    exact (cb_cons (cs_if (ct_w (cw_or (ct_cmp ok_lt (ce_var (pv 0)) ce_int (nomark _)) (cw_or1 (ct_chain ok_le ok_le ce_int (ce_var (pv 0)) ce_int))))
    (cb_one (cs_ret ce_str))
    cb_nil)
    (cb_cons (cs_if (ct_cmp ok_ge (ce_var (pv 0)) ce_int (nomark _))
    (cb_one (cs_ret ce_str))
    cb_nil)
    (cb_one (cs_ret ce_str))))
theorem sc_width_of : FnScope ["character", "kind"] ["character"] (defScope s_width_of) := ⟨rfl, rfl, rfl, by decide +kernel, rfl, by decide +kernel, by decide +kernel⟩
theorem ok_width_of {P : Program} {w : World} {K : PySem.W.Frag} {h : Heap} {mg : Str → Option Value} {base : Heap} (KX : K.In h) (G : h.Ns mainGlobals mg) (c : He.SaysD fa fn K) {fd : FuncData} (FD : FunD K "width_of" "width_of" (defArgs s_width_of) (defBody s_width_of) (defScope s_width_of) [] [] (He.fAd K ("width_of", none)) fd) : FnOk P w K mg base CX0 2 (He.fAd K ("width_of", none)) fd ["character"] (spF K F_width_of) := by
  obtain ⟨fd_kind_of, FD_kind_of⟩ := c.def_ 1 (d := d_kind_of) rfl
  have G_kind_of := ok_kind_of (P := P) (w := w) (base := base) KX G c FD_kind_of
  have b_kind_of : Binds K fd_kind_of ["character"] [] := FD_kind_of.bindsN fun _ _ _ _ _ _ us hl => match us, hl with | [_], _ => rfl
  have kp_kind_of := FD_kind_of.kp
  unfold F_width_of
  exact fnK_ok FD sc_width_of fun cdv A outer s H E hr => by
    unfold B_width_of
    exact (cb_cons (cs_set (ps_set (i := 1) sc_width_of.nd rfl (by first | exact Or.inl rfl | exact Or.inr rfl) (ce_call G_kind_of hr (by rfl) (He.glo_ok KX G (c.fact 1 rfl)) kp_kind_of b_kind_of (ca_cons (ce_var (pv 0)) ca_nil))))
    (cb_cons (cs_if (ct_cmp (ok_eq hr.units) (ce_var (pv 1)) ce_str (nomark _))
    (cb_one (cs_ret ce_int))
    cb_nil)
    (cb_cons (cs_if (ct_cmp (ok_eq hr.units) (ce_var (pv 1)) ce_str (nomark _))
    (cb_one (cs_ret ce_int))
    cb_nil)
    (cb_one (cs_ret ce_int)))))
theorem sc_is_printable : FnScope ["text", "character"] ["text"] (defScope s_is_printable) := ⟨rfl, rfl, rfl, by decide +kernel, rfl, by decide +kernel, by decide +kernel⟩
theorem ok_is_printable {P : Program} {w : World} {K : PySem.W.Frag} {h : Heap} {mg : Str → Option Value} {base : Heap} (KX : K.In h) (G : h.Ns mainGlobals mg) (c : He.SaysD fa fn K) {fd : FuncData} (FD : FunD K "is_printable" "is_printable" (defArgs s_is_printable) (defBody s_is_printable) (defScope s_is_printable) [] [] (He.fAd K ("is_printable", none)) fd) : FnOk P w K mg base CX0 2 (He.fAd K ("is_printable", none)) fd ["text"] (spF K F_is_printable) := by
  obtain ⟨fd_kind_of, FD_kind_of⟩ := c.def_ 1 (d := d_kind_of) rfl
  have G_kind_of := ok_kind_of (P := P) (w := w) (base := base) KX G c FD_kind_of
  have b_kind_of : Binds K fd_kind_of ["character"] [] := FD_kind_of.bindsN fun _ _ _ _ _ _ us hl => match us, hl with | [_], _ => rfl
  have kp_kind_of := FD_kind_of.kp
  unfold F_is_printable
  exact fnK_ok FD sc_is_printable fun cdv A outer s H E hr => by
    unfold B_is_printable
    unfold L_is_printable_1
    exact (cb_cons (cs_forK PassesOwn.never rfl (ci_seq (ce_var (pv 0))) (cg_of (pg_name (i := 1) sc_is_printable.nd rfl (by first | exact Or.inl rfl | exact Or.inr rfl)))
    (cb_one (cs_if (ct_cmp (ok_eq hr.units) (ce_call G_kind_of hr (by rfl) (He.glo_ok KX G (c.fact 1 rfl)) kp_kind_of b_kind_of (ca_cons (ce_var (pv 1)) ca_nil)) ce_str (nomark _))
    (cb_one (cs_ret ce_bl))
    cb_nil)))
    (cb_one (cs_ret ce_bl)))
theorem sc_law : FnScope ["_law_script", "_law_signs", "_law_cell_here", "_law_draws_here", "_law_character", "_law_kind_here", "_law_row", "_law_clean", "_law_number", "_law_due", "_law_rest", "_law_turn", "_law_picks", "_law_text", "_law_draw", "_law_sign", "_law_pick"] ["_law_script"] (defScope s_law) := ⟨rfl, rfl, rfl, by decide +kernel, rfl, by decide +kernel, by decide +kernel⟩
theorem ok_law {P : Program} {w : World} {K : PySem.W.Frag} {h : Heap} {mg : Str → Option Value} {base : Heap} (KX : K.In h) (G : h.Ns mainGlobals mg) (c : He.SaysD fa fn K) {fd : FuncData} (FD : FunD K "law" "law" (defArgs s_law) (defBody s_law) (defScope s_law) [] [] (He.fAd K ("law", none)) fd) : FnOk P w K mg base CX0 3 (He.fAd K ("law", none)) fd ["_law_script"] (spF K F_law) := by
  obtain ⟨fd__law_draws, FD__law_draws⟩ := c.def_ 5 (d := d__law_draws) rfl
  have G__law_draws := ok__law_draws (P := P) (w := w) (base := base) KX G c FD__law_draws
  have b__law_draws : Binds K fd__law_draws ["_law_cell_here", "_law_many"] [] := FD__law_draws.bindsN fun _ _ _ _ _ _ us hl => match us, hl with | [_, _], _ => rfl
  have kp__law_draws := FD__law_draws.kp
  obtain ⟨fd__law_kind, FD__law_kind⟩ := c.def_ 6 (d := d__law_kind) rfl
  have G__law_kind := ok__law_kind (P := P) (w := w) (base := base) KX G c FD__law_kind
  have b__law_kind : Binds K fd__law_kind ["_law_character"] [] := FD__law_kind.bindsN fun _ _ _ _ _ _ us hl => match us, hl with | [_], _ => rfl
  have kp__law_kind := FD__law_kind.kp
  obtain ⟨fd_digits, FD_digits⟩ := c.def_ 4 (d := d_digits) rfl
  have G_digits := ok_digits (P := P) (w := w) (base := base) KX G c FD_digits
  have b_digits : Binds K fd_digits ["number"] [] := FD_digits.bindsN fun _ _ _ _ _ _ us hl => match us, hl with | [_], _ => rfl
  have kp_digits := FD_digits.kp
  obtain ⟨fd_codes, FD_codes⟩ := c.def_ 0 (d := d_codes) rfl
  have G_codes := ok_codes (P := P) (w := w) (base := base) KX G c FD_codes
  have b_codes : Binds K fd_codes ["string"] [] := FD_codes.bindsN fun _ _ _ _ _ _ us hl => match us, hl with | [_], _ => rfl
  have kp_codes := FD_codes.kp
  obtain ⟨fd_kind_of, FD_kind_of⟩ := c.def_ 1 (d := d_kind_of) rfl
  have G_kind_of := ok_kind_of (P := P) (w := w) (base := base) KX G c FD_kind_of
  have b_kind_of : Binds K fd_kind_of ["character"] [] := FD_kind_of.bindsN fun _ _ _ _ _ _ us hl => match us, hl with | [_], _ => rfl
  have kp_kind_of := FD_kind_of.kp
  obtain ⟨fd_width_of, FD_width_of⟩ := c.def_ 2 (d := d_width_of) rfl
  have G_width_of := ok_width_of (P := P) (w := w) (base := base) KX G c FD_width_of
  have b_width_of : Binds K fd_width_of ["character"] [] := FD_width_of.bindsN fun _ _ _ _ _ _ us hl => match us, hl with | [_], _ => rfl
  have kp_width_of := FD_width_of.kp
  obtain ⟨fd_is_printable, FD_is_printable⟩ := c.def_ 3 (d := d_is_printable) rfl
  have G_is_printable := ok_is_printable (P := P) (w := w) (base := base) KX G c FD_is_printable
  have b_is_printable : Binds K fd_is_printable ["text"] [] := FD_is_printable.bindsN fun _ _ _ _ _ _ us hl => match us, hl with | [_], _ => rfl
  have kp_is_printable := FD_is_printable.kp
  unfold F_law
  exact fnK_ok FD sc_law fun cdv A outer s H E hr => by
    unfold B_law
    unfold L_law_2 Q_law_5 Q_law_4 Q_law_3 L_law_1 Q_law_2 Q_law_1
    exact (cb_cons (cs_set (ps_set (i := 1) sc_law.nd rfl (by first | exact Or.inl rfl | exact Or.inr rfl) ce_str))
    (cb_cons (cs_forK PassesOwn.never rfl (ci_seq (ce_var (pv 0))) (cg_of (pg_name (i := 2) sc_law.nd rfl (by first | exact Or.inl rfl | exact Or.inr rfl)))
    (cb_cons (cs_set (ps_set (i := 3) sc_law.nd rfl (by first | exact Or.inl rfl | exact Or.inr rfl) (ce_call G__law_draws (hr.mono (by decide)) (by rfl) (He.glo_ok KX G (c.fact 6 rfl)) kp__law_draws b__law_draws (ca_cons (ce_var (pv 2)) (ca_cons ce_int ca_nil)))))
    (cb_cons (cs_set (ps_set (i := 4) sc_law.nd rfl (by first | exact Or.inl rfl | exact Or.inr rfl) (ce_bin ok_mod (ce_ix (ce_var (pv 3)) ce_int (fun _ _ => rfl)) ce_int)))
    (cb_cons (cs_if (ct_cmp (ok_eq hr.units) (ce_bin ok_mod (ce_ix (ce_var (pv 3)) ce_int (fun _ _ => rfl)) ce_int) ce_int (nomark _))
    (cb_one (cs_set (ps_set (i := 4) sc_law.nd rfl (by first | exact Or.inl rfl | exact Or.inr rfl) (ce_ix (ce_lst (ca_cons ce_int (ca_cons ce_int (ca_cons ce_int (ca_cons ce_int (ca_cons ce_int (ca_cons ce_int (ca_cons ce_int (ca_cons ce_int (ca_cons ce_int (ca_cons ce_int (ca_cons ce_int ca_nil)))))))))))) (ce_bin ok_mod (ce_ix (ce_var (pv 3)) ce_int (fun _ _ => rfl)) ce_int) (fun _ _ => rfl)))))
    cb_nil)
    (cb_cons (cs_set (ps_set (i := 5) sc_law.nd rfl (by first | exact Or.inl rfl | exact Or.inr rfl) (ce_call G__law_kind (hr.mono (by decide)) (by rfl) (He.glo_ok KX G (c.fact 7 rfl)) kp__law_kind b__law_kind (ca_cons (ce_var (pv 4)) ca_nil))))
    (cb_cons (cs_if (ct_w (cw_or (ct_cmp (ok_ne hr.units) (ce_call G_kind_of (hr.mono (by decide)) (by rfl) (He.glo_ok KX G (c.fact 1 rfl)) kp_kind_of b_kind_of (ca_cons (ce_var (pv 4)) ca_nil)) (ce_var (pv 5)) (nomark _)) (cw_or1 (ct_cmp (ok_ne hr.units) (ce_call G_width_of hr (by rfl) (He.glo_ok KX G (c.fact 2 rfl)) kp_width_of b_width_of (ca_cons (ce_var (pv 4)) ca_nil)) (ce_fin (ce_dget (hu_of hr) (ce_disp (cp_cons ce_str ce_int (cp_cons ce_str ce_int (cp_cons ce_str ce_int cp_nil))) (by simp) (by decide)) (ce_var (pv 5)) (fun _ _ => rfl))) (nomark _)))))
    (cb_one (cs_ret ce_bl))
    cb_nil)
    (cb_cons (cs_set (ps_set (i := 6) sc_law.nd rfl (by first | exact Or.inl rfl | exact Or.inr rfl) (ce_bin ok_add (ce_lc (own := [("_law_draw", 14)]) rfl sc_law.nd (ci_seq (ce_sl (ce_var (pv 3)) (co_some ce_int) (co_some (ce_bin ok_add ce_int (ce_bin ok_mod (ce_ix (ce_var (pv 3)) ce_int (fun _ _ => rfl)) ce_int))))) (blkOk_by (own := [("_law_draw", 14)]) (N := ["_law_script", "_law_signs", "_law_cell_here", "_law_draws_here", "_law_character", "_law_kind_here", "_law_row", "_law_clean", "_law_number", "_law_due", "_law_rest", "_law_turn", "_law_picks", "_law_text", "_law_draw", "_law_sign", "_law_pick"]) (sc := defScope s_law) (by decide +kernel)) (fun _ _ _ _ _ => (cgw_of (pg_name (i := 14) sc_law.nd rfl (by first | exact Or.inl rfl | exact Or.inr rfl)) (by decide))) (fun _ _ _ _ _ => cts_nil) (fun _ _ _ _ _ => (ce_bin ok_mod (ce_var (pv 14)) ce_int))) (ce_lst (ca_cons (ce_var (pv 4)) ca_nil)))))
    (cb_cons (cs_set (ps_set (i := 7) sc_law.nd rfl (by first | exact Or.inl rfl | exact Or.inr rfl) (ce_cmp (ok_eq hr.units) (ce_lc (own := [("_law_sign", 15)]) rfl sc_law.nd (ci_seq (ce_var (pv 6))) (blkOk_by (own := [("_law_sign", 15)]) (N := ["_law_script", "_law_signs", "_law_cell_here", "_law_draws_here", "_law_character", "_law_kind_here", "_law_row", "_law_clean", "_law_number", "_law_due", "_law_rest", "_law_turn", "_law_picks", "_law_text", "_law_draw", "_law_sign", "_law_pick"]) (sc := defScope s_law) (by decide +kernel)) (fun _ _ _ _ _ => (cgw_of (pg_name (i := 15) sc_law.nd rfl (by first | exact Or.inl rfl | exact Or.inr rfl)) (by decide))) (fun _ _ _ _ _ => (cts_one (ct_cmp (ok_eq hr.units) (ce_call G__law_kind (hr.mono (by decide)) (by rfl) (He.glo_ok KX G (c.fact 7 rfl)) kp__law_kind b__law_kind (ca_cons (ce_var (pv 15)) ca_nil)) ce_str (nomark _)))) (fun _ _ _ _ _ => (ce_var (pv 15)))) (ce_lst ca_nil) (nomark _))))
    (cb_cons (cs_if (ct_w (cw_or (ct_cmp (ok_ne hr.units) (ce_call G_is_printable hr (by rfl) (He.glo_ok KX G (c.fact 3 rfl)) kp_is_printable b_is_printable (ca_cons (ce_var (pv 6)) ca_nil)) (ce_var (pv 7)) (nomark _)) (cw_or (ct_cmp (ok_ne hr.units) (ce_call G_is_printable hr (by rfl) (He.glo_ok KX G (c.fact 3 rfl)) kp_is_printable b_is_printable (ca_cons (ce_callTy ok_tuple (by rfl) (He.free_ok KX G (c.fact 11 rfl)) (by decide +kernel) (ca_cons (ce_sl (ce_var (pv 6)) (co_some (ce_neg ce_int)) co_none) ca_nil)) ca_nil)) (ce_cmp (ok_ne hr.units) (ce_var (pv 5)) ce_str (nomark _)) (nomark _)) (cw_or1 (ct_not (ct_truth (ce_call G_is_printable hr (by rfl) (He.glo_ok KX G (c.fact 3 rfl)) kp_is_printable b_is_printable (ca_cons (ce_lst ca_nil) ca_nil)) (fun _ => rfl)))))))
    (cb_one (cs_ret ce_bl))
    cb_nil)
    (cb_cons (cs_set (ps_set (i := 8) sc_law.nd rfl (by first | exact Or.inl rfl | exact Or.inr rfl) (ce_bin ok_add (ce_bin ok_mulA (ce_ix (ce_var (pv 3)) ce_int (fun _ _ => rfl)) (ce_ix (ce_lst (ca_cons ce_int (ca_cons ce_int (ca_cons (ce_bin ok_pow ce_int ce_int) ca_nil)))) (ce_bin ok_mod (ce_ix (ce_var (pv 3)) ce_int (fun _ _ => rfl)) ce_int) (fun _ _ => rfl))) (ce_ix (ce_var (pv 3)) ce_int (fun _ _ => rfl)))))
    (cb_cons (cs_set (ps_set (i := 9) sc_law.nd rfl (by first | exact Or.inl rfl | exact Or.inr rfl) (ce_lst ca_nil)))
    (cb_cons (cs_set (ps_set (i := 10) sc_law.nd rfl (by first | exact Or.inl rfl | exact Or.inr rfl) (ce_var (pv 8))))
    (cb_cons (cs_forK PassesOwn.never rfl (ci_rg1 (by rfl) (He.free_ok KX G (c.fact 14 rfl)) ce_int) (cg_of (pg_name (i := 11) sc_law.nd rfl (by first | exact Or.inl rfl | exact Or.inr rfl)))
    (cb_one (cs_if (ct_w (cw_or (ct_cmp ok_gt (ce_var (pv 10)) ce_int (nomark _)) (cw_or1 (ct_cmp (ok_eq hr.units) (ce_var (pv 11)) ce_int (nomark _)))))
    (cb_cons (cs_set (ps_set (i := 9) sc_law.nd rfl (by first | exact Or.inl rfl | exact Or.inr rfl) (ce_bin ok_add (ce_lst (ca_cons (ce_bin ok_add ce_int (ce_bin ok_mod (ce_callTy ok_int (by rfl) (He.free_ok KX G (c.fact 10 rfl)) (by decide +kernel) (ca_cons (ce_var (pv 10)) ca_nil)) ce_int)) ca_nil)) (ce_var (pv 9)))))
    (cb_one (cs_set (ps_set (i := 10) sc_law.nd rfl (by first | exact Or.inl rfl | exact Or.inr rfl) (ce_bin ok_div (ce_var (pv 10)) ce_int)))))
    cb_nil)))
    (cb_cons (cs_if (ct_cmp (ok_ne hr.units) (ce_call G_digits (hr.mono (by decide)) (by rfl) (He.glo_ok KX G (c.fact 4 rfl)) kp_digits b_digits (ca_cons (ce_var (pv 8)) ca_nil)) (ce_var (pv 9)) (nomark _))
    (cb_one (cs_ret ce_bl))
    cb_nil)
    (cb_cons (by first | exact cs_set (cs_setLc (own := [("_law_draw", 14)]) (i := 12) rfl sc_law.nd rfl rfl (sw_true rfl rfl rfl (by decide +kernel)) (ci_seq (ce_sl (ce_var (pv 3)) co_none (co_some (ce_bin ok_mod (ce_ix (ce_var (pv 3)) ce_int (fun _ _ => rfl)) ce_int)))) (blkOk_by (own := [("_law_draw", 14)]) (N := ["_law_script", "_law_signs", "_law_cell_here", "_law_draws_here", "_law_character", "_law_kind_here", "_law_row", "_law_clean", "_law_number", "_law_due", "_law_rest", "_law_turn", "_law_picks", "_law_text", "_law_draw", "_law_sign", "_law_pick"]) (sc := defScope s_law) (by decide +kernel)) (fun _ _ _ _ _ => (cgw_of (pg_name (i := 14) sc_law.nd rfl (by first | exact Or.inl rfl | exact Or.inr rfl)) (by decide))) (fun _ _ _ _ _ => cts_nil) (fun _ _ _ _ _ => (ce_bin ok_mod (ce_var (pv 14)) (ce_callB ok_len (by rfl) (He.free_ok KX G (c.fact 9 rfl)) (by decide +kernel) (ca_cons (ce_var (pv 1)) ca_nil))))) | exact cs_set (ps_set (i := 12) sc_law.nd rfl (by first | exact Or.inl rfl | exact Or.inr rfl) (ce_lc (own := [("_law_draw", 14)]) rfl sc_law.nd (ci_seq (ce_sl (ce_var (pv 3)) co_none (co_some (ce_bin ok_mod (ce_ix (ce_var (pv 3)) ce_int (fun _ _ => rfl)) ce_int)))) (blkOk_by (own := [("_law_draw", 14)]) (N := ["_law_script", "_law_signs", "_law_cell_here", "_law_draws_here", "_law_character", "_law_kind_here", "_law_row", "_law_clean", "_law_number", "_law_due", "_law_rest", "_law_turn", "_law_picks", "_law_text", "_law_draw", "_law_sign", "_law_pick"]) (sc := defScope s_law) (by decide +kernel)) (fun _ _ _ _ _ => (cgw_of (pg_name (i := 14) sc_law.nd rfl (by first | exact Or.inl rfl | exact Or.inr rfl)) (by decide))) (fun _ _ _ _ _ => cts_nil) (fun _ _ _ _ _ => (ce_bin ok_mod (ce_var (pv 14)) (ce_callB ok_len (by rfl) (He.free_ok KX G (c.fact 9 rfl)) (by decide +kernel) (ca_cons (ce_var (pv 1)) ca_nil)))))))
    (cb_cons (cs_set (ps_set (i := 13) sc_law.nd rfl (by first | exact Or.inl rfl | exact Or.inr rfl) (ce_join ce_str (ce_lc (own := [("_law_pick", 16)]) rfl sc_law.nd (ci_seq (ce_var (pv 12))) (blkOk_by (own := [("_law_pick", 16)]) (N := ["_law_script", "_law_signs", "_law_cell_here", "_law_draws_here", "_law_character", "_law_kind_here", "_law_row", "_law_clean", "_law_number", "_law_due", "_law_rest", "_law_turn", "_law_picks", "_law_text", "_law_draw", "_law_sign", "_law_pick"]) (sc := defScope s_law) (by decide +kernel)) (fun _ _ _ _ _ => (cgw_of (pg_name (i := 16) sc_law.nd rfl (by first | exact Or.inl rfl | exact Or.inr rfl)) (by decide))) (fun _ _ _ _ _ => cts_nil) (fun _ _ _ _ _ => (ce_ix (ce_var (pv 1)) (ce_var (pv 16)) (fun _ _ => rfl)))))))
    (cb_one (cs_if (ct_cmp (ok_ne hr.units) (ce_call G_codes (hr.mono (by decide)) (by rfl) (He.glo_ok KX G (c.fact 0 rfl)) kp_codes b_codes (ca_cons (ce_var (pv 13)) ca_nil)) (ce_lc (own := [("_law_pick", 16)]) rfl sc_law.nd (ci_seq (ce_var (pv 12))) (blkOk_by (own := [("_law_pick", 16)]) (N := ["_law_script", "_law_signs", "_law_cell_here", "_law_draws_here", "_law_character", "_law_kind_here", "_law_row", "_law_clean", "_law_number", "_law_due", "_law_rest", "_law_turn", "_law_picks", "_law_text", "_law_draw", "_law_sign", "_law_pick"]) (sc := defScope s_law) (by decide +kernel)) (fun _ _ _ _ _ => (cgw_of (pg_name (i := 16) sc_law.nd rfl (by first | exact Or.inl rfl | exact Or.inr rfl)) (by decide))) (fun _ _ _ _ _ => cts_nil) (fun _ _ _ _ _ => (ce_callB ok_ord (by rfl) (He.free_ok KX G (c.fact 13 rfl)) (by decide +kernel) (ca_cons (ce_ix (ce_var (pv 1)) (ce_var (pv 16)) (fun _ _ => rfl)) ca_nil)))) (nomark _))
    (cb_one (cs_ret ce_bl))
    cb_nil))))))))))))))))))
    (cb_one (cs_ret ce_bl))))
abbrev R : PySem.W.OpenRow := PySem.W.OpenLaw.row PySem.Challenge.rw_fardesk_k38_screens_characters
abbrev hk : PySem.W.Hook := He.hookD 4 fa fn
def ob (s : PySem.W.SharedT) : He.AlD := He.obsDG 4 fa fn (HandSHeadRun.getT s)
theorem ob_eq (s : PySem.W.SharedT) : ob s = hk.obs s.abs := He.obsDG_eq (HandSHeadRun.getT_eq s)
def loose : List Str := (["codes", "kind_of", "width_of", "is_printable", "digits", "_law_cell", "_law_draws", "_law_kind"] : List PySem.Str)
theorem run (w : World) : HandSHeadRun.RunEq R (PySem.W.view R.prog [10]) hk ob 20000 loose w := by
  intro os
  kernel_rfl
theorem facts {P : Program} {w : World} {K : PySem.W.Frag} {h : Heap} {mg : Str → Option Value} {f : Addr} (X : K.In h) (G : h.Ns mainGlobals mg) (hfa : mg ("law" : Str) = some (.ref f)) (c : He.SaysD fa fn K) :
    ∃ fd : FuncData, (∀ (s : Shared) (v : Value), BindsTo s fd ⟨[v], []⟩ [("_law_script", v)]) ∧ ∀ base : Heap, K.In base → base.Ns mainGlobals mg → FnOk P w K mg base CX0 3 f fd ["_law_script"] (spF K F_law) := by
  obtain ⟨fd, FD⟩ := c.def_ 7 (d := d_law) rfl
  have e := hfa.symm.trans (He.glo_ok X G (c.fact 8 rfl))
  cases e
  have b := FunD.bindsA (ps := ["_law_script"]) FD fun _ _ _ _ _ _ us hl => match us, hl with | [_], _ => rfl
  exact ⟨fd, fun s v => b s [v] rfl, fun base _ _ => ok_law X G c FD⟩
end K38
open PySem PySem.W PySem.Calls PyProof.Rows
theorem PySem.Challenge.cw_fardesk_k38_screens_characters_holds : PySem.Challenge.rw_fardesk_k38_screens_characters.Holds := by
  w_on; o_law
  refine HandSHeadRun.head_any (r := OpenLaw.row PySem.Challenge.rw_fardesk_k38_screens_characters) (q := view (OpenLaw.row PySem.Challenge.rw_fardesk_k38_screens_characters).prog [10]) (H := K38.hk) (ob := K38.ob) (M := 20000) (loose := K38.loose) (d := HandSHeadRun.topDef (OpenLaw.row PySem.Challenge.rw_fardesk_k38_screens_characters).prog 10) (kwd := []) K38.ob_eq
    (by kernel_rfl) (fun s => by kernel_rfl) K38.run (by kernel_rfl) (by kernel_rfl) (by kernel_rfl) (by rfl) (by first | assumption | decide +kernel) (by decide +kernel) ⟨rfl, rfl, rfl, rfl, rfl, by decide +kernel⟩ ?hw ?hc
  case hw => w_witness2
  case hc =>
    refine L2.walk_ofE (l := PySem.Challenge.rw_fardesk_k38_screens_characters) (n := 63) (k := 3) (x := "_law_script") (CX := L2.CX0) rfl (by decide) (by kernel_rfl) ⟨rfl, by decide, by decide⟩ ?F (fun _ _ _ _ z => z)
    intro w mg fa h Y G hmg0
    obtain ⟨K, KX, c⟩ := Y
    have hmg : mg ("law" : PySem.Str) = some (.ref fa) := by
      have e : (HandSHeadRun.topDef (OpenLaw.row PySem.Challenge.rw_fardesk_k38_screens_characters).prog 10).name = ("law" : PySem.Str) := by kernel_rfl
      rw [← e]
      exact hmg0
    obtain ⟨fd, hb, hF⟩ := K38.facts (P := (PySem.Challenge.rw_fardesk_k38_screens_characters).prog) (w := w) KX G hmg c
    exact ⟨K, fd, _, KX, hb, CI.law_sp K38.law_true, hF⟩
