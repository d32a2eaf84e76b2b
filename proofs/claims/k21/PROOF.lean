import PyProof.Rows.All
import Wide.All
import OpenK.AllK
import Wide.FinOn
import KE.KStateDown
import Lean
import HandS.ForMost
import HandS.WordsExc
import HandS.Defaults
import HandS.Head0
import HandS.Head1
import HandS.Head2
import HandS.HeadEnd
import HandS.HeadHook1
import HandS.HeadHook2
import HandS.TupAny
import HandS.Style
import HandS.Conv
import HandS.IsInst
import HandS.SortInts
import HandS.Star
import HandS.TupMul
import HandS.Iter
import HandS.Text
import HandS.Sort
import KE.KIntText
import PySem.Challenge.RW_fardesk_k21_differences_by_the_letter
set_option Elab.async false
set_option linter.all false
set_option maxRecDepth 100000
set_option maxHeartbeats 0

/-! Ci1: values as trees, objects by numbers, what represents them -/
namespace CI
open PySem PySem.Spec PyProof.Rows L2

inductive D where
  | non | bl (b : Bool) | int (i : Int) | str (x : Str) | tup (ds : List D) | lst (ds : List D) | scr (ns : List Int) | loc (k : Nat)
inductive O where
  | lst (ds : List D) | ins (c : Str) (fs : List (Str × D)) | dct (kvs : List (Key × D))
abbrev Mem := List O
abbrev Slots := List (Option D)
/-- a result: a value, or a list that nobody else holds -/
inductive Rz where
  | val (d : D) | new (ds : List D)
def Rz.d : Rz → D
  | .val d => d
  | .new ds => .lst ds

/-- a list that never changes: frozen, or of the written part -/
def SqS (K : PySem.W.Frag) (H : Hp) (a : Addr) (xs : List V) : Prop := (∃ o, H a = some (.frz o (.lst xs))) ∨
  ∃ (o : Obj) (its : Array Value) (n : Nat), K.lookup a = some o ∧ o.cls = .type "list" ∧ o.dict = none ∧ o.data = .seq its n ∧ its.size ≤ sizeLine ∧ Vals xs its.toList
theorem SqS.l {K : PySem.W.Frag} {H : Hp} {a : Addr} {xs : List V} (h : SqS K H a xs) : SqL K H a xs := h.elim (fun h => .inl (.inr h)) .inr
mutual
def Rl (K : PySem.W.Frag) (H : Hp) (m : List Addr) : D → V → Prop
  | .non, v => v = .non
  | .bl b, v => v = .bl b
  | .int i, v => v = .int i
  | .str x, v => v = .str x
  | .tup ds, v => ∃ a vs, v = .ref a ∧ SqT K H a vs ∧ Rls K H m ds vs
  | .lst ds, v => ∃ a vs, v = .ref a ∧ a ∉ m ∧ H a = some (.lst vs) ∧ Rls K H m ds vs
  | .scr ns, v => ∃ a, v = .ref a ∧ SqS K H a (ns.map V.int)
  | .loc k, v => ∃ a, v = .ref a ∧ m[k]? = some a
def Rls (K : PySem.W.Frag) (H : Hp) (m : List Addr) : List D → List V → Prop
  | [], vs => vs = []
  | d :: ds, vs => ∃ v r, vs = v :: r ∧ Rl K H m d v ∧ Rls K H m ds r
end
def Rfs (K : PySem.W.Frag) (H : Hp) (m : List Addr) : List (Str × D) → List (Str × V) → Prop
  | [], gs => gs = []
  | (f, d) :: fs, gs => ∃ v r, gs = (f, v) :: r ∧ Rl K H m d v ∧ Rfs K H m fs r
def Rks (K : PySem.W.Frag) (H : Hp) (m : List Addr) : List (Key × D) → List (Key × V) → Prop
  | [], gs => gs = []
  | (f, d) :: fs, gs => ∃ v r, gs = (f, v) :: r ∧ Rl K H m d v ∧ Rks K H m fs r
def Ro (K : PySem.W.Frag) (H : Hp) (m : List Addr) (a : Addr) : O → Prop
  | .lst ds => ∃ vs, H a = some (.lst vs) ∧ Rls K H m ds vs
  | .ins c fs => ∃ dx gs, H a = some (.ins (He.ga K c) dx gs) ∧ Rfs K H m fs gs
  | .dct kvs => ∃ gs, H a = some (.dK gs) ∧ Rks K H m kvs gs

structure Ext (H : Hp) (m : List Addr) (H' : Hp) (m' : List Addr) : Prop where
  tup : ∀ a xs, H a = some (.tup xs) → H' a = some (.tup xs)
  frz : ∀ a o u, H a = some (.frz o u) → H' a = some (.frz o u)
  lst : ∀ a xs, a ∉ m → H a = some (.lst xs) → H' a = some (.lst xs)
  trk : ∀ a, H' a = none → H a = none
  pre : ∃ l, m' = m ++ l ∧ ∀ a ∈ l, H a = none
structure Wd (K : PySem.W.Frag) (H : Hp) (m : List Addr) (M : Mem) : Prop where
  len : m.length = M.length
  nd : m.Nodup
  at_ : ∀ (k : Nat) (a : Addr) (o : O), m[k]? = some a → M[k]? = some o → Ro K H m a o
def Rs (K : PySem.W.Frag) (H : Hp) (m : List Addr) (ρ : Slots) (σ : L2.St) : Prop :=
  ρ.length = σ.length ∧ ∀ (i : Nat) (d : D), ρ[i]? = some (some d) → ∃ v, σ[i]? = some (some v) ∧ Rl K H m d v

section
variable {K : PySem.W.Frag} {H H1 H2 H' : Hp} {m m1 m2 m' : List Addr} {M M1 : Mem} {a p : Addr}
theorem Ext.refl : Ext H m H m := ⟨fun _ _ h => h, fun _ _ _ h => h, fun _ _ _ h => h, fun _ h => h, [], by simp, fun _ h => nomatch h⟩
theorem Ext.notin (e : Ext H m H1 m1) {o : HO} (h : H a = some o) (n : a ∉ m) : a ∉ m1 := by
  obtain ⟨l, rfl, hl⟩ := e.pre
  intro q
  rcases List.mem_append.mp q with q | q
  · exact n q
  · rw [hl a q] at h; cases h
theorem Ext.trans (e : Ext H m H1 m1) (e' : Ext H1 m1 H2 m2) : Ext H m H2 m2 := by
  refine ⟨fun a xs h => e'.tup a xs (e.tup a xs h), fun a o u h => e'.frz a o u (e.frz a o u h), fun a xs n h => e'.lst a xs (e.notin h n) (e.lst a xs n h), fun a h => e.trk a (e'.trk a h), ?_⟩
  obtain ⟨l, rfl, hl⟩ := e.pre
  obtain ⟨l', rfl, hl'⟩ := e'.pre
  exact ⟨l ++ l', by rw [List.append_assoc], fun a q => (List.mem_append.mp q).elim (hl a) fun q => e.trk a (hl' a q)⟩
/-- a new object -/
theorem Ext.new {o : HO} (n : H p = none) : Ext H m (upd H p o) m := by
  have ne : ∀ a u, H a = some u → a ≠ p := fun a u h => ne_of_none h n
  refine ⟨fun a xs h => by rw [upd_ne (ne a _ h)]; exact h, fun a o u h => by rw [upd_ne (ne a _ h)]; exact h, fun a xs _ h => by rw [upd_ne (ne a _ h)]; exact h, fun a h => ?_, [], by simp, fun _ h => nomatch h⟩
  by_cases q : a = p
  · rw [q]; exact n
  · rw [upd_ne q] at h; exact h
/-- an own object is changed -/
theorem Ext.set {o u : HO} (h : H p = some u) (hm : p ∈ m) (nt : ∀ xs, u ≠ .tup xs) (nf : ∀ o u', u ≠ .frz o u') : Ext H m (upd H p o) m := by
  refine ⟨fun a xs q => ?_, fun a o u' q => ?_, fun a xs n q => ?_, fun a q => ?_, [], by simp, fun _ h => nomatch h⟩
  · rw [upd_ne (fun z => by subst z; rw [h] at q; cases q; exact nt xs rfl)]; exact q
  · rw [upd_ne (fun z => by subst z; rw [h] at q; cases q; exact nf _ _ rfl)]; exact q
  · rw [upd_ne (fun z => n (by rw [z]; exact hm))]; exact q
  · by_cases z : a = p
    · rw [z, upd_same] at q; cases q
    · rw [upd_ne z] at q; exact q
theorem Ext.get (e : Ext H m H1 m1) {k : Nat} (h : m[k]? = some a) : m1[k]? = some a := by
  obtain ⟨l, rfl, _⟩ := e.pre
  obtain ⟨h1, _⟩ := List.getElem?_eq_some_iff.mp h
  rw [List.getElem?_append_left h1]; exact h
theorem sqT_ext (e : Ext H m H1 m1) {vs : List V} (h : SqT K H a vs) : SqT K H1 a vs := by
  rcases h with (h | ⟨o, h⟩) | h
  · exact .inl (.inl (e.tup _ _ h))
  · exact .inl (.inr ⟨o, e.frz _ _ _ h⟩)
  · exact .inr h
mutual
theorem Rl.ext (e : Ext H m H1 m1) : ∀ {d : D} {v : V}, Rl K H m d v → Rl K H1 m1 d v
  | .non, _, h => h
  | .bl _, _, h => h
  | .int _, _, h => h
  | .str _, _, h => h
  | .tup ds, _, h => by
    rw [Rl] at h ⊢
    obtain ⟨a, vs, r, s, t⟩ := h
    exact ⟨a, vs, r, sqT_ext e s, Rls.ext e t⟩
  | .lst ds, _, h => by
    rw [Rl] at h ⊢
    obtain ⟨a, vs, r, n, s, t⟩ := h
    exact ⟨a, vs, r, e.notin s n, e.lst _ _ n s, Rls.ext e t⟩
  | .scr ns, _, h => by
    rw [Rl] at h ⊢
    obtain ⟨a, r, s⟩ := h
    exact ⟨a, r, s.imp (fun ⟨o, s⟩ => ⟨o, e.frz _ _ _ s⟩) id⟩
  | .loc k, _, h => by
    rw [Rl] at h ⊢
    obtain ⟨a, r, s⟩ := h
    exact ⟨a, r, e.get s⟩
theorem Rls.ext (e : Ext H m H1 m1) : ∀ {ds : List D} {vs : List V}, Rls K H m ds vs → Rls K H1 m1 ds vs
  | [], _, h => by rw [Rls] at h ⊢; exact h
  | d :: ds, _, h => by
    rw [Rls] at h ⊢
    obtain ⟨v, r, q, h1, h2⟩ := h
    exact ⟨v, r, q, Rl.ext e h1, Rls.ext e h2⟩
end
theorem Rfs.ext (e : Ext H m H1 m1) : ∀ {fs : List (Str × D)} {gs : List (Str × V)}, Rfs K H m fs gs → Rfs K H1 m1 fs gs
  | [], _, h => h
  | (f, d) :: fs, _, h => by
    obtain ⟨v, r, q, h1, h2⟩ := h
    exact ⟨v, r, q, Rl.ext e h1, Rfs.ext e h2⟩
theorem Rks.ext (e : Ext H m H1 m1) : ∀ {fs : List (Key × D)} {gs : List (Key × V)}, Rks K H m fs gs → Rks K H1 m1 fs gs
  | [], _, h => h
  | (f, d) :: fs, _, h => by
    obtain ⟨v, r, q, h1, h2⟩ := h
    exact ⟨v, r, q, Rl.ext e h1, Rks.ext e h2⟩
theorem Ro.ext (e : Ext H m H1 m1) {o : O} (hs : H1 a = H a) (h : Ro K H m a o) : Ro K H1 m1 a o := by
  cases o with
  | lst ds => obtain ⟨vs, h1, h2⟩ := h; exact ⟨vs, hs.trans h1, h2.ext e⟩
  | ins c fs => obtain ⟨dx, gs, h1, h2⟩ := h; exact ⟨dx, gs, hs.trans h1, h2.ext e⟩
  | dct kvs => obtain ⟨gs, h1, h2⟩ := h; exact ⟨gs, hs.trans h1, h2.ext e⟩
theorem Ro.there {o : O} (h : Ro K H m a o) : ∃ u, H a = some u ∧ (∀ xs, u ≠ .tup xs) ∧ ∀ o' u', u ≠ .frz o' u' := by
  cases o with
  | lst ds => obtain ⟨vs, h1, h2⟩ := h; exact ⟨_, h1, (by intro _ z; cases z), (by intro _ _ z; cases z)⟩
  | ins c fs => obtain ⟨dx, gs, h1, h2⟩ := h; exact ⟨_, h1, (by intro _ z; cases z), (by intro _ _ z; cases z)⟩
  | dct kvs => obtain ⟨gs, h1, h2⟩ := h; exact ⟨_, h1, (by intro _ z; cases z), (by intro _ _ z; cases z)⟩
theorem Wd.there (w : Wd K H m M) (h : a ∈ m) : ∃ u, H a = some u ∧ (∀ xs, u ≠ .tup xs) ∧ ∀ o' u', u ≠ .frz o' u' := by
  obtain ⟨k, hk, e⟩ := List.mem_iff_getElem.mp h
  have h2 : k < M.length := by rw [← w.len]; exact hk
  exact (w.at_ k a M[k] (by rw [List.getElem?_eq_getElem hk, e]) (List.getElem?_eq_getElem h2)).there
theorem Wd.fresh (w : Wd K H m M) (n : H p = none) : p ∉ m := fun h => by
  obtain ⟨u, q, _⟩ := w.there h
  rw [n] at q; cases q
theorem Wd.same (w : Wd K H m M) (e : Ext H m H1 m) (hs : ∀ a ∈ m, H1 a = H a) : Wd K H1 m M :=
  ⟨w.len, w.nd, fun k a o h1 h2 => (w.at_ k a o h1 h2).ext e (hs a (List.mem_of_getElem? h1))⟩
theorem Wd.new {o : HO} (w : Wd K H m M) (n : H p = none) : Wd K (upd H p o) m M :=
  w.same (.new n) fun a h => upd_ne fun z => w.fresh n (z ▸ h)
theorem nodup_at {m : List Addr} (nd : m.Nodup) {i j : Nat} (a : m[i]? = some p) (b : m[j]? = some p) : i = j := by
  obtain ⟨h1, e1⟩ := List.getElem?_eq_some_iff.mp a
  obtain ⟨h2, e2⟩ := List.getElem?_eq_some_iff.mp b
  exact (List.getElem_inj nd).mp (e1.trans e2.symm)
/-- the object k is changed -/
theorem Wd.set {k : Nat} {o : O} {u : HO} (w : Wd K H m M) (hk : m[k]? = some p) (h : Ro K (upd H p u) m p o) : Wd K (upd H p u) m (M.set k o) := by
  obtain ⟨v, hv, nt, nf⟩ := w.there (List.mem_of_getElem? hk)
  have e : Ext H m (upd H p u) m := .set hv (List.mem_of_getElem? hk) nt nf
  refine ⟨by rw [List.length_set]; exact w.len, w.nd, fun j a o' h1 h2 => ?_⟩
  by_cases q : j = k
  · subst q
    rw [hk] at h1; cases h1
    obtain ⟨z, _⟩ := List.getElem?_eq_some_iff.mp h2
    rw [List.length_set] at z
    rw [List.getElem?_set_self z] at h2
    cases h2; exact h
  · rw [List.getElem?_set_ne (Ne.symm q)] at h2
    exact (w.at_ j a o' h1 h2).ext e (upd_ne fun z => q (nodup_at w.nd (z ▸ h1) hk))
theorem Wd.ext_set {k : Nat} {u : HO} (w : Wd K H m M) (hk : m[k]? = some p) : Ext H m (upd H p u) m := by
  obtain ⟨v, hv, nt, nf⟩ := w.there (List.mem_of_getElem? hk)
  exact .set hv (List.mem_of_getElem? hk) nt nf
theorem Wd.get (w : Wd K H m M) {k : Nat} {o : O} (h : M[k]? = some o) : ∃ a, m[k]? = some a ∧ Ro K H m a o := by
  obtain ⟨h1, _⟩ := List.getElem?_eq_some_iff.mp h
  have h2 : k < m.length := by rw [w.len]; exact h1
  exact ⟨m[k], List.getElem?_eq_getElem h2, w.at_ k _ o (List.getElem?_eq_getElem h2) h⟩
/-- a new own object -/
theorem Wd.push {o : O} {u : HO} (w : Wd K H m M) (n : H p = none) (h : Ro K (upd H p u) (m ++ [p]) p o) : Wd K (upd H p u) (m ++ [p]) (M ++ [o]) ∧ Ext H m (upd H p u) (m ++ [p]) := by
  have hp := w.fresh n
  have e1 : Ext H m (upd H p u) m := .new n
  have e : Ext H m (upd H p u) (m ++ [p]) := ⟨e1.tup, e1.frz, e1.lst, e1.trk, [p], rfl, fun a q => by simp at q; rw [q]; exact n⟩
  refine ⟨⟨by simp [w.len], ?_, fun k a o' h1 h2 => ?_⟩, e⟩
  · rw [List.nodup_append]
    exact ⟨w.nd, by simp, fun a ha b hb z => by simp at hb; subst hb; exact hp (z ▸ ha)⟩
  · by_cases q : k < m.length
    · rw [List.getElem?_append_left q] at h1
      rw [List.getElem?_append_left (by rw [← w.len]; exact q)] at h2
      exact (w.at_ k a o' h1 h2).ext e (upd_ne fun z => hp (z ▸ List.mem_of_getElem? h1))
    · have hk : k = m.length := by
        obtain ⟨z, _⟩ := List.getElem?_eq_some_iff.mp h1
        simp at z; omega
      subst hk
      rw [List.getElem?_append_right (Nat.le_refl _)] at h1
      rw [w.len, List.getElem?_append_right (Nat.le_refl _)] at h2
      simp at h1 h2
      subst h1 h2
      exact h
theorem Rs.ext (e : Ext H m H1 m1) {ρ : Slots} {σ : L2.St} (h : Rs K H m ρ σ) : Rs K H1 m1 ρ σ :=
  ⟨h.1, fun i d q => let ⟨v, a, b⟩ := h.2 i d q; ⟨v, a, b.ext e⟩⟩
theorem Rs.set {ρ : Slots} {σ : L2.St} {d : D} {v : V} (h : Rs K H m ρ σ) (r : Rl K H m d v) (i : Nat) : Rs K H m (ρ.set i (some d)) (σ.set i (some v)) := by
  refine ⟨by simp [h.1], fun j e q => ?_⟩
  by_cases z : j = i
  · subst z
    obtain ⟨z, _⟩ := List.getElem?_eq_some_iff.mp q
    rw [List.length_set] at z
    rw [List.getElem?_set_self z] at q
    cases q
    exact ⟨v, List.getElem?_set_self (by rw [← h.1]; exact z), r⟩
  · rw [List.getElem?_set_ne (Ne.symm z)] at q
    rw [List.getElem?_set_ne (Ne.symm z)]
    exact h.2 j e q
theorem Rls.length : ∀ {ds : List D} {vs : List V}, Rls K H m ds vs → ds.length = vs.length
  | [], _, h => by rw [Rls] at h; subst h; rfl
  | d :: ds, _, h => by
    rw [Rls] at h
    obtain ⟨v, r, rfl, _, h2⟩ := h
    simp [h2.length]
theorem Rls.get : ∀ {ds : List D} {vs : List V}, Rls K H m ds vs → ∀ {i : Nat} {d : D}, ds[i]? = some d → ∃ v, vs[i]? = some v ∧ Rl K H m d v
  | [], _, h, i, d, q => by simp at q
  | e :: ds, _, h, i, d, q => by
    rw [Rls] at h
    obtain ⟨v, r, rfl, h1, h2⟩ := h
    cases i with
    | zero => simp at q; subst q; exact ⟨v, rfl, h1⟩
    | succ i => simpa using Rls.get h2 (i := i) (d := d) (by simpa using q)
theorem Rls.getR : ∀ {ds : List D} {vs : List V}, Rls K H m ds vs → ∀ {i : Nat} {v : V}, vs[i]? = some v → ∃ d, ds[i]? = some d ∧ Rl K H m d v
  | [], _, h, i, d, q => by rw [Rls] at h; subst h; simp at q
  | e :: ds, _, h, i, d, q => by
    rw [Rls] at h
    obtain ⟨v, r, rfl, h1, h2⟩ := h
    cases i with
    | zero => simp at q; subst q; exact ⟨e, rfl, h1⟩
    | succ i => simpa using Rls.getR h2 (i := i) (v := d) (by simpa using q)
theorem Rls.append : ∀ {ds es : List D} {vs ws : List V}, Rls K H m ds vs → Rls K H m es ws → Rls K H m (ds ++ es) (vs ++ ws)
  | [], _, _, _, h, g => by rw [Rls] at h; subst h; exact g
  | d :: ds, _, _, _, h, g => by
    rw [Rls] at h
    obtain ⟨v, r, rfl, h1, h2⟩ := h
    show Rls K H m (d :: (ds ++ _)) (v :: (r ++ _))
    rw [Rls]
    exact ⟨v, _, rfl, h1, h2.append g⟩
theorem Rls.take : ∀ {ds : List D} {vs : List V} (n : Nat), Rls K H m ds vs → Rls K H m (ds.take n) (vs.take n)
  | _, _, 0, _ => by simp [Rls]
  | [], _, n + 1, h => by rw [Rls] at h; subst h; simp [Rls]
  | d :: ds, _, n + 1, h => by
    rw [Rls] at h
    obtain ⟨v, r, rfl, h1, h2⟩ := h
    show Rls K H m (d :: ds.take n) (v :: r.take n)
    rw [Rls]
    exact ⟨v, _, rfl, h1, h2.take n⟩
theorem Rls.drop : ∀ {ds : List D} {vs : List V} (n : Nat), Rls K H m ds vs → Rls K H m (ds.drop n) (vs.drop n)
  | _, _, 0, h => by simpa using h
  | [], _, n + 1, h => by rw [Rls] at h; subst h; simp [Rls]
  | d :: ds, _, n + 1, h => by
    rw [Rls] at h
    obtain ⟨v, r, rfl, h1, h2⟩ := h
    exact h2.drop n
theorem Rls.one {d : D} {vs : List V} (h : Rls K H m [d] vs) : ∃ v, vs = [v] ∧ Rl K H m d v := by
  rw [Rls] at h
  obtain ⟨v, r, rfl, h1, h2⟩ := h
  rw [Rls] at h2
  subst h2
  exact ⟨v, rfl, h1⟩
theorem Rls.two {d e : D} {vs : List V} (h : Rls K H m [d, e] vs) : ∃ v w, vs = [v, w] ∧ Rl K H m d v ∧ Rl K H m e w := by
  rw [Rls] at h
  obtain ⟨v, r, rfl, h1, h2⟩ := h
  obtain ⟨w, rfl, h3⟩ := h2.one
  exact ⟨v, w, rfl, h1, h3⟩
theorem Rls.ints : ∀ {ns : List Int}, Rls K H m (ns.map D.int) (ns.map V.int)
  | [] => by simp [Rls]
  | n :: ns => by
    show Rls K H m (D.int n :: ns.map D.int) (V.int n :: ns.map V.int)
    rw [Rls]
    exact ⟨_, _, rfl, by rw [Rl], Rls.ints⟩
theorem Rls.set : ∀ {ds : List D} {vs : List V} {d : D} {v : V} (i : Nat), Rls K H m ds vs → Rl K H m d v → Rls K H m (ds.set i d) (vs.set i v)
  | [], _, _, _, _, h, _ => by rw [Rls] at h; subst h; simp [Rls]
  | e :: ds, _, d, v, 0, h, g => by
    rw [Rls] at h
    obtain ⟨w, r, rfl, h1, h2⟩ := h
    show Rls K H m (d :: ds) (v :: r)
    rw [Rls]
    exact ⟨_, _, rfl, g, h2⟩
  | e :: ds, _, d, v, i + 1, h, g => by
    rw [Rls] at h
    obtain ⟨w, r, rfl, h1, h2⟩ := h
    show Rls K H m (e :: ds.set i d) (w :: r.set i v)
    rw [Rls]
    exact ⟨_, _, rfl, h1, h2.set i g⟩
theorem Rls.eraseIdx : ∀ {ds : List D} {vs : List V} (i : Nat), Rls K H m ds vs → Rls K H m (ds.eraseIdx i) (vs.eraseIdx i)
  | [], _, _, h => by rw [Rls] at h; subst h; simp [Rls]
  | e :: ds, _, 0, h => by
    rw [Rls] at h
    obtain ⟨w, r, rfl, h1, h2⟩ := h
    exact h2
  | e :: ds, _, i + 1, h => by
    rw [Rls] at h
    obtain ⟨w, r, rfl, h1, h2⟩ := h
    show Rls K H m (e :: ds.eraseIdx i) (w :: r.eraseIdx i)
    rw [Rls]
    exact ⟨_, _, rfl, h1, h2.eraseIdx i⟩
theorem Rfs.lookup {f : Str} {d : D} : ∀ {fs : List (Str × D)} {gs : List (Str × V)}, Rfs K H m fs gs → fs.lookup f = some d → ∃ v, gs.lookup f = some v ∧ Rl K H m d v
  | [], _, h, q => by simp at q
  | (g, e) :: fs, _, h, q => by
    obtain ⟨v, r, rfl, h1, h2⟩ := h
    rw [List.lookup_cons] at q ⊢
    by_cases z : f == g
    · simp [z] at q ⊢; subst q; exact h1
    · simp [z] at q ⊢; exact h2.lookup q
theorem Rfs.lookup_none {f : Str} : ∀ {fs : List (Str × D)} {gs : List (Str × V)}, Rfs K H m fs gs → fs.lookup f = none → gs.lookup f = none
  | [], _, h, q => by cases h; simp
  | (g, e) :: fs, _, h, q => by
    obtain ⟨v, r, rfl, h1, h2⟩ := h
    rw [List.lookup_cons] at q ⊢
    by_cases z : f == g
    · rw [z] at q; cases q
    · rw [show (f == g) = false from by simpa using z] at q ⊢; exact h2.lookup_none q
theorem Rfs.length : ∀ {fs : List (Str × D)} {gs : List (Str × V)}, Rfs K H m fs gs → fs.length = gs.length
  | [], _, h => by cases h; rfl
  | (g, e) :: fs, _, h => by
    obtain ⟨v, r, rfl, h1, h2⟩ := h
    simp [h2.length]
end
end CI

/-! Ci2: readings of expressions -/
namespace CI
open PySem PySem.Spec PyProof.Rows L2

abbrev Ef := Slots → Mem → Option (Rz × Mem)
abbrev Tf := Slots → Mem → Option (Bool × Mem)
abbrev Af := Slots → Mem → Option (List D × Mem)

def Post (K : PySem.W.Frag) (H : Hp) (m : List Addr) (r : Rz) (M' : Mem) (Q : VK) : Prop := ∀ H1 m1, Ext H m H1 m1 → Wd K H1 m1 M' → match r with
  | .val d => ∀ v, Rl K H1 m1 d v → Q v H1
  | .new ds => ∀ vs a, Rls K H1 m1 ds vs → H1 a = none → Q (.ref a) (upd H1 a (.lst vs))
def tE (K : PySem.W.Frag) (f : Ef) : TE := fun σ H Q => ∃ ρ M m r M', Rs K H m ρ σ ∧ Wd K H m M ∧ f ρ M = some (r, M') ∧ Post K H m r M' Q
def tT (K : PySem.W.Frag) (f : Tf) : TT := fun σ H Q => ∃ ρ M m b M', Rs K H m ρ σ ∧ Wd K H m M ∧ f ρ M = some (b, M') ∧ ∀ H1 m1, Ext H m H1 m1 → Wd K H1 m1 M' → Q b H1
def tA (K : PySem.W.Frag) (f : Af) : TA := fun σ H Q => ∃ ρ M m ds M', Rs K H m ρ σ ∧ Wd K H m M ∧ f ρ M = some (ds, M') ∧ ∀ H1 m1 vs, Ext H m H1 m1 → Wd K H1 m1 M' → Rls K H1 m1 ds vs → Q vs H1
abbrev CEx (X : Cx) (e : Expr) (f : Ef) : Prop := PE X e (tE X.K f)
abbrev CTx (X : Cx) (e : Expr) (f : Tf) : Prop := PT X e (tT X.K f)
abbrev CWx (X : Cx) (e : Expr) (f : Tf) : Prop := PW X e (tT X.K f)
abbrev CAx (X : Cx) (es : List Expr) (f : Af) : Prop := PA X es (tA X.K f)

theorem PE.imp {X : Cx} {e : Expr} {t t' : TE} (h : PE X e t) (i : ∀ σ H Q, t' σ H Q → t σ H Q) : PE X e t' := ⟨fun pins s σ H Q I q => h.run pins s σ H Q I (i σ H Q q)⟩
theorem PT.imp {X : Cx} {e : Expr} {t t' : TT} (h : PT X e t) (i : ∀ σ H Q, t' σ H Q → t σ H Q) : PT X e t' := ⟨fun pins s σ H Q I q => h.run pins s σ H Q I (i σ H Q q)⟩
theorem PW.imp {X : Cx} {e : Expr} {t t' : TT} (h : PW X e t) (i : ∀ σ H Q, t' σ H Q → t σ H Q) : PW X e t' := ⟨fun w pins s σ H Q I q => h.run w pins s σ H Q I (i σ H Q q)⟩
theorem PA.imp {X : Cx} {es : List Expr} {t t' : TA} (h : PA X es t) (i : ∀ σ H Q, t' σ H Q → t σ H Q) : PA X es t' := ⟨fun p pins s σ H Q I q => h.run p pins s σ H Q I (i σ H Q q)⟩
theorem PE.or {X : Cx} {e : Expr} {t t' : TE} (h : PE X e t) (h' : PE X e t') : PE X e (fun σ H Q => t σ H Q ∨ t' σ H Q) :=
  ⟨fun pins s σ H Q I q => q.elim (h.run pins s σ H Q I) (h'.run pins s σ H Q I)⟩

section
variable {K : PySem.W.Frag} {H H1 H2 : Hp} {m m1 m2 : List Addr} {M M1 M2 : Mem} {Q : VK} {r : Rz}
theorem Post.use (P : ∀ H1 m1 v, Ext H m H1 m1 → Wd K H1 m1 M1 → Rl K H1 m1 r.d v → Q v H1) : Post K H m r M1 Q := by
  intro H1 m1 e w
  cases r with
  | val d => exact fun v r => P H1 m1 v e w r
  | new ds =>
    intro vs a r n
    have e2 : Ext H1 m1 (upd H1 a (.lst vs)) m1 := .new n
    refine P _ m1 _ (e.trans e2) (w.new n) ?_
    show Rl K _ m1 (.lst ds) _
    rw [Rl]
    exact ⟨a, vs, rfl, w.fresh n, upd_same, r.ext e2⟩
theorem Post.ext (P : Post K H m r M1 Q) (e : Ext H m H2 m2) : Post K H2 m2 r M1 Q := fun H1 m1 e1 w => P H1 m1 (e.trans e1) w
theorem Post.val {d : D} {v : V} (P : Post K H m (.val d) M1 Q) (w : Wd K H m M1) (r : Rl K H m d v) : Q v H := P H m .refl w v r
theorem Post.new {ds : List D} {vs : List V} (P : Post K H m (.new ds) M1 Q) (w : Wd K H m M1) (r : Rls K H m ds vs) : ∀ p, H p = none → Q (.ref p) (upd H p (.lst vs)) :=
  fun p n => P H m .refl w vs p r n
theorem Post.tup {ds : List D} {vs : List V} (P : Post K H m (.val (.tup ds)) M1 Q) (w : Wd K H m M1) (r : Rls K H m ds vs) : ∀ p, H p = none → Q (.ref p) (upd H p (.tup vs)) :=
  fun p n => P _ m (.new n) (w.new n) _ (by rw [Rl]; exact ⟨p, vs, rfl, .of upd_same, r.ext (.new n)⟩)
theorem bindE {f : Ef} {ρ : Slots} {σ : L2.St} (rs : Rs K H m ρ σ) (w : Wd K H m M) (h : f ρ M = some (r, M1))
    (P : ∀ H1 m1 v, Ext H m H1 m1 → Wd K H1 m1 M1 → Rs K H1 m1 ρ σ → Rl K H1 m1 r.d v → Q v H1) : tE K f σ H Q :=
  ⟨ρ, M, m, r, M1, rs, w, h, Post.use fun H1 m1 v e w' r' => P H1 m1 v e w' (rs.ext e) r'⟩
theorem bindT {f : Tf} {ρ : Slots} {σ : L2.St} {b : Bool} {Q : Bool → Hp → Prop} (rs : Rs K H m ρ σ) (w : Wd K H m M) (h : f ρ M = some (b, M1))
    (P : ∀ H1 m1, Ext H m H1 m1 → Wd K H1 m1 M1 → Rs K H1 m1 ρ σ → Q b H1) : tT K f σ H Q :=
  ⟨ρ, M, m, b, M1, rs, w, h, fun H1 m1 e w' => P H1 m1 e w' (rs.ext e)⟩
theorem bindA {f : Af} {ρ : Slots} {σ : L2.St} {ds : List D} {Q : List V → Hp → Prop} (rs : Rs K H m ρ σ) (w : Wd K H m M) (h : f ρ M = some (ds, M1))
    (P : ∀ H1 m1 vs, Ext H m H1 m1 → Wd K H1 m1 M1 → Rs K H1 m1 ρ σ → Rls K H1 m1 ds vs → Q vs H1) : tA K f σ H Q :=
  ⟨ρ, M, m, ds, M1, rs, w, h, fun H1 m1 vs e w' r' => P H1 m1 vs e w' (rs.ext e) r'⟩
end

/-! ### names and constants -/
def slot (ρ : Slots) (i : Nat) : Option D := ρ.getD i none
def cVar (i : Nat) : Ef := fun ρ M => (slot ρ i).bind fun d => some (.val d, M)
def cVal (d : D) : Ef := fun _ M => some (.val d, M)
abbrev cInt (i : Int) : Ef := cVal (.int i)
abbrev cBl (b : Bool) : Ef := cVal (.bl b)
abbrev cNon : Ef := cVal .non
abbrev cStr (x : Str) : Ef := cVal (.str x)
theorem slot_some {ρ : Slots} {i : Nat} {d : D} (h : slot ρ i = some d) : ρ[i]? = some (some d) := by
  unfold slot at h
  rw [List.getD_eq_getElem?_getD] at h
  cases q : ρ[i]? with
  | none => rw [q] at h; cases h
  | some o => rw [q] at h; simp at h; rw [h]
section
variable {X : Cx}
theorem ce_var {e : Expr} {i : Nat} (h : PE X e (tVar i)) : CEx X e (cVar i) := PE.imp h fun σ H Q ⟨ρ, M, m, r, M', rs, w, hf, P⟩ => by
  unfold cVar at hf
  cases q : slot ρ i with
  | none => rw [q] at hf; cases hf
  | some d =>
    rw [q] at hf
    cases hf
    obtain ⟨v, h1, h2⟩ := rs.2 i d (slot_some q)
    exact ⟨v, h1, P.val w h2⟩
theorem ce_val {e : Expr} {d : D} {v : V} (h : PE X e (tC v)) (hr : ∀ H m, Rl X.K H m d v) : CEx X e (cVal d) := PE.imp h fun σ H Q ⟨ρ, M, m, r, M', rs, w, hf, P⟩ => by
  cases hf
  exact P.val w (hr H m)
theorem ce_int {i : Int} {j pos} : CEx X (.Constant (.int i) j pos) (cInt i) := ce_val pe_int fun _ _ => by rw [Rl]
theorem ce_bl {b : Bool} {j pos} : CEx X (.Constant (.bool b) j pos) (cBl b) := ce_val pe_bl fun _ _ => by rw [Rl]
theorem ce_non {j pos} : CEx X (.Constant .none j pos) cNon := ce_val pe_non fun _ _ => by rw [Rl]
theorem ce_str {x : Str} {j pos} : CEx X (.Constant (.str x) j pos) (cStr x) := ce_val pe_str fun _ _ => by rw [Rl]
end

/-! ### operators -/
def Bop := D → D → Mem → Option Rz
def OpOk (X : Cx) (f : Value → Value → Sem Value) (o : Bop) : Prop := ∃ r : R2, OpR X f r ∧
  ∀ H m M d e x y z Q, Wd X.K H m M → Rl X.K H m d x → Rl X.K H m e y → o d e M = some z → Post X.K H m z M Q → r x y H Q
def cBin (o : Bop) (fa fb : Ef) : Ef := fun ρ M => (fa ρ M).bind fun p => (fb ρ p.2).bind fun q => (o p.1.d q.1.d q.2).bind fun r => some (r, q.2)
theorem bin_of {X : Cx} {o : Bop} {fa fb : Ef} {r : R2} (ho : ∀ H m M d e x y z Q, Wd X.K H m M → Rl X.K H m d x → Rl X.K H m e y → o d e M = some z → Post X.K H m z M Q → r x y H Q)
    {σ : L2.St} {H : Hp} {Q : VK} (h : tE X.K (cBin o fa fb) σ H Q) : tOp r (tE X.K fa) (tE X.K fb) σ H Q := by
  obtain ⟨ρ, M, m, z, M', rs, w, hf, P⟩ := h
  unfold cBin at hf
  cases ea : fa ρ M with
  | none => rw [ea] at hf; cases hf
  | some p =>
    rw [ea] at hf
    cases eb : fb ρ p.2 with
    | none => simp [eb] at hf
    | some q =>
      cases ec : o p.1.d q.1.d q.2 with
      | none => simp [eb, ec] at hf
      | some z' =>
        simp [eb, ec] at hf
        obtain ⟨rfl, rfl⟩ := hf
        refine bindE rs w ea fun H1 m1 v e1 w1 rs1 r1 => ?_
        refine bindE rs1 w1 eb fun H2 m2 u e2 w2 rs2 r2 => ?_
        exact ho H2 m2 q.2 _ _ v u _ Q w2 (r1.ext e2) r2 ec (P.ext (e1.trans e2))
section
variable {X : Cx} {a b c : Expr} {fa fb fc : Ef} {pos : Pos} {o o' : Bop}
theorem ce_bin {op : Operator} (ho : OpOk X (binaryOp op) o) (ha : CEx X a fa) (hb : CEx X b fb) : CEx X (.BinOp a op b pos) (cBin o fa fb) := by
  obtain ⟨r, h1, h2⟩ := ho
  exact PE.imp (pe_op h1 ha hb) fun σ H Q h => bin_of h2 h
theorem ce_cmp {op : CmpOp} (ho : OpOk X (compareOp op) o) (ha : CEx X a fa) (hb : CEx X b fb) (hm : behindInMarks op b = false) : CEx X (.Compare a [op] [b] pos) (cBin o fa fb) := by
  obtain ⟨r, h1, h2⟩ := ho
  exact PE.imp (pe_cmpR h1 ha hb hm) fun σ H Q h => bin_of h2 h
/-- a value that must be a bool, as a test -/
def toB (f : Ef) : Tf := fun ρ M => (f ρ M).bind fun p => match p.1.d with
  | .bl b => some (b, p.2)
  | _ => none
theorem tst_of {f : Ef} {σ : L2.St} {H : Hp} {Q : Bool → Hp → Prop} (h : tT X.K (toB f) σ H Q) : tE X.K f σ H fun x H' => ∃ k, x = .bl k ∧ Q k H' := by
  obtain ⟨ρ, M, m, z, M', rs, w, hf, P⟩ := h
  unfold toB at hf
  cases ea : f ρ M with
  | none => rw [ea] at hf; cases hf
  | some p =>
    rw [ea] at hf
    simp only [Option.bind_some] at hf
    refine bindE rs w ea fun H1 m1 v e1 w1 rs1 r1 => ?_
    split at hf
    · rename_i b hb
      cases hf
      rw [hb, Rl] at r1
      exact ⟨_, r1, P H1 m1 e1 w1⟩
    · cases hf
theorem ct_cmp {op : CmpOp} (ho : OpOk X (compareOp op) o) (ha : CEx X a fa) (hb : CEx X b fb) (hm : behindInMarks op b = false) : CTx X (.Compare a [op] [b] pos) (toB (cBin o fa fb)) := by
  obtain ⟨r, h1, h2⟩ := ho
  exact PT.imp (pt_cmpR h1 ha hb hm) fun σ H Q h => bin_of h2 (tst_of h)
/-- a op b op' c -/
def cChain (o o' : Bop) (fa fb fc : Ef) : Ef := fun ρ M => (fa ρ M).bind fun p => (fb ρ p.2).bind fun q => (o p.1.d q.1.d q.2).bind fun r => match r with
  | .val (.bl true) => (fc ρ q.2).bind fun s => (o' q.1.d s.1.d s.2).bind fun z => some (z, s.2)
  | .val (.bl false) => some (.val (.bl false), q.2)
  | _ => none
theorem chain_of {r r' : R2} (ho : ∀ H m M d e x y z Q, Wd X.K H m M → Rl X.K H m d x → Rl X.K H m e y → o d e M = some z → Post X.K H m z M Q → r x y H Q)
    (ho' : ∀ H m M d e x y z Q, Wd X.K H m M → Rl X.K H m d x → Rl X.K H m e y → o' d e M = some z → Post X.K H m z M Q → r' x y H Q)
    {σ : L2.St} {H : Hp} {Q : VK} (h : tE X.K (cChain o o' fa fb fc) σ H Q) : tChain r r' (tE X.K fa) (tE X.K fb) (tE X.K fc) σ H Q := by
  obtain ⟨ρ, M, m, z, M', rs, w, hf, P⟩ := h
  unfold cChain at hf
  cases ea : fa ρ M with
  | none => rw [ea] at hf; cases hf
  | some p =>
    rw [ea] at hf
    cases eb : fb ρ p.2 with
    | none => simp [eb] at hf
    | some q =>
      cases ec : o p.1.d q.1.d q.2 with
      | none => simp [eb, ec] at hf
      | some z' =>
        simp only [Option.bind_some, eb, ec] at hf
        refine bindE rs w ea fun H1 m1 v e1 w1 rs1 r1 => ?_
        refine bindE rs1 w1 eb fun H2 m2 u e2 w2 rs2 r2 => ?_
        refine ho H2 m2 q.2 _ _ v u _ _ w2 (r1.ext e2) r2 ec ?_
        split at hf
        · refine Post.use fun H3 m3 t e3 w3 r3 => ?_
          rw [show (Rz.val (D.bl true)).d = .bl true from rfl, Rl] at r3
          refine ⟨true, r3, ?_⟩
          rw [if_pos rfl]
          cases es : fc ρ q.2 with
          | none => simp [es] at hf
          | some s =>
            cases et : o' q.1.d s.1.d s.2 with
            | none => simp [es, et] at hf
            | some z2 =>
              simp [es, et] at hf
              obtain ⟨rfl, rfl⟩ := hf
              refine bindE (rs2.ext e3) w3 es fun H4 m4 t' e4 w4 rs4 r4 => ?_
              exact ho' H4 m4 s.2 _ _ u t' _ Q w4 (r2.ext (e3.trans e4)) r4 et (P.ext (((e1.trans e2).trans e3).trans e4))
        · refine Post.use fun H3 m3 t e3 w3 r3 => ?_
          rw [show (Rz.val (D.bl false)).d = .bl false from rfl, Rl] at r3
          refine ⟨false, r3, ?_⟩
          rw [if_neg Bool.false_ne_true]
          cases hf
          exact P.ext ((e1.trans e2).trans e3) |>.val w3 (by rw [Rl])
        · cases hf
theorem ce_chain {op op' : CmpOp} (ho : OpOk X (compareOp op) o) (ho' : OpOk X (compareOp op') o') (ha : CEx X a fa) (hb : CEx X b fb) (hc : CEx X c fc)
    (hm : lastMarks [op, op'] [b, c] = false := by with_unfolding_all rfl) : CEx X (.Compare a [op, op'] [b, c] pos) (cChain o o' fa fb fc) := by
  obtain ⟨r, h1, h2⟩ := ho
  obtain ⟨r', h1', h2'⟩ := ho'
  exact PE.imp (pe_chain h1 h1' ha hb hc hm) fun σ H Q h => chain_of h2 h2' h
theorem ct_chain {op op' : CmpOp} (ho : OpOk X (compareOp op) o) (ho' : OpOk X (compareOp op') o') (ha : CEx X a fa) (hb : CEx X b fb) (hc : CEx X c fc)
    (hm : lastMarks [op, op'] [b, c] = false := by with_unfolding_all rfl) : CTx X (.Compare a [op, op'] [b, c] pos) (toB (cChain o o' fa fb fc)) := by
  obtain ⟨r, h1, h2⟩ := ho
  obtain ⟨r', h1', h2'⟩ := ho'
  exact PT.imp (pt_chain h1 h1' ha hb hc hm) fun σ H Q h => chain_of h2 h2' (tst_of h)
end

/-! ### and, or, not, if else -/
section
variable {X : Cx} {a b c : Expr} {rest : List Expr} {fa fb : Ef} {ta tb : Tf} {pos : Pos}
def kAnd (ta tb : Tf) : Tf := fun ρ M => (ta ρ M).bind fun p => if p.1 = true then tb ρ p.2 else some (false, p.2)
def kOr (ta tb : Tf) : Tf := fun ρ M => (ta ρ M).bind fun p => if p.1 = true then some (true, p.2) else tb ρ p.2
def kNot (ta : Tf) : Tf := fun ρ M => (ta ρ M).bind fun p => some (!p.1, p.2)
theorem cw_and1 (ha : CTx X a ta) : CWx X (.BoolOp .And [a] pos) ta := pw_and1 ha
theorem cw_or1 (ha : CTx X a ta) : CWx X (.BoolOp .Or [a] pos) ta := pw_or1 ha
theorem cw_and (ha : CTx X a ta) (hb : CWx X (.BoolOp .And (b :: rest) pos) tb) : CWx X (.BoolOp .And (a :: b :: rest) pos) (kAnd ta tb) := PW.imp (pw_and ha hb) fun σ H Q h => by
  obtain ⟨ρ, M, m, z, M', rs, w, hf, P⟩ := h
  unfold kAnd at hf
  cases ea : ta ρ M with
  | none => rw [ea] at hf; cases hf
  | some p =>
    rw [ea] at hf
    simp only [Option.bind_some] at hf
    refine bindT rs w ea fun H1 m1 e1 w1 rs1 => ?_
    split at hf
    · rename_i e; rw [if_pos e]
      exact ⟨ρ, p.2, m1, z, M', rs1, w1, hf, fun H2 m2 e2 w2 => P H2 m2 (e1.trans e2) w2⟩
    · rename_i e; rw [if_neg e]
      cases hf
      exact P H1 m1 e1 w1
theorem cw_or (ha : CTx X a ta) (hb : CWx X (.BoolOp .Or (b :: rest) pos) tb) : CWx X (.BoolOp .Or (a :: b :: rest) pos) (kOr ta tb) := PW.imp (pw_or ha hb) fun σ H Q h => by
  obtain ⟨ρ, M, m, z, M', rs, w, hf, P⟩ := h
  unfold kOr at hf
  cases ea : ta ρ M with
  | none => rw [ea] at hf; cases hf
  | some p =>
    rw [ea] at hf
    simp only [Option.bind_some] at hf
    refine bindT rs w ea fun H1 m1 e1 w1 rs1 => ?_
    split at hf
    · rename_i e; rw [if_pos e]
      cases hf
      exact P H1 m1 e1 w1
    · rename_i e; rw [if_neg e]
      exact ⟨ρ, p.2, m1, z, M', rs1, w1, hf, fun H2 m2 e2 w2 => P H2 m2 (e1.trans e2) w2⟩
theorem ct_w (h : CWx X a ta) : CTx X a ta := h.pt
theorem ct_not (ha : CTx X a ta) : CTx X (.UnaryOp .Not a pos) (kNot ta) := PT.imp (pt_not ha) fun σ H Q h => by
  obtain ⟨ρ, M, m, z, M', rs, w, hf, P⟩ := h
  unfold kNot at hf
  cases ea : ta ρ M with
  | none => rw [ea] at hf; cases hf
  | some p =>
    rw [ea] at hf
    cases hf
    exact bindT rs w ea fun H1 m1 e1 w1 rs1 => P H1 m1 e1 w1
/-- .. as values -/
def cAnd (fa fb : Ef) : Ef := fun ρ M => (fa ρ M).bind fun p => match p.1.d with
  | .bl true => fb ρ p.2
  | .bl false => some (.val (.bl false), p.2)
  | _ => none
def cOr (fa fb : Ef) : Ef := fun ρ M => (fa ρ M).bind fun p => match p.1.d with
  | .bl true => some (.val (.bl true), p.2)
  | .bl false => fb ρ p.2
  | _ => none
def cNot (fa : Ef) : Ef := fun ρ M => (fa ρ M).bind fun p => match p.1.d with
  | .bl b => some (.val (.bl (!b)), p.2)
  | _ => none
theorem ce_one {op} (h : CEx X a fa) : CEx X (.BoolOp op [a] pos) fa := pe_one h
theorem ce_and (ha : CEx X a fa) (hb : CEx X (.BoolOp .And (b :: rest) pos) fb) : CEx X (.BoolOp .And (a :: b :: rest) pos) (cAnd fa fb) := PE.imp (pe_and ha hb) fun σ H Q h => by
  obtain ⟨ρ, M, m, z, M', rs, w, hf, P⟩ := h
  unfold cAnd at hf
  cases ea : fa ρ M with
  | none => rw [ea] at hf; cases hf
  | some p =>
    rw [ea] at hf
    simp only [Option.bind_some] at hf
    refine bindE rs w ea fun H1 m1 v e1 w1 rs1 r1 => ?_
    split at hf
    · rename_i e; rw [e, Rl] at r1
      refine ⟨true, r1, ?_⟩; rw [if_pos rfl]
      exact ⟨ρ, p.2, m1, z, M', rs1, w1, hf, P.ext e1⟩
    · rename_i e; rw [e, Rl] at r1
      refine ⟨false, r1, ?_⟩; rw [if_neg Bool.false_ne_true]
      cases hf
      exact (P.ext e1).val w1 (by rw [Rl])
    · cases hf
theorem ce_or (ha : CEx X a fa) (hb : CEx X (.BoolOp .Or (b :: rest) pos) fb) : CEx X (.BoolOp .Or (a :: b :: rest) pos) (cOr fa fb) := PE.imp (pe_or ha hb) fun σ H Q h => by
  obtain ⟨ρ, M, m, z, M', rs, w, hf, P⟩ := h
  unfold cOr at hf
  cases ea : fa ρ M with
  | none => rw [ea] at hf; cases hf
  | some p =>
    rw [ea] at hf
    simp only [Option.bind_some] at hf
    refine bindE rs w ea fun H1 m1 v e1 w1 rs1 r1 => ?_
    split at hf
    · rename_i e; rw [e, Rl] at r1
      refine ⟨true, r1, ?_⟩; rw [if_pos rfl]
      cases hf
      exact (P.ext e1).val w1 (by rw [Rl])
    · rename_i e; rw [e, Rl] at r1
      refine ⟨false, r1, ?_⟩; rw [if_neg Bool.false_ne_true]
      exact ⟨ρ, p.2, m1, z, M', rs1, w1, hf, P.ext e1⟩
    · cases hf
theorem ce_not (ha : CEx X a fa) : CEx X (.UnaryOp .Not a pos) (cNot fa) := PE.imp (pe_not ha) fun σ H Q h => by
  obtain ⟨ρ, M, m, z, M', rs, w, hf, P⟩ := h
  unfold cNot at hf
  cases ea : fa ρ M with
  | none => rw [ea] at hf; cases hf
  | some p =>
    rw [ea] at hf
    simp only [Option.bind_some] at hf
    refine bindE rs w ea fun H1 m1 v e1 w1 rs1 r1 => ?_
    split at hf
    · rename_i b e; rw [e, Rl] at r1
      cases hf
      exact ⟨b, r1, (P.ext e1).val w1 (by rw [Rl])⟩
    · cases hf
def cIf (t : Tf) (fa fb : Ef) : Ef := fun ρ M => (t ρ M).bind fun p => if p.1 = true then fa ρ p.2 else fb ρ p.2
theorem ce_if (hc : CTx X c ta) (ha : CEx X a fa) (hb : CEx X b fb) : CEx X (.IfExp c a b pos) (cIf ta fa fb) := PE.imp (pe_ifExp hc ha hb) fun σ H Q h => by
  obtain ⟨ρ, M, m, z, M', rs, w, hf, P⟩ := h
  unfold cIf at hf
  cases ea : ta ρ M with
  | none => rw [ea] at hf; cases hf
  | some p =>
    rw [ea] at hf
    simp only [Option.bind_some] at hf
    refine bindT rs w ea fun H1 m1 e1 w1 rs1 => ?_
    split at hf
    · rename_i e; rw [if_pos e]; exact ⟨ρ, p.2, m1, z, M', rs1, w1, hf, P.ext e1⟩
    · rename_i e; rw [if_neg e]; exact ⟨ρ, p.2, m1, z, M', rs1, w1, hf, P.ext e1⟩
end

/-! ### argument lists, displays -/
section
variable {X : Cx} {e : Expr} {es : List Expr} {f : Ef} {g : Af} {pos : Pos}
def aNil : Af := fun _ M => some ([], M)
def aCons (f : Ef) (g : Af) : Af := fun ρ M => (f ρ M).bind fun p => (g ρ p.2).bind fun q => some (p.1.d :: q.1, q.2)
theorem ca_nil : CAx X [] aNil := PA.imp pa_nil fun σ H Q ⟨ρ, M, m, ds, M', rs, w, hf, P⟩ => by
  cases hf
  exact P H m [] .refl w (by rw [Rls])
theorem ca_cons (ha : CEx X e f) (hr : CAx X es g) (hs : starEach (e :: es) X.env = (false, eval e X.env) :: starEach es X.env := by rfl) : CAx X (e :: es) (aCons f g) := PA.imp (pa_cons ha hr hs) fun σ H Q ⟨ρ, M, m, ds, M', rs, w, hf, P⟩ => by
  unfold aCons at hf
  cases ea : f ρ M with
  | none => rw [ea] at hf; cases hf
  | some p =>
    cases eb : g ρ p.2 with
    | none => simp [ea, eb] at hf
    | some q =>
      simp [ea, eb] at hf
      obtain ⟨rfl, rfl⟩ := hf
      refine bindE rs w ea fun H1 m1 v e1 w1 rs1 r1 => ?_
      refine bindA rs1 w1 eb fun H2 m2 vs e2 w2 rs2 r2 => ?_
      exact P H2 m2 _ (e1.trans e2) w2 (by rw [Rls]; exact ⟨_, _, rfl, r1.ext e2, r2⟩)
def cTup (g : Af) : Ef := fun ρ M => (g ρ M).bind fun p => if p.1.length ≤ sizeLine then some (.val (.tup p.1), p.2) else none
def cLst (g : Af) : Ef := fun ρ M => (g ρ M).bind fun p => if p.1.length ≤ sizeLine then some (.new p.1, p.2) else none
theorem ce_tup {x1} (h : CAx X es g) : CEx X (.Tuple es x1 pos) (cTup g) := PE.imp (pe_tup h) fun σ H Q ⟨ρ, M, m, z, M', rs, w, hf, P⟩ => by
  unfold cTup at hf
  cases ea : g ρ M with
  | none => rw [ea] at hf; cases hf
  | some p =>
    rw [ea] at hf
    simp only [Option.bind_some] at hf
    split at hf
    · cases hf
      refine bindA rs w ea fun H1 m1 vs e1 w1 rs1 r1 => ⟨by rw [← r1.length]; assumption, (P.ext e1).tup w1 r1⟩
    · cases hf
theorem ce_lst (h : CAx X es g) : CEx X (.List es pos) (cLst g) := PE.imp (pe_lst h) fun σ H Q ⟨ρ, M, m, z, M', rs, w, hf, P⟩ => by
  unfold cLst at hf
  cases ea : g ρ M with
  | none => rw [ea] at hf; cases hf
  | some p =>
    rw [ea] at hf
    simp only [Option.bind_some] at hf
    split at hf
    · cases hf
      refine bindA rs w ea fun H1 m1 vs e1 w1 rs1 r1 => ⟨by rw [← r1.length]; assumption, (P.ext e1).new w1 r1⟩
    · cases hf
end
end CI

/-! Ci3: operators by values, subscripts, slices, calls, attributes -/
namespace CI
open PySem PySem.Spec PyProof.Rows L2

/-! ### sequences -/
/-- a list that can be read; that can be written; a tuple -/
def asL (M : Mem) : D → Option (List D)
  | .lst ds => some ds
  | .scr ns => some (ns.map .int)
  | .loc k => match M[k]? with
    | some (.lst ds) => some ds
    | _ => none
  | _ => none
def asW (M : Mem) : D → Option (List D)
  | .lst ds => some ds
  | .loc k => match M[k]? with
    | some (.lst ds) => some ds
    | _ => none
  | _ => none
def asT : D → Option (List D)
  | .tup ds => some ds
  | _ => none
/-- any sequence -/
def asS (M : Mem) (d : D) : Option (List D) := match d with
  | .tup ds => some ds
  | d => asL M d
section
variable {K : PySem.W.Frag} {H : Hp} {m : List Addr} {M : Mem} {d : D} {ds : List D} {x : V}
theorem asW_ok (w : Wd K H m M) (r : Rl K H m d x) (h : asW M d = some ds) : ∃ a vs, x = .ref a ∧ H a = some (.lst vs) ∧ Rls K H m ds vs := by
  cases d with
  | lst es => cases h; rw [Rl] at r; obtain ⟨a, vs, r1, _, r2, r3⟩ := r; exact ⟨a, vs, r1, r2, r3⟩
  | loc k =>
    rw [Rl] at r
    obtain ⟨a, rfl, ha⟩ := r
    unfold asW at h
    simp only at h
    split at h
    · rename_i es hk
      cases h
      obtain ⟨b, hb, vs, h1, h2⟩ := w.get hk
      rw [ha] at hb; cases hb
      exact ⟨a, vs, rfl, h1, h2⟩
    · cases h
  | _ => cases h
theorem asL_ok (w : Wd K H m M) (r : Rl K H m d x) (h : asL M d = some ds) : ∃ a vs, x = .ref a ∧ SqL K H a vs ∧ Rls K H m ds vs := by
  cases d with
  | lst es => obtain ⟨a, vs, h1, h2, h3⟩ := asW_ok w r (d := .lst es) h; exact ⟨a, vs, h1, .of h2, h3⟩
  | loc k => obtain ⟨a, vs, h1, h2, h3⟩ := asW_ok w r (d := .loc k) h; exact ⟨a, vs, h1, .of h2, h3⟩
  | scr ns =>
    cases h
    rw [Rl] at r
    obtain ⟨a, rfl, ha⟩ := r
    exact ⟨a, _, rfl, ha.l, .ints⟩
  | _ => cases h
theorem asT_ok (r : Rl K H m d x) (h : asT d = some ds) : ∃ a vs, x = .ref a ∧ SqT K H a vs ∧ Rls K H m ds vs := by
  cases d with
  | tup es => cases h; rw [Rl] at r; exact r
  | _ => cases h
theorem asS_ok (w : Wd K H m M) (r : Rl K H m d x) (h : asS M d = some ds) : ∃ a vs, x = .ref a ∧ (SqL K H a vs ∨ SqT K H a vs) ∧ Rls K H m ds vs := by
  cases d with
  | tup es => obtain ⟨a, vs, h1, h2, h3⟩ := asT_ok r (d := .tup es) h; exact ⟨a, vs, h1, .inr h2, h3⟩
  | lst es => obtain ⟨a, vs, h1, h2, h3⟩ := asL_ok w r (d := .lst es) h; exact ⟨a, vs, h1, .inl h2, h3⟩
  | loc k => obtain ⟨a, vs, h1, h2, h3⟩ := asL_ok w r (d := .loc k) h; exact ⟨a, vs, h1, .inl h2, h3⟩
  | scr k => obtain ⟨a, vs, h1, h2, h3⟩ := asL_ok w r (d := .scr k) h; exact ⟨a, vs, h1, .inl h2, h3⟩
  | _ => cases h
end

/-! ### int operators -/
section
variable {X : Cx}
def oI (g : Int → Int → D) : Bop := fun d e _ => match d, e with
  | .int i, .int j => some (.val (g i j))
  | _, _ => none
def oIc (C : Int → Int → Bool) (g : Int → Int → D) : Bop := fun d e _ => match d, e with
  | .int i, .int j => if C i j = true then some (.val (g i j)) else none
  | _, _ => none
theorem opOk_I {f : Value → Value → Sem Value} {g : Int → Int → D} {gv : Int → Int → V} (h : OpR X f (rI0 gv)) (hg : ∀ i j H m, Rl X.K H m (g i j) (gv i j)) : OpOk X f (oI g) :=
  ⟨_, h, fun H m M d e x y z Q w rd re ho P => by
    unfold oI at ho
    split at ho
    · rename_i i j
      cases ho
      rw [Rl] at rd re
      exact ⟨i, j, rd, re, P.val w (hg i j H m)⟩
    · cases ho⟩
theorem opOk_Ic {f : Value → Value → Sem Value} {C : Int → Int → Prop} {Cb : Int → Int → Bool} {g : Int → Int → D} {gv : Int → Int → V} (h : OpR X f (rI C gv)) (hg : ∀ i j H m, Rl X.K H m (g i j) (gv i j)) (hc : ∀ i j, Cb i j = true → C i j) : OpOk X f (oIc Cb g) :=
  ⟨_, h, fun H m M d e x y z Q w rd re ho P => by
    unfold oIc at ho
    split at ho
    · rename_i i j
      split at ho
      · rename_i hcb
        cases ho
        rw [Rl] at rd re
        exact ⟨i, j, rd, re, hc i j hcb, P.val w (hg i j H m)⟩
      · cases ho
    · cases ho⟩
theorem OpOk.or {f : Value → Value → Sem Value} {o o' : Bop} (h : OpOk X f o) (h' : OpOk X f o') : OpOk X f (fun d e M => (o d e M).orElse fun _ => o' d e M) := by
  obtain ⟨r, h1, h2⟩ := h
  obtain ⟨r', h1', h2'⟩ := h'
  refine ⟨_, h1.or h1', fun H m M d e x y z Q w rd re ho P => ?_⟩
  cases q : o d e M with
  | some z' => simp [q] at ho; subst ho; exact .inl (h2 H m M d e x y z' Q w rd re q P)
  | none => simp [q] at ho; exact .inr (h2' H m M d e x y z Q w rd re ho P)
def sm64 (i : Int) : Bool := decide (-(2 ^ 64) < i) && decide (i < 2 ^ 64)
def bMul (i j : Int) : Bool := sm64 i || sm64 j
def bDiv (_ j : Int) : Bool := decide (0 < j) && decide (j < 1073741824)
def bMod (_ j : Int) : Bool := decide (0 < j)
def bPow (i j : Int) : Bool := decide (0 ≤ j) && decide (j ≤ 1000000) && decide (i.natAbs < 2 ^ 64)
theorem rl_int {K : PySem.W.Frag} {H : Hp} {m : List Addr} {i : Int} : Rl K H m (.int i) (.int i) := by rw [Rl]
theorem rl_bl {K : PySem.W.Frag} {H : Hp} {m : List Addr} {i : Bool} : Rl K H m (.bl i) (.bl i) := by rw [Rl]
theorem rl_str {K : PySem.W.Frag} {H : Hp} {m : List Addr} {i : Str} : Rl K H m (.str i) (.str i) := by rw [Rl]
theorem rl_non {K : PySem.W.Frag} {H : Hp} {m : List Addr} : Rl K H m .non .non := by rw [Rl]
def oSub : Bop := oI fun i j => .int (i - j)
theorem ok_sub : OpOk X (binaryOp .Sub) oSub := opOk_I op_sub fun _ _ _ _ => rl_int
def oMulI : Bop := oIc bMul fun i j => .int (i * j)
theorem ok_mulI : OpOk X (binaryOp .Mult) oMulI := opOk_Ic op_mul (fun _ _ _ _ => rl_int) fun i j h => by
  unfold bMul sm64 at h
  simp only [Bool.or_eq_true, Bool.and_eq_true, decide_eq_true_eq] at h
  exact h
def oDiv : Bop := oIc bDiv fun i j => .int (i / j)
theorem ok_div : OpOk X (binaryOp .FloorDiv) oDiv := opOk_Ic op_fdiv (fun _ _ _ _ => rl_int) fun i j h => by
  unfold bDiv at h
  simp only [Bool.and_eq_true, decide_eq_true_eq] at h
  exact h
def oMod : Bop := oIc bMod fun i j => .int (i % j)
theorem ok_mod : OpOk X (binaryOp .Mod) oMod := opOk_Ic op_mod (fun _ _ _ _ => rl_int) fun i j h => by
  unfold bMod at h
  simpa using h
def oPow : Bop := oIc bPow fun i j => .int (i ^ j.toNat)
theorem ok_pow : OpOk X (binaryOp .Pow) oPow := opOk_Ic op_pow (fun _ _ _ _ => rl_int) fun i j h => by
  unfold bPow at h
  simp only [Bool.and_eq_true, decide_eq_true_eq] at h
  exact ⟨h.1.1, h.1.2, h.2⟩
def oLt : Bop := oI fun i j => .bl (decide (i < j))
theorem ok_lt : OpOk X (compareOp .Lt) oLt := opOk_I op_lt fun _ _ _ _ => rl_bl
def oLe : Bop := oI fun i j => .bl (decide (i ≤ j))
theorem ok_le : OpOk X (compareOp .LtE) oLe := opOk_I op_le fun _ _ _ _ => rl_bl
def oGt : Bop := oI fun i j => .bl (decide (j < i))
theorem ok_gt : OpOk X (compareOp .Gt) oGt := opOk_I op_gt fun _ _ _ _ => rl_bl
def oGe : Bop := oI fun i j => .bl (decide (j ≤ i))
theorem ok_ge : OpOk X (compareOp .GtE) oGe := opOk_I op_ge fun _ _ _ _ => rl_bl
/-! ### + -/
def oAdd : Bop := fun d e M => match d, e with
  | .int i, .int j => some (.val (.int (i + j)))
  | .str i, .str j => if i.length + j.length ≤ sizeLine then some (.val (.str (i ++ j))) else none
  | .tup xs, .tup ys => if xs.length + ys.length ≤ sizeLine then some (.val (.tup (xs ++ ys))) else none
  | d, e => match asW M d, asW M e with
    | some xs, some ys => if xs.length + ys.length ≤ sizeLine then some (.new (xs ++ ys)) else none
    | _, _ => none
theorem rls_nil {K : PySem.W.Frag} {H : Hp} {m : List Addr} {vs : List V} (h : Rls K H m [] vs) : vs = [] := by rw [Rls] at h; exact h
theorem rls_of_nil {K : PySem.W.Frag} {H : Hp} {m : List Addr} {ds : List D} (h : Rls K H m ds []) : ds = [] := by
  have := h.length
  exact List.eq_nil_of_length_eq_zero (by simpa using this)
theorem ok_add : OpOk X (binaryOp .Add) oAdd := by
  refine ⟨_, op_add.or (op_add_str.or (op_catA.or op_cat)), fun H m M d e x y z Q w rd re ho P => ?_⟩
  unfold oAdd at ho
  split at ho
  · rename_i i j
    cases ho
    rw [Rl] at rd re
    exact .inl ⟨i, j, rd, re, P.val w rl_int⟩
  · rename_i i j
    rw [Rl] at rd re
    split at ho
    · rename_i hl
      cases ho
      exact .inr (.inl ⟨i, j, rd, re, hl, P.val w rl_str⟩)
    · cases ho
  · rename_i xs ys
    split at ho
    · rename_i hl
      cases ho
      rw [Rl] at rd re
      obtain ⟨a, vs, rfl, hv, r1⟩ := rd
      obtain ⟨b, ws, rfl, hw, r2⟩ := re
      refine .inr (.inr (.inl ⟨a, b, vs, ws, rfl, rfl, hv, hw, by rw [← r1.length, ← r2.length]; exact hl, fun q => ?_, fun _ q => ?_, fun _ _ => P.tup w (r1.append r2)⟩))
      · subst q
        have := rls_of_nil r1; subst this
        exact P.val w (by rw [Rl]; exact ⟨b, ws, rfl, hw, r2⟩)
      · subst q
        have := rls_of_nil r2; subst this
        exact P.val w (by rw [Rl]; exact ⟨a, vs, rfl, hv, by simpa using r1⟩)
    · cases ho
  · split at ho
    · rename_i xs ys h1 h2
      split at ho
      · rename_i hl
        cases ho
        obtain ⟨a, vs, rfl, hv, r1⟩ := asW_ok w rd h1
        obtain ⟨b, ws, rfl, hw, r2⟩ := asW_ok w re h2
        exact .inr (.inr (.inr ⟨a, b, vs, ws, rfl, rfl, hv, hw, by rw [← r1.length, ← r2.length]; exact hl, P.new w (r1.append r2)⟩))
      · cases ho
    · cases ho

/-! ### is -/
def isBl (b : Bool) : D → Bool
  | .bl a => decide (a = b)
  | _ => false
def isNon : D → Bool
  | .non => true
  | _ => false
def oIs (neg : Bool) : Bop := fun d e _ => match e with
  | .non => some (.val (.bl (neg != isNon d)))
  | .bl b => some (.val (.bl (neg != isBl b d)))
  | _ => none
theorem plain_of {x : V} {v : Value} {b : Bool} (r : RelV x v) : plainIs v (.bool b) = true := by
  cases x with
  | non => cases r; rfl
  | bl _ => cases r; rfl
  | int _ => obtain ⟨t, rfl⟩ := r; rfl
  | str _ => obtain ⟨t, rfl⟩ := r; rfl
  | byt _ => obtain ⟨t, rfl⟩ := r; rfl
  | flt _ => obtain ⟨t, rfl⟩ := r; rfl
  | ref _ => cases r; rfl
  | ty _ => cases r; rfl
theorem beq_bl {x : V} {v : Value} {b : Bool} (r : RelV x v) : (v == Value.bool b) = decide (x = V.bl b) := by
  cases x with
  | non => cases r; rfl
  | bl a =>
    cases r
    by_cases e : a = b
    · subst e; simp
    · simp [e]
  | int _ => obtain ⟨t, rfl⟩ := r; rfl
  | str _ => obtain ⟨t, rfl⟩ := r; rfl
  | byt _ => obtain ⟨t, rfl⟩ := r; rfl
  | flt _ => obtain ⟨t, rfl⟩ := r; rfl
  | ref _ => cases r; rfl
  | ty _ => cases r; rfl
theorem op_isB : OpR X (compareOp .Is) (fun x y H Q => ∃ b, y = .bl b ∧ Q (.bl (decide (x = .bl b))) H) := by
  intro pins s σ H x y v u Q I rx ry h
  obtain ⟨b, rfl, q⟩ := h
  cases (show u = Value.bool b from ry)
  exact wpAny_is_plain (plain_of rx) ⟨.bl _, H, I, by rw [beq_bl rx]; rfl, q⟩
theorem op_notB : OpR X (compareOp .IsNot) (fun x y H Q => ∃ b, y = .bl b ∧ Q (.bl (!decide (x = .bl b))) H) := by
  intro pins s σ H x y v u Q I rx ry h
  obtain ⟨b, rfl, q⟩ := h
  cases (show u = Value.bool b from ry)
  exact wpAny_isNot_plain (plain_of rx) ⟨.bl _, H, I, by rw [beq_bl rx]; rfl, q⟩
theorem isNon_ok {K : PySem.W.Frag} {H : Hp} {m : List Addr} {d : D} {x : V} (rd : Rl K H m d x) : decide (x = V.non) = isNon d := by
  cases d <;> rw [Rl] at rd
  · simp [rd, isNon]
  all_goals first | (simp [rd, isNon]; done) | (obtain ⟨_, _, rfl, _⟩ := rd; simp [isNon]; done) | (obtain ⟨_, rfl, _⟩ := rd; simp [isNon]; done)
theorem isBl_ok {K : PySem.W.Frag} {H : Hp} {m : List Addr} {d : D} {x : V} {b : Bool} (rd : Rl K H m d x) : decide (x = V.bl b) = isBl b d := by
  cases d <;> rw [Rl] at rd
  all_goals first | (simp [rd, isBl]; done) | (obtain ⟨_, _, rfl, _⟩ := rd; simp [isBl]; done) | (obtain ⟨_, rfl, _⟩ := rd; simp [isBl]; done)
theorem ok_is : OpOk X (compareOp .Is) (oIs false) := by
  refine ⟨_, op_isN.or op_isB, fun H m M d e x y z Q w rd re ho P => ?_⟩
  unfold oIs at ho
  split at ho
  · cases ho
    rw [Rl] at re
    refine .inl ⟨re, ?_⟩
    rw [isNon_ok rd]
    exact P.val w (by rw [Rl]; cases isNon d <;> rfl)
  · rename_i b
    cases ho
    rw [Rl] at re
    refine .inr ⟨b, re, ?_⟩
    rw [isBl_ok rd]
    exact P.val w (by rw [Rl]; cases isBl b d <;> rfl)
  · cases ho
theorem ok_isnot : OpOk X (compareOp .IsNot) (oIs true) := by
  refine ⟨_, op_notN.or op_notB, fun H m M d e x y z Q w rd re ho P => ?_⟩
  unfold oIs at ho
  split at ho
  · cases ho
    rw [Rl] at re
    refine .inl ⟨re, ?_⟩
    rw [isNon_ok rd]
    exact P.val w (by rw [Rl]; cases isNon d <;> rfl)
  · rename_i b
    cases ho
    rw [Rl] at re
    refine .inr ⟨b, re, ?_⟩
    rw [isBl_ok rd]
    exact P.val w (by rw [Rl]; cases isBl b d <;> rfl)
  · cases ho

/-! ### == -/
mutual
def py0 : D → Option PyData
  | .non => some .none
  | .bl b => some (.bool b)
  | .int i => some (.int i)
  | .str x => some (.str x)
  | .tup ds => (py0s ds).map .tuple
  | .lst ds => (py0s ds).map .list
  | .scr ns => some (.list (ns.map .int))
  | .loc _ => none
def py0s : List D → Option (List PyData)
  | [] => some []
  | d :: ds => (py0 d).bind fun p => (py0s ds).bind fun ps => some (p :: ps)
end
def py (M : Mem) (d : D) : Option PyData := match d with
  | .loc k => match M[k]? with
    | some (.lst ds) => (py0s ds).map .list
    | _ => none
  | d => py0 d
section
variable {K : PySem.W.Frag} {H : Hp} {m : List Addr} {M : Mem}
mutual
theorem py0_ok : ∀ {d : D} {x : V} {p : PyData}, Rl K H m d x → py0 d = some p → Dp K H x p
  | .non, _, _, r, h => by rw [Rl] at r; subst r; cases h; exact .non
  | .bl b, _, _, r, h => by rw [Rl] at r; subst r; cases h; exact .bl b
  | .int b, _, _, r, h => by rw [Rl] at r; subst r; cases h; exact .int b
  | .str b, _, _, r, h => by rw [Rl] at r; subst r; cases h; exact .str b
  | .tup ds, _, p, r, h => by
    rw [Rl] at r
    obtain ⟨a, vs, rfl, h1, h2⟩ := r
    rw [py0] at h
    cases q : py0s ds with
    | none => rw [q] at h; cases h
    | some ps => rw [q] at h; cases h; exact .tup h1 (py0s_ok h2 q)
  | .lst ds, _, p, r, h => by
    rw [Rl] at r
    obtain ⟨a, vs, rfl, _, h1, h2⟩ := r
    rw [py0] at h
    cases q : py0s ds with
    | none => rw [q] at h; cases h
    | some ps => rw [q] at h; cases h; exact .lst (.of h1) (py0s_ok h2 q)
  | .scr ns, _, p, r, h => by
    rw [Rl] at r
    obtain ⟨a, rfl, h1⟩ := r
    rw [py0] at h
    cases h
    refine .lst h1.l ?_
    induction ns with
    | nil => exact .nil
    | cons n ns ih => exact .cons (.int n) (by
        clear h1 ih
        induction ns with
        | nil => exact .nil
        | cons n ns ih => exact .cons (.int n) ih)
  | .loc _, _, _, _, h => by cases h
theorem py0s_ok : ∀ {ds : List D} {vs : List V} {ps : List PyData}, Rls K H m ds vs → py0s ds = some ps → DpAll K H vs ps
  | [], _, _, r, h => by rw [Rls] at r; subst r; cases h; exact .nil
  | d :: ds, _, ps, r, h => by
    rw [Rls] at r
    obtain ⟨v, r', rfl, h1, h2⟩ := r
    rw [py0s] at h
    cases q : py0 d with
    | none => rw [q] at h; cases h
    | some p =>
      cases q2 : py0s ds with
      | none => rw [q, q2] at h; cases h
      | some ps2 => rw [q, q2] at h; cases h; exact .cons (py0_ok h1 q) (py0s_ok h2 q2)
end
theorem py_ok {d : D} {x : V} {p : PyData} (w : Wd K H m M) (r : Rl K H m d x) (h : py M d = some p) : Dp K H x p := by
  cases d with
  | loc k =>
    rw [Rl] at r
    obtain ⟨a, rfl, ha⟩ := r
    unfold py at h
    simp only at h
    split at h
    · rename_i ds hk
      cases q : py0s ds with
      | none => rw [q] at h; cases h
      | some ps =>
        rw [q] at h; cases h
        obtain ⟨b, hb, vs, h1, h2⟩ := w.get hk
        rw [ha] at hb; cases hb
        exact .lst (.of h1) (py0s_ok h2 q)
    · cases h
  | _ => exact py0_ok r h
end
def eqB (M : Mem) (d e : D) : Option Bool := match d, e with
  | .int i, .int j => some (decide (i = j))
  | .str i, .str j => some (decide (i = j))
  | .bl i, .bl j => some (decide (i = j))
  | d, e => match py M d, py M e with
    | some a, some b => if SeqAt.shaped a = true ∧ SeqAt.shaped b = true then some (PyData.eqv a b) else none
    | _, _ => none
def oEq : Bop := fun d e M => (eqB M d e).bind fun b => some (.val (.bl b))
def oNe : Bop := fun d e M => (eqB M d e).bind fun b => some (.val (.bl (!b)))
theorem eq_of {H : Hp} {m : List Addr} {M : Mem} {d e : D} {x y : V} {b : Bool} {K : PySem.W.Frag} (w : Wd K H m M) (rd : Rl K H m d x) (re : Rl K H m e y) (h : eqB M d e = some b) :
    (scal x y = true ∧ b = decide (x = y)) ∨ ∃ p q, Dp K H x p ∧ Dp K H y q ∧ SeqAt.shaped p = true ∧ SeqAt.shaped q = true ∧ b = PyData.eqv p q := by
  unfold eqB at h
  split at h
  · rw [Rl] at rd re; subst rd re; cases h; exact .inl ⟨rfl, by simp⟩
  · rw [Rl] at rd re; subst rd re; cases h; exact .inl ⟨rfl, by simp⟩
  · rw [Rl] at rd re; subst rd re; cases h; exact .inl ⟨rfl, by simp⟩
  · split at h
    · rename_i p q h1 h2
      split at h
      · rename_i hs
        cases h
        exact .inr ⟨p, q, py_ok w rd h1, py_ok w re h2, hs.1, hs.2, rfl⟩
      · cases h
    · cases h
theorem ok_eq (hu : X.A.units + 64 < cLine) : OpOk X (compareOp .Eq) oEq := by
  refine ⟨_, op_eq.or (op_eqD hu), fun H m M d e x y z Q w rd re ho P => ?_⟩
  unfold oEq at ho
  cases q : eqB M d e with
  | none => rw [q] at ho; cases ho
  | some b =>
    rw [q] at ho; cases ho
    rcases eq_of w rd re q with ⟨h1, rfl⟩ | ⟨p, p', h1, h2, h3, h4, rfl⟩
    · exact .inl ⟨h1, P.val w rl_bl⟩
    · exact .inr ⟨p, p', h1, h2, h3, h4, P.val w rl_bl⟩
theorem ok_ne (hu : X.A.units + 64 < cLine) : OpOk X (compareOp .NotEq) oNe := by
  refine ⟨_, op_ne.or (op_neD hu), fun H m M d e x y z Q w rd re ho P => ?_⟩
  unfold oNe at ho
  cases q : eqB M d e with
  | none => rw [q] at ho; cases ho
  | some b =>
    rw [q] at ho; cases ho
    rcases eq_of w rd re q with ⟨h1, rfl⟩ | ⟨p, p', h1, h2, h3, h4, rfl⟩
    · exact .inl ⟨h1, P.val w rl_bl⟩
    · exact .inr ⟨p, p', h1, h2, h3, h4, P.val w rl_bl⟩

/-! ### in -/
def fl : D → Bool
  | .non => true | .bl _ => true | .int _ => true | .str _ => true | _ => false
def eqF : D → D → Bool
  | .non, .non => true
  | .bl a, .bl b => a == b
  | .bl a, .int b => (if a then 1 else 0) == b
  | .int a, .bl b => a == (if b then 1 else 0)
  | .int a, .int b => a == b
  | .str a, .str b => a == b
  | _, _ => false
def inD (d : D) (ds : List D) : Bool := ds.any fun e => eqF e d
def oIn (neg : Bool) : Bop := fun d e M => (asS M e).bind fun ds => if fl d = true ∧ ds.all fl = true then some (.val (.bl (if neg then !inD d ds else inD d ds))) else none
theorem fl_ok {K : PySem.W.Frag} {H : Hp} {m : List Addr} {d : D} {x : V} (r : Rl K H m d x) (h : fl d = true) : flatV x = true := by
  cases d <;> first | (rw [Rl] at r; subst r; rfl) | cases h
theorem eqF_ok {K : PySem.W.Frag} {H : Hp} {m : List Addr} {d e : D} {x y : V} (r : Rl K H m d x) (r' : Rl K H m e y) (h : fl d = true) (h' : fl e = true) : eqF d e = eqV x y := by
  cases d <;> first | (cases h; done) | (cases e <;> first | (cases h'; done) | (rw [Rl] at r; rw [Rl] at r'; subst r r'; rfl))
theorem fls_ok {K : PySem.W.Frag} {H : Hp} {m : List Addr} : ∀ {ds : List D} {vs : List V}, Rls K H m ds vs → ds.all fl = true → vs.all flatV = true
  | [], _, r, _ => by rw [Rls] at r; subst r; rfl
  | d :: ds, _, r, h => by
    rw [Rls] at r
    obtain ⟨v, s, rfl, h1, h2⟩ := r
    rw [List.all_cons, Bool.and_eq_true] at h ⊢
    exact ⟨fl_ok h1 h.1, fls_ok h2 h.2⟩
theorem inD_ok {K : PySem.W.Frag} {H : Hp} {m : List Addr} {d : D} {x : V} (r : Rl K H m d x) (h : fl d = true) : ∀ {ds : List D} {vs : List V}, Rls K H m ds vs → ds.all fl = true → inD d ds = inV x vs
  | [], _, r, _ => by rw [Rls] at r; subst r; rfl
  | e :: ds, _, r', h' => by
    rw [Rls] at r'
    obtain ⟨v, s, rfl, h1, h2⟩ := r'
    rw [List.all_cons, Bool.and_eq_true] at h'
    show (eqF e d || inD d ds) = (eqV v x || inV x s)
    rw [eqF_ok h1 r h'.1 h, inD_ok r h h2 h'.2]
theorem in_of {neg : Bool} {H : Hp} {m : List Addr} {M : Mem} {d e : D} {x y : V} {z : Rz} {Q : VK} {K : PySem.W.Frag} (w : Wd K H m M) (rd : Rl K H m d x) (re : Rl K H m e y) (ho : oIn neg d e M = some z) (P : Post K H m z M Q) : rIn K neg x y H Q := by
  unfold oIn at ho
  cases q : asS M e with
  | none => rw [q] at ho; cases ho
  | some ds =>
    rw [q] at ho
    simp only [Option.bind_some] at ho
    split at ho
    · rename_i hh
      cases ho
      obtain ⟨a, vs, rfl, hs, hr⟩ := asS_ok w re q
      refine ⟨a, vs, rfl, hs, fl_ok rd hh.1, fls_ok hr hh.2, ?_⟩
      rw [← inD_ok rd hh.1 hr hh.2]
      exact P.val w rl_bl
    · cases ho
theorem ok_in : OpOk X (compareOp .In) (oIn false) := ⟨_, op_in_seq, fun H m M d e x y z Q w rd re ho P => in_of w rd re ho P⟩
theorem ok_notin : OpOk X (compareOp .NotIn) (oIn true) := ⟨_, op_notIn_seq, fun H m M d e x y z Q w rd re ho P => in_of w rd re ho P⟩
end
end CI

/-! Ci4: subscripts, slices, calls, attributes, methods -/
namespace CI
open PySem PySem.Spec PyProof.Rows L2

section
variable {K : PySem.W.Frag} {H : Hp} {m : List Addr} {M : Mem}
theorem Rls.atI {ds : List D} {vs : List V} (h : Rls K H m ds vs) {i : Int} {d : D} (q : L2.atI ds i = some d) : ∃ v, L2.atI vs i = some v ∧ Rl K H m d v := by
  unfold L2.atI at q ⊢
  rw [← h.length]
  cases e : ixN ds.length i with
  | none => rw [e] at q; cases q
  | some j =>
    rw [e] at q
    exact h.get (i := j) q
def cutD (xs : List D) (lo hi : Option Int) : List D := (xs.drop (HT.sIx xs.length 0 lo)).take (HT.sIx xs.length xs.length hi - HT.sIx xs.length 0 lo)
theorem Rls.cut {ds : List D} {vs : List V} (h : Rls K H m ds vs) (lo hi : Option Int) : Rls K H m (cutD ds lo hi) (cutV vs lo hi) := by
  unfold cutD cutV
  rw [← h.length]
  exact (h.drop _).take _
end

/-! ### subscripts -/
def oIx : Bop := fun d e M => match e with
  | .int i => match d with
    | .str z => if z.length ≤ sizeLine then (L2.atI z.cps.toList i).bind fun c => some (.val (.str ⟨#[c]⟩)) else none
    | d => (asS M d).bind fun ds => (L2.atI ds i).bind fun x => some (.val x)
  | _ => none
section
variable {X : Cx} {a b : Expr} {fa fb : Ef} {pos : Pos}
theorem ce_ix (ha : CEx X a fa) (hb : CEx X b fb) (hs : PlainIx b) : CEx X (.Subscript a b pos) (cBin oIx fa fb) := PE.imp (pe_ix ix_seq ha hb hs) fun σ H Q h => by
  refine bin_of (fun H m M d e x y z Q w rd re ho P => ?_) h
  unfold oIx at ho
  split at ho
  · rename_i i
    rw [Rl] at re; subst re
    split at ho
    · rename_i s
      rw [Rl] at rd; subst rd
      split at ho
      · rename_i hz
        cases q : L2.atI s.cps.toList i with
        | none => rw [q] at ho; cases ho
        | some c => rw [q] at ho; cases ho; exact .inr (.inr ⟨s, i, c, rfl, rfl, hz, q, P.val w rl_str⟩)
      · cases ho
    · cases q : asS M d with
      | none => rw [q] at ho; cases ho
      | some ds =>
        rw [q] at ho
        simp only [Option.bind_some] at ho
        cases q2 : L2.atI ds i with
        | none => rw [q2] at ho; cases ho
        | some c =>
          rw [q2] at ho; cases ho
          obtain ⟨p, vs, rfl, hs, hr⟩ := asS_ok w rd q
          obtain ⟨v, hv, rv⟩ := hr.atI q2
          rcases hs with hs | hs
          · exact .inl ⟨p, vs, i, v, rfl, rfl, hs, hv, P.val w rv⟩
          · exact .inr (.inl ⟨p, vs, i, v, rfl, rfl, hs, hv, P.val w rv⟩)
  · cases ho
end

/-! ### slices -/
abbrev Of := Slots → Mem → Option (Option Int × Mem)
def tO (K : PySem.W.Frag) (f : Of) : TO := fun σ H Q => ∃ ρ M m o M', Rs K H m ρ σ ∧ Wd K H m M ∧ f ρ M = some (o, M') ∧ ∀ H1 m1, Ext H m H1 m1 → Wd K H1 m1 M' → Q o H1
abbrev COx (X : Cx) (e : Option Expr) (f : Of) : Prop := PO X e (tO X.K f)
theorem PO.imp {X : Cx} {e : Option Expr} {t t' : TO} (h : PO X e t) (i : ∀ σ H Q, t' σ H Q → t σ H Q) : PO X e t' := ⟨fun pins s σ H Q I q => h.run pins s σ H Q I (i σ H Q q)⟩
def sNone : Of := fun _ M => some (none, M)
def sSome (f : Ef) : Of := fun ρ M => (f ρ M).bind fun p => match p.1.d with
  | .int i => some (some i, p.2)
  | _ => none
def oSl (lo hi : Option Int) (d : D) (M : Mem) : Option Rz := match d with
  | .tup ds => some (.val (.tup (cutD ds lo hi)))
  | .str z => if z.length ≤ sizeLine then some (.val (.str (cutS z lo hi))) else none
  | d => (asL M d).bind fun ds => some (.new (cutD ds lo hi))
def cSl (f : Ef) (l h : Of) : Ef := fun ρ M => (f ρ M).bind fun p => (l ρ p.2).bind fun q => (h ρ q.2).bind fun r => (oSl q.1 r.1 p.1.d r.2).bind fun z => some (z, r.2)
section
variable {X : Cx} {e : Expr} {lo hi : Option Expr} {f : Ef} {l h : Of} {pos p2 : Pos}
theorem co_none : COx X none sNone := PO.imp po_none fun σ H Q ⟨ρ, M, m, o, M', rs, w, hf, P⟩ => by cases hf; exact P H m .refl w
theorem co_some (he : CEx X e f) : COx X (some e) (sSome f) := PO.imp (po_some he) fun σ H Q ⟨ρ, M, m, o, M', rs, w, hf, P⟩ => by
  unfold sSome at hf
  cases ea : f ρ M with
  | none => rw [ea] at hf; cases hf
  | some p =>
    rw [ea] at hf
    simp only [Option.bind_some] at hf
    refine bindE rs w ea fun H1 m1 v e1 w1 rs1 r1 => ?_
    split at hf
    · rename_i i hi
      cases hf
      rw [hi, Rl] at r1
      exact ⟨i, r1, P H1 m1 e1 w1⟩
    · cases hf
theorem ce_sl (he : CEx X e f) (hl : COx X lo l) (hh : COx X hi h) : CEx X (.Subscript e (.Slice lo hi none p2) pos) (cSl f l h) := PE.imp (pe_slice (sl_tupA.or (sl_str.or sl_list)) he hl hh) fun σ H Q hq => by
  obtain ⟨ρ, M, m, z, M', rs, w, hf, P⟩ := hq
  unfold cSl at hf
  cases ea : f ρ M with
  | none => rw [ea] at hf; cases hf
  | some p =>
    cases el : l ρ p.2 with
    | none => simp [ea, el] at hf
    | some q =>
      cases eh : h ρ q.2 with
      | none => simp [ea, el, eh] at hf
      | some r =>
        cases ez : oSl q.1 r.1 p.1.d r.2 with
        | none => simp [ea, el, eh, ez] at hf
        | some z' =>
          simp [ea, el, eh, ez] at hf
          obtain ⟨rfl, rfl⟩ := hf
          refine bindE rs w ea fun H1 m1 v e1 w1 rs1 r1 => ?_
          refine ⟨ρ, p.2, m1, q.1, q.2, rs1, w1, el, fun H2 m2 e2 w2 => ?_⟩
          refine ⟨ρ, q.2, m2, r.1, r.2, rs1.ext e2, w2, eh, fun H3 m3 e3 w3 => ?_⟩
          have r3 := r1.ext (e2.trans e3)
          have P3 := P.ext ((e1.trans e2).trans e3)
          unfold oSl at ez
          split at ez
          · rename_i ds hd
            cases ez
            rw [hd, Rl] at r3
            obtain ⟨a, vs, rfl, hs, hr⟩ := r3
            refine .inl ⟨a, vs, rfl, hs, fun hw => ?_, fun _ => P3.tup w3 (hr.cut _ _)⟩
            refine P3.val w3 ?_
            rw [Rl]
            refine ⟨a, vs, rfl, hs, ?_⟩
            have e : cutD ds q.1 r.1 = ds := by
              unfold cutD
              rw [hr.length, hw.1, hw.2]
              rw [List.drop_zero, Nat.sub_zero, ← hr.length, List.take_length]
            rw [e]; exact hr
          · rename_i s hd
            split at ez
            · rename_i hz
              cases ez
              rw [hd, Rl] at r3; subst r3
              exact .inr (.inl ⟨s, rfl, hz, P3.val w3 rl_str⟩)
            · cases ez
          · cases eq : asL r.2 p.1.d with
            | none => simp [eq] at ez
            | some ds =>
              simp [eq] at ez
              subst ez
              obtain ⟨a, vs, rfl, hs, hr⟩ := asL_ok w3 r3 eq
              exact .inr (.inr ⟨a, vs, rfl, hs, P3.new w3 (hr.cut _ _)⟩)
end

/-! ### built-in calls -/
def Cop := List D → Mem → Option Rz
def ClOk (X : Cx) (f : Value) (o : Cop) : Prop := ∃ r, CallR X f r ∧ ∀ H m M ds xs z Q, Wd X.K H m M → Rls X.K H m ds xs → o ds M = some z → Post X.K H m z M Q → r xs H Q
def cCB (o : Cop) (g : Af) : Ef := fun ρ M => (g ρ M).bind fun p => (o p.1 p.2).bind fun r => some (r, p.2)
section
variable {X : Cx} {e : Expr} {es : List Expr} {g : Af} {o : Cop} {x : Str} {id T : String} {p pos : Pos}
theorem cb_of {r : List V → Hp → VK → Prop} (ho : ∀ H m M ds xs z Q, Wd X.K H m M → Rls X.K H m ds xs → o ds M = some z → Post X.K H m z M Q → r xs H Q) {σ : L2.St} {H : Hp} {Q : VK}
    (h : tE X.K (cCB o g) σ H Q) : tCB r (tA X.K g) σ H Q := by
  obtain ⟨ρ, M, m, z, M', rs, w, hf, P⟩ := h
  unfold cCB at hf
  cases ea : g ρ M with
  | none => rw [ea] at hf; cases hf
  | some p =>
    cases eb : o p.1 p.2 with
    | none => simp [ea, eb] at hf
    | some q =>
      simp [ea, eb] at hf
      obtain ⟨rfl, rfl⟩ := hf
      exact bindA rs w ea fun H1 m1 vs e1 w1 rs1 r1 => ho H1 m1 p.2 _ _ _ Q w1 r1 eb (P.ext e1)
theorem ce_callB (hc : ClOk X (.builtin id) o) (hg : Gl X x) (hm : X.mg x = none) (hv : bootBuiltins x = some (.builtin id)) (ha : CAx X (e :: es) g) (hn : x ≠ "__name__" := by decide) (hdb : (x == ("__debug__" : Str)) = false := by decide)
    (he : starEach (e :: es) X.env = (false, eval e X.env) :: starEach es X.env := by rfl) (hpl : (backTo pos (starEach es X.env)).any (·.1) = false := by rfl) : CEx X (.Call (.Name x p) (e :: es) [] pos) (cCB o g) := by
  obtain ⟨r, h1, h2⟩ := hc
  exact PE.imp (pe_callB h1 hg hm hv ha hn hdb he hpl) fun σ H Q h => cb_of h2 h
theorem ce_callTy (hc : ClOk X (.type T) o) (hg : Gl X x) (hm : X.mg x = none) (hv : bootBuiltins x = some (.type T)) (ha : CAx X (e :: es) g) (hn : x ≠ "__name__" := by decide) (hdb : (x == ("__debug__" : Str)) = false := by decide)
    (he : starEach (e :: es) X.env = (false, eval e X.env) :: starEach es X.env := by rfl) (hpl : (backTo pos (starEach es X.env)).any (·.1) = false := by rfl) : CEx X (.Call (.Name x p) (e :: es) [] pos) (cCB o g) := by
  obtain ⟨r, h1, h2⟩ := hc
  exact PE.imp (pe_callTy h1 hg hm hv ha hn hdb he hpl) fun σ H Q h => cb_of h2 h
def oLen : Cop := fun ds M => match ds with
  | [.str z] => if z.length ≤ sizeLine then some (.val (.int z.length)) else none
  | [d] => (asS M d).bind fun es => some (.val (.int es.length))
  | _ => none
theorem ok_len : ClOk X (.builtin "len") oLen := by
  refine ⟨_, call_len, fun H m M ds xs z Q w rd ho P => ?_⟩
  unfold oLen at ho
  split at ho
  · rename_i s
    split at ho
    · rename_i hz
      cases ho
      obtain ⟨v, rfl, r⟩ := rd.one
      rw [Rl] at r; subst r
      exact ⟨_, _, rfl, ⟨hz, rfl⟩, P.val w rl_int⟩
    · cases ho
  · rename_i d _
    obtain ⟨v, rfl, r⟩ := rd.one
    cases q : asS M d with
    | none => rw [q] at ho; cases ho
    | some es =>
      rw [q] at ho; cases ho
      obtain ⟨a, vs, rfl, hs, hr⟩ := asS_ok w r q
      refine ⟨_, vs.length, rfl, ?_, by rw [← hr.length]; exact P.val w rl_int⟩
      exact hs.elim (fun hs => .inl ⟨vs, hs, rfl⟩) fun hs => .inr ⟨vs, hs, rfl⟩
  · cases ho
def oInt : Cop := fun ds _ => match ds with
  | [.int i] => some (.val (.int i))
  | [.bl b] => some (.val (.int (if b then 1 else 0)))
  | _ => none
theorem ok_int : ClOk X (.type "int") oInt := by
  refine ⟨_, call_int1, fun H m M ds xs z Q w rd ho P => ?_⟩
  unfold oInt at ho
  split at ho
  · obtain ⟨v, rfl, r⟩ := rd.one
    rw [Rl] at r; subst r; cases ho
    exact .inl ⟨_, rfl, P.val w rl_int⟩
  · obtain ⟨v, rfl, r⟩ := rd.one
    rw [Rl] at r; subst r; cases ho
    exact .inr ⟨_, rfl, P.val w rl_int⟩
  · cases ho
def oTuple : Cop := fun ds M => match ds with
  | [d] => (asS M d).bind fun es => some (.val (.tup es))
  | _ => none
theorem ok_tuple : ClOk X (.type "tuple") oTuple := by
  refine ⟨_, call_tuple_of, fun H m M ds xs z Q w rd ho P => ?_⟩
  unfold oTuple at ho
  split at ho
  · rename_i d
    obtain ⟨v, rfl, r⟩ := rd.one
    cases q : asS M d with
    | none => rw [q] at ho; cases ho
    | some es =>
      rw [q] at ho; cases ho
      obtain ⟨a, vs, rfl, hs, hr⟩ := asS_ok w r q
      refine ⟨a, vs, rfl, ?_⟩
      rcases hs with hs | hs
      · exact .inl ⟨hs, P.tup w hr⟩
      · exact .inr ⟨hs, P.val w (by rw [Rl]; exact ⟨a, vs, rfl, hs, hr⟩)⟩
  · cases ho
def oList : Cop := fun ds M => match ds with
  | [d] => (asS M d).bind fun es => some (.new es)
  | _ => none
theorem ok_list : ClOk X (.type "list") oList := by
  refine ⟨_, call_list_of, fun H m M ds xs z Q w rd ho P => ?_⟩
  unfold oList at ho
  split at ho
  · rename_i d
    obtain ⟨v, rfl, r⟩ := rd.one
    cases q : asS M d with
    | none => rw [q] at ho; cases ho
    | some es =>
      rw [q] at ho; cases ho
      obtain ⟨a, vs, rfl, hs, hr⟩ := asS_ok w r q
      exact ⟨a, vs, rfl, hs, P.new w hr⟩
  · cases ho
def oMax2 : Cop := fun ds _ => match ds with
  | [.int i, .int j] => some (.val (.int (if j > i then j else i)))
  | _ => none
def oMin2 : Cop := fun ds _ => match ds with
  | [.int i, .int j] => some (.val (.int (if j < i then j else i)))
  | _ => none
theorem ok_max2 (hc : X.calm = true) : ClOk X (.builtin "max") oMax2 := by
  refine ⟨_, call_max2 hc, fun H m M ds xs z Q w rd ho P => ?_⟩
  unfold oMax2 at ho
  split at ho
  · obtain ⟨v, u, rfl, r, r'⟩ := rd.two
    rw [Rl] at r; rw [Rl] at r'; subst r r'; cases ho
    exact ⟨_, _, rfl, P.val w rl_int⟩
  · cases ho
theorem ok_min2 (hc : X.calm = true) : ClOk X (.builtin "min") oMin2 := by
  refine ⟨_, call_min2 hc, fun H m M ds xs z Q w rd ho P => ?_⟩
  unfold oMin2 at ho
  split at ho
  · obtain ⟨v, u, rfl, r, r'⟩ := rd.two
    rw [Rl] at r; rw [Rl] at r'; subst r r'; cases ho
    exact ⟨_, _, rfl, P.val w rl_int⟩
  · cases ho
def oStr : Cop := fun ds _ => match ds with
  | [.int i] => if i.natAbs.log2 < 1920 then some (.val (.str (toString i))) else none
  | _ => none
theorem ok_str : ClOk X (.type "str") oStr := by
  refine ⟨_, call_str_int, fun H m M ds xs z Q w rd ho P => ?_⟩
  unfold oStr at ho
  split at ho
  · obtain ⟨v, rfl, r⟩ := rd.one
    rw [Rl] at r; subst r
    split at ho
    · rename_i hz
      cases ho
      exact ⟨_, rfl, hz, P.val w rl_str⟩
    · cases ho
  · cases ho
def oOrd : Cop := fun ds _ => match ds with
  | [.str x] => if x.length = 1 then some (.val (.int (x.cps.getD 0 0 : Nat))) else none
  | _ => none
theorem ok_ord : ClOk X (.builtin "ord") oOrd := by
  refine ⟨_, call_ord, fun H m M ds xs z Q w rd ho P => ?_⟩
  unfold oOrd at ho
  split at ho
  · obtain ⟨v, rfl, r⟩ := rd.one
    rw [Rl] at r; subst r
    split at ho
    · rename_i hz
      cases ho
      exact ⟨_, rfl, hz, P.val w rl_int⟩
    · cases ho
  · cases ho
/-! sorted of ints -/
def sIns (a : Int) : List Int → List Int
  | [] => [a]
  | b :: l => if a ≤ b then a :: b :: l else b :: sIns a l
def isort (l : List Int) : List Int := l.foldr sIns []
theorem sIns_perm (a : Int) : ∀ l, (sIns a l).Perm (a :: l)
  | [] => .refl _
  | b :: l => by
    unfold sIns
    split
    · exact .refl _
    · exact ((sIns_perm a l).cons b).trans (.swap a b l)
theorem isort_perm : ∀ l, (isort l).Perm l
  | [] => .refl _
  | a :: l => (sIns_perm a (isort l)).trans ((isort_perm l).cons a)
theorem sIns_pw (a : Int) : ∀ l : List Int, l.Pairwise (· ≤ ·) → (sIns a l).Pairwise (· ≤ ·)
  | [], _ => by simp [sIns]
  | b :: l, h => by
    unfold sIns
    rw [List.pairwise_cons] at h
    split
    · rename_i hab
      rw [List.pairwise_cons, List.pairwise_cons]
      refine ⟨fun x hx => ?_, h.1, h.2⟩
      rcases List.mem_cons.mp hx with e | e
      · rw [e]; exact hab
      · exact Int.le_trans hab (h.1 x e)
    · rename_i hab
      rw [List.pairwise_cons]
      refine ⟨fun x hx => ?_, sIns_pw a l h.2⟩
      rcases List.mem_cons.mp ((sIns_perm a l).mem_iff.mp hx) with e | e
      · omega
      · exact h.1 x e
theorem isort_pw : ∀ l : List Int, (isort l).Pairwise (· ≤ ·)
  | [] => .nil
  | a :: l => sIns_pw a _ (isort_pw l)
theorem sorted_one : ∀ {l l' : List Int}, l.Perm l' → l.Pairwise (· ≤ ·) → l'.Pairwise (· ≤ ·) → l = l'
  | [], l', p, _, _ => by rw [List.nil_perm.mp p]
  | a :: l, [], p, _, _ => by simp at p
  | a :: l, b :: l', p, h, h' => by
    rw [List.pairwise_cons] at h h'
    have e : a = b := by
      have h1 : a ∈ b :: l' := p.mem_iff.mp List.mem_cons_self
      have h2 : b ∈ a :: l := p.mem_iff.mpr List.mem_cons_self
      rcases List.mem_cons.mp h1 with e | e
      · exact e
      · rcases List.mem_cons.mp h2 with e' | e'
        · exact e'.symm
        · have := h'.1 a e; have := h.1 b e'; omega
    subst e
    rw [sorted_one (List.Perm.cons_inv p) h.2 h'.2]
def intsD : List D → Option (List Int)
  | [] => some []
  | .int i :: ds => (intsD ds).bind fun is => some (i :: is)
  | _ => none
theorem intsD_eq : ∀ {ds : List D} {is : List Int}, intsD ds = some is → ds = is.map .int
  | [], _, h => by cases h; rfl
  | d :: ds, is, h => by
    cases d with
    | int i =>
      rw [intsD] at h
      cases q : intsD ds with
      | none => rw [q] at h; cases h
      | some js => rw [q] at h; cases h; rw [intsD_eq q]; rfl
    | _ => simp [intsD] at h
theorem intsD_map : ∀ is : List Int, intsD (is.map .int) = some is
  | [] => rfl
  | i :: is => by simp [intsD, intsD_map is]
theorem rls_ints {K : PySem.W.Frag} {H : Hp} {m : List Addr} : ∀ {is : List Int} {vs : List V}, Rls K H m (is.map .int) vs → vs = is.map V.int
  | [], _, h => rls_nil h
  | i :: is, _, h => by
    rw [List.map_cons, Rls] at h
    obtain ⟨v, r, rfl, h1, h2⟩ := h
    rw [Rl] at h1
    rw [h1, rls_ints h2]; rfl
def oSorted : Cop := fun ds M => match ds with
  | [d] => (asL M d).bind fun es => (intsD es).bind fun is => some (.new ((isort is).map .int))
  | _ => none
theorem ok_sorted : ClOk X (.builtin "sorted") oSorted := by
  refine ⟨_, cr_sortedI, fun H m M ds xs z Q w rd ho P => ?_⟩
  unfold oSorted at ho
  split at ho
  · rename_i d
    obtain ⟨v, rfl, r⟩ := rd.one
    cases q : asL M d with
    | none => rw [q] at ho; cases ho
    | some es =>
      cases q2 : intsD es with
      | none => simp [q, q2] at ho
      | some is =>
        simp [q, q2] at ho
        subst ho
        obtain ⟨a, vs, rfl, hs, hr⟩ := asL_ok w r q
        rw [intsD_eq q2] at hr
        have e := rls_ints hr
        subst e
        refine ⟨a, is, rfl, hs, fun ns' p hp hw hn => ?_⟩
        rw [sorted_one (hp.trans (isort_perm is).symm) hw (isort_pw is)]
        exact P.new w .ints p hn
  · cases ho

/-! ### isinstance -/
def tyOf (M : Mem) : D → Option String
  | .non => some "NoneType" | .bl _ => some "bool" | .int _ => some "int" | .str _ => some "str" | .tup _ => some "tuple" | .lst _ => some "list" | .scr _ => some "list"
  | .loc k => match M[k]? with
    | some (.lst _) => some "list"
    | some (.dct _) => some "dict"
    | _ => none
def cIsI (n : String) (f : Ef) : Ef := fun ρ M => (f ρ M).bind fun p => (tyOf p.2 p.1.d).bind fun t => (kitB t n).bind fun b => some (.val (.bl b), p.2)
theorem tyOf_ok {K : PySem.W.Frag} {H : Hp} {m : List Addr} {M : Mem} {d : D} {x : V} {t : String} (w : Wd K H m M) (r : Rl K H m d x) (h : tyOf M d = some t) : TyX K H x (.type t) := by
  cases d with
  | non => rw [Rl] at r; subst r; cases h; exact .base .non
  | bl b => rw [Rl] at r; subst r; cases h; exact .base (.bl b)
  | int b => rw [Rl] at r; subst r; cases h; exact .base (.int b)
  | str b => rw [Rl] at r; subst r; cases h; exact .base (.str b)
  | tup ds =>
    rw [Rl] at r
    obtain ⟨a, vs, rfl, hs, _⟩ := r
    cases h
    rcases hs with (hs | ⟨o, hs⟩) | ⟨o, its, n, hk, hc, _⟩
    · exact .base (.tup hs)
    · exact .fTuple hs
    · exact .kTuple hk hc
  | lst ds =>
    rw [Rl] at r
    obtain ⟨a, vs, rfl, _, hs, _⟩ := r
    cases h
    exact .base (.lst hs)
  | scr ns =>
    rw [Rl] at r
    obtain ⟨a, rfl, hs⟩ := r
    cases h
    rcases hs with ⟨o, hs⟩ | ⟨o, its, n, hk, hc, _⟩
    · exact .base (.frz hs)
    · exact .kList hk hc
  | loc k =>
    rw [Rl] at r
    obtain ⟨a, rfl, ha⟩ := r
    unfold tyOf at h
    simp only at h
    split at h
    · rename_i ds hk
      cases h
      obtain ⟨b, hb, vs, h1, h2⟩ := w.get hk
      rw [ha] at hb; cases hb
      exact .base (.lst h1)
    · rename_i ds hk
      cases h
      obtain ⟨b, hb, vs, h1, h2⟩ := w.get hk
      rw [ha] at hb; cases hb
      exact .base (.dK h1)
    · cases h
theorem ce_isi {b : Expr} {n : String} {f : Ef} (hg : Gl X "isinstance") (hm : X.mg "isinstance" = none) (ha : CEx X e f) (hb : PE X b (tC (.ty n)))
    (he : starEach [e, b] X.env = (false, eval e X.env) :: starEach [b] X.env := by rfl) (he2 : starEach [b] X.env = (false, eval b X.env) :: starEach [] X.env := by rfl) (hpl : (backTo pos (starEach [b] X.env)).any (·.1) = false := by rfl) :
    CEx X (.Call (.Name "isinstance" p) [e, b] [] pos) (cIsI n f) :=
  PE.imp (pe_callB call_isi hg hm (by decide +kernel) (pa_cons ha (pa_cons hb pa_nil he2) he) (by decide) (by decide) he hpl) fun σ H Q h => by
    obtain ⟨ρ, M, m, z, M', rs, w, hf, P⟩ := h
    unfold cIsI at hf
    cases ea : f ρ M with
    | none => rw [ea] at hf; cases hf
    | some p =>
      cases eb : tyOf p.2 p.1.d with
      | none => simp [ea, eb] at hf
      | some t =>
        cases ec : kitB t n with
        | none => simp [ea, eb, ec] at hf
        | some k =>
          simp [ea, eb, ec] at hf
          obtain ⟨rfl, rfl⟩ := hf
          refine bindE rs w ea fun H1 m1 v e1 w1 rs1 r1 => ?_
          exact ⟨v, .ty n, _, _, k, rfl, .ty n, tyOf_ok w1 r1 eb, kit_ty ec, (P.ext e1).val w1 rl_bl⟩
/-! ### truth -/
def trD (M : Mem) (d : D) : Option Bool := match d with
  | .non => some false
  | .bl b => some b
  | .int i => some (i != 0)
  | .str y => if y.length ≤ sizeLine then some ((y.length : Int) != 0) else none
  | d => (asS M d).bind fun ds => some (!ds.isEmpty)
def toTr (f : Ef) : Tf := fun ρ M => (f ρ M).bind fun p => (trD p.2 p.1.d).bind fun b => some (b, p.2)
theorem ct_truth {f : Ef} (ha : CEx X e f) (he : ∀ whole, isTrue e X.env whole = (do let v ← whole; standAt e.pos; holding [v] (truthy v))) : CTx X e (toTr f) := PT.imp (pt_truth ha he) fun σ H Q h => by
  obtain ⟨ρ, M, m, z, M', rs, w, hf, P⟩ := h
  unfold toTr at hf
  cases ea : f ρ M with
  | none => rw [ea] at hf; cases hf
  | some p =>
    cases eb : trD p.2 p.1.d with
    | none => simp [ea, eb] at hf
    | some b =>
      simp [ea, eb] at hf
      obtain ⟨rfl, rfl⟩ := hf
      refine bindE rs w ea fun H1 m1 v e1 w1 rs1 r1 => ⟨b, ?_, P H1 m1 e1 w1⟩
      unfold trD at eb
      split at eb
      · rename_i hd; rw [hd, Rl] at r1; subst r1; cases eb; rfl
      · rename_i hd; rw [hd, Rl] at r1; subst r1; cases eb; rfl
      · rename_i hd; rw [hd, Rl] at r1; subst r1; cases eb; rfl
      · rename_i hd
        rw [hd, Rl] at r1; subst r1
        split at eb
        · rename_i hz; cases eb; exact ⟨hz, rfl⟩
        · cases eb
      · cases q : asS p.2 p.1.d with
        | none => simp [q] at eb
        | some ds =>
          simp only [q, Option.bind_some, Option.some.injEq] at eb
          subst eb
          obtain ⟨a, vs, rfl, hs, hr⟩ := asS_ok w1 r1 q
          have e : ds.isEmpty = vs.isEmpty := by
            have := hr.length
            cases ds <;> cases vs <;> simp_all
          rcases hs with hs | hs
          · exact .inl ⟨vs, hs, by rw [e]⟩
          · exact .inr (.inl ⟨vs, hs, by rw [e]⟩)
end
end CI

/-! Ci5: calls of defs, attributes, methods, statements, loops -/
namespace CI
open PySem PySem.Spec PyProof.Rows L2

/-! ### what a def means -/
def Fn := List D → Mem → Option (Rz × Mem)
def spF (K : PySem.W.Frag) (F : Fn) : Sp := fun vs H Q _ => ∃ ds M m r M', Rls K H m ds vs ∧ Wd K H m M ∧ F ds M = some (r, M') ∧ Post K H m r M' Q
def cCall (F : Fn) (g : Af) : Ef := fun ρ M => (g ρ M).bind fun p => F p.1 p.2
def cNew (c : Str) (F : Fn) (g : Af) : Ef := fun ρ M => (g ρ M).bind fun p => (F (.loc p.2.length :: p.1) (p.2 ++ [.ins c []])).bind fun q => match q.1 with
  | .val .non => some (.val (.loc p.2.length), q.2)
  | _ => none
def cMeth (c m : Str) (F : Fn) (f : Ef) (g : Af) : Ef := fun ρ M => (f ρ M).bind fun p => match p.1.d with
  | .loc k => match p.2[k]? with
    | some (.ins c' fs) => if c' = c ∧ fs.lookup m = none then (g ρ p.2).bind fun q => F (.loc k :: q.1) q.2 else none
    | _ => none
  | _ => none
def cFld (cs : List Str) (f : Str) (fo : Ef) : Ef := fun ρ M => (fo ρ M).bind fun p => match p.1.d with
  | .loc k => match p.2[k]? with
    | some (.ins c fs) => if c ∈ cs then (fs.lookup f).bind fun d => some (.val d, p.2) else none
    | _ => none
  | _ => none
section
variable {X : Cx} {k : Nat} {f : Addr} {fd : FuncData} {ps : List Str} {x m c : Str} {p pos apos : Pos} {e o : Expr} {es : List Expr} {G : Fn} {fo : Ef} {g : Af}
theorem call_of {σ : L2.St} {H : Hp} {Q : VK} {E : XK} (h : tE X.K (cCall G g) σ H Q) : tCall (spF X.K G) [] E (tA X.K g) σ H Q := by
  obtain ⟨ρ, M, m, z, M', rs, w, hf, P⟩ := h
  unfold cCall at hf
  cases ea : g ρ M with
  | none => rw [ea] at hf; cases hf
  | some p =>
    rw [ea] at hf
    exact bindA rs w ea fun H1 m1 vs e1 w1 rs1 r1 => ⟨p.1, p.2, m1, z, M', by rw [List.append_nil]; exact r1, w1, hf, P.ext e1⟩
theorem ce_call (F : FnOk X.prog X.w X.K X.mg X.base CX0 k f fd ps (spF X.K G)) (hr : Room k X.A) (hg : Gl X x) (hm : X.mg x = some (.ref f)) (hk : PySem.W.keepIn X.K (.ref f) = true) (hb : Binds X.K fd ps [])
    (ha : CAx X (e :: es) g) (hdb : (x == ("__debug__" : Str)) = false := by decide) (he : starEach (e :: es) X.env = (false, eval e X.env) :: starEach es X.env := by rfl) (hpl : (backTo pos (starEach es X.env)).any (·.1) = false := by rfl) :
    CEx X (.Call (.Name x p) (e :: es) [] pos) (cCall G g) := PE.imp (pe_call F hr hg hm hk hb .nil pass0 ha hdb he hpl) fun _ _ _ h => call_of h
theorem ce_call0 (F : FnOk X.prog X.w X.K X.mg X.base CX0 k f fd ps (spF X.K G)) (hr : Room k X.A) (hg : Gl X x) (hm : X.mg x = some (.ref f)) (hk : PySem.W.keepIn X.K (.ref f) = true) (hb : Binds X.K fd ps [])
    (hdb : (x == ("__debug__" : Str)) = false := by decide) : CEx X (.Call (.Name x p) [] [] pos) (cCall G aNil) :=
  PE.imp (pe_call0 F hr hg hm hk hb .nil pass0 hdb) fun σ H Q ⟨ρ, M, m, z, M', rs, w, hf, P⟩ => ⟨[], M, m, z, M', by rw [Rls]; rfl, w, hf, P⟩
theorem new_of {σ : L2.St} {H : Hp} {Q : VK} {E : XK} (h : tE X.K (cNew c G g) σ H Q) : tMake (He.ga X.K c) (spF X.K G) [] E (tA X.K g) σ H Q := by
  obtain ⟨ρ, M, m, z, M', rs, w, hf, P⟩ := h
  unfold cNew at hf
  cases ea : g ρ M with
  | none => rw [ea] at hf; cases hf
  | some p =>
    rw [ea] at hf
    simp only [Option.bind_some] at hf
    cases eb : G (.loc p.2.length :: p.1) (p.2 ++ [.ins c []]) with
    | none => rw [eb] at hf; cases hf
    | some q =>
      rw [eb] at hf
      simp only [Option.bind_some] at hf
      refine bindA rs w ea fun H1 m1 vs e1 w1 rs1 r1 => fun x dx nx ndx ne => ?_
      have e2 : Ext H1 m1 (upd H1 dx (.own x)) m1 := .new ndx
      have w2 : Wd X.K (upd H1 dx (.own x)) m1 p.2 := w1.new ndx
      have nx2 : upd H1 dx (.own x) x = none := by rw [upd_ne (Ne.symm ne)]; exact nx
      obtain ⟨w3, e3⟩ := w2.push (o := .ins c []) (u := .ins (He.ga X.K c) dx []) nx2 ⟨dx, [], upd_same, rfl⟩
      split at hf
      · rename_i hq
        cases hf
        refine ⟨.loc p.2.length :: p.1, _, m1 ++ [x], q.1, q.2, ?_, w3, eb, Post.use fun H4 m4 v e4 w4 r4 => ?_⟩
        · rw [Rls]
          refine ⟨_, _, rfl, ?_, by rw [List.append_nil]; exact r1.ext (e2.trans e3)⟩
          rw [Rl]
          exact ⟨x, rfl, by rw [← w1.len, List.getElem?_append_right (Nat.le_refl _)]; simp⟩
        · rw [hq] at r4
          rw [show (Rz.val D.non).d = .non from rfl, Rl] at r4
          refine ⟨r4, (P.ext (((e1.trans e2).trans e3).trans e4)).val w4 ?_⟩
          rw [Rl]
          exact ⟨x, rfl, e4.get (by rw [← w1.len, List.getElem?_append_right (Nat.le_refl _)]; simp)⟩
      · cases hf
theorem ce_new (Mk' : Mk X.K (He.ga X.K c) f) (F : FnOk X.prog X.w X.K X.mg X.base CX0 k f fd ps (spF X.K G)) (hr : Room (k + 1) X.A) (hg : Gl X x) (hm : X.mg x = some (.ref (He.ga X.K c))) (hb : Binds X.K fd ps [])
    (ha : CAx X (e :: es) g) (hdb : (x == ("__debug__" : Str)) = false := by decide) (he : starEach (e :: es) X.env = (false, eval e X.env) :: starEach es X.env := by rfl) (hpl : (backTo pos (starEach es X.env)).any (·.1) = false := by rfl) :
    CEx X (.Call (.Name x p) (e :: es) [] pos) (cNew c G g) := PE.imp (pe_make Mk' F hr hg hm hb .nil pass0 ha hdb he hpl) fun _ _ _ h => new_of h
theorem ce_new0 (Mk' : Mk X.K (He.ga X.K c) f) (F : FnOk X.prog X.w X.K X.mg X.base CX0 k f fd ps (spF X.K G)) (hr : Room (k + 1) X.A) (hg : Gl X x) (hm : X.mg x = some (.ref (He.ga X.K c))) (hb : Binds X.K fd ps [])
    (hdb : (x == ("__debug__" : Str)) = false := by decide) : CEx X (.Call (.Name x p) [] [] pos) (cNew c G aNil) :=
  PE.imp (pe_make0 Mk' F hr hg hm hb .nil pass0 hdb) fun σ H Q h => by
    have h2 := new_of (E := E0) h
    obtain ⟨ρ, M, m, ds, M', rs, w, hf, P⟩ := h2
    cases hf
    exact P H m [] .refl w (by rw [Rls])
theorem meth_of {σ : L2.St} {H : Hp} {Q : VK} {E : XK} (h : tE X.K (cMeth c m G fo g) σ H Q) : tMeth (He.ga X.K c) m (spF X.K G) [] E (tE X.K fo) (tA X.K g) σ H Q := by
  obtain ⟨ρ, M, mm, z, M', rs, w, hf, P⟩ := h
  unfold cMeth at hf
  cases ea : fo ρ M with
  | none => rw [ea] at hf; cases hf
  | some p =>
    rw [ea] at hf
    simp only [Option.bind_some] at hf
    refine bindE rs w ea fun H1 m1 v e1 w1 rs1 r1 => ?_
    split at hf
    · rename_i k hk
      rw [hk, Rl] at r1
      obtain ⟨a, rfl, ha⟩ := r1
      split at hf
      · rename_i c' fs hfs
        split at hf
        · rename_i hc
          obtain ⟨rfl, hl⟩ := hc
          obtain ⟨b, hb, dx, gs, h1, h2⟩ := w1.get hfs
          rw [ha] at hb; cases hb
          refine ⟨a, dx, gs, rfl, h1, h2.lookup_none hl, ?_⟩
          cases eg : g ρ p.2 with
          | none => rw [eg] at hf; cases hf
          | some q =>
            rw [eg] at hf
            simp only [Option.bind_some] at hf
            refine bindA rs1 w1 eg fun H2 m2 vs e2 w2 rs2 r2 => ⟨.loc k :: q.1, q.2, m2, z, M', ?_, w2, hf, P.ext (e1.trans e2)⟩
            rw [Rls]
            refine ⟨_, _, rfl, ?_, by rw [List.append_nil]; exact r2⟩
            rw [Rl]
            exact ⟨a, rfl, e2.get ha⟩
        · cases hf
      · cases hf
    · cases hf
theorem ce_meth {pl : Sem Bool} (he : CEx X o fo) (c' : Cls X.K (He.ga X.K c)) (hm : Meth X.K (He.ga X.K c) m f) (F : FnOk X.prog X.w X.K X.mg X.base CX0 k f fd ps (spF X.K G)) (hr : Room k X.A) (hb : Binds X.K fd ps []) (ha : CAx X (e :: es) g)
    (hst : starEach (e :: es) X.env = (false, eval e X.env) :: starEach es X.env := by rfl) (hpl : (backTo pos (starEach es X.env)).any (·.1) = false := by rfl)
    (ht : eval (.Call (.Attribute o m apos) (e :: es) [] pos) X.env = (do
      let ov ← eval o X.env
      standAt apos.atName
      let (f, first) ← holding [ov] (getMethod ov m pl)
      callWith pos f first (backTo pos (starEach (e :: es) X.env)) (backToKw pos (keywordEach [] X.env))) := by rfl) :
    CEx X (.Call (.Attribute o m apos) (e :: es) [] pos) (cMeth c m G fo g) := PE.imp (pe_meth he c' hm F hr hb .nil pass0 ha hst hpl ht) fun _ _ _ h => meth_of h
theorem ce_meth0 {pl : Sem Bool} (he : CEx X o fo) (c' : Cls X.K (He.ga X.K c)) (hm : Meth X.K (He.ga X.K c) m f) (F : FnOk X.prog X.w X.K X.mg X.base CX0 k f fd ps (spF X.K G)) (hr : Room k X.A) (hb : Binds X.K fd ps [])
    (ht : eval (.Call (.Attribute o m apos) [] [] pos) X.env = (do
      let ov ← eval o X.env
      standAt apos.atName
      let (f, first) ← holding [ov] (getMethod ov m pl)
      callWith pos f first (backTo pos (starEach [] X.env)) (backToKw pos (keywordEach [] X.env))) := by rfl) :
    CEx X (.Call (.Attribute o m apos) [] [] pos) (cMeth c m G fo aNil) := PE.imp (pe_meth0 he c' hm F hr hb .nil pass0 ht) fun σ H Q h => by
  have h2 := meth_of (E := E0) h
  obtain ⟨ρ, M, mm, z, M', rs, w, hf, P⟩ := h2
  refine ⟨ρ, M, mm, z, M', rs, w, hf, fun H1 m1 e1 w1 => ?_⟩
  have P1 := P H1 m1 e1 w1
  cases z with
  | val d =>
    intro v rv
    obtain ⟨a, dx, fs, h1, h2, h3, ρ', M2, m2, ds, M3, _, w2, hf2, P2⟩ := P1 v rv
    cases hf2
    exact ⟨a, dx, fs, h1, h2, h3, P2 H1 m2 [] .refl w2 (by rw [Rls])⟩
  | new ds =>
    intro vs a rv n
    obtain ⟨a', dx, fs, h1, h2, h3, ρ', M2, m2, ds2, M3, _, w2, hf2, P2⟩ := P1 vs a rv n
    cases hf2
    exact ⟨a', dx, fs, h1, h2, h3, P2 _ m2 [] .refl w2 (by rw [Rls])⟩
theorem ce_fld {cs : List Str} {n : Str} (he : CEx X e fo) (hcs : ∀ c ∈ cs, Cls X.K (He.ga X.K c) ∧ NoAttr X.K (He.ga X.K c) n) (hb : attributeBase e n X.env (eval e X.env) = eval e X.env := by rfl) : CEx X (.Attribute e n pos) (cFld cs n fo) :=
  PE.imp (pe_fld he hb) fun σ H Q h => by
    obtain ⟨ρ, M, mm, z, M', rs, w, hf, P⟩ := h
    unfold cFld at hf
    cases ea : fo ρ M with
    | none => rw [ea] at hf; cases hf
    | some p =>
      rw [ea] at hf
      simp only [Option.bind_some] at hf
      refine bindE rs w ea fun H1 m1 v e1 w1 rs1 r1 => ?_
      split at hf
      · rename_i k hk
        rw [hk, Rl] at r1
        obtain ⟨a, rfl, ha⟩ := r1
        split at hf
        · rename_i c fs hfs
          split at hf
          · rename_i hc
            obtain ⟨b, hb, dx, gs, h1, h2⟩ := w1.get hfs
            rw [ha] at hb; cases hb
            cases q : fs.lookup n with
            | none => rw [q] at hf; cases hf
            | some d =>
              rw [q] at hf
              cases hf
              obtain ⟨v, hv, rv⟩ := h2.lookup q
              exact ⟨a, _, dx, gs, v, rfl, h1, (hcs c hc).1, (hcs c hc).2, hv, (P.ext e1).val w1 rv⟩
          · cases hf
        · cases hf
      · cases hf
end

/-! ### methods of lists -/
def Mop := D → List D → Mem → Option (Rz × Mem)
def MtOk (X : Cx) (T id : String) (o : Mop) : Prop := ∃ r, MtR X id r ∧ ∀ H m M d ds x xs z M' Q, Wd X.K H m M → Rl X.K H m d x → Rls X.K H m ds xs → o d ds M = some (z, M') → Post X.K H m z M' Q → r x xs H Q
def cBM (T : String) (o : Mop) (f : Ef) (g : Af) : Ef := fun ρ M => (f ρ M).bind fun p => if tyOf p.2 p.1.d = some T then (g ρ p.2).bind fun q => o p.1.d q.1 q.2 else none
section
variable {X : Cx} {o e : Expr} {es : List Expr} {fo : Ef} {g : Af} {name : Str} {apos cpos : Pos} {id : String} {op : Mop}
theorem tyV_list {K : PySem.W.Frag} {H : Hp} {m : List Addr} {M : Mem} {d : D} {x : V} (w : Wd K H m M) (r : Rl K H m d x) (h : tyOf M d = some "list") : tyV K "list" x H := by
  cases d with
  | lst ds => rw [Rl] at r; obtain ⟨a, vs, rfl, _, h1, _⟩ := r; exact .inl ⟨rfl, vs, .of h1⟩
  | scr ns => rw [Rl] at r; obtain ⟨a, rfl, h1⟩ := r; exact .inl ⟨rfl, _, h1.l⟩
  | loc k =>
    rw [Rl] at r
    obtain ⟨a, rfl, ha⟩ := r
    unfold tyOf at h
    simp only at h
    split at h
    · rename_i ds hk
      obtain ⟨b, hb, vs, h1, h2⟩ := w.get hk
      rw [ha] at hb; cases hb
      exact .inl ⟨rfl, vs, .of h1⟩
    · exact absurd (Option.some.inj h) (by decide)
    · cases h
  | non => exact absurd (Option.some.inj h) (by decide)
  | bl b => exact absurd (Option.some.inj h) (by decide)
  | int b => exact absurd (Option.some.inj h) (by decide)
  | str b => exact absurd (Option.some.inj h) (by decide)
  | tup b => exact absurd (Option.some.inj h) (by decide)
theorem bm_of {r : V → List V → Hp → VK → Prop} (ho : ∀ H m M d ds x xs z M' Q, Wd X.K H m M → Rl X.K H m d x → Rls X.K H m ds xs → op d ds M = some (z, M') → Post X.K H m z M' Q → r x xs H Q) {σ : L2.St} {H : Hp} {Q : VK}
    (h : tE X.K (cBM "list" op fo g) σ H Q) : tBM X.K "list" r (tE X.K fo) (tA X.K g) σ H Q := by
  obtain ⟨ρ, M, mm, z, M', rs, w, hf, P⟩ := h
  unfold cBM at hf
  cases ea : fo ρ M with
  | none => rw [ea] at hf; cases hf
  | some p =>
    rw [ea] at hf
    simp only [Option.bind_some] at hf
    refine bindE rs w ea fun H1 m1 v e1 w1 rs1 r1 => ?_
    split at hf
    · rename_i ht
      refine ⟨tyV_list w1 r1 ht, ?_⟩
      cases eg : g ρ p.2 with
      | none => rw [eg] at hf; cases hf
      | some q =>
        rw [eg] at hf
        simp only [Option.bind_some] at hf
        exact bindA rs1 w1 eg fun H2 m2 vs e2 w2 rs2 r2 => ho H2 m2 q.2 _ _ _ _ _ _ Q w2 (r1.ext e2) r2 hf (P.ext (e1.trans e2))
    · cases hf
theorem ce_bm (pa : PlainAttrs "list") (slot : Slot "list" name id) (hty : typeOf (.builtin id) = pure (.type "method_descriptor")) (hm : MtOk X "list" id op) (ho : CEx X o fo) (ha : CAx X (e :: es) g)
    (hbase : attributeBase o name X.env (eval o X.env) = eval o X.env := by rfl)
    (hfew : ((backTo cpos (starEach (e :: es) X.env)).all (fun x => !x.1) && (backToKw cpos (keywordEach [] X.env)).all (fun x => x.1.isSome)
      && decide ((e :: es).length + ([] : List Keyword).length + (if ([] : List Keyword).isEmpty then 0 else 1) < 30)) = true := by rfl)
    (hline : (apos.endLine == cpos.line) = true := by rfl) (hs : starEach (e :: es) X.env = (false, eval e X.env) :: starEach es X.env := by rfl) (hplain : (backTo cpos (starEach es X.env)).any (·.1) = false := by rfl) :
    CEx X (.Call (.Attribute o name apos) (e :: es) [] cpos) (cBM "list" op fo g) := by
  obtain ⟨r, h1, h2⟩ := hm
  exact PE.imp (pe_bm pa slot hty h1 ho ha hbase hfew hline hs hplain) fun _ _ _ h => bm_of h2 h
theorem ce_bm0 (pa : PlainAttrs "list") (slot : Slot "list" name id) (hty : typeOf (.builtin id) = pure (.type "method_descriptor")) (hm : MtOk X "list" id op) (ho : CEx X o fo)
    (hbase : attributeBase o name X.env (eval o X.env) = eval o X.env := by rfl) (hline : (apos.endLine == cpos.line) = true := by rfl) :
    CEx X (.Call (.Attribute o name apos) [] [] cpos) (cBM "list" op fo aNil) := by
  obtain ⟨r, h1, h2⟩ := hm
  refine PE.imp (pe_bm0 pa slot hty h1 ho hbase hline) fun σ H Q h => ?_
  obtain ⟨ρ, M, mm, z, M', rs, w, hf, P⟩ := h
  unfold cBM at hf
  cases ea : fo ρ M with
  | none => rw [ea] at hf; cases hf
  | some p =>
    rw [ea] at hf
    simp only [Option.bind_some] at hf
    refine bindE rs w ea fun H1 m1 v e1 w1 rs1 r1 => ?_
    split at hf
    · rename_i ht
      refine ⟨tyV_list w1 r1 ht, ?_⟩
      simp only [aNil, Option.bind_some] at hf
      exact h2 H1 m1 p.2 _ [] _ [] _ _ Q w1 r1 (by rw [Rls]) hf (P.ext e1)
    · cases hf
/-- the object k is changed: what follows -/
theorem Post.set {K : PySem.W.Frag} {H : Hp} {m : List Addr} {M : Mem} {k : Nat} {a : Addr} {ob : O} {u : HO} {z : D} {v : V} {Q : VK} (w : Wd K H m M) (hk : m[k]? = some a) (P : Post K H m (.val z) (M.set k ob) Q)
    (ho : Ro K (upd H a u) m a ob) (hz : Rl K (upd H a u) m z v) : Q v (upd H a u) := P _ m (w.ext_set hk) (w.set hk ho) v hz
def oAppend : Mop := fun d ds M => match d, ds with
  | .loc k, [x] => match M[k]? with
    | some (.lst es) => if es.length < sizeLine then some (.val .non, M.set k (.lst (es ++ [x]))) else none
    | _ => none
  | _, _ => none
theorem ok_append : MtOk X "list" "list.append" oAppend := by
  refine ⟨_, mt_append, fun H m M d ds x xs z M' Q w rd rds ho P => ?_⟩
  unfold oAppend at ho
  split at ho
  · rename_i k y
    split at ho
    · rename_i es hk
      split at ho
      · rename_i hz
        cases ho
        rw [Rl] at rd
        obtain ⟨a, rfl, ha⟩ := rd
        obtain ⟨b, hb, vs, h1, h2⟩ := w.get hk
        rw [ha] at hb; cases hb
        obtain ⟨v, rfl, rv⟩ := rds.one
        have e := w.ext_set (K := X.K) (u := .lst (vs ++ [v])) ha
        refine ⟨a, vs, v, rfl, rfl, h1, by rw [← h2.length]; exact hz, P.set w ha ⟨_, upd_same, ?_⟩ rl_non⟩
        exact (h2.ext e).append (by rw [Rls]; exact ⟨_, _, rfl, rv.ext e, by rw [Rls]⟩)
      · cases ho
    · cases ho
  · cases ho
end

/-! ### statements -/
inductive Fl where
  | nx | bk | ct | rt (r : Rz)
abbrev Sf := Slots → Mem → Option (Fl × Slots × Mem)
def PostN (K : PySem.W.Frag) (H : Hp) (m : List Addr) (ρ' : Slots) (M' : Mem) (N : L2.St → Hp → Prop) : Prop := ∀ H1 m1 σ1, Ext H m H1 m1 → Wd K H1 m1 M' → Rs K H1 m1 ρ' σ1 → N σ1 H1
def PostS (K : PySem.W.Frag) (H : Hp) (m : List Addr) (fl : Fl) (ρ' : Slots) (M' : Mem) (Dn : Ends) : Prop := match fl with
  | .nx => PostN K H m ρ' M' Dn.nx
  | .bk => PostN K H m ρ' M' Dn.bk
  | .ct => PostN K H m ρ' M' Dn.ct
  | .rt r => Post K H m r M' Dn.rt
def tS (K : PySem.W.Frag) (f : Sf) : TS := fun Dn σ H => ∃ ρ M m fl ρ' M', Rs K H m ρ σ ∧ Wd K H m M ∧ f ρ M = some (fl, ρ', M') ∧ PostS K H m fl ρ' M' Dn
abbrev CSx (X : Cx) (st : Stmt) (f : Sf) : Prop := PS X st (tS X.K f)
abbrev CBx (X : Cx) (st : List Stmt) (f : Sf) : Prop := PSs X st (tS X.K f)
theorem PS.imp {X : Cx} {e : Stmt} {t t' : TS} (h : PS X e t) (i : ∀ Dn σ H, t' Dn σ H → t Dn σ H) : PS X e t' := ⟨fun pins s σ H Q I q => h.run pins s σ H Q I (i Q σ H q)⟩
theorem PSs.imp {X : Cx} {e : List Stmt} {t t' : TS} (h : PSs X e t) (i : ∀ Dn σ H, t' Dn σ H → t Dn σ H) : PSs X e t' := ⟨fun pins s σ H Q I q => h.run pins s σ H Q I (i Q σ H q)⟩
section
variable {K : PySem.W.Frag} {H H1 : Hp} {m m1 : List Addr} {ρ' : Slots} {M' : Mem} {fl : Fl} {Dn : Ends}
theorem PostN.ext {N : L2.St → Hp → Prop} (P : PostN K H m ρ' M' N) (e : Ext H m H1 m1) : PostN K H1 m1 ρ' M' N := fun H2 m2 σ2 e2 w r => P H2 m2 σ2 (e.trans e2) w r
theorem PostS.ext (P : PostS K H m fl ρ' M' Dn) (e : Ext H m H1 m1) : PostS K H1 m1 fl ρ' M' Dn := by
  cases fl with
  | nx => exact PostN.ext P e
  | bk => exact PostN.ext P e
  | ct => exact PostN.ext P e
  | rt r => exact Post.ext P e
end
section
variable {X : Cx} {st : Stmt} {rest : List Stmt} {f g : Sf} {fe fo : Ef} {ft : Tf} {e : Expr} {pos : Pos}
def sNil : Sf := fun ρ M => some (.nx, ρ, M)
def sCons (f g : Sf) : Sf := fun ρ M => (f ρ M).bind fun p => match p.1 with
  | .nx => g p.2.1 p.2.2
  | fl => some (fl, p.2.1, p.2.2)
theorem nx_of {Dn : Ends} {σ : L2.St} {H : Hp} (h : tS X.K sNil Dn σ H) : Dn.nx σ H := by
  obtain ⟨ρ, M, m, fl, ρ', M', rs, w, hf, P⟩ := h
  cases hf
  exact P H m σ .refl w rs
theorem cb_nil : CBx X [] sNil := PSs.imp pss_nil fun _ _ _ h => nx_of h
theorem cb_cons (h1 : CSx X st f) (h2 : CBx X rest g) : CBx X (st :: rest) (sCons f g) := PSs.imp (pss_cons h1 h2) fun Dn σ H h => by
  obtain ⟨ρ, M, m, fl, ρ', M', rs, w, hf, P⟩ := h
  unfold sCons at hf
  cases ea : f ρ M with
  | none => rw [ea] at hf; cases hf
  | some p =>
    obtain ⟨fl1, ρ1, M1⟩ := p
    rw [ea] at hf
    simp only [Option.bind_some] at hf
    refine ⟨ρ, M, m, fl1, ρ1, M1, rs, w, ea, ?_⟩
    cases fl1 with
    | nx => exact fun H1 m1 σ1 e1 w1 r1 => ⟨ρ1, M1, m1, fl, ρ', M', r1, w1, hf, P.ext e1⟩
    | bk => cases hf; exact P
    | ct => cases hf; exact P
    | rt r => cases hf; exact P
theorem cb_one (h1 : CSx X st f) : CBx X [st] f := pss_one h1
theorem cs_pass : CSx X (.Pass pos) sNil := PS.imp ps_pass fun _ _ _ h => nx_of h
theorem cs_doc {x : Str} {j pos'} : CSx X (.Expr (.Constant (.str x) j pos') pos) sNil := PS.imp ps_doc fun _ _ _ h => nx_of h
def sBreak : Sf := fun ρ M => some (.bk, ρ, M)
def sCont : Sf := fun ρ M => some (.ct, ρ, M)
theorem cs_break : CSx X (.Break pos) sBreak := PS.imp ps_break fun Dn σ H h => by
  obtain ⟨ρ, M, m, fl, ρ', M', rs, w, hf, P⟩ := h
  cases hf
  exact P H m σ .refl w rs
theorem cs_continue : CSx X (.Continue pos) sCont := PS.imp ps_continue fun Dn σ H h => by
  obtain ⟨ρ, M, m, fl, ρ', M', rs, w, hf, P⟩ := h
  cases hf
  exact P H m σ .refl w rs
def sExpr (f : Ef) : Sf := fun ρ M => (f ρ M).bind fun p => some (.nx, ρ, p.2)
theorem cs_expr (he : CEx X e fe) (hs : swapsWith e none pos.line X.env = pure false := by rfl) : CSx X (.Expr e pos) (sExpr fe) := PS.imp (ps_expr he hs) fun Dn σ H h => by
  obtain ⟨ρ, M, m, fl, ρ', M', rs, w, hf, P⟩ := h
  unfold sExpr at hf
  cases ea : fe ρ M with
  | none => rw [ea] at hf; cases hf
  | some p =>
    rw [ea] at hf
    cases hf
    exact bindE rs w ea fun H1 m1 v e1 w1 rs1 r1 => P H1 m1 σ e1 w1 rs1
def sRet (f : Ef) : Sf := fun ρ M => (f ρ M).bind fun p => some (.rt p.1, ρ, p.2)
theorem cs_ret (he : CEx X e fe) : CSx X (.Return (some e) pos) (sRet fe) := PS.imp (ps_ret he) fun Dn σ H h => by
  obtain ⟨ρ, M, m, fl, ρ', M', rs, w, hf, P⟩ := h
  unfold sRet at hf
  cases ea : fe ρ M with
  | none => rw [ea] at hf; cases hf
  | some p =>
    rw [ea] at hf
    cases hf
    exact ⟨ρ, M, m, p.1, p.2, rs, w, ea, P⟩
def sRetN : Sf := fun ρ M => some (.rt (.val .non), ρ, M)
theorem cs_retN : CSx X (.Return none pos) sRetN := PS.imp ps_retN fun Dn σ H h => by
  obtain ⟨ρ, M, m, fl, ρ', M', rs, w, hf, P⟩ := h
  cases hf
  exact Post.val P w rl_non
def sIf (t : Tf) (f g : Sf) : Sf := fun ρ M => (t ρ M).bind fun p => if p.1 = true then f ρ p.2 else g ρ p.2
theorem cs_if {c : Expr} {a b : List Stmt} (hc : CTx X c ft) (ha : CBx X a f) (hb : CBx X b g) : CSx X (.If c a b pos) (sIf ft f g) := PS.imp (ps_if hc ha hb) fun Dn σ H h => by
  obtain ⟨ρ, M, m, fl, ρ', M', rs, w, hf, P⟩ := h
  unfold sIf at hf
  cases ea : ft ρ M with
  | none => rw [ea] at hf; cases hf
  | some p =>
    rw [ea] at hf
    simp only [Option.bind_some] at hf
    refine bindT rs w ea fun H1 m1 e1 w1 rs1 => ?_
    split at hf
    · rename_i e; rw [if_pos e]; exact ⟨ρ, p.2, m1, fl, ρ', M', rs1, w1, hf, P.ext e1⟩
    · rename_i e; rw [if_neg e]; exact ⟨ρ, p.2, m1, fl, ρ', M', rs1, w1, hf, P.ext e1⟩
/-- code that is never reached -/
def sNever : Sf := fun _ _ => none
theorem cs_never : CSx X st sNever := PS.imp ps_never fun Dn σ H h => by
  obtain ⟨ρ, M, m, fl, ρ', M', rs, w, hf, P⟩ := h
  cases hf
theorem cb_never {sts : List Stmt} : CBx X sts sNever := PSs.imp pss_never fun Dn σ H h => by
  obtain ⟨ρ, M, m, fl, ρ', M', rs, w, hf, P⟩ := h
  cases hf
/-- name = value -/
def sSet (i : Nat) (f : Ef) : Sf := fun ρ M => (f ρ M).bind fun p => some (.nx, ρ.set i (some p.1.d), p.2)
theorem cs_set {i : Nat} (h : PS X st (tAsg (tE X.K fe) (gName i))) : CSx X st (sSet i fe) := PS.imp h fun Dn σ H h => by
  obtain ⟨ρ, M, m, fl, ρ', M', rs, w, hf, P⟩ := h
  unfold sSet at hf
  cases ea : fe ρ M with
  | none => rw [ea] at hf; cases hf
  | some p =>
    rw [ea] at hf
    cases hf
    exact bindE rs w ea fun H1 m1 v e1 w1 rs1 r1 => P H1 m1 _ e1 w1 (rs1.set r1 i)
/-- name = value, a new list becomes an object of our own -/
def sSetM (i : Nat) (f : Ef) : Sf := fun ρ M => (f ρ M).bind fun p => match p.1 with
  | .new ds => some (.nx, ρ.set i (some (.loc p.2.length)), p.2 ++ [.lst ds])
  | .val d => some (.nx, ρ.set i (some d), p.2)
theorem cs_setM {i : Nat} (h : PS X st (tAsg (tE X.K fe) (gName i))) : CSx X st (sSetM i fe) := PS.imp h fun Dn σ H h => by
  obtain ⟨ρ, M, m, fl, ρ', M', rs, w, hf, P⟩ := h
  unfold sSetM at hf
  cases ea : fe ρ M with
  | none => rw [ea] at hf; cases hf
  | some p =>
    obtain ⟨r, M1⟩ := p
    rw [ea] at hf
    simp only [Option.bind_some] at hf
    refine ⟨ρ, M, m, r, M1, rs, w, ea, fun H1 m1 e1 w1 => ?_⟩
    cases r with
    | val d =>
      cases hf
      exact fun v r1 => P H1 m1 _ e1 w1 ((rs.ext e1).set r1 i)
    | new ds =>
      cases hf
      intro vs a r1 n
      obtain ⟨w2, e2⟩ := w1.push (o := .lst ds) (u := .lst vs) n (by
        refine ⟨vs, upd_same, ?_⟩
        have e1 : Ext H1 m1 (upd H1 a (.lst vs)) m1 := .new n
        exact r1.ext ⟨e1.tup, e1.frz, e1.lst, e1.trk, [a], rfl, fun b q => by simp at q; rw [q]; exact n⟩)
      refine P _ _ _ (e1.trans e2) w2 (((rs.ext e1).ext e2).set ?_ i)
      rw [Rl]
      exact ⟨a, rfl, by rw [← w1.len, List.getElem?_append_right (Nat.le_refl _)]; simp⟩
end

/-! ### fields stored -/
def putD (f : Str) (v : D) : List (Str × D) → List (Str × D)
  | [] => [(f, v)]
  | (g, x) :: r => if g = f then (g, v) :: r else (g, x) :: putD f v r
theorem Rfs.put {K : PySem.W.Frag} {H : Hp} {m : List Addr} {f : Str} {d : D} {v : V} (r : Rl K H m d v) : ∀ {fs : List (Str × D)} {gs : List (Str × V)}, Rfs K H m fs gs → Rfs K H m (putD f d fs) (putF f v gs)
  | [], _, h => by cases h; exact ⟨v, [], rfl, r, rfl⟩
  | (g, x) :: fs, _, h => by
    obtain ⟨u, s, rfl, h1, h2⟩ := h
    unfold putD putF
    split
    · exact ⟨v, s, rfl, r, h2⟩
    · exact ⟨u, _, rfl, h1, Rfs.put r h2⟩
def stFld (cs : List Str) (f : Str) (fo : Ef) (d : D) (ρ : Slots) (M : Mem) : Option (Fl × Slots × Mem) := (fo ρ M).bind fun q => match q.1.d with
  | .loc k => match q.2[k]? with
    | some (.ins c fs) => if c ∈ cs ∧ fs.length < 1000 then some (.nx, ρ, q.2.set k (.ins c (putD f d fs))) else none
    | _ => none
  | _ => none
def sFldS (cs : List Str) (f : Str) (fo fv : Ef) : Sf := fun ρ M => (fv ρ M).bind fun p => stFld cs f fo p.1.d ρ p.2
def sFldM (cs : List Str) (f : Str) (fo fv : Ef) : Sf := fun ρ M => (fv ρ M).bind fun p => match p.1 with
  | .new ds => stFld cs f fo (.loc p.2.length) ρ (p.2 ++ [.lst ds])
  | .val d => stFld cs f fo d ρ p.2
section
variable {X : Cx} {st : Stmt} {fe fo fv : Ef} {o value : Expr} {n : Str} {pos pos' : Pos} {cs : List Str}
theorem fld_of {ρ ρ' : Slots} {M M' : Mem} {fl : Fl} {d : D} {y : V} {H H0 : Hp} {m m0 : List Addr} {σ : L2.St} {Dn : Ends} (hcs : ∀ c ∈ cs, Cls X.K (He.ga X.K c) ∧ NoAttr X.K (He.ga X.K c) n) (e : Ext H0 m0 H m) (rs : Rs X.K H m ρ σ) (w : Wd X.K H m M) (r : Rl X.K H m d y)
    (hf : stFld cs n fo d ρ M = some (fl, ρ', M')) (P : PostS X.K H0 m0 fl ρ' M' Dn) :
    tE X.K fo σ H fun x H2 => ∃ a C dx fs, x = .ref a ∧ H2 a = some (.ins C dx fs) ∧ Cls X.K C ∧ NoAttr X.K C n ∧ fs.length < 1000 ∧ Dn.nx σ (upd H2 a (.ins C dx (putF n y fs))) := by
  unfold stFld at hf
  cases ea : fo ρ M with
  | none => rw [ea] at hf; cases hf
  | some q =>
    rw [ea] at hf
    simp only [Option.bind_some] at hf
    refine bindE rs w ea fun H1 m1 v e1 w1 rs1 r1 => ?_
    split at hf
    · rename_i k hk
      rw [hk, Rl] at r1
      obtain ⟨a, rfl, ha⟩ := r1
      split at hf
      · rename_i c fs hfs
        split at hf
        · rename_i hc
          cases hf
          obtain ⟨b, hb, dx, gs, h1, h2⟩ := w1.get hfs
          rw [ha] at hb; cases hb
          have e2 := w1.ext_set (u := .ins (He.ga X.K c) dx (putF n y gs)) ha
          refine ⟨a, _, dx, gs, rfl, h1, (hcs c hc.1).1, (hcs c hc.1).2, by rw [← h2.length]; exact hc.2, ?_⟩
          exact P _ m1 σ ((e.trans e1).trans e2) (w1.set ha ⟨dx, _, upd_same, Rfs.put ((r.ext e1).ext e2) (h2.ext e2)⟩) (rs1.ext e2)
        · cases hf
      · cases hf
    · cases hf
theorem cs_fld (ha : CEx X o fo) (hv : CEx X value fv) (hcs : ∀ c ∈ cs, Cls X.K (He.ga X.K c) ∧ NoAttr X.K (He.ga X.K c) n) (hs : swapsWith value (some (.Attribute o n pos')) pos.line X.env = pure false := by rfl) : CSx X (.Assign [.Attribute o n pos'] value pos) (sFldS cs n fo fv) :=
  PS.imp (ps_fld ha hv hs) fun Dn σ H h => by
    obtain ⟨ρ, M, m, fl, ρ', M', rs, w, hf, P⟩ := h
    unfold sFldS at hf
    cases ea : fv ρ M with
    | none => rw [ea] at hf; cases hf
    | some p =>
      rw [ea] at hf
      exact bindE rs w ea fun H1 m1 v e1 w1 rs1 r1 => fld_of hcs e1 rs1 w1 r1 hf P
theorem cs_fldM (ha : CEx X o fo) (hv : CEx X value fv) (hcs : ∀ c ∈ cs, Cls X.K (He.ga X.K c) ∧ NoAttr X.K (He.ga X.K c) n) (hs : swapsWith value (some (.Attribute o n pos')) pos.line X.env = pure false := by rfl) : CSx X (.Assign [.Attribute o n pos'] value pos) (sFldM cs n fo fv) :=
  PS.imp (ps_fld ha hv hs) fun Dn σ H h => by
    obtain ⟨ρ, M, m, fl, ρ', M', rs, w, hf, P⟩ := h
    unfold sFldM at hf
    cases ea : fv ρ M with
    | none => rw [ea] at hf; cases hf
    | some p =>
      obtain ⟨r, M1⟩ := p
      rw [ea] at hf
      simp only [Option.bind_some] at hf
      refine ⟨ρ, M, m, r, M1, rs, w, ea, fun H1 m1 e1 w1 => ?_⟩
      cases r with
      | val d => exact fun v r1 => fld_of hcs e1 (rs.ext e1) w1 r1 hf P
      | new ds =>
        intro vs a r1 nn
        obtain ⟨w2, e2⟩ := w1.push (o := .lst ds) (u := .lst vs) nn (by
          refine ⟨vs, upd_same, ?_⟩
          have e1 : Ext H1 m1 (upd H1 a (.lst vs)) m1 := .new nn
          exact r1.ext ⟨e1.tup, e1.frz, e1.lst, e1.trk, [a], rfl, fun b q => by simp at q; rw [q]; exact nn⟩)
        refine fld_of hcs (e1.trans e2) ((rs.ext e1).ext e2) w2 ?_ hf P
        rw [Rl]
        exact ⟨a, rfl, by rw [← w1.len, List.getElem?_append_right (Nat.le_refl _)]; simp⟩
end
end CI

/-! Ci6: targets, loops, defs -/
namespace CI
open PySem PySem.Spec PyProof.Rows L2

/-! ### targets -/
abbrev Gf := D → Slots → Mem → Option (Slots × Mem)
abbrev GsF := List D → Slots → Mem → Option (Slots × Mem)
def tG (K : PySem.W.Frag) (g : Gf) : TG := fun v σ H Q => ∃ d ρ M m ρ' M', Rl K H m d v ∧ Rs K H m ρ σ ∧ Wd K H m M ∧ g d ρ M = some (ρ', M') ∧ PostN K H m ρ' M' Q
def tGs (K : PySem.W.Frag) (g : GsF) : TGs := fun vs σ H Q => ∃ ds ρ M m ρ' M', Rls K H m ds vs ∧ Rs K H m ρ σ ∧ Wd K H m M ∧ g ds ρ M = some (ρ', M') ∧ PostN K H m ρ' M' Q
theorem PG.imp {X : Cx} {e : Expr} {t t' : TG} (h : PG X e t) (i : ∀ v σ H Q, t' v σ H Q → t v σ H Q) : PG X e t' := ⟨fun pins s σ H v u Q I r q => h.run pins s σ H v u Q I r (i v σ H Q q)⟩
theorem PGs.imp {X : Cx} {e : List Expr} {t t' : TGs} (h : PGs X e t) (i : ∀ v σ H Q, t' v σ H Q → t v σ H Q) : PGs X e t' := ⟨fun pins s σ H v u Q I r q => h.run pins s σ H v u Q I r (i v σ H Q q)⟩
abbrev CGx (X : Cx) (e : Expr) (g : Gf) : Prop := PG X e (tG X.K g)
abbrev CGsx (X : Cx) (es : List Expr) (g : GsF) : Prop := PGs X es (tGs X.K g)
def gNm (i : Nat) : Gf := fun d ρ M => some (ρ.set i (some d), M)
def gsNil : GsF := fun ds ρ M => match ds with
  | [] => some (ρ, M)
  | _ => none
def gsCons (g : Gf) (gs : GsF) : GsF := fun ds ρ M => match ds with
  | d :: ds => (g d ρ M).bind fun p => gs ds p.1 p.2
  | [] => none
def gTp (n : Nat) (gs : GsF) : Gf := fun d ρ M => match d with
  | .tup ds => if ds.length = n then gs ds ρ M else none
  | _ => none
section
variable {X : Cx} {e tg : Expr} {es : List Expr} {g : Gf} {gs : GsF} {pos : Pos} {fe : Ef} {st : Stmt}
theorem cg_of {i : Nat} (h : PG X e (gName i)) : CGx X e (gNm i) := PG.imp h fun v σ H Q ⟨d, ρ, M, m, ρ', M', r, rs, w, hf, P⟩ => by
  cases hf
  exact P H m _ .refl w (rs.set r i)
theorem cgs_nil : CGsx X [] gsNil := PGs.imp pgs_nil fun vs σ H Q ⟨ds, ρ, M, m, ρ', M', r, rs, w, hf, P⟩ => by
  unfold gsNil at hf
  split at hf
  · cases hf
    exact ⟨rls_nil r, P H m _ .refl w rs⟩
  · cases hf
theorem cgs_cons (h1 : CGx X e g) (h2 : CGsx X es gs) (hs : (assignEach (e :: es) X.env).map (·.2) = assign e X.env :: (assignEach es X.env).map (·.2) := by rfl) : CGsx X (e :: es) (gsCons g gs) :=
  PGs.imp (pgs_cons h1 h2 hs) fun vs σ H Q ⟨ds, ρ, M, m, ρ', M', r, rs, w, hf, P⟩ => by
    unfold gsCons at hf
    split at hf
    · rename_i d ds
      rw [Rls] at r
      obtain ⟨v, vr, rfl, r1, r2⟩ := r
      cases ea : g d ρ M with
      | none => rw [ea] at hf; cases hf
      | some p =>
        rw [ea] at hf
        simp only [Option.bind_some] at hf
        refine ⟨v, vr, rfl, d, ρ, M, m, p.1, p.2, r1, rs, w, ea, fun H1 m1 σ1 e1 w1 rs1 => ?_⟩
        exact ⟨ds, p.1, p.2, m1, ρ', M', r2.ext e1, rs1, w1, hf, P.ext e1⟩
    · cases hf
theorem cg_tup {k n : Nat} (hc : X.calm = true) (h : CGsx X es gs) (hn : (assignEach es X.env).length = n := by rfl) (hst : (assignEach es X.env).findIdx? (·.1) = none := by rfl) : CGx X (.Tuple es k pos) (gTp n gs) :=
  PG.imp (pg_tup hc h hn hst) fun v σ H Q ⟨d, ρ, M, m, ρ', M', r, rs, w, hf, P⟩ => by
    unfold gTp at hf
    split at hf
    · rename_i ds
      split at hf
      · rename_i hl
        rw [Rl] at r
        obtain ⟨a, vs, rfl, h1, h2⟩ := r
        exact ⟨a, vs, rfl, h1, by rw [← h2.length]; exact hl, ds, ρ, M, m, ρ', M', h2, rs, w, hf, P⟩
      · cases hf
    · cases hf
def sAsg (g : Gf) (f : Ef) : Sf := fun ρ M => (f ρ M).bind fun p => (g p.1.d ρ p.2).bind fun q => some (.nx, q.1, q.2)
theorem cs_asg (h : PS X st (tAsg (tE X.K fe) (tG X.K g))) : CSx X st (sAsg g fe) := PS.imp h fun Dn σ H h => by
  obtain ⟨ρ, M, m, fl, ρ', M', rs, w, hf, P⟩ := h
  unfold sAsg at hf
  cases ea : fe ρ M with
  | none => rw [ea] at hf; cases hf
  | some p =>
    cases eg : g p.1.d ρ p.2 with
    | none => simp [ea, eg] at hf
    | some q =>
      simp [ea, eg] at hf
      obtain ⟨rfl, rfl, rfl⟩ := hf
      exact bindE rs w ea fun H1 m1 v e1 w1 rs1 r1 => ⟨p.1.d, ρ, p.2, m1, q.1, q.2, r1, rs1, w1, eg, PostN.ext P e1⟩
end
/-- xs[i] = v as a target -/
def gIx (fo fi : Ef) : Gf := fun d ρ M => (fo ρ M).bind fun p => (fi ρ p.2).bind fun q => match p.1.d, q.1.d with
  | .loc k, .int i => match q.2[k]? with
    | some (.lst es) => (ixN es.length i).bind fun j => some (ρ, q.2.set k (.lst (es.set j d)))
    | _ => none
  | _, _ => none
theorem cg_ix {X : Cx} {o i : Expr} {fo fi : Ef} {pos : Pos} (ho : CEx X o fo) (hi : CEx X i fi) (ha : ∀ v, assign (.Subscript o i pos) X.env v = (do
      let ov ← holding [v] (eval o X.env)
      let iv ← holding [v, ov] (eval i X.env)
      standAt pos
      holding [v, ov, iv] (setItem ov iv v)
      release [v, ov, iv] []) := by intro _; rfl) : CGx X (.Subscript o i pos) (gIx fo fi) :=
  PG.imp (pg_sub ho hi set_list ha) fun v σ H Q ⟨d, ρ, M, m, ρ', M', r, rs, w, hf, P⟩ => by
    unfold gIx at hf
    cases ea : fo ρ M with
    | none => rw [ea] at hf; cases hf
    | some p =>
      cases ei : fi ρ p.2 with
      | none => simp [ea, ei] at hf
      | some q =>
        simp only [ea, ei, Option.bind_some] at hf
        refine bindE rs w ea fun H1 m1 v1 e1 w1 rs1 r1 => bindE rs1 w1 ei fun H2 m2 v2 e2 w2 rs2 r2 => ?_
        split at hf
        · rename_i k i hk hi
          split at hf
          · rename_i es hes
            cases ej : ixN es.length i with
            | none => rw [ej] at hf; cases hf
            | some j =>
              rw [ej] at hf
              cases hf
              have r1' := r1.ext e2
              rw [hk, Rl] at r1'
              rw [hi, Rl] at r2
              obtain ⟨a, rfl, ha⟩ := r1'
              subst r2
              obtain ⟨b, hb, vs, h1, h2⟩ := w2.get hes
              rw [ha] at hb; cases hb
              have e3 := w2.ext_set (u := .lst (vs.set j v)) ha
              refine ⟨a, vs, i, j, rfl, rfl, h1, by rw [← h2.length]; exact ej, ?_⟩
              exact P _ m2 _ ((e1.trans e2).trans e3) (w2.set ha ⟨_, upd_same, (h2.ext e3).set j (((r.ext e1).ext e2).ext e3)⟩) ((rs2).ext e3)
          · cases hf
        · cases hf

/-! ### what is walked -/
abbrev If := Slots → Mem → Option (List D × Option Nat × Mem)
def GdOk (K : PySem.W.Frag) (gk : Option Nat) (ds : List D) (H : Hp) (m : List Addr) : Prop := ∀ k, gk = some k → ∃ a vs, m[k]? = some a ∧ H a = some (.lst vs) ∧ Rls K H m ds vs
structure Yl (K : PySem.W.Frag) (H0 : Hp) (m0 : List Addr) (J : It) (ds : List D) (gk : Option Nat) : Prop where
  go : ∀ i H m, i < ds.length → Ext H0 m0 H m → GdOk K gk ds H m → J.go i H
  yld : ∀ i d H m M x H', ds[i]? = some d → Ext H0 m0 H m → GdOk K gk ds H m → Wd K H m M → J.yld i H x H' → Ext H m H' m ∧ Wd K H' m M ∧ Rl K H' m d x
  stop : ∀ H m, Ext H0 m0 H m → GdOk K gk ds H m → J.stop ds.length H
def tI (K : PySem.W.Frag) (f : If) : TI := fun σ H R => ∃ ρ M m ds gk M', Rs K H m ρ σ ∧ Wd K H m M ∧ f ρ M = some (ds, gk, M') ∧
  ∀ H1 m1 J, Ext H m H1 m1 → Wd K H1 m1 M' → GdOk K gk ds H1 m1 → Yl K H1 m1 J ds gk → R J H1
theorem PI.imp {X : Cx} {tg e : Expr} {t t' : TI} (h : PI X tg e t) (i : ∀ σ H R, t' σ H R → t σ H R) : PI X tg e t' := ⟨fun pins s σ H R I q => h.run pins s σ H R I (i σ H R q)⟩
theorem PI.or {X : Cx} {tg e : Expr} {t t' : TI} (h : PI X tg e t) (h' : PI X tg e t') : PI X tg e (fun σ H R => t σ H R ∨ t' σ H R) := ⟨fun pins s σ H R I q => q.elim (h.run pins s σ H R I) (h'.run pins s σ H R I)⟩
abbrev CIx (X : Cx) (tg e : Expr) (f : If) : Prop := PI X tg e (tI X.K f)
def gkOf : D → Option Nat
  | .loc k => some k
  | _ => none
def iSeq (f : Ef) : If := fun ρ M => (f ρ M).bind fun p => (asS p.2 p.1.d).bind fun ds => some (ds, gkOf p.1.d, p.2)
theorem gd_none {K : PySem.W.Frag} {ds : List D} {H : Hp} {m : List Addr} : GdOk K none ds H m := fun k e => by cases e

section
variable {K : PySem.W.Frag} {H : Hp} {m : List Addr} {M : Mem} {a : Addr} {ds : List D} {vs : List V}
theorem yl_tup (h : SqT K H a vs) (r : Rls K H m ds vs) : Yl K H m (Itt K a) ds none where
  go := fun i H1 m1 hi e _ => by
    have hl := r.length
    exact ⟨vs, vs[i], sqT_ext e h, List.getElem?_eq_getElem (by omega)⟩
  yld := fun i d H1 m1 M1 x H' q e _ w y => by
    obtain ⟨rfl, y⟩ := y
    obtain ⟨v, h1, h2⟩ := (r.ext e).get q
    have := y vs (sqT_ext e h)
    rw [h1] at this; cases this
    exact ⟨.refl, w, h2⟩
  stop := fun H1 m1 e _ => ⟨vs, sqT_ext e h, by rw [r.length]; exact Nat.le_refl _⟩
theorem yl_sq (h : ∀ H1 m1, Ext H m H1 m1 → SqL K H1 a vs) (r : Rls K H m ds vs) : Yl K H m (Itl K a) ds none where
  go := fun i H1 m1 hi e _ => by
    have hl := r.length
    exact ⟨vs, vs[i], h _ _ e, List.getElem?_eq_getElem (by omega)⟩
  yld := fun i d H1 m1 M1 x H' q e _ w y => by
    obtain ⟨rfl, y⟩ := y
    obtain ⟨v, h1, h2⟩ := (r.ext e).get q
    have := y vs (h _ _ e)
    rw [h1] at this; cases this
    exact ⟨.refl, w, h2⟩
  stop := fun H1 m1 e _ => ⟨vs, h _ _ e, by rw [r.length]; exact Nat.le_refl _⟩
theorem yl_loc {k : Nat} (h : m[k]? = some a) : Yl K H m (Itl K a) ds (some k) where
  go := fun i H1 m1 hi e g => by
    obtain ⟨b, vs, h1, h2, h3⟩ := g k rfl
    rw [e.get h] at h1; cases h1
    have hl := h3.length
    exact ⟨vs, vs[i], .of h2, List.getElem?_eq_getElem (by omega)⟩
  yld := fun i d H1 m1 M1 x H' q e g w y => by
    obtain ⟨rfl, y⟩ := y
    obtain ⟨b, vs, h1, h2, h3⟩ := g k rfl
    rw [e.get h] at h1; cases h1
    obtain ⟨v, h4, h5⟩ := h3.get q
    have := y vs (.of h2)
    rw [h4] at this; cases this
    exact ⟨.refl, w, h5⟩
  stop := fun H1 m1 e g => by
    obtain ⟨b, vs, h1, h2, h3⟩ := g k rfl
    rw [e.get h] at h1; cases h1
    exact ⟨vs, .of h2, by rw [h3.length]; exact Nat.le_refl _⟩
def rgD (lo : Int) (n : Nat) : List D := (List.range n).map fun (i : Nat) => D.int (lo + i)
theorem rgD_len {lo : Int} {n : Nat} : (rgD lo n).length = n := by unfold rgD; simp
theorem rgD_get {lo : Int} {n i : Nat} {d : D} (h : (rgD lo n)[i]? = some d) : i < n ∧ d = .int (lo + i) := by
  unfold rgD at h
  rw [List.getElem?_map] at h
  cases q : (List.range n)[i]? with
  | none => rw [q] at h; cases h
  | some j =>
    rw [q] at h
    cases h
    obtain ⟨h1, h2⟩ := List.getElem?_eq_some_iff.mp q
    simp at h1 h2
    exact ⟨h1, by rw [h2]⟩
theorem yl_rng {lo : Int} {n : Nat} : Yl K H m (Itr lo n) (rgD lo n) none where
  go := fun i H1 m1 hi e _ => by rw [rgD_len] at hi; exact hi
  yld := fun i d H1 m1 M1 x H' q e _ w y => by
    obtain ⟨rfl, rfl⟩ := y
    obtain ⟨_, rfl⟩ := rgD_get q
    exact ⟨.refl, w, by rw [Rl]⟩
  stop := fun H1 m1 e _ => by rw [rgD_len]; exact Nat.le_refl _
end
section
variable {X : Cx} {tg e a b : Expr} {f fa fb : Ef} {p pos : Pos}
theorem ci_seq (h : CEx X e f) : CIx X tg e (iSeq f) := PI.imp (PI.or (pi_list h) (pi_tup h)) fun σ H R ⟨ρ, M, m, ds, gk, M', rs, w, hf, P⟩ => by
  unfold iSeq at hf
  cases ea : f ρ M with
  | none => rw [ea] at hf; cases hf
  | some q =>
    obtain ⟨r, M1⟩ := q
    rw [ea] at hf
    simp only [Option.bind_some] at hf
    cases es : asS M1 r.d with
    | none => rw [es] at hf; cases hf
    | some ds' =>
      rw [es] at hf
      cases hf
      cases er : r.d with
      | tup es' =>
        refine .inr (bindE rs w ea fun H1 m1 v e1 w1 rs1 r1 => ?_)
        rw [er] at r1 es
        cases es
        rw [Rl] at r1
        obtain ⟨a, vs, rfl, h1, h2⟩ := r1
        rw [er] at P
        exact ⟨a, rfl, ⟨vs, h1⟩, P H1 m1 _ e1 w1 gd_none (yl_tup h1 h2)⟩
      | lst es' =>
        refine .inl (bindE rs w ea fun H1 m1 v e1 w1 rs1 r1 => ?_)
        rw [er] at r1 es
        cases es
        rw [Rl] at r1
        obtain ⟨a, vs, rfl, hn, h1, h2⟩ := r1
        rw [er] at P
        exact ⟨a, rfl, ⟨vs, .of h1⟩, P H1 m1 _ e1 w1 gd_none (yl_sq (fun H2 m2 e2 => .of (e2.lst _ _ hn h1)) h2)⟩
      | scr ns =>
        refine .inl (bindE rs w ea fun H1 m1 v e1 w1 rs1 r1 => ?_)
        rw [er] at r1 es
        cases es
        rw [Rl] at r1
        obtain ⟨a, rfl, h1⟩ := r1
        rw [er] at P
        exact ⟨a, rfl, ⟨_, h1.l⟩, P H1 m1 _ e1 w1 gd_none (yl_sq (fun H2 m2 e2 => (SqS.l (h1.imp (fun ⟨o, s⟩ => ⟨o, e2.frz _ _ _ s⟩) id))) .ints)⟩
      | loc k =>
        refine .inl (bindE rs w ea fun H1 m1 v e1 w1 rs1 r1 => ?_)
        rw [er] at r1 es
        have r2 := r1
        rw [Rl] at r1
        obtain ⟨a, rfl, ha⟩ := r1
        obtain ⟨b, vs, hb, h1, h2⟩ := asW_ok (d := .loc k) (ds := ds) w1 r2 es
        cases hb
        rw [er] at P
        exact ⟨a, rfl, ⟨vs, .of h1⟩, P H1 m1 _ e1 w1 (fun k' hk => by cases hk; exact ⟨a, vs, ha, h1, h2⟩) (yl_loc ha)⟩
      | _ => rw [er] at es; cases es
def rgB (i : Int) : Bool := decide (-(2 ^ 62) ≤ i) && decide (i < 2 ^ 62)
def iRg1 (fa : Ef) : If := fun ρ M => (fa ρ M).bind fun p => match p.1.d with
  | .int j => if rgB j = true then some (rgD 0 j.toNat, none, p.2) else none
  | _ => none
def iRg2 (fa fb : Ef) : If := fun ρ M => (fa ρ M).bind fun p => (fb ρ p.2).bind fun q => match p.1.d, q.1.d with
  | .int i, .int j => if rgB i = true ∧ rgB j = true then some (rgD i (j - i).toNat, none, q.2) else none
  | _, _ => none
theorem rgB_ok {i : Int} (h : rgB i = true) : -(2 ^ 62) ≤ i ∧ i < 2 ^ 62 := by
  unfold rgB at h
  simpa [Bool.and_eq_true] using h
theorem ci_rg1 (hg : Gl X "range") (hm : X.mg "range" = none) (ha : CEx X a fa) (hs : starEach [a] X.env = [(false, eval a X.env)] := by rfl) (hs' : starEach [a] X.env = (false, eval a X.env) :: starEach [] X.env := by rfl) : CIx X tg (.Call (.Name "range" p) [a] [] pos) (iRg1 fa) :=
  PI.imp (pi_range1 hg hm (pa_cons ha pa_nil hs') hs) fun σ H R ⟨ρ, M, m, ds, gk, M', rs, w, hf, P⟩ => by
    unfold iRg1 at hf
    cases ea : fa ρ M with
    | none => rw [ea] at hf; cases hf
    | some q =>
      rw [ea] at hf
      simp only [Option.bind_some] at hf
      refine bindE rs w ea fun H1 m1 v e1 w1 rs1 r1 => ?_
      split at hf
      · rename_i j hj
        split at hf
        · rename_i hb
          cases hf
          rw [hj, Rl] at r1; subst r1
          exact ⟨j, rfl, (rgB_ok hb).1, (rgB_ok hb).2, P H1 m1 _ e1 w1 gd_none yl_rng⟩
        · cases hf
      · cases hf
theorem ci_rg2 (hg : Gl X "range") (hm : X.mg "range" = none) (ha : CEx X a fa) (hb : CEx X b fb) (hs : starEach [a, b] X.env = [(false, eval a X.env), (false, eval b X.env)] := by rfl) (hs2 : starEach [b] X.env = [(false, eval b X.env)] := by rfl)
    (hs' : starEach [a, b] X.env = (false, eval a X.env) :: starEach [b] X.env := by rfl) (hs2' : starEach [b] X.env = (false, eval b X.env) :: starEach [] X.env := by rfl) : CIx X tg (.Call (.Name "range" p) [a, b] [] pos) (iRg2 fa fb) :=
  PI.imp (pi_range2 hg hm (pa_cons ha (pa_cons hb pa_nil hs2') hs') hs hs2) fun σ H R ⟨ρ, M, m, ds, gk, M', rs, w, hf, P⟩ => by
    unfold iRg2 at hf
    cases ea : fa ρ M with
    | none => rw [ea] at hf; cases hf
    | some q =>
      cases eb : fb ρ q.2 with
      | none => simp [ea, eb] at hf
      | some q2 =>
        simp only [ea, eb, Option.bind_some] at hf
        refine bindE rs w ea fun H1 m1 v e1 w1 rs1 r1 => bindE rs1 w1 eb fun H2 m2 v2 e2 w2 rs2 r2 => ?_
        split at hf
        · rename_i i j hi hj
          split at hf
          · rename_i hb
            cases hf
            rw [hi, Rl] at r1; subst r1
            rw [hj, Rl] at r2; subst r2
            exact ⟨i, j, rfl, ⟨(rgB_ok hb.1).1, (rgB_ok hb.1).2, (rgB_ok hb.2).1, (rgB_ok hb.2).2⟩, P H2 m2 _ (e1.trans e2) w2 gd_none yl_rng⟩
          · cases hf
        · cases hf
end

/-! ### for -/
def guard (gk : Option Nat) (ds : List D) (M : Mem) : Prop := ∀ k, gk = some k → M[k]? = some (.lst ds)
abbrev Stp := D → Slots → Mem → Option (Fl × Slots × Mem)
def loopF (step : Stp) : List D → Slots → Mem → Option (Fl × Slots × Mem)
  | [], ρ, M => some (.nx, ρ, M)
  | d :: ds, ρ, M => (step d ρ M).bind fun p => match p.1 with
    | .nx => loopF step ds p.2.1 p.2.2
    | .ct => loopF step ds p.2.1 p.2.2
    | .bk => some (.nx, p.2.1, p.2.2)
    | .rt r => some (.rt r, p.2.1, p.2.2)
open Classical in
noncomputable def stpF (gk : Option Nat) (ds : List D) (g : Gf) (body : Sf) : Stp := fun d ρ M => (g d ρ M).bind fun p => (body p.1 p.2).bind fun q => if guard gk ds q.2.2 then some q else none
noncomputable def sFor (it : If) (g : Gf) (body : Sf) : Sf := fun ρ M => (it ρ M).bind fun p => loopF (stpF p.2.1 p.1 g body) p.1 ρ p.2.2
theorem gd_of {K : PySem.W.Frag} {H : Hp} {m : List Addr} {M : Mem} {gk : Option Nat} {ds : List D} (w : Wd K H m M) (h : guard gk ds M) : GdOk K gk ds H m := fun k e => by
  obtain ⟨a, h1, vs, h2, h3⟩ := w.get (h k e)
  exact ⟨a, vs, h1, h2, h3⟩
section
variable {X : Cx} {tg iter : Expr} {body : List Stmt} {it : If} {g : Gf} {fb : Sf} {pos : Pos}
theorem cs_for (hp : PassesOwn (model X.prog X.w) X.A X.env X.xe) (hc : X.calm = true) (hi : CIx X tg iter it) (hg : CGx X tg g) (hb : CBx X body fb)
    (hs : ∀ x, foldedSetIterable iter X.env x = pure x := by intro _; rfl) : CSx X (.For tg iter body [] pos) (sFor it g fb) := PS.imp (ps_for hp hc hi hg hb hs) fun Dn σ H h => by
  obtain ⟨ρ, M, m, fl, ρ', M', rs, w, hf, P⟩ := h
  unfold sFor at hf
  cases ea : it ρ M with
  | none => rw [ea] at hf; cases hf
  | some p =>
    obtain ⟨ds, gk, M1⟩ := p
    rw [ea] at hf
    simp only [Option.bind_some] at hf
    refine ⟨ρ, M, m, ds, gk, M1, rs, w, ea, fun H1 m1 J e1 w1 gd1 Y => ?_⟩
    refine ⟨fun i n σ H => n = ds.length - i ∧ i ≤ ds.length ∧ ∃ ρ2 M2 m2, Ext H1 m1 H m2 ∧ Rs X.K H m2 ρ2 σ ∧ Wd X.K H m2 M2 ∧ GdOk X.K gk ds H m2 ∧ loopF (stpF gk ds g fb) (ds.drop i) ρ2 M2 = some (fl, ρ', M'),
      ⟨ds.length, by simp, Nat.zero_le _, ρ, M1, m1, .refl, rs.ext e1, w1, gd1, by simpa using hf⟩, ?_⟩
    rintro i n σ H ⟨rfl, hle, ρ2, M2, m2, e2, rs2, w2, gd2, hl⟩
    by_cases hlt : i < ds.length
    · refine .inr ⟨Y.go i H m2 hlt e2 gd2, ?_⟩
      have hd : ds.drop i = ds[i] :: ds.drop (i + 1) := List.drop_eq_getElem_cons hlt
      rw [hd] at hl
      unfold loopF at hl
      cases es : stpF gk ds g fb ds[i] ρ2 M2 with
      | none => rw [es] at hl; cases hl
      | some q =>
        obtain ⟨fl1, ρ3, M3⟩ := q
        rw [es] at hl
        simp only [Option.bind_some] at hl
        refine ⟨fun σ' H' => ∃ m3, Ext H m2 H' m3 ∧ Rs X.K H' m3 ρ3 σ' ∧ Wd X.K H' m3 M3 ∧ GdOk X.K gk ds H' m3 ∧ loopF (stpF gk ds g fb) (ds.drop (i + 1)) ρ3 M3 = some (fl, ρ', M'),
          fun σ' H' ⟨m3, e3, rs3, w3, gd3, hl3⟩ => ⟨ds.length - (i + 1), by omega, rfl, hlt, ρ3, M3, m3, e2.trans e3, rs3, w3, gd3, hl3⟩, fun x H' y => ?_⟩
        obtain ⟨e3, w3, r3⟩ := Y.yld i ds[i] H m2 M2 x H' (List.getElem?_eq_getElem hlt) e2 gd2 w2 y
        unfold stpF at es
        cases eg : g ds[i] ρ2 M2 with
        | none => rw [eg] at es; cases es
        | some q =>
          rw [eg] at es
          simp only [Option.bind_some] at es
          cases eb : fb q.1 q.2 with
          | none => rw [eb] at es; cases es
          | some q2 =>
            rw [eb] at es
            simp only [Option.bind_some] at es
            split at es
            · rename_i hgd
              cases es
              refine ⟨ds[i], ρ2, M2, m2, q.1, q.2, r3, rs2.ext e3, w3, eg, fun H4 m4 σ4 e4 w4 rs4 => ?_⟩
              refine ⟨q.1, q.2, m4, fl1, ρ3, M3, rs4, w4, eb, ?_⟩
              have eT : Ext H m2 H4 m4 := e3.trans e4
              have PT := P.ext ((e1.trans e2).trans eT)
              cases fl1 with
              | nx => exact fun H5 m5 σ5 e5 w5 rs5 => ⟨m5, eT.trans e5, rs5, w5, gd_of w5 hgd, hl⟩
              | ct => exact fun H5 m5 σ5 e5 w5 rs5 => ⟨m5, eT.trans e5, rs5, w5, gd_of w5 hgd, hl⟩
              | bk =>
                simp only [Option.some.injEq, Prod.mk.injEq] at hl
                obtain ⟨rfl, rfl, rfl⟩ := hl
                exact PT
              | rt r =>
                simp only [Option.some.injEq, Prod.mk.injEq] at hl
                obtain ⟨rfl, rfl, rfl⟩ := hl
                exact PT
            · cases es
    · have e : i = ds.length := by omega
      subst e
      rw [List.drop_length] at hl
      cases hl
      exact .inl ⟨Y.stop H m2 e2 gd2, P H m2 σ (e1.trans e2) w2 rs2⟩
end

/-! ### while -/
def whF (t : Tf) (body : Sf) : Nat → Slots → Mem → Option (Fl × Slots × Mem)
  | 0, _, _ => none
  | n + 1, ρ, M => (t ρ M).bind fun p => if p.1 = true then (body ρ p.2).bind fun q => (match q.1 with
      | .nx => whF t body n q.2.1 q.2.2
      | .ct => whF t body n q.2.1 q.2.2
      | .bk => some (.nx, q.2.1, q.2.2)
      | .rt r => some (.rt r, q.2.1, q.2.2)) else some (.nx, ρ, p.2)
def sWhile (n : Nat) (t : Tf) (body : Sf) : Sf := whF t body n
section
variable {X : Cx} {c : Expr} {body : List Stmt} {t : Tf} {fb : Sf} {pos : Pos}
theorem cs_while {n : Nat} (hp : PassesOwn (model X.prog X.w) X.A X.env X.xe) (hc : CTx X c t) (hb : CBx X body fb) : CSx X (.While c body [] pos) (sWhile n t fb) := PS.imp (ps_while hp hc hb) fun Dn σ H h => by
  obtain ⟨ρ, M, m, fl, ρ', M', rs, w, hf, P⟩ := h
  refine ⟨fun n σ H1 => ∃ ρ2 M2 m2, Ext H m H1 m2 ∧ Rs X.K H1 m2 ρ2 σ ∧ Wd X.K H1 m2 M2 ∧ whF t fb n ρ2 M2 = some (fl, ρ', M'), ⟨n, ρ, M, m, .refl, rs, w, hf⟩, ?_⟩
  rintro n σ H1 ⟨ρ2, M2, m2, e2, rs2, w2, hl⟩
  cases n with
  | zero => cases hl
  | succ n =>
    unfold whF at hl
    cases et : t ρ2 M2 with
    | none => rw [et] at hl; cases hl
    | some p =>
      rw [et] at hl
      simp only [Option.bind_some] at hl
      refine bindT rs2 w2 et fun H3 m3 e3 w3 rs3 => ?_
      split at hl
      · rename_i hb1
        rw [if_pos hb1]
        cases eb : fb ρ2 p.2 with
        | none => rw [eb] at hl; cases hl
        | some q =>
          obtain ⟨fl1, ρ3, M3⟩ := q
          rw [eb] at hl
          simp only [Option.bind_some] at hl
          refine ⟨fun σ' H' => ∃ m4, Ext H3 m3 H' m4 ∧ Rs X.K H' m4 ρ3 σ' ∧ Wd X.K H' m4 M3 ∧ whF t fb n ρ3 M3 = some (fl, ρ', M'),
            fun σ' H' ⟨m4, e4, rs4, w4, hl4⟩ => ⟨n, Nat.lt_succ_self _, ρ3, M3, m4, (e2.trans e3).trans e4, rs4, w4, hl4⟩, ρ2, p.2, m3, fl1, ρ3, M3, rs3, w3, eb, ?_⟩
          have PT := P.ext (e2.trans e3)
          cases fl1 with
          | nx => exact fun H5 m5 σ5 e5 w5 rs5 => ⟨m5, e5, rs5, w5, hl⟩
          | ct => exact fun H5 m5 σ5 e5 w5 rs5 => ⟨m5, e5, rs5, w5, hl⟩
          | bk =>
            simp only [Option.some.injEq, Prod.mk.injEq] at hl
            obtain ⟨rfl, rfl, rfl⟩ := hl
            exact PT
          | rt r =>
            simp only [Option.some.injEq, Prod.mk.injEq] at hl
            obtain ⟨rfl, rfl, rfl⟩ := hl
            exact PT
      · rename_i hb1
        rw [if_neg hb1]
        cases hl
        exact P H3 m3 σ (e2.trans e3) w3 rs3
end

/-! ### a def -/
mutual
def nl (n : Nat) : D → Bool
  | .loc k => decide (k < n)
  | .tup ds => nls n ds
  | .lst ds => nls n ds
  | _ => true
def nls (n : Nat) : List D → Bool
  | [] => true
  | d :: ds => nl n d && nls n ds
end
section
variable {K : PySem.W.Frag} {H : Hp} {m l : List Addr} {a : Addr}
mutual
theorem Rl.cut : ∀ {d : D} {v : V}, Rl K H (m ++ l) d v → nl m.length d = true → Rl K H m d v
  | .non, _, h, _ => by rw [Rl] at h ⊢; exact h
  | .bl _, _, h, _ => by rw [Rl] at h ⊢; exact h
  | .int _, _, h, _ => by rw [Rl] at h ⊢; exact h
  | .str _, _, h, _ => by rw [Rl] at h ⊢; exact h
  | .scr _, _, h, _ => by rw [Rl] at h ⊢; exact h
  | .tup ds, _, h, n => by
    rw [Rl] at h ⊢
    rw [nl] at n
    obtain ⟨a, vs, r, s, t⟩ := h
    exact ⟨a, vs, r, s, Rls.cut' t n⟩
  | .lst ds, _, h, n => by
    rw [Rl] at h ⊢
    rw [nl] at n
    obtain ⟨a, vs, r, z, s, t⟩ := h
    exact ⟨a, vs, r, fun q => z (List.mem_append_left _ q), s, Rls.cut' t n⟩
  | .loc k, _, h, n => by
    rw [Rl] at h ⊢
    rw [nl] at n
    obtain ⟨a, r, s⟩ := h
    exact ⟨a, r, by rw [List.getElem?_append_left (of_decide_eq_true n)] at s; exact s⟩
theorem Rls.cut' : ∀ {ds : List D} {vs : List V}, Rls K H (m ++ l) ds vs → nls m.length ds = true → Rls K H m ds vs
  | [], _, h, _ => by rw [Rls] at h ⊢; exact h
  | d :: ds, _, h, n => by
    rw [Rls] at h ⊢
    rw [nls, Bool.and_eq_true] at n
    obtain ⟨v, r, q, h1, h2⟩ := h
    exact ⟨v, r, q, Rl.cut h1 n.1, Rls.cut' h2 n.2⟩
end
/-- the heap without a -/
def del (H : Hp) (a : Addr) : Hp := fun b => if b = a then none else H b
theorem del_ne {b : Addr} (h : b ≠ a) : del H a b = H b := if_neg h
theorem del_same : del H a a = none := if_pos rfl
theorem upd_del {o : HO} (h : H a = some o) : upd (del H a) a o = H := by
  funext b
  by_cases q : b = a
  · rw [q, upd_same, h]
  · rw [upd_ne q, del_ne q]
mutual
theorem Rl.del {ws : List V} (ha : H a = some (.lst ws)) (hm : a ∈ l) : ∀ {d : D} {v : V}, Rl K H (m ++ l) d v → nl m.length d = true → Rl K (del H a) m d v
  | .non, _, h, _ => by rw [Rl] at h ⊢; exact h
  | .bl _, _, h, _ => by rw [Rl] at h ⊢; exact h
  | .int _, _, h, _ => by rw [Rl] at h ⊢; exact h
  | .str _, _, h, _ => by rw [Rl] at h ⊢; exact h
  | .scr _, _, h, _ => by
    rw [Rl] at h ⊢
    obtain ⟨b, r, s⟩ := h
    exact ⟨b, r, s.imp (fun ⟨o, s⟩ => ⟨o, by rw [del_ne (fun z => by rw [z, ha] at s; cases s)]; exact s⟩) id⟩
  | .tup ds, _, h, n => by
    rw [Rl] at h ⊢
    rw [nl] at n
    obtain ⟨b, vs, r, s, t⟩ := h
    refine ⟨b, vs, r, ?_, Rls.del ha hm t n⟩
    rcases s with (s | ⟨o, s⟩) | s
    · exact .inl (.inl (by rw [del_ne (fun z => by rw [z, ha] at s; cases s)]; exact s))
    · exact .inl (.inr ⟨o, by rw [del_ne (fun z => by rw [z, ha] at s; cases s)]; exact s⟩)
    · exact .inr s
  | .lst ds, _, h, n => by
    rw [Rl] at h ⊢
    rw [nl] at n
    obtain ⟨b, vs, r, z, s, t⟩ := h
    exact ⟨b, vs, r, fun q => z (List.mem_append_left _ q), by rw [del_ne (fun q => z (List.mem_append_right _ (by rw [q]; exact hm)))]; exact s, Rls.del ha hm t n⟩
  | .loc k, _, h, n => by
    rw [Rl] at h ⊢
    rw [nl] at n
    obtain ⟨b, r, s⟩ := h
    exact ⟨b, r, by rw [List.getElem?_append_left (of_decide_eq_true n)] at s; exact s⟩
theorem Rls.del {ws : List V} (ha : H a = some (.lst ws)) (hm : a ∈ l) : ∀ {ds : List D} {vs : List V}, Rls K H (m ++ l) ds vs → nls m.length ds = true → Rls K (del H a) m ds vs
  | [], _, h, _ => by rw [Rls] at h ⊢; exact h
  | d :: ds, _, h, n => by
    rw [Rls] at h ⊢
    rw [nls, Bool.and_eq_true] at n
    obtain ⟨v, r, q, h1, h2⟩ := h
    exact ⟨v, r, q, Rl.del ha hm h1 n.1, Rls.del ha hm h2 n.2⟩
end
end
end CI

/-! Ci7: a def as a function, comprehensions -/
namespace CI
open PySem PySem.Spec PyProof.Rows L2

def nlF (n : Nat) : List (Str × D) → Bool
  | [] => true
  | (_, d) :: fs => nl n d && nlF n fs
def nlK (n : Nat) : List (Key × D) → Bool
  | [] => true
  | (_, d) :: fs => nl n d && nlK n fs
def nlO (n : Nat) : O → Bool
  | .lst ds => nls n ds
  | .ins _ fs => nlF n fs
  | .dct kvs => nlK n kvs
def nlM (n : Nat) : Mem → Bool
  | [] => true
  | o :: M => nlO n o && nlM n M
section
variable {K : PySem.W.Frag} {H H0 : Hp} {m l : List Addr} {M Me : Mem} {a b : Addr}
mutual
theorem Rl.nl : ∀ {d : D} {v : V}, Rl K H m d v → CI.nl m.length d = true
  | .non, _, _ => rfl
  | .bl _, _, _ => rfl
  | .int _, _, _ => rfl
  | .str _, _, _ => rfl
  | .scr _, _, _ => rfl
  | .tup ds, _, h => by
    rw [Rl] at h
    obtain ⟨a, vs, r, s, t⟩ := h
    rw [CI.nl]; exact Rls.nl t
  | .lst ds, _, h => by
    rw [Rl] at h
    obtain ⟨a, vs, r, _, s, t⟩ := h
    rw [CI.nl]; exact Rls.nl t
  | .loc k, _, h => by
    rw [Rl] at h
    obtain ⟨a, r, s⟩ := h
    rw [CI.nl]
    exact decide_eq_true (List.getElem?_eq_some_iff.mp s).1
theorem Rls.nl : ∀ {ds : List D} {vs : List V}, Rls K H m ds vs → nls m.length ds = true
  | [], _, _ => rfl
  | d :: ds, _, h => by
    rw [Rls] at h
    obtain ⟨v, r, q, h1, h2⟩ := h
    rw [nls, Rl.nl h1, Rls.nl h2]; rfl
end
theorem Rfs.nl : ∀ {fs : List (Str × D)} {gs : List (Str × V)}, Rfs K H m fs gs → nlF m.length fs = true
  | [], _, _ => rfl
  | (f, d) :: fs, _, h => by
    obtain ⟨v, r, q, h1, h2⟩ := h
    rw [nlF, h1.nl, Rfs.nl h2]; rfl
theorem Rks.nl : ∀ {fs : List (Key × D)} {gs : List (Key × V)}, Rks K H m fs gs → nlK m.length fs = true
  | [], _, _ => rfl
  | (f, d) :: fs, _, h => by
    obtain ⟨v, r, q, h1, h2⟩ := h
    rw [nlK, h1.nl, Rks.nl h2]; rfl
theorem Ro.nl {o : O} (h : Ro K H m a o) : nlO m.length o = true := by
  cases o with
  | lst ds => obtain ⟨vs, _, h⟩ := h; exact h.nl
  | ins c fs => obtain ⟨dx, gs, _, h⟩ := h; exact h.nl
  | dct kvs => obtain ⟨gs, _, h⟩ := h; exact h.nl
theorem Wd.nl (w : Wd K H m M) : ∀ o ∈ M, nlO m.length o = true := fun o ho => by
  obtain ⟨k, hk, e⟩ := List.mem_iff_getElem.mp ho
  obtain ⟨a, _, r⟩ := w.get (k := k) (by rw [List.getElem?_eq_getElem hk, e])
  exact r.nl
theorem nlM_ok {n : Nat} : ∀ {M : Mem}, nlM n M = true → ∀ o ∈ M, nlO n o = true
  | [], _, o, h => nomatch h
  | p :: M, h, o, ho => by
    rw [nlM, Bool.and_eq_true] at h
    rcases List.mem_cons.mp ho with e | e
    · rw [e]; exact h.1
    · exact nlM_ok h.2 o e
theorem Rfs.cut : ∀ {fs : List (Str × D)} {gs : List (Str × V)}, Rfs K H (m ++ l) fs gs → nlF m.length fs = true → Rfs K H m fs gs
  | [], _, h, _ => h
  | (f, d) :: fs, _, h, n => by
    obtain ⟨v, r, q, h1, h2⟩ := h
    rw [nlF, Bool.and_eq_true] at n
    exact ⟨v, r, q, h1.cut n.1, Rfs.cut h2 n.2⟩
theorem Rks.cut : ∀ {fs : List (Key × D)} {gs : List (Key × V)}, Rks K H (m ++ l) fs gs → nlK m.length fs = true → Rks K H m fs gs
  | [], _, h, _ => h
  | (f, d) :: fs, _, h, n => by
    obtain ⟨v, r, q, h1, h2⟩ := h
    rw [nlK, Bool.and_eq_true] at n
    exact ⟨v, r, q, h1.cut n.1, Rks.cut h2 n.2⟩
theorem Rfs.del {ws : List V} (ha : H a = some (.lst ws)) (hm : a ∈ l) : ∀ {fs : List (Str × D)} {gs : List (Str × V)}, Rfs K H (m ++ l) fs gs → nlF m.length fs = true → Rfs K (CI.del H a) m fs gs
  | [], _, h, _ => h
  | (f, d) :: fs, _, h, n => by
    obtain ⟨v, r, q, h1, h2⟩ := h
    rw [nlF, Bool.and_eq_true] at n
    exact ⟨v, r, q, h1.del ha hm n.1, Rfs.del ha hm h2 n.2⟩
theorem Rks.del {ws : List V} (ha : H a = some (.lst ws)) (hm : a ∈ l) : ∀ {fs : List (Key × D)} {gs : List (Key × V)}, Rks K H (m ++ l) fs gs → nlK m.length fs = true → Rks K (CI.del H a) m fs gs
  | [], _, h, _ => h
  | (f, d) :: fs, _, h, n => by
    obtain ⟨v, r, q, h1, h2⟩ := h
    rw [nlK, Bool.and_eq_true] at n
    exact ⟨v, r, q, h1.del ha hm n.1, Rks.del ha hm h2 n.2⟩
theorem Ro.cut {o : O} (h : Ro K H (m ++ l) b o) (n : nlO m.length o = true) : Ro K H m b o := by
  cases o with
  | lst ds => obtain ⟨vs, h1, h2⟩ := h; exact ⟨vs, h1, Rls.cut' h2 n⟩
  | ins c fs => obtain ⟨dx, gs, h1, h2⟩ := h; exact ⟨dx, gs, h1, h2.cut n⟩
  | dct kvs => obtain ⟨gs, h1, h2⟩ := h; exact ⟨gs, h1, h2.cut n⟩
theorem Ro.del {o : O} {ws : List V} (ha : H a = some (.lst ws)) (hm : a ∈ l) (hb : b ≠ a) (h : Ro K H (m ++ l) b o) (n : nlO m.length o = true) : Ro K (CI.del H a) m b o := by
  cases o with
  | lst ds => obtain ⟨vs, h1, h2⟩ := h; exact ⟨vs, by rw [del_ne hb]; exact h1, Rls.del ha hm h2 n⟩
  | ins c fs => obtain ⟨dx, gs, h1, h2⟩ := h; exact ⟨dx, gs, by rw [del_ne hb]; exact h1, h2.del ha hm n⟩
  | dct kvs => obtain ⟨gs, h1, h2⟩ := h; exact ⟨gs, by rw [del_ne hb]; exact h1, h2.del ha hm n⟩
theorem Ext.back (e : Ext H0 m H (m ++ l)) : Ext H0 m H m := ⟨e.tup, e.frz, e.lst, e.trk, [], by simp, fun _ h => nomatch h⟩
theorem Ext.fresh (e : Ext H0 m H (m ++ l)) (h : a ∈ l) : H0 a = none := by
  obtain ⟨l', q, hl⟩ := e.pre
  rw [List.append_cancel_left q] at h
  exact hl a h
theorem Ext.del {ws : List V} (e : Ext H0 m H (m ++ l)) (h : a ∈ l) : Ext H0 m (CI.del H a) m := by
  have hf := e.fresh h
  have ne : ∀ b o, H0 b = some o → b ≠ a := fun b o q z => by rw [z, hf] at q; cases q
  refine ⟨fun b xs q => by rw [del_ne (ne b _ q)]; exact e.tup b xs q, fun b o u q => by rw [del_ne (ne b _ q)]; exact e.frz b o u q, fun b xs n q => by rw [del_ne (ne b _ q)]; exact e.lst b xs n q, fun b q => ?_, [], by simp, fun _ h => nomatch h⟩
  by_cases z : b = a
  · rw [z]; exact hf
  · rw [del_ne z] at q; exact e.trk b q
theorem take_get {M Me : Mem} {n k : Nat} {o : O} (t : Me.take n = M) (h : M[k]? = some o) : Me[k]? = some o := by
  rw [← t, List.getElem?_take] at h
  split at h
  · exact h
  · cases h
theorem Wd.cut (w : Wd K H (m ++ l) Me) (t : Me.take m.length = M) (hl : m.length = M.length) (n : ∀ o ∈ M, nlO m.length o = true) : Wd K H m M := by
  refine ⟨hl, (List.nodup_append.mp w.nd).1, fun k b o h1 h2 => ?_⟩
  have hk : k < m.length := (List.getElem?_eq_some_iff.mp h1).1
  exact (w.at_ k b o (by rw [List.getElem?_append_left hk]; exact h1) (take_get t h2)).cut (n o (List.mem_of_getElem? h2))
theorem Wd.del {ws : List V} (w : Wd K H (m ++ l) Me) (t : Me.take m.length = M) (hl : m.length = M.length) (n : ∀ o ∈ M, nlO m.length o = true) (ha : H a = some (.lst ws)) (hm : a ∈ l) : Wd K (CI.del H a) m M := by
  refine ⟨hl, (List.nodup_append.mp w.nd).1, fun k b o h1 h2 => ?_⟩
  have hk : k < m.length := (List.getElem?_eq_some_iff.mp h1).1
  refine (w.at_ k b o (by rw [List.getElem?_append_left hk]; exact h1) (take_get t h2)).del ha hm (fun z => ?_) (n o (List.mem_of_getElem? h2))
  exact (List.nodup_append.mp w.nd).2.2 b (List.mem_of_getElem? h1) a hm z
end

/-! ### what a def hands back -/
open Classical in
noncomputable def finish (M : Mem) (r : Rz) (Me : Mem) : Rz × Mem :=
  if Me.length = M.length then (r, Me) else if Me.take M.length = M then (match r with
    | .val (.loc k) => if k < M.length then (r, M) else match Me[k]? with
      | some (.lst ds) => if nls M.length ds = true then (.new ds, M) else (r, Me)
      | _ => (r, Me)
    | .val d => if nl M.length d = true then (r, M) else (r, Me)
    | .new ds => if nls M.length ds = true then (r, M) else (r, Me)) else (r, Me)
theorem finish_ok {K : PySem.W.Frag} {H0 : Hp} {m : List Addr} {M Me : Mem} {r : Rz} {Q : VK} (w0 : Wd K H0 m M) (P : Post K H0 m (finish M r Me).1 (finish M r Me).2 Q) : Post K H0 m r Me Q := by
  unfold finish at P
  split at P
  · exact P
  · split at P
    · rename_i hne ht
      have hn := w0.nl
      have hlen := w0.len
      rw [← hlen] at P ht
      cases r with
      | new ds =>
        simp only at P
        split at P
        · rename_i hd
          intro H1 m1 e1 w1 vs a r1 na
          obtain ⟨l, rfl, _⟩ := id e1.pre
          exact P H1 m e1.back (w1.cut ht hlen hn) vs a (Rls.cut' r1 hd) na
        · exact P
      | val d =>
        have plain : ∀ d, nl m.length d = true → Post K H0 m (.val d) M Q → Post K H0 m (.val d) Me Q := fun d hd P => by
          intro H1 m1 e1 w1 v r1
          obtain ⟨l, rfl, _⟩ := id e1.pre
          exact P H1 m e1.back (w1.cut ht hlen hn) v (r1.cut hd)
        cases d with
        | loc k =>
          simp only at P
          split at P
          · rename_i hk
            exact plain _ (by rw [nl]; exact decide_eq_true hk) P
          · rename_i hk
            split at P
            · rename_i ds hds
              split at P
              · rename_i hd
                intro H1 m1 e1 w1 v r1
                obtain ⟨l, rfl, _⟩ := id e1.pre
                rw [Rl] at r1
                obtain ⟨a, rfl, ha⟩ := r1
                obtain ⟨b, hb, vs, h1, h2⟩ := w1.get hds
                rw [ha] at hb; cases hb
                have hal : a ∈ l := by
                  rw [List.getElem?_append_right (by omega)] at ha
                  exact List.mem_of_getElem? ha
                have := P (del H1 a) m (e1.del (ws := vs) hal) (w1.del ht hlen hn h1 hal) vs a (Rls.del h1 hal h2 hd) del_same
                rw [upd_del h1] at this
                exact this
              · exact P
            · exact P
        | non => exact plain _ rfl (by simpa [nl] using P)
        | bl b => exact plain _ rfl (by simpa [nl] using P)
        | int b => exact plain _ rfl (by simpa [nl] using P)
        | str b => exact plain _ rfl (by simpa [nl] using P)
        | scr b => exact plain _ rfl (by simpa [nl] using P)
        | tup ds =>
          simp only at P
          split at P
          · rename_i hd; exact plain _ hd P
          · exact P
        | lst ds =>
          simp only at P
          split at P
          · rename_i hd; exact plain _ hd P
          · exact P
    · exact P

noncomputable def mkFn (np ns : Nat) (body : Sf) : Fn := fun ds M => if ds.length = np then (match body (ds.map some ++ List.replicate (ns - ds.length) none) M with
  | some (.rt r, _, Me) => some (finish M r Me)
  | some (.nx, _, Me) => some (finish M (.val .non) Me)
  | _ => none) else none
theorem rs_start {K : PySem.W.Frag} {H : Hp} {m : List Addr} {N : List Str} {ds : List D} {vs : List V} (r : Rls K H m ds vs) : Rs K H m (ds.map some ++ List.replicate (N.length - ds.length) none) (L2.start N vs) := by
  unfold L2.start
  have hl := r.length
  refine ⟨by simp [hl], fun i d q => ?_⟩
  by_cases h : i < ds.length
  · rw [List.getElem?_append_left (by simpa using h), List.getElem?_map] at q
    rw [List.getElem?_append_left (by simpa [← hl] using h), List.getElem?_map]
    cases e : ds[i]? with
    | none => rw [e] at q; cases q
    | some d' =>
      rw [e] at q
      simp at q; subst q
      obtain ⟨v, h1, h2⟩ := r.get e
      exact ⟨v, by rw [h1]; rfl, h2⟩
  · rw [List.getElem?_append_right (by simpa using h), List.getElem?_replicate] at q
    split at q
    · simp at q
    · cases q
theorem run_ok {K : PySem.W.Frag} {N : List Str} {np : Nat} {fb : Sf} {vs : List V} {H : Hp} {Q : VK} {E : XK} (h : spF K (mkFn np N.length fb) vs H Q E) : tS K fb { nx := fun _ H' => Q .non H', rt := Q } (L2.start N vs) H := by
  obtain ⟨ds, M, m, r, M', rd, w, hf, P⟩ := h
  unfold mkFn at hf
  split at hf
  · split at hf
    · rename_i r' ρ' Me hb
      cases e : finish M r' Me with | mk a b =>
      rw [e] at hf; cases hf
      refine ⟨_, M, m, _, _, _, rs_start rd, w, hb, ?_⟩
      refine finish_ok w ?_
      rw [e]; exact P
    · rename_i ρ' Me hb
      cases e : finish M (.val .non) Me with | mk a b =>
      rw [e] at hf; cases hf
      refine ⟨_, M, m, _, _, _, rs_start rd, w, hb, fun H1 m1 σ1 e1 w1 rs1 => ?_⟩
      have P2 : Post K H m (.val .non) Me Q := finish_ok w (by rw [e]; exact P)
      exact P2 H1 m1 e1 w1 .non (by rw [Rl])
    · cases hf
  · cases hf
theorem spF_len {K : PySem.W.Frag} {np ns : Nat} {fb : Sf} {vs : List V} {H : Hp} {Q : VK} {E : XK} (h : spF K (mkFn np ns fb) vs H Q E) : vs.length = np := by
  obtain ⟨ds, M, m, r, M', rd, w, hf, P⟩ := h
  unfold mkFn at hf
  split at hf
  · rename_i hl; rw [← rd.length]; exact hl
  · cases hf
section
variable {P : Program} {w : World} {K : PySem.W.Frag} {mg : Str → Option Value} {base : Heap} {x qual : Str} {params : Arguments} {body : List Stmt} {scope : Scope} {f : Addr} {fd : FuncData}
/-- a def whose body means fb -/
theorem fn_ok {N ps : List Str} {k : Nat} {fb : Sf} (F : FunD K x qual params body scope [] [] f fd) (S : FnScope N ps scope)
    (hb : ∀ (cdv : Value) (A : Around) (outer : List Env) (s : Shared) (H : Hp) (E : XK), Room k (A.deeper (envOfC qual scope s.heap.objs.size f cdv)) → CBx (cxOf CX0 P w K mg base N qual scope f cdv A outer s H E).nox body fb) :
    FnOk P w K mg base CX0 (k + 1) f fd ps (spF K (mkFn ps.length N.length fb)) :=
  F.ok S (fun vs H Q E h => spF_len h) fun cdv A outer s H vs Q E hr h => ⟨_, PSs.nox (hb cdv A outer s H E hr), run_ok h⟩
end
/-- a law: called with the script it gives True -/
theorem law_sp {K : PySem.W.Frag} {F : Fn} (h : ∀ ns : List Int, ns.length ≤ 63 → ∃ M, F [.scr ns] [] = some (.val (.bl true), M)) (H : Hp) (a : Addr) (ns : List Int) (hl : ns.length ≤ 63) (hO : Only H) (hS : SqL K H a (ns.map V.int)) :
    spF K F [.ref a] H (fun v _ => v = .bl true) fun _ _ _ => False := by
  obtain ⟨M, hM⟩ := h ns hl
  refine ⟨[.scr ns], [], [], _, M, ?_, ⟨rfl, .nil, fun k a o h _ => by simp at h⟩, hM, fun H1 m1 e1 w1 v r => by rw [Rl] at r; exact r⟩
  rw [Rls]
  refine ⟨_, [], rfl, ?_, by rw [Rls]⟩
  rw [Rl]
  refine ⟨a, rfl, ?_⟩
  rcases hS with (h | h) | h
  · rcases hO a with q | ⟨o, xs, q⟩
    · rw [q] at h; cases h
    · rw [q] at h; cases h
  · exact .inl h
  · exact .inr h
end CI

/-! Ci11: comprehensions -/
namespace CI
open PySem PySem.Spec PyProof.Rows L2

/-! ### targets within a block -/
theorem wipe_set {x : Option V} {i : Nat} : ∀ {vs : List Nat} {σ : L2.St}, i ∈ vs → wipe (σ.set i x) vs = wipe σ vs
  | [], _, h => nomatch h
  | v :: vs, σ, h => by
    show (wipe (σ.set i x) vs).set v none = (wipe σ vs).set v none
    by_cases hi : i ∈ vs
    · rw [wipe_set hi]
    · have hv : i = v := (List.mem_cons.mp h).resolve_right hi
      subst hv
      have key : ∀ (vs : List Nat) (σ : L2.St), i ∉ vs → wipe (σ.set i x) vs = (wipe σ vs).set i x := by
        intro vs
        induction vs with
        | nil => intro σ _; rfl
        | cons v vs ih =>
          intro σ hn
          show (wipe (σ.set i x) vs).set v none = ((wipe σ vs).set v none).set i x
          rw [ih σ fun z => hn (List.mem_cons_of_mem _ z)]
          exact List.set_comm _ _ (fun z => hn (by rw [z]; exact List.mem_cons_self))
      rw [key vs σ hi, List.set_set]
theorem wipe_idem : ∀ {vs : List Nat} {σ : L2.St}, wipe (wipe σ vs) vs = wipe σ vs
  | [], _ => rfl
  | v :: vs, σ => by
    show (wipe ((wipe σ vs).set v none) vs).set v none = (wipe σ vs).set v none
    by_cases hv : v ∈ vs
    · rw [wipe_set hv, wipe_idem]
    · have key : ∀ (us : List Nat) (σ : L2.St), v ∉ us → wipe (σ.set v none) us = (wipe σ us).set v none := by
        intro us
        induction us with
        | nil => intro σ _; rfl
        | cons u us ih =>
          intro σ hn
          show (wipe (σ.set v none) us).set u none = ((wipe σ us).set u none).set v none
          rw [ih σ fun z => hn (List.mem_cons_of_mem _ z)]
          exact List.set_comm _ _ (fun z => hn (by rw [z]; exact List.mem_cons_self))
      rw [key vs _ hv, wipe_idem, List.set_set]
def wipeD (ρ : Slots) : List Nat → Slots
  | [] => ρ
  | v :: vs => (wipeD ρ vs).set v none
theorem Rs.wipe {K : PySem.W.Frag} {H : Hp} {m : List Addr} {ρ : Slots} {σ : L2.St} (h : Rs K H m ρ σ) : ∀ vs : List Nat, Rs K H m (wipeD ρ vs) (L2.wipe σ vs)
  | [] => h
  | v :: vs => by
    have r := h.wipe vs
    refine ⟨by show ((wipeD ρ vs).set v none).length = ((L2.wipe σ vs).set v none).length; simp [r.1], fun i d q => ?_⟩
    show ∃ w, ((L2.wipe σ vs).set v none)[i]? = some (some w) ∧ _
    have q : ((wipeD ρ vs).set v none)[i]? = some (some d) := q
    by_cases z : i = v
    · subst z
      obtain ⟨z, _⟩ := List.getElem?_eq_some_iff.mp q
      rw [List.length_set] at z
      rw [List.getElem?_set_self z] at q
      cases q
    · rw [List.getElem?_set_ne (Ne.symm z)] at q
      rw [List.getElem?_set_ne (Ne.symm z)]
      exact r.2 i d q
/-- a target that stores at the slots vs alone -/
def tGw (K : PySem.W.Frag) (vs : List Nat) (g : Gf) : TG := fun v σ H Q => ∃ d ρ M m ρ' M', Rl K H m d v ∧ Rs K H m ρ σ ∧ Wd K H m M ∧ g d ρ M = some (ρ', M') ∧
  ∀ H1 m1 σ1, Ext H m H1 m1 → Wd K H1 m1 M' → Rs K H1 m1 ρ' σ1 → wipe σ1 vs = wipe σ vs → Q σ1 H1
def tGsw (K : PySem.W.Frag) (vs : List Nat) (g : GsF) : TGs := fun us σ H Q => ∃ ds ρ M m ρ' M', Rls K H m ds us ∧ Rs K H m ρ σ ∧ Wd K H m M ∧ g ds ρ M = some (ρ', M') ∧
  ∀ H1 m1 σ1, Ext H m H1 m1 → Wd K H1 m1 M' → Rs K H1 m1 ρ' σ1 → wipe σ1 vs = wipe σ vs → Q σ1 H1
section
variable {X : Cx} {K : PySem.W.Frag} {e tg : Expr} {es : List Expr} {g : Gf} {gs : GsF} {pos : Pos} {vs : List Nat}
theorem cgw_of {i : Nat} (h : PG X e (gName i)) (hi : i ∈ vs) : PG X e (tGw K vs (gNm i)) := PG.imp h fun v σ H Q ⟨d, ρ, M, m, ρ', M', r, rs, w, hf, P⟩ => by
  cases hf
  exact P H m _ .refl w (rs.set r i) (wipe_set hi)
theorem cgsw_nil : PGs X [] (tGsw K vs gsNil) := PGs.imp pgs_nil fun us σ H Q ⟨ds, ρ, M, m, ρ', M', r, rs, w, hf, P⟩ => by
  unfold gsNil at hf
  split at hf
  · cases hf
    exact ⟨rls_nil r, P H m _ .refl w rs rfl⟩
  · cases hf
theorem cgsw_cons (h1 : PG X e (tGw K vs g)) (h2 : PGs X es (tGsw K vs gs)) (hs : (assignEach (e :: es) X.env).map (·.2) = assign e X.env :: (assignEach es X.env).map (·.2) := by rfl) : PGs X (e :: es) (tGsw K vs (gsCons g gs)) :=
  PGs.imp (pgs_cons h1 h2 hs) fun us σ H Q ⟨ds, ρ, M, m, ρ', M', r, rs, w, hf, P⟩ => by
    unfold gsCons at hf
    split at hf
    · rename_i d ds
      rw [Rls] at r
      obtain ⟨v, vr, rfl, r1, r2⟩ := r
      cases ea : g d ρ M with
      | none => rw [ea] at hf; cases hf
      | some p =>
        rw [ea] at hf
        simp only [Option.bind_some] at hf
        refine ⟨v, vr, rfl, d, ρ, M, m, p.1, p.2, r1, rs, w, ea, fun H1 m1 σ1 e1 w1 rs1 z1 => ?_⟩
        exact ⟨ds, p.1, p.2, m1, ρ', M', r2.ext e1, rs1, w1, hf, fun H2 m2 σ2 e2 w2 rs2 z2 => P H2 m2 σ2 (e1.trans e2) w2 rs2 (z2.trans z1)⟩
    · cases hf
theorem cgw_tup {k n : Nat} (hc : X.calm = true) (h : PGs X es (tGsw X.K vs gs)) (hn : (assignEach es X.env).length = n := by rfl) (hst : (assignEach es X.env).findIdx? (·.1) = none := by rfl) : PG X (.Tuple es k pos) (tGw X.K vs (gTp n gs)) :=
  PG.imp (pg_tup hc h hn hst) fun v σ H Q ⟨d, ρ, M, m, ρ', M', r, rs, w, hf, P⟩ => by
    unfold gTp at hf
    split at hf
    · rename_i ds
      split at hf
      · rename_i hl
        rw [Rl] at r
        obtain ⟨a, us, rfl, h1, h2⟩ := r
        exact ⟨a, us, rfl, h1, by rw [← h2.length]; exact hl, ds, ρ, M, m, ρ', M', h2, rs, w, hf, P⟩
      · cases hf
    · cases hf
end

/-! ### the comprehension -/
/-- the turns: the list made so far is the object n -/
noncomputable def lcF (g : Gf) (tt : Tf) (te : Ef) (ρw : Slots) (n : Nat) (gk : Option Nat) (ds0 : List D) : List D → Mem → Option Mem
  | [], M => some M
  | d :: ds, M => (g d ρw M).bind fun p => (tt p.1 p.2).bind fun b => if b.1 = true then (te p.1 b.2).bind fun r => (match r.2[n]? with
      | some (.lst acc) => if acc.length < sizeLine then (open Classical in if guard gk ds0 (r.2.set n (.lst (acc ++ [r.1.d]))) then lcF g tt te ρw n gk ds0 ds (r.2.set n (.lst (acc ++ [r.1.d]))) else none) else none
      | _ => none) else (open Classical in if guard gk ds0 b.2 then lcF g tt te ρw n gk ds0 ds b.2 else none)
open Classical in
noncomputable def cLc (it : If) (vs : List Nat) (g : Gf) (tt : Tf) (te : Ef) : Ef := fun ρ M => (it ρ M).bind fun p =>
  (lcF g tt te (wipeD ρ vs) p.2.2.length p.2.1 p.1 p.1 (p.2.2 ++ [.lst []])).bind fun Me => match Me[p.2.2.length]? with
  | some (.lst acc) => if Me.length = p.2.2.length + 1 ∧ (Me.take p.2.2.length = p.2.2 ∨ nlM p.2.2.length (Me.take p.2.2.length) = true) ∧ nls p.2.2.length acc = true then some (.new acc, Me.take p.2.2.length) else none
  | _ => none
def tYesF : Tf := fun _ M => some (true, M)
section
variable {X : Cx} {elt tg iter : Expr} {ifs : List Expr} {scope : Scope} {own : List (Str × Nat)} {pos : Pos} {it : If} {g : Gf} {tt : Tf} {te : Ef}
theorem lc_of {σ : L2.St} {H : Hp} {Q : VK} {vs : List Nat} (h : tE X.K (cLc it vs g tt te) σ H Q) : tLc (tI X.K it) (tGw X.K vs g) (tT X.K tt) (tE X.K te) vs σ H Q := by
  obtain ⟨ρ, M, m, r, M', rs, w, hf, P⟩ := h
  unfold cLc at hf
  cases ea : it ρ M with
  | none => rw [ea] at hf; cases hf
  | some p =>
    obtain ⟨ds, gk, M1⟩ := p
    rw [ea] at hf
    simp only [Option.bind_some] at hf
    cases el : lcF g tt te (wipeD ρ vs) M1.length gk ds ds (M1 ++ [.lst []]) with
    | none => rw [el] at hf; cases hf
    | some Me =>
      rw [el] at hf
      simp only [Option.bind_some] at hf
      refine ⟨ρ, M, m, ds, gk, M1, rs, w, ea, fun H1 m1 J e1 w1 gd1 Y => fun D hD => ?_⟩
      obtain ⟨w2, e2⟩ := w1.push (o := .lst []) (u := .lst []) hD ⟨[], upd_same, by rw [Rls]⟩
      have gd2 : GdOk X.K gk ds (upd H1 D (.lst [])) (m1 ++ [D]) := fun k hk => by
        obtain ⟨a, us, q1, q2, q3⟩ := gd1 k hk
        exact ⟨a, us, e2.get q1, by rw [upd_ne (fun z => by rw [z, hD] at q2; cases q2)]; exact q2, q3.ext e2⟩
      have hn1 : M1.length = m1.length := w1.len.symm
      have hDm : (m1 ++ [D])[M1.length]? = some D := by rw [hn1, List.getElem?_append_right (Nat.le_refl _)]; simp
      refine ⟨fun i n H => n = ds.length - i ∧ i ≤ ds.length ∧ ∃ M2 m2, Ext (upd H1 D (.lst [])) (m1 ++ [D]) H m2 ∧ Wd X.K H m2 M2 ∧ GdOk X.K gk ds H m2 ∧ lcF g tt te (wipeD ρ vs) M1.length gk ds (ds.drop i) M2 = some Me,
        ⟨ds.length, by simp, Nat.zero_le _, M1 ++ [.lst []], m1 ++ [D], .refl, w2, gd2, by simpa using el⟩, ?_⟩
      rintro i n H ⟨rfl, hle, M2, m2, e3, w3, gd3, hl⟩
      have eY : Ext H1 m1 H m2 := e2.trans e3
      by_cases hlt : i < ds.length
      · refine .inr ⟨Y.go i H m2 hlt eY gd3, ?_⟩
        have hd : ds.drop i = ds[i] :: ds.drop (i + 1) := List.drop_eq_getElem_cons hlt
        rw [hd] at hl
        unfold lcF at hl
        refine ⟨fun H' => ∃ M3 m3, Ext H m2 H' m3 ∧ Wd X.K H' m3 M3 ∧ GdOk X.K gk ds H' m3 ∧ lcF g tt te (wipeD ρ vs) M1.length gk ds (ds.drop (i + 1)) M3 = some Me,
          fun H' ⟨M3, m3, e4, w4, gd4, hl4⟩ => ⟨ds.length - (i + 1), by omega, rfl, hlt, M3, m3, e3.trans e4, w4, gd4, hl4⟩, fun x H' y => ?_⟩
        obtain ⟨e4, w4, r4⟩ := Y.yld i ds[i] H m2 M2 x H' (List.getElem?_eq_getElem hlt) eY gd3 w3 y
        cases eg : g ds[i] (wipeD ρ vs) M2 with
        | none => rw [eg] at hl; cases hl
        | some q =>
          rw [eg] at hl
          simp only [Option.bind_some] at hl
          refine ⟨ds[i], wipeD ρ vs, M2, m2, q.1, q.2, r4, ((rs.ext e1).ext (eY.trans e4)).wipe vs, w4, eg, fun H5 m5 σ5 e5 w5 rs5 z5 => ⟨z5.trans wipe_idem, ?_⟩⟩
          cases et : tt q.1 q.2 with
          | none => rw [et] at hl; cases hl
          | some b =>
            rw [et] at hl
            simp only [Option.bind_some] at hl
            refine bindT rs5 w5 et fun H6 m6 e6 w6 rs6 => ?_
            split at hl
            · rename_i hb
              rw [if_pos hb]
              cases ev : te q.1 b.2 with
              | none => rw [ev] at hl; cases hl
              | some rz =>
                rw [ev] at hl
                simp only [Option.bind_some] at hl
                refine bindE rs6 w6 ev fun H7 m7 v e7 w7 rs7 r7 => ?_
                split at hl
                · rename_i acc hacc
                  split at hl
                  · rename_i hz
                    have eAll : Ext (upd H1 D (.lst [])) (m1 ++ [D]) H7 m7 := (((e3.trans e4).trans e5).trans e6).trans e7
                    have hD7 := eAll.get hDm
                    obtain ⟨a, ha, us, h1, h2⟩ := w7.get hacc
                    rw [hD7] at ha; cases ha
                    refine ⟨us, h1, by rw [← h2.length]; exact hz, ?_⟩
                    have e8 := w7.ext_set (u := .lst (us ++ [v])) hD7
                    have w8 := w7.set (o := .lst (acc ++ [rz.1.d])) (u := .lst (us ++ [v])) hD7 ⟨_, upd_same, (h2.ext e8).append (by rw [Rls]; exact ⟨_, _, rfl, r7.ext e8, by rw [Rls]⟩)⟩
                    split at hl
                    · rename_i hgd
                      exact ⟨_, m7, (((e4.trans e5).trans e6).trans e7).trans e8, w8, gd_of w8 hgd, hl⟩
                    · cases hl
                  · cases hl
                · cases hl
            · rename_i hb
              rw [if_neg hb]
              split at hl
              · rename_i hgd
                exact ⟨_, m6, (e4.trans e5).trans e6, w6, gd_of w6 hgd, hl⟩
              · cases hl
      · have e : i = ds.length := by omega
        subst e
        refine .inl ⟨Y.stop H m2 eY gd3, ?_⟩
        rw [List.drop_length] at hl
        unfold lcF at hl
        cases hl
        split at hf
        · rename_i acc hacc
          split at hf
          · rename_i hcond
            obtain ⟨c1, c2, c3⟩ := hcond
            cases hf
            obtain ⟨l, rfl, hl0⟩ := id e3.pre
            have hl1 : l = [] := by
              have := w3.len
              rw [c1, hn1] at this
              simp at this
              exact this
            subst hl1
            rw [List.append_nil] at w3 e3
            obtain ⟨a, ha, us, h1, h2⟩ := w3.get hacc
            rw [hDm] at ha; cases ha
            have eD : Ext H1 m1 H (m1 ++ [D]) := e2.trans e3
            have hnl : ∀ o ∈ Me.take m1.length, nlO m1.length o = true := by
              rw [hn1] at c2
              rcases c2 with c2 | c2
              · rw [c2]; exact w1.nl
              · exact nlM_ok c2
            have hlen : m1.length = (Me.take m1.length).length := by
              rw [List.length_take, c1, hn1]; omega
            rw [hn1] at P c3
            have := P (del H D) m1 (e1.trans (eD.del (ws := us) (by simp))) (w3.del rfl hlen hnl h1 (by simp)) us D (Rls.del h1 (by simp) h2 c3) del_same
            rw [upd_del h1] at this
            exact this
          · cases hf
        · cases hf
theorem ce_lc (hc : X.calm = true) (hN : X.N.Nodup) (hi : CIx X tg iter it) (ok : BlkOk X.N X.env.scope scope own)
    (hg : ∀ (s : Shared) (H : Hp) (C : Addr) (cl : List (Str × Addr)) (fp : List Addr), PG (X.blk s H scope (compEnvC scope cl C X.env) fp) tg (tGw X.K (own.map (·.2)) g)) (ht : ∀ (s : Shared) (H : Hp) (C : Addr) (cl : List (Str × Addr)) (fp : List Addr), PTs (X.blk s H scope (compEnvC scope cl C X.env) fp) ifs (tT X.K tt))
    (he : ∀ (s : Shared) (H : Hp) (C : Addr) (cl : List (Str × Addr)) (fp : List Addr), PE (X.blk s H scope (compEnvC scope cl C X.env) fp) elt (tE X.K te)) (hs : ∀ x, foldedSetIterable iter X.env x = pure x := by intro _; rfl) :
    CEx X (.ListComp elt [⟨tg, iter, ifs, 0⟩] scope pos) (cLc it (own.map (·.2)) g tt te) := PE.imp (pe_lc hc hN hi ok hg ht he hs) fun _ _ _ h => lc_of h
theorem cs_setLc {i : Nat} {y : Str} {py spos : Pos} (hc : X.calm = true) (hN : X.N.Nodup) (hy : X.N[i]? = some y) (hyl : X.env.scope.names.lookup y = some .local)
    (hsw : swapsWith (.ListComp elt [⟨tg, iter, ifs, 0⟩] scope pos) (some (.Name y py)) spos.line X.env = pure true) (hi : CIx X tg iter it) (ok : BlkOk X.N X.env.scope scope own)
    (hg : ∀ (s : Shared) (H : Hp) (C : Addr) (cl : List (Str × Addr)) (fp : List Addr), PG (X.blk s H scope (compEnvC scope cl C X.env) fp) tg (tGw X.K (own.map (·.2)) g)) (ht : ∀ (s : Shared) (H : Hp) (C : Addr) (cl : List (Str × Addr)) (fp : List Addr), PTs (X.blk s H scope (compEnvC scope cl C X.env) fp) ifs (tT X.K tt))
    (he : ∀ (s : Shared) (H : Hp) (C : Addr) (cl : List (Str × Addr)) (fp : List Addr), PE (X.blk s H scope (compEnvC scope cl C X.env) fp) elt (tE X.K te)) (hs : ∀ x, foldedSetIterable iter X.env x = pure x := by intro _; rfl) :
    PS X (.Assign [.Name y py] (.ListComp elt [⟨tg, iter, ifs, 0⟩] scope pos) spos) (tAsg (tE X.K (cLc it (own.map (·.2)) g tt te)) (gName i)) := PS.imp (ps_setLc hc hN hy hyl hsw hi ok hg ht he hs) fun Dn σ H h => lc_of h
theorem cts_nil : PTs X [] (tT X.K tYesF) := ⟨fun pins s σ H Q I h => by
  obtain ⟨ρ, M, m, b, M', rs, w, hf, P⟩ := h
  cases hf
  exact pts_nil.run pins s σ H Q I (P H m .refl w)⟩
theorem cts_one {c : Expr} (h : CTx X c tt) : PTs X [c] (tT X.K tt) := pts_one h
end
end CI

/-! Ci12: stars in displays, list(range), enumerate; comprehensions reckoned -/
namespace CI
open PySem PySem.Spec PyProof.Rows L2
def oLenD : Cop := fun ds M => match ds with
  | [.loc k] => match M[k]? with
    | some (.dct kvs) => some (.val (.int kvs.length))
    | _ => none
  | _ => none
section
variable {X : Cx} {e : Expr} {es : List Expr} {f : Ef} {g : Af} {p pos : Pos}
/-- the items of a starred sequence are read when it is met: what follows does not change them -/
def aStar' (f : Ef) (g : Af) : Af := fun ρ M => (f ρ M).bind fun p => (asS p.2 p.1.d).bind fun ds => (g ρ p.2).bind fun q => some (ds ++ q.1, q.2)
theorem ca_star (he : CEx X e f) (hr : CAx X es g) (hs : starEach (.Starred e p :: es) X.env = (true, eval e X.env) :: starEach es X.env := by rfl) : CAx X (.Starred e p :: es) (aStar' f g) := PA.imp (StX.pa_star he hr hs) fun σ H Q ⟨ρ, M, m, ds, M', rs, w, hf, P⟩ => by
  unfold aStar' at hf
  cases ea : f ρ M with
  | none => rw [ea] at hf; cases hf
  | some p =>
    cases es : asS p.2 p.1.d with
    | none => simp [ea, es] at hf
    | some zs =>
      cases eb : g ρ p.2 with
      | none => simp [ea, es, eb] at hf
      | some q =>
        simp [ea, es, eb] at hf
        obtain ⟨rfl, rfl⟩ := hf
        refine bindE rs w ea fun H1 m1 v e1 w1 rs1 r1 => ?_
        obtain ⟨a, us, rfl, h1, h2⟩ := asS_ok w1 r1 es
        refine ⟨a, us, rfl, h1.symm, bindA rs1 w1 eb fun H2 m2 vs e2 w2 rs2 r2 => P H2 m2 _ (e1.trans e2) w2 ((h2.ext e2).append r2)⟩
/-- list(range(a, b)), tuple(range(a, b)) -/
def bRg (a b : Int) : Bool := rgB a && rgB b && decide ((b - a).toNat ≤ 16777216)
def cLRg (fa fb : Ef) : Ef := fun ρ M => (fa ρ M).bind fun p => (fb ρ p.2).bind fun q => match p.1.d, q.1.d with
  | .int i, .int j => if bRg i j = true then some (.new (rgD i (j - i).toNat), q.2) else none
  | _, _ => none
theorem rls_rg {K : PySem.W.Frag} {H : Hp} {m : List Addr} {lo hi : Int} : Rls K H m (rgD lo (hi - lo).toNat) (rgV lo hi) := by
  unfold rgD rgV
  generalize (List.range (hi - lo).toNat) = l
  induction l with
  | nil => simp [Rls]
  | cons i l ih =>
    rw [List.map_cons, List.map_cons, Rls]
    exact ⟨_, _, rfl, by rw [Rl], ih⟩
theorem ce_lrg2 {a b : Expr} {fa fb : Ef} {p2 pos2 : Pos} (hc : X.calm = true) (hg : Gl X "list") (hm : X.mg "list" = none) (hg2 : Gl X "range") (hm2 : X.mg "range" = none) (ha : CEx X a fa) (hb : CEx X b fb)
    (na : starEach [a, b] X.env = (false, eval a X.env) :: starEach [b] X.env := by rfl) (nb : starEach [b] X.env = (false, eval b X.env) :: starEach [] X.env := by rfl)
    (nr : starEach [.Call (.Name "range" p2) [a, b] [] pos2] X.env = (false, eval (.Call (.Name "range" p2) [a, b] [] pos2) X.env) :: starEach [] X.env := by rfl) (hp : (backTo pos2 (starEach [b] X.env)).any (·.1) = false := by rfl) :
    CEx X (.Call (.Name "list" p) [.Call (.Name "range" p2) [a, b] [] pos2] [] pos) (cLRg fa fb) := PE.imp (pe_listRg hc hg hm (prg_2 hg2 hm2 ha hb na nb hp) nr) fun σ H Q h => by
  obtain ⟨ρ, M, m, z, M', rs, w, hf, P⟩ := h
  unfold cLRg at hf
  cases ea : fa ρ M with
  | none => rw [ea] at hf; cases hf
  | some p =>
    cases eb : fb ρ p.2 with
    | none => simp [ea, eb] at hf
    | some q =>
      simp only [ea, eb, Option.bind_some] at hf
      refine bindE rs w ea fun H1 m1 v e1 w1 rs1 r1 => bindE rs1 w1 eb fun H2 m2 u e2 w2 rs2 r2 => ?_
      split at hf
      · rename_i i j hi hj
        split at hf
        · rename_i hb
          cases hf
          rw [hi, Rl] at r1; subst r1
          rw [hj, Rl] at r2; subst r2
          unfold bRg at hb
          simp only [Bool.and_eq_true, decide_eq_true_eq] at hb
          refine ⟨i, j, rfl, rfl, ⟨(rgB_ok hb.1.1).1, (rgB_ok hb.1.1).2, (rgB_ok hb.1.2).1, (rgB_ok hb.1.2).2, hb.2⟩, ?_⟩
          exact (P.ext (e1.trans e2)).new w2 rls_rg
        · cases hf
      · cases hf
theorem ce_lrg1 {a : Expr} {fa : Ef} {p2 pos2 : Pos} (hc : X.calm = true) (hg : Gl X "list") (hm : X.mg "list" = none) (hg2 : Gl X "range") (hm2 : X.mg "range" = none) (ha : CEx X a fa)
    (na : starEach [a] X.env = (false, eval a X.env) :: starEach [] X.env := by rfl)
    (nr : starEach [.Call (.Name "range" p2) [a] [] pos2] X.env = (false, eval (.Call (.Name "range" p2) [a] [] pos2) X.env) :: starEach [] X.env := by rfl) :
    CEx X (.Call (.Name "list" p) [.Call (.Name "range" p2) [a] [] pos2] [] pos) (cLRg (cInt 0) fa) := PE.imp (pe_listRg hc hg hm (prg_1 hg2 hm2 ha na) nr) fun σ H Q h => by
  obtain ⟨ρ, M, m, z, M', rs, w, hf, P⟩ := h
  unfold cLRg at hf
  rw [show cInt 0 ρ M = some (.val (.int 0), M) from rfl] at hf
  simp only [Option.bind_some] at hf
  cases eb : fa ρ M with
  | none => simp [eb] at hf
  | some q =>
    simp only [eb, Option.bind_some] at hf
    refine bindE rs w eb fun H2 m2 u e2 w2 rs2 r2 => ?_
    split at hf
    · rename_i i j hi hj
      split at hf
      · rename_i hb
        cases hf
        rw [hj, Rl] at r2; subst r2
        cases hi
        unfold bRg at hb
        simp only [Bool.and_eq_true, decide_eq_true_eq] at hb
        refine ⟨j, rfl, ⟨(rgB_ok hb.1.1).1, (rgB_ok hb.1.1).2, (rgB_ok hb.1.2).1, (rgB_ok hb.1.2).2, hb.2⟩, ?_⟩
        exact (P.ext e2).new w2 rls_rg
      · cases hf
    · cases hf
/-- enumerate -/
def iEnumF (f : Ef) : If := fun ρ M => (f ρ M).bind fun p => (asL p.2 p.1.d).bind fun ds => some (((List.range ds.length).zip ds).map fun q => D.tup [.int q.1, q.2], gkOf p.1.d, p.2)
end

end CI

/-! Ci14: tuple * int, -x, constants of the module -/
namespace CI
open PySem PySem.Spec PyProof.Rows L2
theorem tuple_mul1 (l : Addr) (items : Array Value) (n : Nat) (dd : Option Addr) (sl : Array (Option Value)) (x : Int) (u : Tok) (c0 : (decide (x < -(2 ^ 63)) || decide (x ≥ 2 ^ 63)) = false) (c1 : (items.isEmpty || x == 1) = true) :
    Meets (Builtin.«tuple.__mul__» ⟨[.ref l, .int x u], []⟩) (fun _ R s => s.heap.get? l = some { cls := .type "tuple", dict := dd, data := .seq items n, slots := sl } ∧ R (.ok (.ret (Value.ref l))) s) :=
  .of_wp fun prog w A R s h => by
    obtain ⟨hp, g, d, tk, os⟩ := s
    obtain ⟨hl, h⟩ := h
    have f1 := AutoSeq1.idx_int
    wp_walk using wpAny_loadPart' hl
    repeat (first
      | (refine wpAny_ite_false (decide_eq_false (by rw [c0]; exact Bool.false_ne_true)) ?_; wp_walk using wpAny_loadPart' hl)
      | (refine wpAny_ite_true (decide_eq_true (by rw [c1])) ?_; wp_walk using wpAny_loadPart' hl))
    exact ⟨_, rfl, h⟩
theorem tuple_mul0 (l : Addr) (items : Array Value) (n : Nat) (dd : Option Addr) (sl : Array (Option Value)) (x : Int) (u : Tok) (c0 : (decide (x < -(2 ^ 63)) || decide (x ≥ 2 ^ 63)) = false) (c1 : (items.isEmpty || x == 1) = false) (c2 : (decide (x ≤ 0) || items.isEmpty) = true) :
    Meets (Builtin.«tuple.__mul__» ⟨[.ref l, .int x u], []⟩) (fun _ R s => s.heap.get? l = some { cls := .type "tuple", dict := dd, data := .seq items n, slots := sl } ∧
      R (.ok (.ret (Value.ref s.heap.objs.size))) { s with heap := s.heap.push { cls := Value.type "tuple", data := Data.seq #[] }, toks := s.toks }) :=
  .of_wp fun prog w A R s h => by
    obtain ⟨hp, g, d, tk, os⟩ := s
    obtain ⟨hl, h⟩ := h
    have f1 := AutoSeq1.idx_int
    wp_walk using wpAny_loadPart' hl
    repeat (first
      | (refine wpAny_ite_false (decide_eq_false (by rw [c0]; exact Bool.false_ne_true)) ?_; wp_walk using wpAny_loadPart' hl)
      | (refine wpAny_ite_false (decide_eq_false (by rw [c1]; exact Bool.false_ne_true)) ?_; wp_walk using wpAny_loadPart' hl)
      | (refine wpAny_ite_true (decide_eq_true (by rw [c2])) ?_; wp_walk using wpAny_loadPart' hl))
    exact ⟨_, rfl, h⟩
section
variable {X : Cx}
def rMul1 (K : PySem.W.Frag) : R2 := fun x y H Q => ∃ l xs, x = .ref l ∧ y = .int 1 ∧ SqT K H l xs ∧ Q (.ref l) H
def rMul0 (K : PySem.W.Frag) : R2 := fun x y H Q => ∃ l k xs, x = .ref l ∧ y = .int k ∧ SqT K H l xs ∧ xs ≠ [] ∧ k ≤ 0 ∧ -1000000 < k ∧ ∀ p, H p = none → Q (.ref p) (upd H p (.tup []))
theorem op_mul1 : OpR X (binaryOp .Mult) (rMul1 X.K) := by
  intro pins s σ H x y v u Q I rx ry h
  obtain ⟨l, xs, rfl, rfl, hT, q⟩ := h
  cases rx
  obtain ⟨t, rfl⟩ := ry
  obtain ⟨its, r, ⟨⟨cls, dd, data, sl⟩, ho, hc, n, hd⟩, hs⟩ := I.tuple hT
  simp only at hc hd
  subst hc hd
  have c1 : (its.toArray.isEmpty || (1 : Int) == 1) = true := by simp
  refine wpAny_binaryOp_repeat_ref (T := "tuple") (U := "int") (by decide) ⟨_, ho, rfl⟩ (fun s' => typeIs_int s' 1 t) noFill_tuple_mul F.fills_int_mul F.slot_int_rmul repeat_tuple F.slot_int_index.lookup
    (call_meets F.slot_int_rmul (typeIs_int s 1 t) F.entry_int_rmul (F.args_int_rmul_2 _ _) (int_rmul_tuple 1 t l its.toArray n dd sl)
      ⟨ho, rfl, ⟨_, ho, rfl⟩, call_meets F.slot_tuple_mul ⟨_, ho, rfl⟩ F.entry_tuple_mul (F.args_tuple_mul_2 _ _) (tuple_mul1 l its.toArray n dd sl 1 t (by decide) c1) ⟨ho, ?_⟩⟩)
  exact ⟨.ref l, H, I, rfl, q⟩
theorem op_mul0 : OpR X (binaryOp .Mult) (rMul0 X.K) := by
  intro pins s σ H x y v u Q I rx ry h
  obtain ⟨l, k, xs, rfl, rfl, hT, hne, h1, h2, q⟩ := h
  cases rx
  obtain ⟨t, rfl⟩ := ry
  obtain ⟨its, r, ⟨⟨cls, dd, data, sl⟩, ho, hc, n, hd⟩, hs⟩ := I.tuple hT
  simp only at hc hd
  subst hc hd
  have hle : its.length = xs.length := r.length.symm
  have hn : its ≠ [] := fun e => hne (by
    rw [e] at hle
    exact List.eq_nil_of_length_eq_zero hle.symm)
  have hi : its.toArray.isEmpty = false := by
    cases its with
    | nil => exact absurd rfl hn
    | cons a b => rfl
  have c0 : (decide (k < -(2 ^ 63)) || decide (k ≥ 2 ^ 63)) = false := by
    rw [decide_eq_false (by omega), decide_eq_false (by omega)] <;> rfl
  have c1 : (its.toArray.isEmpty || k == 1) = false := by
    rw [hi, Bool.false_or]
    exact beq_eq_false_iff_ne.mpr (by omega)
  have c2 : (decide (k ≤ 0) || its.toArray.isEmpty) = true := by
    rw [decide_eq_true h1]; rfl
  refine wpAny_binaryOp_repeat_ref (T := "tuple") (U := "int") (by decide) ⟨_, ho, rfl⟩ (fun s' => typeIs_int s' k t) noFill_tuple_mul F.fills_int_mul F.slot_int_rmul repeat_tuple F.slot_int_index.lookup
    (call_meets F.slot_int_rmul (typeIs_int s k t) F.entry_int_rmul (F.args_int_rmul_2 _ _) (int_rmul_tuple k t l its.toArray n dd sl)
      ⟨ho, rfl, ⟨_, ho, rfl⟩, call_meets F.slot_tuple_mul ⟨_, ho, rfl⟩ F.entry_tuple_mul (F.args_tuple_mul_2 _ _) (tuple_mul0 l its.toArray n dd sl k t c0 c1 c2) ⟨ho, ?_⟩⟩)
  refine ⟨.ref s.heap.objs.size, _, I.laid (t' := s.toks) (o := .tup []) (fun b ob q => Heap.get?_push_of_some _ q) (Nat.le_refl _) ?_, rfl, q _ (I.hok.fresh (Nat.le_refl _))⟩
  exact ⟨by simp, _, .nil, IsTup.new _ _⟩
/-- * of ints, of a tuple and an int -/
def oMul : Bop := fun d e _ => match d, e with
  | .int i, .int j => if bMul i j = true then some (.val (.int (i * j))) else none
  | .tup ds, .int k => if ds ≠ [] ∧ -1000000 < k ∧ k ≤ 1000 ∧ ds.length ≤ 1000 then some (.val (.tup (List.replicate k.toNat ds).flatten)) else none
  | _, _ => none
theorem Rls.rep {K : PySem.W.Frag} {H : Hp} {m : List Addr} {ds : List D} {vs : List V} (h : Rls K H m ds vs) : ∀ k : Nat, Rls K H m (List.replicate k ds).flatten (List.replicate k vs).flatten
  | 0 => by simp [Rls]
  | k + 1 => by
    rw [List.replicate_succ, List.replicate_succ, List.flatten_cons, List.flatten_cons]
    exact h.append (Rls.rep h k)
theorem ok_mul : OpOk X (binaryOp .Mult) oMul := by
  refine ⟨_, op_mul.or (op_repT.or (op_mul1.or op_mul0)), fun H m M d e x y z Q w rd re ho P => ?_⟩
  unfold oMul at ho
  split at ho
  · rename_i i j
    split at ho
    · rename_i hb
      cases ho
      rw [Rl] at rd; rw [Rl] at re
      refine .inl ⟨i, j, rd, re, ?_, P.val w rl_int⟩
      unfold bMul sm64 at hb
      simp only [Bool.or_eq_true, Bool.and_eq_true, decide_eq_true_eq] at hb
      exact hb
    · cases ho
  · rename_i ds k
    split at ho
    · rename_i hc
      obtain ⟨h1, h2, h3, h4⟩ := hc
      cases ho
      have rd0 := rd
      rw [Rl] at rd; rw [Rl] at re; subst re
      obtain ⟨a, vs, rfl, hs, hr⟩ := rd
      have hv : vs ≠ [] := fun e => h1 (by subst e; exact rls_of_nil hr)
      by_cases q1 : 2 ≤ k
      · exact .inr (.inl ⟨a, k, vs, rfl, rfl, hs, hv, q1, h3, by rw [← hr.length]; exact h4, P.tup w (hr.rep _)⟩)
      · by_cases q2 : k = 1
        · subst q2
          refine .inr (.inr (.inl ⟨a, vs, rfl, rfl, hs, P.val w ?_⟩))
          simpa using rd0
        · have hk : k.toNat = 0 := by omega
          rw [hk] at P
          refine .inr (.inr (.inr ⟨a, k, vs, rfl, rfl, hs, hv, by omega, h2, ?_⟩))
          exact P.tup (ds := []) w (by rw [Rls])
    · cases ho
  · cases ho
def cNeg (f : Ef) : Ef := fun ρ M => (f ρ M).bind fun p => match p.1.d with
  | .int i => some (.val (.int (-i)), p.2)
  | _ => none
theorem ce_neg {a : Expr} {pos : Pos} {f : Ef} (ha : CEx X a f) : CEx X (.UnaryOp .USub a pos) (cNeg f) := PE.imp (pe_un un_neg ha) fun σ H Q h => by
  obtain ⟨ρ, M, m, z, M', rs, w, hf, P⟩ := h
  unfold cNeg at hf
  cases ea : f ρ M with
  | none => rw [ea] at hf; cases hf
  | some p =>
    rw [ea] at hf
    simp only [Option.bind_some] at hf
    refine bindE rs w ea fun H1 m1 v e1 w1 rs1 r1 => ?_
    split at hf
    · rename_i i hi
      cases hf
      rw [hi, Rl] at r1
      exact ⟨i, r1, (P.ext e1).val w1 rl_int⟩
    · cases hf
end

/-! ### constants of the module: ints, texts, None, truth values, tuples of such -/
mutual
def cv (K : PySem.W.Frag) : D → Value → Bool
  | .non, .none => true
  | .bl b, .bool c => b == c
  | .int i, .int j _ => decide (i = j)
  | .str x, .str y _ => decide (x = y)
  | .tup ds, .ref a => match K.lookup a with
    | some ⟨.type c, _, .seq its _, _⟩ => decide (c = "tuple") && (decide (its.size ≤ sizeLine) && cvs K ds its.toList)
    | _ => false
  | _, _ => false
def cvs (K : PySem.W.Frag) : List D → List Value → Bool
  | [], [] => true
  | d :: ds, v :: vs => cv K d v && cvs K ds vs
  | _, _ => false
end
mutual
theorem cv_ok {K : PySem.W.Frag} : ∀ {d : D} {v : Value}, cv K d v = true → ∃ x, RelV x v ∧ ∀ H m, Rl K H m d x
  | .non, v, h => by
    cases v <;> first | (simp [cv] at h; done) | exact ⟨.non, rfl, fun _ _ => by rw [Rl]⟩
  | .bl b, v, h => by
    cases v <;> first | (simp [cv] at h; done) | (simp [cv] at h; subst h; exact ⟨.bl b, rfl, fun _ _ => by rw [Rl]⟩)
  | .int b, v, h => by
    cases v <;> first | (simp [cv] at h; done) | (simp [cv] at h; subst h; exact ⟨.int b, ⟨_, rfl⟩, fun _ _ => by rw [Rl]⟩)
  | .str b, v, h => by
    cases v <;> first | (simp [cv] at h; done) | (simp [cv] at h; subst h; exact ⟨.str b, ⟨_, rfl⟩, fun _ _ => by rw [Rl]⟩)
  | .tup ds, v, h => by
    cases v with
    | ref a =>
      rw [cv] at h
      split at h
      · rename_i c dd its n sl hk
        rw [Bool.and_eq_true, Bool.and_eq_true] at h
        obtain ⟨h1, h2, h3⟩ := h
        obtain ⟨vs, r1, r2⟩ := cvs_ok h3
        refine ⟨.ref a, rfl, fun H m => ?_⟩
        rw [Rl]
        exact ⟨a, vs, rfl, .inr ⟨_, its, n, hk, congrArg Value.type (of_decide_eq_true h1), rfl, of_decide_eq_true h2, r1⟩, r2 H m⟩
      · cases h
    | _ => simp [cv] at h
  | .lst _, v, h => by cases v <;> simp [cv] at h
  | .scr _, v, h => by cases v <;> simp [cv] at h
  | .loc _, v, h => by cases v <;> simp [cv] at h
theorem cvs_ok {K : PySem.W.Frag} : ∀ {ds : List D} {vs : List Value}, cvs K ds vs = true → ∃ xs, Vals xs vs ∧ ∀ H m, Rls K H m ds xs
  | [], vs, h => by
    cases vs with
    | nil => exact ⟨[], .nil, fun _ _ => by rw [Rls]⟩
    | cons _ _ => simp [cvs] at h
  | d :: ds, vs, h => by
    cases vs with
    | nil => simp [cvs] at h
    | cons v vs =>
      rw [cvs, Bool.and_eq_true] at h
      obtain ⟨x, r1, r2⟩ := cv_ok h.1
      obtain ⟨xs, s1, s2⟩ := cvs_ok h.2
      exact ⟨x :: xs, .cons r1 s1, fun H m => by rw [Rls]; exact ⟨_, _, rfl, r2 H m, s2 H m⟩⟩
end
def cName (K : PySem.W.Frag) (x : Str) (d : D) : Bool := match PySem.W.nsIn K mainGlobals x with
  | some (some v) => cv K d v
  | _ => false
theorem cName_ok {K : PySem.W.Frag} {h : Heap} {mg : Str → Option Value} (X : K.In h) (G : h.Ns mainGlobals mg) {x : Str} {d : D} (c : cName K x d = true) : ∃ u v, mg x = some u ∧ RelV v u ∧ ∀ H m, Rl K H m d v := by
  unfold cName at c
  split at c
  · rename_i u hu
    obtain ⟨v, r1, r2⟩ := cv_ok c
    exact ⟨u, v, PySem.W.mg_of X G hu, r1, r2⟩
  · cases c
/-! ### the head's Hook with such constants -/
abbrev Cst : Type := List (Str × D)
def csB (cs : Cst) (K : PySem.W.Frag) : Bool := cs.all fun q => cName K q.1 q.2
abbrev AlC : Type := He.AlD × Bool
def SaysC (fa : List He.Fa) (fn : List He.DefD) (cs : Cst) (K : PySem.W.Frag) : Prop := He.SaysD fa fn K ∧ csB cs K = true
def obsC (n : Nat) (fa : List He.Fa) (fn : List He.DefD) (cs : Cst) (g : Addr → Option Obj) : AlC := (He.obsD fa fn (He.frG g (He.asD g n)), csB cs (He.frG g (He.asD g n)))
def hookC (n : Nat) (fa : List He.Fa) (fn : List He.DefD) (cs : Cst) : PySem.W.Hook where
  α := AlC
  obs := fun s => obsC n fa fn cs s.heap.get?
  val := fun _ => (He.valD fn, true)
  says := fun _ h => ∃ K : PySem.W.Frag, K.In h ∧ SaysC fa fn cs K
  of := fun _ _ e => ⟨_, He.frG_in, congrArg (fun z : AlC => z.1) e, congrArg (fun z : AlC => z.2) e⟩
  keeps := fun _ _ _ ⟨K, hK, c⟩ k => ⟨K, PySem.W.Frag.In.keeps hK k, c⟩
theorem obsC_eq {n : Nat} {fa : List He.Fa} {fn : List He.DefD} {cs : Cst} {g : Addr → Option Obj} {s : Shared} (h : ∀ a, g a = s.heap.get? a) : obsC n fa fn cs g = (hookC n fa fn cs).obs s := by
  have e : g = s.heap.get? := funext h
  rw [e] <;> rfl
theorem SaysC.fact {fa : List He.Fa} {fn : List He.DefD} {cs : Cst} {K : PySem.W.Frag} (c : SaysC fa fn cs K) (i : Nat) {f : He.Fa} (h : fa[i]? = some f := by rfl) : f.ok K = true := c.1.fact i h
theorem SaysC.def_ {fa : List He.Fa} {fn : List He.DefD} {cs : Cst} {K : PySem.W.Frag} (c : SaysC fa fn cs K) (i : Nat) {d : He.DefD} (h : fn[i]? = some d := by rfl) : ∃ fd, FunD K d.name d.qual d.params d.body d.scope (d.dvs K) (d.kws K) (He.fAd K d.at_) fd := c.1.def_ i h
theorem SaysC.cst {fa : List He.Fa} {fn : List He.DefD} {cs : Cst} {K : PySem.W.Frag} (c : SaysC fa fn cs K) (i : Nat) {q : Str × D} (h : cs[i]? = some q := by rfl) : cName K q.1 q.2 = true :=
  List.all_eq_true.mp c.2 q (List.mem_of_getElem? h)
end CI

/-! Ci15: == of data with itself -/
namespace CI
open PySem PySem.Spec PyProof.Rows L2
def plS : Nat → D → Bool
  | 0, _ => false
  | n + 1, d => match d with
    | .tup ds => ds.all (plS n)
    | .lst ds => ds.all (plS n)
    | .str x => PyData.strOk x
    | .scr _ => false
    | .loc _ => false
    | _ => true
theorem plS_tup {n : Nat} {ds : List D} : plS (n + 1) (.tup ds) = ds.all (plS n) := rfl
theorem plS_lst {n : Nat} {ds : List D} : plS (n + 1) (.lst ds) = ds.all (plS n) := rfl
theorem plS_str {n : Nat} {x : Str} : plS (n + 1) (.str x) = PyData.strOk x := rfl
theorem plS_int {n : Nat} {x : Int} : plS (n + 1) (.int x) = true := rfl
theorem plS_bl {n : Nat} {x : Bool} : plS (n + 1) (.bl x) = true := rfl
theorem plS_non {n : Nat} : plS (n + 1) .non = true := rfl
theorem plS_ok : ∀ (n : Nat) (d : D), plS n d = true → ∃ p, py0 d = some p ∧ p.canLay0 = true ∧ p.depth ≤ n
  | 0, _, h => by cases h
  | n + 1, d, h => by
    have all : ∀ ds : List D, ds.all (plS n) = true → ∃ ps, py0s ds = some ps ∧ PyData.canLayAll0 ps = true ∧ PyData.depthAll ps ≤ n := by
      intro ds
      induction ds with
      | nil => intro _; exact ⟨[], rfl, rfl, Nat.zero_le _⟩
      | cons d ds ih =>
        intro h
        rw [List.all_cons, Bool.and_eq_true] at h
        obtain ⟨p, h1, h2, h3⟩ := plS_ok n d h.1
        obtain ⟨ps, g1, g2, g3⟩ := ih h.2
        refine ⟨p :: ps, by rw [py0s, h1, g1]; rfl, ?_, ?_⟩
        · rw [PyData.canLayAll0, h2, g2]; rfl
        · rw [PyData.depthAll]; exact Nat.max_le.mpr ⟨h3, g3⟩
    cases d with
    | non => exact ⟨.none, rfl, rfl, Nat.zero_le _⟩
    | bl b => exact ⟨.bool b, rfl, rfl, Nat.zero_le _⟩
    | int b => exact ⟨.int b, rfl, rfl, Nat.zero_le _⟩
    | str x => exact ⟨.str x, rfl, h, Nat.zero_le _⟩
    | scr _ => cases h
    | loc _ => cases h
    | tup ds =>
      obtain ⟨ps, h1, h2, h3⟩ := all ds h
      refine ⟨.tuple ps, by rw [py0, h1]; rfl, ?_, ?_⟩
      · rw [PyData.canLay0]; exact h2
      · rw [PyData.depth]; omega
    | lst ds =>
      obtain ⟨ps, h1, h2, h3⟩ := all ds h
      refine ⟨.list ps, by rw [py0, h1]; rfl, ?_, ?_⟩
      · rw [PyData.canLay0]; exact h2
      · rw [PyData.depth]; omega
theorem eqB_refl {M : Mem} {n : Nat} {d : D} (hn : n ≤ 64) (h : plS n d = true) : eqB M d d = some true := by
  obtain ⟨p, h1, h2, h3⟩ := plS_ok n d h
  have gen : (match d with | .loc _ => False | _ => True) → (match py M d, py M d with
    | some a, some b => if SeqAt.shaped a = true ∧ SeqAt.shaped b = true then some (PyData.eqv a b) else none
    | _, _ => none) = some true := by
    intro hd
    have hp : py M d = some p := by cases d <;> first | exact h1 | cases hd
    have sp : SeqAt.shaped p = true := by
      unfold SeqAt.shaped
      rw [h2, Bool.true_and]
      exact decide_eq_true (by omega)
    rw [hp]
    simp only [sp, and_self, if_true]
    rw [show PyData.eqv p p = true from by first | exact P3Eq.eqv_refl p h2 | exact PySem.eqv_refl p h2 | exact PyData.eqv_refl p h2 | exact SeqAt.eqv_refl p h2]
  cases d with
  | int i => unfold eqB; simp
  | str i => unfold eqB; simp
  | bl i => unfold eqB; simp
  | loc k => cases h1
  | non => exact gen trivial
  | tup ds => exact gen trivial
  | lst ds => exact gen trivial
  | scr ds => exact gen trivial
theorem oNe_refl {M : Mem} {n : Nat} {d : D} (hn : n ≤ 64) (h : plS n d = true) : oNe d d M = some (.val (.bl false)) := by
  unfold oNe; rw [eqB_refl hn h]; rfl
theorem oEq_refl {M : Mem} {n : Nat} {d : D} (hn : n ≤ 64) (h : plS n d = true) : oEq d d M = some (.val (.bl true)) := by
  unfold oEq; rw [eqB_refl hn h]; rfl
end CI

/-! Ci16: enumerate of a list that nothing changes -/
namespace CI
open PySem PySem.Spec PyProof.Rows L2
def enD (ds : List D) : List D := ds.zipIdx.map fun p => D.tup [.int ((p.2 : Nat) : Int), p.1]
theorem enD_len {ds : List D} : (enD ds).length = ds.length := by unfold enD; simp
theorem enD_get {ds : List D} {i : Nat} {e : D} (h : (enD ds)[i]? = some e) : ∃ d, ds[i]? = some d ∧ e = .tup [.int (i : Nat), d] := by
  unfold enD at h
  rw [List.getElem?_map, List.getElem?_zipIdx] at h
  cases q : ds[i]? with
  | none => rw [q] at h; cases h
  | some d =>
    rw [q] at h
    refine ⟨d, rfl, ?_⟩
    simp at h
    exact h.symm
theorem yl_en {K : PySem.W.Frag} {H : Hp} {m : List Addr} {a : Addr} {ds : List D} {vs : List V} (h : ∀ H1 m1, Ext H m H1 m1 → SqL K H1 a vs) (r : Rls K H m ds vs) : Yl K H m (Ite K a) (enD ds) none where
  go := fun i H1 m1 hi e _ => by
    have hl := r.length
    rw [enD_len] at hi
    exact ⟨vs, vs[i], h _ _ e, List.getElem?_eq_getElem (by omega)⟩
  yld := fun i d H1 m1 M1 x H' q e _ w y => by
    obtain ⟨T, u, rfl, hn, rfl, y⟩ := y
    obtain ⟨d0, q0, rfl⟩ := enD_get q
    obtain ⟨v, h1, h2⟩ := (r.ext e).get q0
    have := y vs (h _ _ e)
    rw [h1] at this; cases this
    refine ⟨.new hn, w.new hn, ?_⟩
    rw [Rl]
    refine ⟨T, _, rfl, .of upd_same, ?_⟩
    rw [Rls]
    refine ⟨_, _, rfl, by rw [Rl], ?_⟩
    rw [Rls]
    refine ⟨_, _, rfl, h2.ext (.new hn), ?_⟩
    rw [Rls]
  stop := fun H1 m1 e _ => ⟨vs, h _ _ e, by rw [enD_len, r.length]; exact Nat.le_refl _⟩
def iEn (f : Ef) : If := fun ρ M => (f ρ M).bind fun p => match p.1.d with
  | .lst ds => some (enD ds, none, p.2)
  | .scr ns => some (enD (ns.map .int), none, p.2)
  | _ => none
theorem ci_en {X : Cx} {a : Expr} {fa : Ef} {p pos tpos : Pos} {elts : List Expr} {kk : Nat} (hg : Gl X "enumerate") (hm : X.mg "enumerate" = none) (ha : CEx X a fa) (hs : starEach [a] X.env = [(false, eval a X.env)] := by rfl) (hs' : starEach [a] X.env = (false, eval a X.env) :: starEach [] X.env := by rfl) : CIx X (.Tuple elts kk tpos) (.Call (.Name "enumerate" p) [a] [] pos) (iEn fa) :=
  PI.imp (pi_enum hg hm (pa_cons ha pa_nil hs') hs) fun σ H R ⟨ρ, M, m, ds, gk, M', rs, w, hf, P⟩ => by
    unfold iEn at hf
    cases ea : fa ρ M with
    | none => rw [ea] at hf; cases hf
    | some q =>
      rw [ea] at hf
      simp only [Option.bind_some] at hf
      refine bindE rs w ea fun H1 m1 v e1 w1 rs1 r1 => ?_
      split at hf
      · rename_i es he
        cases hf
        rw [he, Rl] at r1
        obtain ⟨b, vs, rfl, hn, h1, h2⟩ := r1
        exact ⟨b, vs, rfl, .of h1, P H1 m1 _ e1 w1 gd_none (yl_en (fun H2 m2 e2 => .of (e2.lst _ _ hn h1)) h2)⟩
      · rename_i ns he
        cases hf
        rw [he, Rl] at r1
        obtain ⟨b, rfl, h1⟩ := r1
        exact ⟨b, _, rfl, h1.l, P H1 m1 _ e1 w1 gd_none (yl_en (fun H2 m2 e2 => (SqS.l (h1.imp (fun ⟨o, s⟩ => ⟨o, e2.frz _ _ _ s⟩) id))) .ints)⟩
      · cases hf
end CI

/-! Ci17: the letters of a string; int of a string -/
namespace CI
open PySem PySem.Spec PyProof.Rows L2
def chD (x : Str) : List D := x.cps.toList.map fun c => D.str ⟨#[c]⟩
theorem chD_len {x : Str} : (chD x).length = x.cps.size := by unfold chD; simp
theorem yl_st {K : PySem.W.Frag} {H : Hp} {m : List Addr} {x : Str} : Yl K H m (Its x) (chD x) none where
  go := fun i H1 m1 hi e _ => by rw [chD_len] at hi; exact hi
  yld := fun i d H1 m1 M1 v H' q e _ w y => by
    obtain ⟨rfl, c, hc, rfl⟩ := y
    unfold chD at q
    rw [List.getElem?_map, Array.getElem?_toList, hc] at q
    cases q
    exact ⟨.refl, w, by rw [Rl]⟩
  stop := fun H1 m1 e _ => by rw [chD_len]; exact Nat.le_refl _
def iSt (f : Ef) : If := fun ρ M => (f ρ M).bind fun p => match p.1.d with
  | .str x => some (chD x, none, p.2)
  | _ => none
theorem ci_st {X : Cx} {tg a : Expr} {fa : Ef} (ha : CEx X a fa) : CIx X tg a (iSt fa) :=
  PI.imp (pi_str ha) fun σ H R ⟨ρ, M, m, ds, gk, M', rs, w, hf, P⟩ => by
    unfold iSt at hf
    cases ea : fa ρ M with
    | none => rw [ea] at hf; cases hf
    | some q =>
      rw [ea] at hf
      simp only [Option.bind_some] at hf
      refine bindE rs w ea fun H1 m1 v e1 w1 rs1 r1 => ?_
      split at hf
      · rename_i x he
        cases hf
        rw [he, Rl] at r1
        exact ⟨x, r1, P H1 m1 _ e1 w1 gd_none yl_st⟩
      · cases hf
def oIntS : Cop := fun ds _ => match ds with
  | [.str a] => if a.length ≤ 640 then (PySem.intText? a).bind fun n => some (.val (.int n)) else none
  | _ => none
theorem ok_intS {X : Cx} : ClOk X (.type "int") oIntS := by
  refine ⟨_, call_int_str, fun H m M ds xs z Q w rd ho P => ?_⟩
  unfold oIntS at ho
  split at ho
  · rename_i a
    obtain ⟨v, rfl, r⟩ := rd.one
    rw [Rl] at r; subst r
    split at ho
    · rename_i hl
      cases q : PySem.intText? a with
      | none => rw [q] at ho; cases ho
      | some n =>
        rw [q] at ho; cases ho
        exact ⟨a, n, rfl, q, hl, P.val w rl_int⟩
    · cases ho
  · cases ho
end CI

/-! Ci18: the digits of a number -/
namespace CI
open PySem PySem.Spec PyProof.Rows L2
theorem dig_nat : ∀ d : Nat, d < 10 → (Nat.digitChar d).toNat = 48 + d := by decide
theorem str_one (d : Nat) (h : d < 10) : (⟨#[48 + d]⟩ : Str) = Str.ofString (toString ((d : Nat) : Int)) := by
  have s := PySem.W.KIN.signs_num d
  rw [Nat.toDigits_of_lt_base h, List.map_cons, List.map_nil, dig_nat d h] at s
  have e : (Str.ofString (toString ((d : Nat) : Int))).cps = #[48 + d] := Array.ext' (by rw [s])
  generalize Str.ofString (toString ((d : Nat) : Int)) = x at e
  cases x
  cases e
  rfl
theorem oIntS_dig (d : Nat) (h : d < 10) (M : Mem) : oIntS [.str ⟨#[48 + d]⟩] M = some (.val (.int (d : Nat))) := by
  have q : PySem.intText? ⟨#[48 + d]⟩ = some ((d : Nat) : Int) := by rw [str_one d h]; exact PySem.W.KIN.num_reads (by omega) (by omega)
  show (if Str.length ⟨#[48 + d]⟩ ≤ 640 then (PySem.intText? ⟨#[48 + d]⟩).bind fun n => some (Rz.val (.int n)) else none) = _
  rw [q, if_pos (show Str.length ⟨#[48 + d]⟩ ≤ 640 from (show (1 : Nat) ≤ 640 by decide))]
  rfl
/-- the digits of a number, the first one first -/
def digs (m : Nat) : List Nat := (Nat.toDigits 10 m).map fun c => c.toNat - 48
theorem dig_mem : ∀ (n : Nat) (m : Nat), m ≤ n → ∀ c ∈ Nat.toDigits 10 m, ∃ d, d < 10 ∧ c.toNat = 48 + d
  | 0, m, hm, c, hc => by
    have : m = 0 := by omega
    subst this
    rw [Nat.toDigits_of_lt_base (by decide)] at hc
    simp at hc; subst hc
    exact ⟨0, by decide, rfl⟩
  | n + 1, m, hm, c, hc => by
    by_cases h : m < 10
    · rw [Nat.toDigits_of_lt_base h] at hc
      simp at hc; subst hc
      exact ⟨m, h, dig_nat m h⟩
    · rw [Nat.toDigits_of_base_le (by decide) (by omega)] at hc
      rcases List.mem_append.mp hc with hc | hc
      · exact dig_mem n (m / 10) (by omega) c hc
      · simp at hc; subst hc
        exact ⟨m % 10, by omega, dig_nat _ (by omega)⟩
theorem digs_lt {m d : Nat} (h : d ∈ digs m) : d < 10 := by
  unfold digs at h
  obtain ⟨c, hc, rfl⟩ := List.mem_map.mp h
  obtain ⟨d, hd, e⟩ := dig_mem m m (Nat.le_refl _) c hc
  omega
theorem chD_num (m : Nat) : chD (Str.ofString (toString ((m : Nat) : Int))) = (digs m).map fun d => D.str ⟨#[48 + d]⟩ := by
  unfold chD digs
  rw [PySem.W.KIN.signs_num, List.map_map, List.map_map]
  refine List.map_congr_left fun c hc => ?_
  obtain ⟨d, hd, e⟩ := dig_mem m m (Nat.le_refl _) c hc
  show D.str ⟨#[c.toNat]⟩ = D.str ⟨#[48 + (c.toNat - 48)]⟩
  rw [e, Nat.add_sub_cancel_left]
/-- the digits give the number back -/
theorem digs_back (m : Nat) : (digs m).foldl (fun a d => a * 10 + d) 0 = m := by
  have h := PySem.W.KIN.val_back m
  unfold PySem.NumText.digitsVal at h
  unfold digs
  rw [List.foldl_map] at h ⊢
  exact h
theorem digs_ne (m : Nat) : digs m ≠ [] := by
  unfold digs
  intro h
  have := List.map_eq_nil_iff.mp h
  by_cases q : m < 10
  · rw [Nat.toDigits_of_lt_base q] at this; cases this
  · rw [Nat.toDigits_of_base_le (by decide) (by omega)] at this; simp at this
end CI

/-! Ci19: defs and loops that tidy up: dead slots, objects that nobody reaches -/
namespace CI
open PySem PySem.Spec PyProof.Rows L2

/-- the objects of M stand in Me as before, or hold nothing that is newer than M -/
def trimOk (M Me : Mem) : Prop := M.length ≤ Me.length ∧ ∀ k o, k < M.length → Me[k]? = some o → M[k]? = some o ∨ nlO M.length o = true
section
variable {K : PySem.W.Frag} {H H0 : Hp} {m l : List Addr} {M Me : Mem} {a b : Addr}
theorem trim_nl (w0 : Wd K H0 m M) (t : trimOk M Me) : ∀ k o, k < m.length → Me[k]? = some o → nlO m.length o = true := fun k o hk h => by
  have hl := w0.len
  rcases t.2 k o (by omega) h with q | q
  · exact w0.nl o (List.mem_of_getElem? q)
  · rw [hl]; exact q
theorem Wd.trim (w : Wd K H (m ++ l) Me) (hl : m.length ≤ Me.length) (n : ∀ k o, k < m.length → Me[k]? = some o → nlO m.length o = true) : Wd K H m (Me.take m.length) := by
  refine ⟨by rw [List.length_take]; omega, (List.nodup_append.mp w.nd).1, fun k b o h1 h2 => ?_⟩
  have hk : k < m.length := (List.getElem?_eq_some_iff.mp h1).1
  rw [List.getElem?_take_of_lt hk] at h2
  exact (w.at_ k b o (by rw [List.getElem?_append_left hk]; exact h1) h2).cut (n k o hk h2)
theorem Wd.trimDel {ws : List V} (w : Wd K H (m ++ l) Me) (hl : m.length ≤ Me.length) (n : ∀ k o, k < m.length → Me[k]? = some o → nlO m.length o = true) (ha : H a = some (.lst ws)) (hm : a ∈ l) : Wd K (CI.del H a) m (Me.take m.length) := by
  refine ⟨by rw [List.length_take]; omega, (List.nodup_append.mp w.nd).1, fun k b o h1 h2 => ?_⟩
  have hk : k < m.length := (List.getElem?_eq_some_iff.mp h1).1
  rw [List.getElem?_take_of_lt hk] at h2
  refine (w.at_ k b o (by rw [List.getElem?_append_left hk]; exact h1) h2).del ha hm (fun z => ?_) (n k o hk h2)
  exact (List.nodup_append.mp w.nd).2.2 b (List.mem_of_getElem? h1) a hm z
end
open Classical in
noncomputable def finK (M : Mem) (r : Rz) (Me : Mem) : Rz × Mem :=
  if trimOk M Me then (match r with
    | .val (.loc k) => if k < M.length then (r, Me.take M.length) else match Me[k]? with
      | some (.lst ds) => if nls M.length ds = true then (.new ds, Me.take M.length) else (r, Me)
      | _ => (r, Me)
    | .val d => if nl M.length d = true then (r, Me.take M.length) else (r, Me)
    | .new ds => if nls M.length ds = true then (r, Me.take M.length) else (r, Me)) else (r, Me)
theorem finK_ok {K : PySem.W.Frag} {H0 : Hp} {m : List Addr} {M Me : Mem} {r : Rz} {Q : VK} (w0 : Wd K H0 m M) (P : Post K H0 m (finK M r Me).1 (finK M r Me).2 Q) : Post K H0 m r Me Q := by
  unfold finK at P
  split at P
  · rename_i ht
    have hn := trim_nl w0 ht
    have hlen := w0.len
    have hle : m.length ≤ Me.length := by rw [hlen]; exact ht.1
    rw [← hlen] at P
    cases r with
    | new ds =>
      simp only at P
      split at P
      · rename_i hd
        intro H1 m1 e1 w1 vs a r1 na
        obtain ⟨l, rfl, _⟩ := id e1.pre
        exact P H1 m e1.back (w1.trim hle hn) vs a (Rls.cut' r1 hd) na
      · exact P
    | val d =>
      have plain : ∀ d, nl m.length d = true → Post K H0 m (.val d) (Me.take m.length) Q → Post K H0 m (.val d) Me Q := fun d hd P => by
        intro H1 m1 e1 w1 v r1
        obtain ⟨l, rfl, _⟩ := id e1.pre
        exact P H1 m e1.back (w1.trim hle hn) v (r1.cut hd)
      cases d with
      | loc k =>
        simp only at P
        split at P
        · rename_i hk
          exact plain _ (by rw [nl]; exact decide_eq_true hk) P
        · rename_i hk
          split at P
          · rename_i ds hds
            split at P
            · rename_i hd
              intro H1 m1 e1 w1 v r1
              obtain ⟨l, rfl, _⟩ := id e1.pre
              rw [Rl] at r1
              obtain ⟨a, rfl, ha⟩ := r1
              obtain ⟨b, hb, vs, h1, h2⟩ := w1.get hds
              rw [ha] at hb; cases hb
              have hal : a ∈ l := by
                rw [List.getElem?_append_right (by omega)] at ha
                exact List.mem_of_getElem? ha
              have := P (del H1 a) m (e1.del (ws := vs) hal) (w1.trimDel hle hn h1 hal) vs a (Rls.del h1 hal h2 hd) del_same
              rw [upd_del h1] at this
              exact this
            · exact P
          · exact P
      | non => exact plain _ rfl (by simpa [nl] using P)
      | bl b => exact plain _ rfl (by simpa [nl] using P)
      | int b => exact plain _ rfl (by simpa [nl] using P)
      | str b => exact plain _ rfl (by simpa [nl] using P)
      | scr b => exact plain _ rfl (by simpa [nl] using P)
      | tup ds =>
        simp only at P
        split at P
        · rename_i hd; exact plain _ hd P
        · exact P
      | lst ds =>
        simp only at P
        split at P
        · rename_i hd; exact plain _ hd P
        · exact P
  · exact P

noncomputable def mkFnK (np ns : Nat) (body : Sf) : Fn := fun ds M => if ds.length = np then (match body (ds.map some ++ List.replicate (ns - ds.length) none) M with
  | some (.rt r, _, Me) => some (finK M r Me)
  | some (.nx, _, Me) => some (finK M (.val .non) Me)
  | _ => none) else none
theorem runK_ok {K : PySem.W.Frag} {N : List Str} {np : Nat} {fb : Sf} {vs : List V} {H : Hp} {Q : VK} {E : XK} (h : spF K (mkFnK np N.length fb) vs H Q E) : tS K fb { nx := fun _ H' => Q .non H', rt := Q } (L2.start N vs) H := by
  obtain ⟨ds, M, m, r, M', rd, w, hf, P⟩ := h
  unfold mkFnK at hf
  split at hf
  · split at hf
    · rename_i r' ρ' Me hb
      cases e : finK M r' Me with | mk a b =>
      rw [e] at hf; cases hf
      refine ⟨_, M, m, _, _, _, rs_start rd, w, hb, ?_⟩
      refine finK_ok w ?_
      rw [e]; exact P
    · rename_i ρ' Me hb
      cases e : finK M (.val .non) Me with | mk a b =>
      rw [e] at hf; cases hf
      refine ⟨_, M, m, _, _, _, rs_start rd, w, hb, fun H1 m1 σ1 e1 w1 rs1 => ?_⟩
      have P2 : Post K H m (.val .non) Me Q := finK_ok w (by rw [e]; exact P)
      exact P2 H1 m1 e1 w1 .non (by rw [Rl])
    · cases hf
  · cases hf
theorem spK_len {K : PySem.W.Frag} {np ns : Nat} {fb : Sf} {vs : List V} {H : Hp} {Q : VK} {E : XK} (h : spF K (mkFnK np ns fb) vs H Q E) : vs.length = np := by
  obtain ⟨ds, M, m, r, M', rd, w, hf, P⟩ := h
  unfold mkFnK at hf
  split at hf
  · rename_i hl; rw [← rd.length]; exact hl
  · cases hf
section
variable {P : Program} {w : World} {K : PySem.W.Frag} {mg : Str → Option Value} {base : Heap} {x qual : Str} {params : Arguments} {body : List Stmt} {scope : Scope} {f : Addr} {fd : FuncData}
theorem fnK_ok {N ps : List Str} {k : Nat} {fb : Sf} (F : FunD K x qual params body scope [] [] f fd) (S : FnScope N ps scope)
    (hb : ∀ (cdv : Value) (A : Around) (outer : List Env) (s : Shared) (H : Hp) (E : XK), Room k (A.deeper (envOfC qual scope s.heap.objs.size f cdv)) → CBx (cxOf CX0 P w K mg base N qual scope f cdv A outer s H E).nox body fb) :
    FnOk P w K mg base CX0 (k + 1) f fd ps (spF K (mkFnK ps.length N.length fb)) :=
  F.ok S (fun vs H Q E h => spK_len h) fun cdv A outer s H vs Q E hr h => ⟨_, PSs.nox (hb cdv A outer s H E hr), runK_ok h⟩
end

/-! ### loops that tidy up -/
def nlS (n : Nat) : Slots → Bool
  | [] => true
  | none :: ρ => nlS n ρ
  | some d :: ρ => nl n d && nlS n ρ
/-- the slots that are read later -/
def keepD : List Bool → Slots → Slots
  | true :: bs, o :: ρ => o :: keepD bs ρ
  | false :: bs, _ :: ρ => none :: keepD bs ρ
  | _, ρ => ρ
open Classical in
noncomputable def tidy (kl : List Bool) (M : Mem) (ρ : Slots) (Me : Mem) : Slots × Mem := if trimOk M Me ∧ nlS M.length (keepD kl ρ) = true then (keepD kl ρ, Me.take M.length) else (keepD kl ρ, Me)
theorem keepD_len : ∀ {kl : List Bool} {ρ : Slots}, (keepD kl ρ).length = ρ.length
  | [], _ => by simp [keepD]
  | true :: _, [] => rfl
  | false :: _, [] => rfl
  | true :: bs, o :: ρ => by rw [keepD, List.length_cons, List.length_cons, keepD_len]
  | false :: bs, o :: ρ => by rw [keepD, List.length_cons, List.length_cons, keepD_len]
theorem keepD_get : ∀ {kl : List Bool} {ρ : Slots} {i : Nat} {d : D}, (keepD kl ρ)[i]? = some (some d) → ρ[i]? = some (some d)
  | [], _, _, _, h => by simpa [keepD] using h
  | true :: _, [], _, _, h => by simp [keepD] at h
  | false :: _, [], _, _, h => by simp [keepD] at h
  | true :: bs, o :: ρ, 0, d, h => by simpa [keepD] using h
  | true :: bs, o :: ρ, i + 1, d, h => by
    rw [keepD] at h
    simpa using keepD_get (i := i) (by simpa using h)
  | false :: bs, o :: ρ, 0, d, h => by simp [keepD] at h
  | false :: bs, o :: ρ, i + 1, d, h => by
    rw [keepD] at h
    simpa using keepD_get (i := i) (by simpa using h)
theorem Rs.keep {K : PySem.W.Frag} {H : Hp} {m : List Addr} {σ : L2.St} {ρ : Slots} (kl : List Bool) (h : Rs K H m ρ σ) : Rs K H m (keepD kl ρ) σ :=
  ⟨by rw [keepD_len]; exact h.1, fun i d q => h.2 i d (keepD_get q)⟩
theorem nlS_get {n : Nat} : ∀ {ρ : Slots}, nlS n ρ = true → ∀ {i : Nat} {d : D}, ρ[i]? = some (some d) → nl n d = true
  | [], _, i, d, h => by simp at h
  | none :: ρ, h, i, d, q => by
    rw [nlS] at h
    cases i with
    | zero => simp at q
    | succ i => exact nlS_get h (i := i) (by simpa using q)
  | some e :: ρ, h, i, d, q => by
    rw [nlS, Bool.and_eq_true] at h
    cases i with
    | zero => simp at q; subst q; exact h.1
    | succ i => exact nlS_get h.2 (i := i) (by simpa using q)
theorem Rs.trim {K : PySem.W.Frag} {H : Hp} {m l : List Addr} {ρ : Slots} {σ : L2.St} (h : Rs K H (m ++ l) ρ σ) (n : nlS m.length ρ = true) : Rs K H m ρ σ :=
  ⟨h.1, fun i d q => let ⟨v, h1, h2⟩ := h.2 i d q; ⟨v, h1, h2.cut (nlS_get n q)⟩⟩
theorem tidy_ok {K : PySem.W.Frag} {H0 H1 : Hp} {m m1 : List Addr} {M Me : Mem} {ρ : Slots} {σ : L2.St} {kl : List Bool} (w0 : Wd K H0 m M) (e : Ext H0 m H1 m1) (w : Wd K H1 m1 Me) (rs : Rs K H1 m1 ρ σ) :
    ∃ m2, Ext H0 m H1 m2 ∧ Wd K H1 m2 (tidy kl M ρ Me).2 ∧ Rs K H1 m2 (tidy kl M ρ Me).1 σ := by
  unfold tidy
  split
  · rename_i h
    obtain ⟨l, rfl, _⟩ := id e.pre
    have hlen := w0.len
    refine ⟨m, e.back, ?_, ?_⟩
    · rw [← hlen]
      exact w.trim (by rw [hlen]; exact h.1.1) (trim_nl w0 h.1)
    · refine (rs.keep kl).trim ?_
      rw [hlen]; exact h.2
  · exact ⟨m1, e, w, rs.keep kl⟩
def Fl.goes : Fl → Bool
  | .nx => true
  | .ct => true
  | _ => false
open Classical in
noncomputable def stpK (kl : List Bool) (gk : Option Nat) (ds : List D) (g : Gf) (body : Sf) : Stp := fun d ρ M => (g d ρ M).bind fun p => (body p.1 p.2).bind fun q =>
  if q.1.goes = true then (if guard gk ds (tidy kl M q.2.1 q.2.2).2 then some (q.1, tidy kl M q.2.1 q.2.2) else none) else some (match q.1 with
  | .rt r => (.rt r, [], q.2.2)
  | _ => q)
noncomputable def sForK (kl : List Bool) (it : If) (g : Gf) (body : Sf) : Sf := fun ρ M => (it ρ M).bind fun p => loopF (stpK kl p.2.1 p.1 g body) p.1 (keepD kl ρ) p.2.2
section
variable {X : Cx} {tg iter : Expr} {body : List Stmt} {it : If} {g : Gf} {fb : Sf} {pos : Pos}
theorem cs_forK {kl : List Bool} (hp : PassesOwn (model X.prog X.w) X.A X.env X.xe) (hc : X.calm = true) (hi : CIx X tg iter it) (hg : CGx X tg g) (hb : CBx X body fb)
    (hs : ∀ x, foldedSetIterable iter X.env x = pure x := by intro _; rfl) : CSx X (.For tg iter body [] pos) (sForK kl it g fb) := PS.imp (ps_for hp hc hi hg hb hs) fun Dn σ H h => by
  obtain ⟨ρ, M, m, fl, ρ', M', rs, w, hf, P⟩ := h
  unfold sForK at hf
  cases ea : it ρ M with
  | none => rw [ea] at hf; cases hf
  | some p =>
    obtain ⟨ds, gk, M1⟩ := p
    rw [ea] at hf
    simp only [Option.bind_some] at hf
    refine ⟨ρ, M, m, ds, gk, M1, rs, w, ea, fun H1 m1 J e1 w1 gd1 Y => ?_⟩
    refine ⟨fun i n σ H => n = ds.length - i ∧ i ≤ ds.length ∧ ∃ ρ2 M2 m2, Ext H1 m1 H m2 ∧ Rs X.K H m2 ρ2 σ ∧ Wd X.K H m2 M2 ∧ GdOk X.K gk ds H m2 ∧ loopF (stpK kl gk ds g fb) (ds.drop i) ρ2 M2 = some (fl, ρ', M'),
      ⟨ds.length, by simp, Nat.zero_le _, keepD kl ρ, M1, m1, .refl, (rs.ext e1).keep kl, w1, gd1, by simpa using hf⟩, ?_⟩
    rintro i n σ H ⟨rfl, hle, ρ2, M2, m2, e2, rs2, w2, gd2, hl⟩
    by_cases hlt : i < ds.length
    · refine .inr ⟨Y.go i H m2 hlt e2 gd2, ?_⟩
      have hd : ds.drop i = ds[i] :: ds.drop (i + 1) := List.drop_eq_getElem_cons hlt
      rw [hd] at hl
      unfold loopF at hl
      cases es : stpK kl gk ds g fb ds[i] ρ2 M2 with
      | none => rw [es] at hl; cases hl
      | some q =>
        obtain ⟨fl1, ρ3, M3⟩ := q
        rw [es] at hl
        simp only [Option.bind_some] at hl
        refine ⟨fun σ' H' => ∃ m3, Ext H m2 H' m3 ∧ Rs X.K H' m3 ρ3 σ' ∧ Wd X.K H' m3 M3 ∧ GdOk X.K gk ds H' m3 ∧ loopF (stpK kl gk ds g fb) (ds.drop (i + 1)) ρ3 M3 = some (fl, ρ', M'),
          fun σ' H' ⟨m3, e3, rs3, w3, gd3, hl3⟩ => ⟨ds.length - (i + 1), by omega, rfl, hlt, ρ3, M3, m3, e2.trans e3, rs3, w3, gd3, hl3⟩, fun x H' y => ?_⟩
        obtain ⟨e3, w3, r3⟩ := Y.yld i ds[i] H m2 M2 x H' (List.getElem?_eq_getElem hlt) e2 gd2 w2 y
        unfold stpK at es
        cases eg : g ds[i] ρ2 M2 with
        | none => rw [eg] at es; cases es
        | some q =>
          rw [eg] at es
          simp only [Option.bind_some] at es
          cases eb : fb q.1 q.2 with
          | none => rw [eb] at es; cases es
          | some q2 =>
            obtain ⟨fl2, ρb, Mb⟩ := q2
            rw [eb] at es
            simp only [Option.bind_some] at es
            refine ⟨ds[i], ρ2, M2, m2, q.1, q.2, r3, rs2.ext e3, w3, eg, fun H4 m4 σ4 e4 w4 rs4 => ?_⟩
            refine ⟨q.1, q.2, m4, fl2, ρb, Mb, rs4, w4, eb, ?_⟩
            have eT : Ext H m2 H4 m4 := e3.trans e4
            have PT := P.ext ((e1.trans e2).trans eT)
            have goes : fl2.goes = true → PostN X.K H4 m4 ρb Mb (fun σ' H' => ∃ m3, Ext H m2 H' m3 ∧ Rs X.K H' m3 ρ3 σ' ∧ Wd X.K H' m3 M3 ∧ GdOk X.K gk ds H' m3 ∧ loopF (stpK kl gk ds g fb) (ds.drop (i + 1)) ρ3 M3 = some (fl, ρ', M')) := by
              intro hgo H5 m5 σ5 e5 w5 rs5
              rw [if_pos hgo] at es
              split at es
              · rename_i hgd
                simp only [Option.some.injEq, Prod.mk.injEq] at es
                obtain ⟨rfl, hty⟩ := es
                obtain ⟨m6, e6, w6, rs6⟩ := tidy_ok (kl := kl) w2 (eT.trans e5) w5 rs5
                -- the tidied memory stands on the memory ahead of the turn
                have h1 : (tidy kl M2 ρb Mb).1 = ρ3 := by rw [hty]
                have h2 : (tidy kl M2 ρb Mb).2 = M3 := by rw [hty]
                rw [h1] at rs6
                rw [h2] at w6 hgd
                refine ⟨m6, e6, rs6, w6, gd_of w6 hgd, ?_⟩
                cases fl2 with
                | nx => exact hl
                | ct => exact hl
                | bk => cases hgo
                | rt r => cases hgo
              · cases es
            cases fl2 with
            | nx => exact goes rfl
            | ct => exact goes rfl
            | bk =>
              simp only [Fl.goes, Bool.false_eq_true, if_false, Option.some.injEq, Prod.mk.injEq] at es
              obtain ⟨rfl, rfl, rfl⟩ := es
              simp only [Option.some.injEq, Prod.mk.injEq] at hl
              obtain ⟨rfl, rfl, rfl⟩ := hl
              exact PT
            | rt r =>
              simp only [Fl.goes, Bool.false_eq_true, if_false, Option.some.injEq, Prod.mk.injEq] at es
              obtain ⟨rfl, rfl, rfl⟩ := es
              simp only [Option.some.injEq, Prod.mk.injEq] at hl
              obtain ⟨rfl, rfl, rfl⟩ := hl
              exact PT
    · have e : i = ds.length := by omega
      subst e
      rw [List.drop_length] at hl
      cases hl
      exact .inl ⟨Y.stop H m2 e2 gd2, P H m2 σ (e1.trans e2) w2 rs2⟩
end
noncomputable def whK (kl : List Bool) (t : Tf) (body : Sf) : Nat → Slots → Mem → Option (Fl × Slots × Mem)
  | 0, _, _ => none
  | n + 1, ρ, M => (t ρ M).bind fun p => if p.1 = true then (body ρ p.2).bind fun q => (match q.1 with
      | .nx => whK kl t body n (tidy kl M q.2.1 q.2.2).1 (tidy kl M q.2.1 q.2.2).2
      | .ct => whK kl t body n (tidy kl M q.2.1 q.2.2).1 (tidy kl M q.2.1 q.2.2).2
      | .bk => some (.nx, q.2.1, q.2.2)
      | .rt r => some (.rt r, q.2.1, q.2.2)) else some (.nx, ρ, p.2)
noncomputable def sWhileK (kl : List Bool) (n : Nat) (t : Tf) (body : Sf) : Sf := fun ρ M => whK kl t body n (keepD kl ρ) M
section
variable {X : Cx} {c : Expr} {body : List Stmt} {t : Tf} {fb : Sf} {pos : Pos}
theorem cs_whileK {kl : List Bool} {n : Nat} (hp : PassesOwn (model X.prog X.w) X.A X.env X.xe) (hc : CTx X c t) (hb : CBx X body fb) : CSx X (.While c body [] pos) (sWhileK kl n t fb) := PS.imp (ps_while hp hc hb) fun Dn σ H h => by
  obtain ⟨ρ, M, m, fl, ρ', M', rs, w, hf, P⟩ := h
  unfold sWhileK at hf
  refine ⟨fun n σ H1 => ∃ ρ2 M2 m2, Ext H m H1 m2 ∧ Rs X.K H1 m2 ρ2 σ ∧ Wd X.K H1 m2 M2 ∧ whK kl t fb n ρ2 M2 = some (fl, ρ', M'), ⟨n, _, M, m, .refl, rs.keep kl, w, hf⟩, ?_⟩
  rintro n σ H1 ⟨ρ2, M2, m2, e2, rs2, w2, hl⟩
  cases n with
  | zero => cases hl
  | succ n =>
    unfold whK at hl
    cases et : t ρ2 M2 with
    | none => rw [et] at hl; cases hl
    | some p =>
      rw [et] at hl
      simp only [Option.bind_some] at hl
      refine bindT rs2 w2 et fun H3 m3 e3 w3 rs3 => ?_
      split at hl
      · rename_i hb1
        rw [if_pos hb1]
        cases eb : fb ρ2 p.2 with
        | none => rw [eb] at hl; cases hl
        | some q =>
          obtain ⟨fl1, ρ3, M3⟩ := q
          rw [eb] at hl
          simp only [Option.bind_some] at hl
          refine ⟨fun σ' H' => ∃ m4, Ext H1 m2 H' m4 ∧ Rs X.K H' m4 (tidy kl M2 ρ3 M3).1 σ' ∧ Wd X.K H' m4 (tidy kl M2 ρ3 M3).2 ∧ whK kl t fb n (tidy kl M2 ρ3 M3).1 (tidy kl M2 ρ3 M3).2 = some (fl, ρ', M'),
            fun σ' H' ⟨m4, e4, rs4, w4, hl4⟩ => ⟨n, Nat.lt_succ_self _, _, _, m4, e2.trans e4, rs4, w4, hl4⟩, ρ2, p.2, m3, fl1, ρ3, M3, rs3, w3, eb, ?_⟩
          have PT := P.ext (e2.trans e3)
          cases fl1 with
          | nx =>
            intro H5 m5 σ5 e5 w5 rs5
            obtain ⟨m6, e6, w6, rs6⟩ := tidy_ok (kl := kl) w2 (e3.trans e5) w5 rs5
            exact ⟨m6, e6, rs6, w6, hl⟩
          | ct =>
            intro H5 m5 σ5 e5 w5 rs5
            obtain ⟨m6, e6, w6, rs6⟩ := tidy_ok (kl := kl) w2 (e3.trans e5) w5 rs5
            exact ⟨m6, e6, rs6, w6, hl⟩
          | bk =>
            simp only [Option.some.injEq, Prod.mk.injEq] at hl
            obtain ⟨rfl, rfl, rfl⟩ := hl
            exact PT
          | rt r =>
            simp only [Option.some.injEq, Prod.mk.injEq] at hl
            obtain ⟨rfl, rfl, rfl⟩ := hl
            exact PT
      · rename_i hb1
        rw [if_neg hb1]
        cases hl
        exact P H3 m3 σ (e2.trans e3) w3 rs3
end
end CI

/-! N16: reckoning, step by step -/
namespace CI
open PySem PySem.Spec PyProof.Rows L2
def bnd {α β : Type} (k : α → Option β) (o : Option α) : Option β := o.bind k
@[simp] theorem bnd_some {α β : Type} {k : α → Option β} {p : α} : bnd k (some p) = k p := rfl
@[simp] theorem bnd_none {α β : Type} {k : α → Option β} : bnd k none = none := rfl
@[simp] theorem bnd_ite {α β : Type} {c : Prop} [Decidable c] {k : α → Option β} {x y : Option α} : bnd k (if c then x else y) = if c then bnd k x else bnd k y := by split <;> rfl
@[simp] theorem Rz_d_val {d : D} : (Rz.val d).d = d := rfl
@[simp] theorem Rz_d_new {ds : List D} : (Rz.new ds).d = .lst ds := rfl
section
variable {ρ : Slots} {M : Mem} {d e : D} {r : Rz} {b c : Bool} {ds : List D} {fa fb fc f fo fv : Ef} {ta tb t : Tf} {g : Af} {o o' : Bop} {i j : Int}
def ret1 (M : Mem) (r : Rz) : Option (Rz × Mem) := some (r, M)
@[simp] theorem ret1_ap : ret1 M r = some (r, M) := rfl
def var1 (M : Mem) (d : D) : Option (Rz × Mem) := some (.val d, M)
@[simp] theorem cVar_ap {i : Nat} : cVar i ρ M = bnd (var1 M) (slot ρ i) := rfl
@[simp] theorem var1_ap : var1 M d = some (.val d, M) := rfl
@[simp] theorem slot_zero {o : Option D} {ρ : Slots} : slot (o :: ρ) 0 = o := rfl
@[simp] theorem slot_succ {o : Option D} {ρ : Slots} {i : Nat} : slot (o :: ρ) (i + 1) = slot ρ i := rfl
@[simp] theorem cVal_ap : cVal d ρ M = some (.val d, M) := rfl
def cBin1 (o : Bop) (fb : Ef) (ρ : Slots) (p : Rz × Mem) : Option (Rz × Mem) := (fb ρ p.2).bind fun q => (o p.1.d q.1.d q.2).bind fun r => some (r, q.2)
def cBin2 (o : Bop) (d : D) (q : Rz × Mem) : Option (Rz × Mem) := (o d q.1.d q.2).bind fun r => some (r, q.2)
@[simp] theorem cBin_ap : cBin o fa fb ρ M = bnd (cBin1 o fb ρ) (fa ρ M) := rfl
@[simp] theorem cBin1_ap : cBin1 o fb ρ (r, M) = bnd (cBin2 o r.d) (fb ρ M) := rfl
@[simp] theorem cBin2_ap : cBin2 o d (r, M) = bnd (ret1 M) (o d r.d M) := rfl
def toB1 (p : Rz × Mem) : Option (Bool × Mem) := match p.1.d with | .bl b => some (b, p.2) | _ => none
@[simp] theorem toB_ap : toB f ρ M = bnd toB1 (f ρ M) := rfl
@[simp] theorem toB1_ap : toB1 (.val (.bl b), M) = some (b, M) := rfl
def cCh4 (o' : Bop) (e : D) (s : Rz × Mem) : Option (Rz × Mem) := (o' e s.1.d s.2).bind fun z => some (z, s.2)
def cCh3 (o' : Bop) (fc : Ef) (ρ : Slots) (e : D) (M : Mem) (r : Rz) : Option (Rz × Mem) := match r with
  | .val (.bl true) => (fc ρ M).bind (cCh4 o' e)
  | .val (.bl false) => some (.val (.bl false), M)
  | _ => none
def cCh2 (o o' : Bop) (fc : Ef) (ρ : Slots) (d : D) (q : Rz × Mem) : Option (Rz × Mem) := (o d q.1.d q.2).bind (cCh3 o' fc ρ q.1.d q.2)
def cCh1 (o o' : Bop) (fb fc : Ef) (ρ : Slots) (p : Rz × Mem) : Option (Rz × Mem) := (fb ρ p.2).bind (cCh2 o o' fc ρ p.1.d)
@[simp] theorem cChain_ap : cChain o o' fa fb fc ρ M = bnd (cCh1 o o' fb fc ρ) (fa ρ M) := rfl
@[simp] theorem cCh1_ap : cCh1 o o' fb fc ρ (r, M) = bnd (cCh2 o o' fc ρ r.d) (fb ρ M) := rfl
@[simp] theorem cCh2_ap : cCh2 o o' fc ρ d (r, M) = bnd (cCh3 o' fc ρ r.d M) (o d r.d M) := rfl
@[simp] theorem cCh3_ap : cCh3 o' fc ρ e M (.val (.bl b)) = if b = true then bnd (cCh4 o' e) (fc ρ M) else some (.val (.bl false), M) := by cases b <;> rfl
@[simp] theorem cCh4_ap : cCh4 o' e (r, M) = bnd (ret1 M) (o' e r.d M) := rfl
def kAnd1 (tb : Tf) (ρ : Slots) (p : Bool × Mem) : Option (Bool × Mem) := if p.1 = true then tb ρ p.2 else some (false, p.2)
def kOr1 (tb : Tf) (ρ : Slots) (p : Bool × Mem) : Option (Bool × Mem) := if p.1 = true then some (true, p.2) else tb ρ p.2
def kNot1 (p : Bool × Mem) : Option (Bool × Mem) := some (!p.1, p.2)
@[simp] theorem kAnd_ap : kAnd ta tb ρ M = bnd (kAnd1 tb ρ) (ta ρ M) := rfl
@[simp] theorem kAnd1_ap : kAnd1 tb ρ (b, M) = if b = true then tb ρ M else some (false, M) := rfl
@[simp] theorem kOr_ap : kOr ta tb ρ M = bnd (kOr1 tb ρ) (ta ρ M) := rfl
@[simp] theorem kOr1_ap : kOr1 tb ρ (b, M) = if b = true then some (true, M) else tb ρ M := rfl
@[simp] theorem kNot_ap : kNot ta ρ M = bnd kNot1 (ta ρ M) := rfl
@[simp] theorem kNot1_ap : kNot1 (b, M) = some (!b, M) := rfl
theorem mg_andB {p : Prop} [Decidable p] : (if p then some (c, M) else some (false, M)) = some (decide p && c, M) := by by_cases h : p <;> simp [h]
theorem mg_orB {p : Prop} [Decidable p] : (if p then some (true, M) else some (c, M)) = some (decide p || c, M) := by by_cases h : p <;> simp [h]
@[simp] theorem mg_B {p : Prop} [Decidable p] : (if p then some (b, M) else some (c, M)) = some (if p then b else c, M) := by split <;> rfl
def cAnd1 (fb : Ef) (ρ : Slots) (p : Rz × Mem) : Option (Rz × Mem) := match p.1.d with | .bl true => fb ρ p.2 | .bl false => some (.val (.bl false), p.2) | _ => none
def cOr1 (fb : Ef) (ρ : Slots) (p : Rz × Mem) : Option (Rz × Mem) := match p.1.d with | .bl true => some (.val (.bl true), p.2) | .bl false => fb ρ p.2 | _ => none
def cNot1 (p : Rz × Mem) : Option (Rz × Mem) := match p.1.d with | .bl b => some (.val (.bl (!b)), p.2) | _ => none
def cIf1 (fa fb : Ef) (ρ : Slots) (p : Bool × Mem) : Option (Rz × Mem) := if p.1 = true then fa ρ p.2 else fb ρ p.2
@[simp] theorem cAnd_ap : cAnd fa fb ρ M = bnd (cAnd1 fb ρ) (fa ρ M) := rfl
@[simp] theorem cAnd1_ap : cAnd1 fb ρ (.val (.bl b), M) = if b = true then fb ρ M else some (.val (.bl false), M) := by cases b <;> rfl
@[simp] theorem cOr_ap : cOr fa fb ρ M = bnd (cOr1 fb ρ) (fa ρ M) := rfl
@[simp] theorem cOr1_ap : cOr1 fb ρ (.val (.bl b), M) = if b = true then some (.val (.bl true), M) else fb ρ M := by cases b <;> rfl
@[simp] theorem cNot_ap : cNot fa ρ M = bnd cNot1 (fa ρ M) := rfl
@[simp] theorem cNot1_ap : cNot1 (.val (.bl b), M) = some (.val (.bl (!b)), M) := rfl
@[simp] theorem cIf_ap : cIf t fa fb ρ M = bnd (cIf1 fa fb ρ) (t ρ M) := rfl
@[simp] theorem cIf1_ap : cIf1 fa fb ρ (b, M) = if b = true then fa ρ M else fb ρ M := rfl
@[simp] theorem mg_bl {p : Prop} [Decidable p] : (if p then some (Rz.val (.bl b), M) else some (Rz.val (.bl c), M)) = some (Rz.val (.bl (if p then b else c)), M) := by split <;> rfl
@[simp] theorem mg_int {p : Prop} [Decidable p] : (if p then some (Rz.val (.int i), M) else some (Rz.val (.int j), M)) = some (Rz.val (.int (if p then i else j)), M) := by split <;> rfl
@[simp] theorem mg_str {p : Prop} [Decidable p] {i j : Str} : (if p then some (Rz.val (.str i), M) else some (Rz.val (.str j), M)) = some (Rz.val (.str (if p then i else j)), M) := by split <;> rfl
/-! argument lists, displays -/
def aCons1 (g : Af) (ρ : Slots) (p : Rz × Mem) : Option (List D × Mem) := (g ρ p.2).bind fun q => some (p.1.d :: q.1, q.2)
def aCons2 (d : D) (q : List D × Mem) : Option (List D × Mem) := some (d :: q.1, q.2)
@[simp] theorem aNil_ap : aNil ρ M = some ([], M) := rfl
@[simp] theorem aCons_ap : aCons f g ρ M = bnd (aCons1 g ρ) (f ρ M) := rfl
@[simp] theorem aCons1_ap : aCons1 g ρ (r, M) = bnd (aCons2 r.d) (g ρ M) := rfl
@[simp] theorem aCons2_ap : aCons2 d (ds, M) = some (d :: ds, M) := rfl
def aStar2 (g : Af) (ρ : Slots) (M : Mem) (ds : List D) : Option (List D × Mem) := (g ρ M).bind fun q => some (ds ++ q.1, q.2)
def aStar1 (g : Af) (ρ : Slots) (p : Rz × Mem) : Option (List D × Mem) := (asS p.2 p.1.d).bind (aStar2 g ρ p.2)
def aStar3 (ds : List D) (q : List D × Mem) : Option (List D × Mem) := some (ds ++ q.1, q.2)
@[simp] theorem aStar_ap : aStar' f g ρ M = bnd (aStar1 g ρ) (f ρ M) := rfl
@[simp] theorem aStar1_ap : aStar1 g ρ (r, M) = bnd (aStar2 g ρ M) (asS M r.d) := rfl
@[simp] theorem aStar2_ap : aStar2 g ρ M ds = bnd (aStar3 ds) (g ρ M) := rfl
@[simp] theorem aStar3_ap {es : List D} : aStar3 ds (es, M) = some (ds ++ es, M) := rfl
def cTup1 (p : List D × Mem) : Option (Rz × Mem) := if p.1.length ≤ sizeLine then some (.val (.tup p.1), p.2) else none
def cLst1 (p : List D × Mem) : Option (Rz × Mem) := if p.1.length ≤ sizeLine then some (.new p.1, p.2) else none
@[simp] theorem cTup_ap : cTup g ρ M = bnd cTup1 (g ρ M) := rfl
@[simp] theorem cTup1_ap : cTup1 (ds, M) = if ds.length ≤ sizeLine then some (.val (.tup ds), M) else none := rfl
@[simp] theorem cLst_ap : cLst g ρ M = bnd cLst1 (g ρ M) := rfl
@[simp] theorem cLst1_ap : cLst1 (ds, M) = if ds.length ≤ sizeLine then some (.new ds, M) else none := rfl
def sSome1 (p : Rz × Mem) : Option (Option Int × Mem) := match p.1.d with | .int i => some (some i, p.2) | _ => none
@[simp] theorem sNone_ap : sNone ρ M = some (none, M) := rfl
@[simp] theorem sSome_ap : sSome f ρ M = bnd sSome1 (f ρ M) := rfl
@[simp] theorem sSome1_ap : sSome1 (.val (.int i), M) = some (some i, M) := rfl
def cSl3 (lo : Option Int) (d : D) (q : Option Int × Mem) : Option (Rz × Mem) := (oSl lo q.1 d q.2).bind fun z => some (z, q.2)
def cSl2 (h : Of) (ρ : Slots) (d : D) (q : Option Int × Mem) : Option (Rz × Mem) := (h ρ q.2).bind (cSl3 q.1 d)
def cSl1 (l h : Of) (ρ : Slots) (p : Rz × Mem) : Option (Rz × Mem) := (l ρ p.2).bind (cSl2 h ρ p.1.d)
@[simp] theorem cSl_ap {l h : Of} : cSl f l h ρ M = bnd (cSl1 l h ρ) (f ρ M) := rfl
@[simp] theorem cSl1_ap {l h : Of} : cSl1 l h ρ (r, M) = bnd (cSl2 h ρ r.d) (l ρ M) := rfl
@[simp] theorem cSl2_ap {h : Of} {lo : Option Int} : cSl2 h ρ d (lo, M) = bnd (cSl3 lo d) (h ρ M) := rfl
@[simp] theorem cSl3_ap {lo hi : Option Int} : cSl3 lo d (hi, M) = bnd (ret1 M) (oSl lo hi d M) := rfl
def cCB1 (o : Cop) (p : List D × Mem) : Option (Rz × Mem) := (o p.1 p.2).bind fun r => some (r, p.2)
@[simp] theorem cCB_ap {o : Cop} : cCB o g ρ M = bnd (cCB1 o) (g ρ M) := rfl
@[simp] theorem cCB1_ap {o : Cop} : cCB1 o (ds, M) = bnd (ret1 M) (o ds M) := rfl
def isI3 (M : Mem) (b : Bool) : Option (Rz × Mem) := some (.val (.bl b), M)
def isI2 (n : String) (M : Mem) (t : String) : Option (Rz × Mem) := (kitB t n).bind (isI3 M)
def isI1 (n : String) (p : Rz × Mem) : Option (Rz × Mem) := (tyOf p.2 p.1.d).bind (isI2 n p.2)
@[simp] theorem cIsI_ap {n : String} : cIsI n f ρ M = bnd (isI1 n) (f ρ M) := rfl
@[simp] theorem isI1_ap {n : String} : isI1 n (r, M) = bnd (isI2 n M) (tyOf M r.d) := rfl
@[simp] theorem isI2_ap {n t : String} : isI2 n M t = bnd (isI3 M) (kitB t n) := rfl
@[simp] theorem isI3_ap : isI3 M b = some (.val (.bl b), M) := rfl
def toTr2 (M : Mem) (b : Bool) : Option (Bool × Mem) := some (b, M)
def toTr1 (p : Rz × Mem) : Option (Bool × Mem) := (trD p.2 p.1.d).bind (toTr2 p.2)
@[simp] theorem toTr_ap : toTr f ρ M = bnd toTr1 (f ρ M) := rfl
@[simp] theorem toTr1_ap : toTr1 (r, M) = bnd (toTr2 M) (trD M r.d) := rfl
@[simp] theorem toTr2_ap : toTr2 M b = some (b, M) := rfl
def cCall1 (F : Fn) (p : List D × Mem) : Option (Rz × Mem) := F p.1 p.2
@[simp] theorem cCall_ap {F : Fn} : cCall F g ρ M = bnd (cCall1 F) (g ρ M) := rfl
@[simp] theorem cCall1_ap {F : Fn} : cCall1 F (ds, M) = F ds M := rfl
def cNew2 (k : Nat) (q : Rz × Mem) : Option (Rz × Mem) := match q.1 with | .val .non => some (.val (.loc k), q.2) | _ => none
def cNew1 (c : Str) (F : Fn) (p : List D × Mem) : Option (Rz × Mem) := (F (.loc p.2.length :: p.1) (p.2 ++ [.ins c []])).bind (cNew2 p.2.length)
@[simp] theorem cNew_ap {F : Fn} {c : Str} : cNew c F g ρ M = bnd (cNew1 c F) (g ρ M) := rfl
@[simp] theorem cNew1_ap {F : Fn} {c : Str} : cNew1 c F (ds, M) = bnd (cNew2 M.length) (F (.loc M.length :: ds) (M ++ [.ins c []])) := rfl
@[simp] theorem cNew2_ap {k : Nat} : cNew2 k (.val .non, M) = some (.val (.loc k), M) := rfl
def cMe2 (F : Fn) (k : Nat) (q : List D × Mem) : Option (Rz × Mem) := F (.loc k :: q.1) q.2
def cMe3 (c m : Str) (F : Fn) (g : Af) (ρ : Slots) (k : Nat) (M : Mem) (o : O) : Option (Rz × Mem) := match o with
  | .ins c' fs => if c' = c ∧ fs.lookup m = none then (g ρ M).bind (cMe2 F k) else none
  | _ => none
def cMe1 (c m : Str) (F : Fn) (g : Af) (ρ : Slots) (p : Rz × Mem) : Option (Rz × Mem) := match p.1.d with
  | .loc k => (p.2[k]?).bind (cMe3 c m F g ρ k p.2)
  | _ => none
@[simp] theorem cMeth_ap {F : Fn} {c m : Str} : cMeth c m F f g ρ M = bnd (cMe1 c m F g ρ) (f ρ M) := by
  show (f ρ M).bind _ = (f ρ M).bind _
  congr 1
  funext ⟨r, M2⟩
  unfold cMe1
  cases hd : r.d with
  | loc k =>
    simp only [hd]
    cases hk : M2[k]? with
    | none => rfl
    | some o => cases o <;> rfl
  | _ => simp only [hd]
@[simp] theorem cMe1_ap {F : Fn} {c m : Str} {k : Nat} : cMe1 c m F g ρ (.val (.loc k), M) = bnd (cMe3 c m F g ρ k M) M[k]? := rfl
@[simp] theorem cMe3_ap {F : Fn} {c c' m : Str} {k : Nat} {fs : List (Str × D)} : cMe3 c m F g ρ k M (.ins c' fs) = if c' = c ∧ fs.lookup m = none then bnd (cMe2 F k) (g ρ M) else none := rfl
@[simp] theorem cMe2_ap {F : Fn} {k : Nat} : cMe2 F k (ds, M) = F (.loc k :: ds) M := rfl
def cFl2 (cs : List Str) (n : Str) (M : Mem) (o : O) : Option (Rz × Mem) := match o with
  | .ins c fs => if c ∈ cs then (fs.lookup n).bind (var1 M) else none
  | _ => none
def cFl1 (cs : List Str) (n : Str) (p : Rz × Mem) : Option (Rz × Mem) := match p.1.d with
  | .loc k => (p.2[k]?).bind (cFl2 cs n p.2)
  | _ => none
@[simp] theorem cFld_ap {cs : List Str} {n : Str} : cFld cs n f ρ M = bnd (cFl1 cs n) (f ρ M) := by
  show (f ρ M).bind _ = (f ρ M).bind _
  congr 1
  funext ⟨r, M2⟩
  unfold cFl1
  cases hd : r.d with
  | loc k =>
    simp only [hd]
    cases hk : M2[k]? with
    | none => rfl
    | some o => cases o <;> rfl
  | _ => simp only [hd]
@[simp] theorem cFl1_ap {cs : List Str} {n : Str} {k : Nat} : cFl1 cs n (.val (.loc k), M) = bnd (cFl2 cs n M) M[k]? := rfl
@[simp] theorem cFl2_ap {cs : List Str} {n c : Str} {fs : List (Str × D)} : cFl2 cs n M (.ins c fs) = if c ∈ cs then bnd (var1 M) (fs.lookup n) else none := rfl
def cBM2 (o : Mop) (d : D) (q : List D × Mem) : Option (Rz × Mem) := o d q.1 q.2
def cBM1 (T : String) (o : Mop) (g : Af) (ρ : Slots) (p : Rz × Mem) : Option (Rz × Mem) := if tyOf p.2 p.1.d = some T then (g ρ p.2).bind (cBM2 o p.1.d) else none
@[simp] theorem cBM_ap {T : String} {o : Mop} : cBM T o f g ρ M = bnd (cBM1 T o g ρ) (f ρ M) := rfl
@[simp] theorem cBM1_ap {T : String} {o : Mop} : cBM1 T o g ρ (r, M) = if tyOf M r.d = some T then bnd (cBM2 o r.d) (g ρ M) else none := rfl
@[simp] theorem cBM2_ap {o : Mop} : cBM2 o d (ds, M) = o d ds M := rfl
def cNeg1 (p : Rz × Mem) : Option (Rz × Mem) := match p.1.d with | .int i => some (.val (.int (-i)), p.2) | _ => none
@[simp] theorem cNeg_ap : cNeg f ρ M = bnd cNeg1 (f ρ M) := rfl
@[simp] theorem cNeg1_ap : cNeg1 (.val (.int i), M) = some (.val (.int (-i)), M) := rfl
def lRg2 (d : D) (q : Rz × Mem) : Option (Rz × Mem) := match d, q.1.d with
  | .int i, .int j => if bRg i j = true then some (.new (rgD i (j - i).toNat), q.2) else none
  | _, _ => none
def lRg1 (fb : Ef) (ρ : Slots) (p : Rz × Mem) : Option (Rz × Mem) := (fb ρ p.2).bind (lRg2 p.1.d)
@[simp] theorem cLRg_ap : cLRg fa fb ρ M = bnd (lRg1 fb ρ) (fa ρ M) := rfl
@[simp] theorem lRg1_ap : lRg1 fb ρ (r, M) = bnd (lRg2 r.d) (fb ρ M) := rfl
@[simp] theorem lRg2_ap : lRg2 (.int i) (.val (.int j), M) = if bRg i j = true then some (.new (rgD i (j - i).toNat), M) else none := rfl
/-! statements -/
variable {s s' : Sf} {n : Nat} {x : Str} {cs : List Str}
def sCons1 (s : Sf) (p : Fl × Slots × Mem) : Option (Fl × Slots × Mem) := match p.1 with | .nx => s p.2.1 p.2.2 | fl => some (fl, p.2.1, p.2.2)
@[simp] theorem sNil_ap : sNil ρ M = some (.nx, ρ, M) := rfl
@[simp] theorem sCons_ap : sCons s s' ρ M = bnd (sCons1 s') (s ρ M) := rfl
@[simp] theorem sCons1_nx : sCons1 s (.nx, ρ, M) = s ρ M := rfl
@[simp] theorem sCons1_rt : sCons1 s (.rt r, ρ, M) = some (.rt r, ρ, M) := rfl
@[simp] theorem sCons1_bk : sCons1 s (.bk, ρ, M) = some (.bk, ρ, M) := rfl
@[simp] theorem sCons1_ct : sCons1 s (.ct, ρ, M) = some (.ct, ρ, M) := rfl
@[simp] theorem sBreak_ap : sBreak ρ M = some (.bk, ρ, M) := rfl
@[simp] theorem sCont_ap : sCont ρ M = some (.ct, ρ, M) := rfl
def sExpr1 (ρ : Slots) (p : Rz × Mem) : Option (Fl × Slots × Mem) := some (.nx, ρ, p.2)
@[simp] theorem sExpr_ap : sExpr f ρ M = bnd (sExpr1 ρ) (f ρ M) := rfl
@[simp] theorem sExpr1_ap : sExpr1 ρ (r, M) = some (.nx, ρ, M) := rfl
def sRet1 (ρ : Slots) (p : Rz × Mem) : Option (Fl × Slots × Mem) := some (.rt p.1, ρ, p.2)
@[simp] theorem sRet_ap : sRet f ρ M = bnd (sRet1 ρ) (f ρ M) := rfl
@[simp] theorem sRet1_ap : sRet1 ρ (r, M) = some (.rt r, ρ, M) := rfl
@[simp] theorem sRetN_ap : sRetN ρ M = some (.rt (.val .non), ρ, M) := rfl
def sIf1 (s s' : Sf) (ρ : Slots) (p : Bool × Mem) : Option (Fl × Slots × Mem) := if p.1 = true then s ρ p.2 else s' ρ p.2
@[simp] theorem sIf_ap : sIf t s s' ρ M = bnd (sIf1 s s' ρ) (t ρ M) := rfl
@[simp] theorem sIf1_ap : sIf1 s s' ρ (b, M) = if b = true then s ρ M else s' ρ M := rfl
def sSet1 (n : Nat) (ρ : Slots) (p : Rz × Mem) : Option (Fl × Slots × Mem) := some (.nx, ρ.set n (some p.1.d), p.2)
@[simp] theorem sSet_ap : sSet n f ρ M = bnd (sSet1 n ρ) (f ρ M) := rfl
@[simp] theorem sSet1_ap : sSet1 n ρ (r, M) = some (.nx, ρ.set n (some r.d), M) := rfl
def sSetM1 (n : Nat) (ρ : Slots) (p : Rz × Mem) : Option (Fl × Slots × Mem) := match p.1 with
  | .new ds => some (.nx, ρ.set n (some (.loc p.2.length)), p.2 ++ [.lst ds])
  | .val d => some (.nx, ρ.set n (some d), p.2)
@[simp] theorem sSetM_ap : sSetM n f ρ M = bnd (sSetM1 n ρ) (f ρ M) := rfl
@[simp] theorem sSetM1_new : sSetM1 n ρ (.new ds, M) = some (.nx, ρ.set n (some (.loc M.length)), M ++ [.lst ds]) := rfl
@[simp] theorem sSetM1_val : sSetM1 n ρ (.val d, M) = some (.nx, ρ.set n (some d), M) := rfl
def stF2 (cs : List Str) (x : Str) (d : D) (ρ : Slots) (k : Nat) (M : Mem) (o : O) : Option (Fl × Slots × Mem) := match o with
  | .ins c fs => if c ∈ cs ∧ fs.length < 1000 then some (.nx, ρ, M.set k (.ins c (putD x d fs))) else none
  | _ => none
def stF1 (cs : List Str) (x : Str) (d : D) (ρ : Slots) (q : Rz × Mem) : Option (Fl × Slots × Mem) := match q.1.d with
  | .loc k => (q.2[k]?).bind (stF2 cs x d ρ k q.2)
  | _ => none
theorem stFld_ap : stFld cs x fo d ρ M = bnd (stF1 cs x d ρ) (fo ρ M) := by
  show (fo ρ M).bind _ = (fo ρ M).bind _
  congr 1
  funext ⟨r, M2⟩
  unfold stF1
  cases hd : r.d with
  | loc k =>
    simp only [hd]
    cases hk : M2[k]? with
    | none => rfl
    | some o => cases o <;> rfl
  | _ => simp only [hd]
@[simp] theorem stF1_ap {k : Nat} : stF1 cs x d ρ (.val (.loc k), M) = bnd (stF2 cs x d ρ k M) M[k]? := rfl
@[simp] theorem stF2_ap {k : Nat} {c : Str} {fs : List (Str × D)} : stF2 cs x d ρ k M (.ins c fs) = if c ∈ cs ∧ fs.length < 1000 then some (.nx, ρ, M.set k (.ins c (putD x d fs))) else none := rfl
def sFlS1 (cs : List Str) (x : Str) (fo : Ef) (ρ : Slots) (p : Rz × Mem) : Option (Fl × Slots × Mem) := stFld cs x fo p.1.d ρ p.2
def sFlM1 (cs : List Str) (x : Str) (fo : Ef) (ρ : Slots) (p : Rz × Mem) : Option (Fl × Slots × Mem) := match p.1 with
  | .new ds => stFld cs x fo (.loc p.2.length) ρ (p.2 ++ [.lst ds])
  | .val d => stFld cs x fo d ρ p.2
@[simp] theorem sFldS_ap : sFldS cs x fo fv ρ M = bnd (sFlS1 cs x fo ρ) (fv ρ M) := rfl
@[simp] theorem sFlS1_ap : sFlS1 cs x fo ρ (r, M) = bnd (stF1 cs x r.d ρ) (fo ρ M) := stFld_ap
@[simp] theorem sFldM_ap : sFldM cs x fo fv ρ M = bnd (sFlM1 cs x fo ρ) (fv ρ M) := rfl
@[simp] theorem sFlM1_new : sFlM1 cs x fo ρ (.new ds, M) = bnd (stF1 cs x (.loc M.length) ρ) (fo ρ (M ++ [.lst ds])) := stFld_ap
@[simp] theorem sFlM1_val : sFlM1 cs x fo ρ (.val d, M) = bnd (stF1 cs x d ρ) (fo ρ M) := stFld_ap
def sAsg2 (p : Slots × Mem) : Option (Fl × Slots × Mem) := some (.nx, p.1, p.2)
def sAsg1 (gg : Gf) (ρ : Slots) (p : Rz × Mem) : Option (Fl × Slots × Mem) := (gg p.1.d ρ p.2).bind sAsg2
@[simp] theorem sAsg_ap {gg : Gf} : sAsg gg f ρ M = bnd (sAsg1 gg ρ) (f ρ M) := rfl
@[simp] theorem sAsg1_ap {gg : Gf} : sAsg1 gg ρ (r, M) = bnd sAsg2 (gg r.d ρ M) := rfl
@[simp] theorem sAsg2_ap : sAsg2 (ρ, M) = some (.nx, ρ, M) := rfl
@[simp] theorem gNm_ap : gNm n d ρ M = some (ρ.set n (some d), M) := rfl
@[simp] theorem gsNil_ap : gsNil [] ρ M = some (ρ, M) := rfl
def gsC1 (gs : GsF) (ds : List D) (p : Slots × Mem) : Option (Slots × Mem) := gs ds p.1 p.2
@[simp] theorem gsCons_ap {gg : Gf} {gs : GsF} : gsCons gg gs (d :: ds) ρ M = bnd (gsC1 gs ds) (gg d ρ M) := rfl
@[simp] theorem gsC1_ap {gs : GsF} : gsC1 gs ds (ρ, M) = gs ds ρ M := rfl
@[simp] theorem gTp_ap {gs : GsF} : gTp n gs (.tup ds) ρ M = if ds.length = n then gs ds ρ M else none := rfl
def gIx3 (d : D) (k : Nat) (i : Int) (ρ : Slots) (M : Mem) (es : List D) (j : Nat) : Option (Slots × Mem) := some (ρ, M.set k (.lst (es.set j d)))
def gIx2 (d : D) (ρ : Slots) (e : D) (q : Rz × Mem) : Option (Slots × Mem) := match e, q.1.d with
  | .loc k, .int i => match q.2[k]? with
    | some (.lst es) => (ixN es.length i).bind (gIx3 d k i ρ q.2 es)
    | _ => none
  | _, _ => none
def gIx1 (fb : Ef) (d : D) (ρ : Slots) (p : Rz × Mem) : Option (Slots × Mem) := (fb ρ p.2).bind (gIx2 d ρ p.1.d)
@[simp] theorem gIx_ap : gIx fa fb d ρ M = bnd (gIx1 fb d ρ) (fa ρ M) := rfl
@[simp] theorem gIx1_ap : gIx1 fb d ρ (r, M) = bnd (gIx2 d ρ r.d) (fb ρ M) := rfl
theorem gIx2_of {k : Nat} {j : Nat} (h : M[k]? = some (.lst ds)) (hj : ixN ds.length i = some j) : gIx2 d ρ (.loc k) (.val (.int i), M) = some (ρ, M.set k (.lst (ds.set j d))) := by
  show (match M[k]? with | some (.lst es) => (ixN es.length i).bind (gIx3 d k i ρ M es) | _ => none) = _
  rw [h]
  simp only [hj]
  rfl
def iSeq2 (d : D) (M : Mem) (ds : List D) : Option (List D × Option Nat × Mem) := some (ds, gkOf d, M)
def iSeq1 (p : Rz × Mem) : Option (List D × Option Nat × Mem) := (asS p.2 p.1.d).bind (iSeq2 p.1.d p.2)
@[simp] theorem iSeq_ap : iSeq f ρ M = bnd iSeq1 (f ρ M) := rfl
@[simp] theorem iSeq1_ap : iSeq1 (r, M) = bnd (iSeq2 r.d M) (asS M r.d) := rfl
@[simp] theorem iSeq2_ap : iSeq2 d M ds = some (ds, gkOf d, M) := rfl
def iRga (p : Rz × Mem) : Option (List D × Option Nat × Mem) := match p.1.d with | .int j => if rgB j = true then some (rgD 0 j.toNat, none, p.2) else none | _ => none
@[simp] theorem iRg1_ap : iRg1 fa ρ M = bnd iRga (fa ρ M) := rfl
@[simp] theorem iRga_ap : iRga (.val (.int j), M) = if rgB j = true then some (rgD 0 j.toNat, none, M) else none := rfl
def iRgc (d : D) (q : Rz × Mem) : Option (List D × Option Nat × Mem) := match d, q.1.d with | .int i, .int j => if rgB i = true ∧ rgB j = true then some (rgD i (j - i).toNat, none, q.2) else none | _, _ => none
def iRgb (fb : Ef) (ρ : Slots) (p : Rz × Mem) : Option (List D × Option Nat × Mem) := (fb ρ p.2).bind (iRgc p.1.d)
@[simp] theorem iRg2_ap : iRg2 fa fb ρ M = bnd (iRgb fb ρ) (fa ρ M) := rfl
@[simp] theorem iRgb_ap : iRgb fb ρ (r, M) = bnd (iRgc r.d) (fb ρ M) := rfl
@[simp] theorem iRgc_ap : iRgc (.int i) (.val (.int j), M) = if rgB i = true ∧ rgB j = true then some (rgD i (j - i).toNat, none, M) else none := rfl
def iEn1 (p : Rz × Mem) : Option (List D × Option Nat × Mem) := match p.1.d with | .lst ds => some (enD ds, none, p.2) | .scr ns => some (enD (ns.map .int), none, p.2) | _ => none
@[simp] theorem iEn_ap : iEn f ρ M = bnd iEn1 (f ρ M) := rfl
@[simp] theorem iEn1_lst : iEn1 (.val (.lst ds), M) = some (enD ds, none, M) := rfl
@[simp] theorem iEn1_new : iEn1 (.new ds, M) = some (enD ds, none, M) := rfl
def iSt1 (p : Rz × Mem) : Option (List D × Option Nat × Mem) := match p.1.d with | .str x => some (chD x, none, p.2) | _ => none
@[simp] theorem iSt_ap : iSt f ρ M = bnd iSt1 (f ρ M) := rfl
@[simp] theorem iSt1_ap : iSt1 (.val (.str x), M) = some (chD x, none, M) := rfl
/-! loops -/
variable {kl : List Bool} {it : If} {gg : Gf}
noncomputable def sForK1 (kl : List Bool) (gg : Gf) (s : Sf) (ρ : Slots) (p : List D × Option Nat × Mem) : Option (Fl × Slots × Mem) := loopF (stpK kl p.2.1 p.1 gg s) p.1 (keepD kl ρ) p.2.2
@[simp] theorem sForK_ap : sForK kl it gg s ρ M = bnd (sForK1 kl gg s ρ) (it ρ M) := rfl
@[simp] theorem sForK1_ap {gk : Option Nat} : sForK1 kl gg s ρ (ds, gk, M) = loopF (stpK kl gk ds gg s) ds (keepD kl ρ) M := rfl
@[simp] theorem sWhileK_ap : sWhileK kl n t s ρ M = whK kl t s n (keepD kl ρ) M := rfl
end
end CI

/-! N17: operators, memories, loops, reckoned -/
namespace CI
open PySem PySem.Spec PyProof.Rows L2

@[simp] theorem line_le {n : Nat} : (n ≤ sizeLine) = (n ≤ 16777216) := by rw [sizeLine_eq]
@[simp] theorem line_lt {n : Nat} : (n < sizeLine) = (n < 16777216) := by rw [sizeLine_eq]
@[simp] theorem guard_none {ds : List D} {M : Mem} : guard none ds M = True := by
  unfold guard; simp
theorem set_end {M : Mem} {a b : O} : (M ++ [a]).set M.length b = M ++ [b] := by
  rw [List.set_append_right _ _ (Nat.le_refl _)]; simp
theorem get_end {M : Mem} {a : O} : (M ++ [a])[M.length]? = some a := by simp
@[simp] theorem nls_ints {n : Nat} : ∀ {ns : List Int}, nls n (ns.map .int) = true
  | [] => rfl
  | _ :: ns => by rw [List.map_cons, nls, nls_ints, Bool.and_true]; simp [nl]
@[simp] theorem oI_int {g : Int → Int → D} {i j : Int} {M : Mem} : oI g (.int i) (.int j) M = some (.val (g i j)) := rfl
@[simp] theorem oIc_int {C : Int → Int → Bool} {g : Int → Int → D} {i j : Int} {M : Mem} : oIc C g (.int i) (.int j) M = if C i j = true then some (.val (g i j)) else none := rfl
@[simp] theorem oAdd_int {i j : Int} {M : Mem} : oAdd (.int i) (.int j) M = some (.val (.int (i + j))) := rfl
@[simp] theorem oAdd_tup {xs ys : List D} {M : Mem} : oAdd (.tup xs) (.tup ys) M = if xs.length + ys.length ≤ sizeLine then some (.val (.tup (xs ++ ys))) else none := rfl
@[simp] theorem oAdd_lst {xs ys : List D} {M : Mem} : oAdd (.lst xs) (.lst ys) M = if xs.length + ys.length ≤ sizeLine then some (.new (xs ++ ys)) else none := rfl
@[simp] theorem oEq_int {i j : Int} {M : Mem} : oEq (.int i) (.int j) M = some (.val (.bl (decide (i = j)))) := rfl
@[simp] theorem oNe_int {i j : Int} {M : Mem} : oNe (.int i) (.int j) M = some (.val (.bl (!decide (i = j)))) := rfl
@[simp] theorem oEq_str {i j : Str} {M : Mem} : oEq (.str i) (.str j) M = some (.val (.bl (decide (i = j)))) := rfl
@[simp] theorem oNe_str {i j : Str} {M : Mem} : oNe (.str i) (.str j) M = some (.val (.bl (!decide (i = j)))) := rfl
@[simp] theorem oSub_int {i j : Int} {M : Mem} : oSub (.int i) (.int j) M = some (.val (.int (i - j))) := rfl
@[simp] theorem oLt_int {i j : Int} {M : Mem} : oLt (.int i) (.int j) M = some (.val (.bl (decide (i < j)))) := rfl
@[simp] theorem oLe_int {i j : Int} {M : Mem} : oLe (.int i) (.int j) M = some (.val (.bl (decide (i ≤ j)))) := rfl
@[simp] theorem oGt_int {i j : Int} {M : Mem} : oGt (.int i) (.int j) M = some (.val (.bl (decide (j < i)))) := rfl
@[simp] theorem oGe_int {i j : Int} {M : Mem} : oGe (.int i) (.int j) M = some (.val (.bl (decide (j ≤ i)))) := rfl
@[simp] theorem oMul_int {i j : Int} {M : Mem} : oMulI (.int i) (.int j) M = if bMul i j = true then some (.val (.int (i * j))) else none := rfl
@[simp] theorem oDiv_int {i j : Int} {M : Mem} : oDiv (.int i) (.int j) M = if bDiv i j = true then some (.val (.int (i / j))) else none := rfl
@[simp] theorem oMod_int {i j : Int} {M : Mem} : oMod (.int i) (.int j) M = if bMod i j = true then some (.val (.int (i % j))) else none := rfl
@[simp] theorem oPow_int {i j : Int} {M : Mem} : oPow (.int i) (.int j) M = if bPow i j = true then some (.val (.int (i ^ j.toNat))) else none := rfl
@[simp] theorem oInt_int {i : Int} {M : Mem} : oInt [.int i] M = some (.val (.int i)) := rfl
@[simp] theorem bMul_eq {i j : Int} : bMul i j = (sm64 i || sm64 j) := rfl
theorem p64 : (2 : Int) ^ 64 = 18446744073709551616 := by decide
theorem sm64_of {i : Int} (h0 : -1000000000000000000 < i) (h1 : i < 1000000000000000000) : sm64 i = true := by
  unfold sm64
  rw [p64]
  simp only [Bool.and_eq_true, decide_eq_true_eq]
  omega
@[simp] theorem sm64_lit {n : Nat} (h : n < 1000000000000000000) : sm64 (no_index (@OfNat.ofNat Int n instOfNat)) = true := sm64_of (by show (-1000000000000000000 : Int) < (n : Int); omega) (by show (n : Int) < 1000000000000000000; omega)
@[simp] theorem bDiv_eq {i j : Int} : bDiv i j = (decide (0 < j) && decide (j < 1073741824)) := rfl
@[simp] theorem bMod_eq {i j : Int} : bMod i j = decide (0 < j) := rfl
@[simp] theorem bPow_eq {i j : Int} : bPow i j = (decide (0 ≤ j) && decide (j ≤ 1000000) && decide (i.natAbs < 2 ^ 64)) := rfl
@[simp] theorem asS_lst {ds : List D} {M : Mem} : asS M (.lst ds) = some ds := rfl
@[simp] theorem asS_tup {ds : List D} {M : Mem} : asS M (.tup ds) = some ds := rfl
@[simp] theorem asS_scr {ns : List Int} {M : Mem} : asS M (.scr ns) = some (ns.map .int) := rfl
@[simp] theorem asL_lst {ds : List D} {M : Mem} : asL M (.lst ds) = some ds := rfl
@[simp] theorem asL_scr {ns : List Int} {M : Mem} : asL M (.scr ns) = some (ns.map .int) := rfl
theorem asS_loc {k : Nat} {M : Mem} {ds : List D} (h : M[k]? = some (.lst ds)) : asS M (.loc k) = some ds := by
  show (match M[k]? with | some (.lst ds) => some ds | _ => none) = some ds
  rw [h]
theorem asS_end {M : Mem} {ds : List D} : asS (M ++ [.lst ds]) (.loc M.length) = some ds := asS_loc get_end
theorem tyOf_end {M : Mem} {ds : List D} : tyOf (M ++ [.lst ds]) (.loc M.length) = some "list" := by
  show (match (M ++ [O.lst ds])[M.length]? with | some (.lst _) => some "list" | some (.dct _) => some "dict" | _ => none) = _
  rw [get_end]
@[simp] theorem oLen_lst {ds : List D} {M : Mem} : oLen [.lst ds] M = some (.val (.int ds.length)) := rfl
@[simp] theorem oLen_tup {ds : List D} {M : Mem} : oLen [.tup ds] M = some (.val (.int ds.length)) := rfl
@[simp] theorem oLen_scr {ns : List Int} {M : Mem} : oLen [.scr ns] M = some (.val (.int ns.length)) := by
  show some (Rz.val (.int (ns.map D.int).length)) = _
  rw [List.length_map]
theorem oLen_loc {k : Nat} {M : Mem} {ds : List D} (h : M[k]? = some (.lst ds)) : oLen [.loc k] M = some (.val (.int ds.length)) := by
  show ((asS M (.loc k)).bind fun es => some (Rz.val (.int es.length))) = _
  rw [asS_loc h]; rfl
theorem oLen_end {M : Mem} {ds : List D} : oLen [.loc M.length] (M ++ [.lst ds]) = some (.val (.int ds.length)) := oLen_loc get_end
theorem oAppend_loc {k : Nat} {M : Mem} {ds : List D} {d : D} (h : M[k]? = some (.lst ds)) (hl : ds.length < 16777216) : oAppend (.loc k) [d] M = some (.val .non, M.set k (.lst (ds ++ [d]))) := by
  show (match M[k]? with | some (.lst es) => if es.length < sizeLine then some (Rz.val D.non, M.set k (.lst (es ++ [d]))) else none | _ => none) = _
  rw [h]
  simp [hl]
theorem oAppend_end {M : Mem} {ds : List D} {d : D} (hl : ds.length < 16777216) : oAppend (.loc M.length) [d] (M ++ [.lst ds]) = some (.val .non, M ++ [.lst (ds ++ [d])]) := by
  rw [oAppend_loc get_end hl, set_end]
theorem rgB_nat {n : Nat} (h : n < 16777216) : rgB (n : Int) = true := by
  unfold rgB; simp; omega
/-- a loop by an invariant -/
theorem loop_inv {step : Stp} (I : List D → Slots → Mem → Prop) (hs : ∀ d ds ρ M, I (d :: ds) ρ M → ∃ fl ρ' M', step d ρ M = some (fl, ρ', M') ∧ (fl = .nx ∨ fl = .ct) ∧ I ds ρ' M') :
    ∀ ds ρ M, I ds ρ M → ∃ ρ' M', loopF step ds ρ M = some (.nx, ρ', M') ∧ I [] ρ' M'
  | [], ρ, M, h => ⟨ρ, M, rfl, h⟩
  | d :: ds, ρ, M, h => by
    obtain ⟨fl, ρ1, M1, e, hf, h1⟩ := hs d ds ρ M h
    obtain ⟨ρ2, M2, e2, h2⟩ := loop_inv I hs ds ρ1 M1 h1
    refine ⟨ρ2, M2, ?_, h2⟩
    unfold loopF
    rw [e]
    rcases hf with rfl | rfl <;> exact e2
/-- .. counted -/
theorem loop_rg {step : Stp} {lo : Int} {n : Nat} {ρ : Slots} {M : Mem} (I : Nat → Slots → Mem → Prop) (h0 : I 0 ρ M) (hs : ∀ (i : Nat) ρ M, i < n → I i ρ M → ∃ fl ρ' M', step (.int (lo + i)) ρ M = some (fl, ρ', M') ∧ (fl = .nx ∨ fl = .ct) ∧ I (i + 1) ρ' M') :
    ∃ ρ' M', loopF step (rgD lo n) ρ M = some (.nx, ρ', M') ∧ I n ρ' M' := by
  have key : ∀ (k : Nat) ds ρ M, (rgD lo n).drop k = ds → k ≤ n → I k ρ M → ∃ ρ' M', loopF step ds ρ M = some (.nx, ρ', M') ∧ I n ρ' M' := by
    intro k ds
    induction ds generalizing k with
    | nil =>
      intro ρ M e hk h
      have : k = n := by
        have := congrArg List.length e
        rw [List.length_drop, rgD_len] at this
        simp at this; omega
      subst this
      exact ⟨ρ, M, rfl, h⟩
    | cons d ds ih =>
      intro ρ M e hk h
      have hd : (rgD lo n)[k]? = some d := by
        have := congrArg (fun l => l[0]?) e
        simpa [List.getElem?_drop] using this
      obtain ⟨hkn, rfl⟩ := rgD_get hd
      obtain ⟨fl, ρ1, M1, e1, hf, h1⟩ := hs k ρ M hkn h
      obtain ⟨ρ2, M2, e2, h2⟩ := ih (k + 1) ρ1 M1 (by rw [← List.tail_drop, e]; rfl) hkn h1
      refine ⟨ρ2, M2, ?_, h2⟩
      unfold loopF
      rw [e1]
      rcases hf with rfl | rfl <;> exact e2
  exact key 0 _ ρ M rfl (Nat.zero_le _) h0

@[simp] theorem kit_NoneType_bool : kitB "NoneType" "bool" = some false := by decide +kernel
@[simp] theorem kit_NoneType_int : kitB "NoneType" "int" = some false := by decide +kernel
@[simp] theorem kit_NoneType_str : kitB "NoneType" "str" = some false := by decide +kernel
@[simp] theorem kit_NoneType_tuple : kitB "NoneType" "tuple" = some false := by decide +kernel
@[simp] theorem kit_NoneType_list : kitB "NoneType" "list" = some false := by decide +kernel
@[simp] theorem kit_NoneType_dict : kitB "NoneType" "dict" = some false := by decide +kernel
@[simp] theorem kit_bool_bool : kitB "bool" "bool" = some true := by decide +kernel
@[simp] theorem kit_bool_int : kitB "bool" "int" = some true := by decide +kernel
@[simp] theorem kit_bool_str : kitB "bool" "str" = some false := by decide +kernel
@[simp] theorem kit_bool_tuple : kitB "bool" "tuple" = some false := by decide +kernel
@[simp] theorem kit_bool_list : kitB "bool" "list" = some false := by decide +kernel
@[simp] theorem kit_bool_dict : kitB "bool" "dict" = some false := by decide +kernel
@[simp] theorem kit_int_bool : kitB "int" "bool" = some false := by decide +kernel
@[simp] theorem kit_int_int : kitB "int" "int" = some true := by decide +kernel
@[simp] theorem kit_int_str : kitB "int" "str" = some false := by decide +kernel
@[simp] theorem kit_int_tuple : kitB "int" "tuple" = some false := by decide +kernel
@[simp] theorem kit_int_list : kitB "int" "list" = some false := by decide +kernel
@[simp] theorem kit_int_dict : kitB "int" "dict" = some false := by decide +kernel
@[simp] theorem kit_str_bool : kitB "str" "bool" = some false := by decide +kernel
@[simp] theorem kit_str_int : kitB "str" "int" = some false := by decide +kernel
@[simp] theorem kit_str_str : kitB "str" "str" = some true := by decide +kernel
@[simp] theorem kit_str_tuple : kitB "str" "tuple" = some false := by decide +kernel
@[simp] theorem kit_str_list : kitB "str" "list" = some false := by decide +kernel
@[simp] theorem kit_str_dict : kitB "str" "dict" = some false := by decide +kernel
@[simp] theorem kit_tuple_bool : kitB "tuple" "bool" = some false := by decide +kernel
@[simp] theorem kit_tuple_int : kitB "tuple" "int" = some false := by decide +kernel
@[simp] theorem kit_tuple_str : kitB "tuple" "str" = some false := by decide +kernel
@[simp] theorem kit_tuple_tuple : kitB "tuple" "tuple" = some true := by decide +kernel
@[simp] theorem kit_tuple_list : kitB "tuple" "list" = some false := by decide +kernel
@[simp] theorem kit_tuple_dict : kitB "tuple" "dict" = some false := by decide +kernel
@[simp] theorem kit_list_bool : kitB "list" "bool" = some false := by decide +kernel
@[simp] theorem kit_list_int : kitB "list" "int" = some false := by decide +kernel
@[simp] theorem kit_list_str : kitB "list" "str" = some false := by decide +kernel
@[simp] theorem kit_list_tuple : kitB "list" "tuple" = some false := by decide +kernel
@[simp] theorem kit_list_list : kitB "list" "list" = some true := by decide +kernel
@[simp] theorem kit_list_dict : kitB "list" "dict" = some false := by decide +kernel
@[simp] theorem kit_dict_bool : kitB "dict" "bool" = some false := by decide +kernel
@[simp] theorem kit_dict_int : kitB "dict" "int" = some false := by decide +kernel
@[simp] theorem kit_dict_str : kitB "dict" "str" = some false := by decide +kernel
@[simp] theorem kit_dict_tuple : kitB "dict" "tuple" = some false := by decide +kernel
@[simp] theorem kit_dict_list : kitB "dict" "list" = some false := by decide +kernel
@[simp] theorem kit_dict_dict : kitB "dict" "dict" = some true := by decide +kernel

@[simp] theorem oIs_non {b : Bool} {d : D} {M : Mem} : oIs b d .non M = some (.val (.bl (b != isNon d))) := rfl
@[simp] theorem oIs_bl {b c : Bool} {d : D} {M : Mem} : oIs b d (.bl c) M = some (.val (.bl (b != isBl c d))) := rfl
@[simp] theorem trD_bl {b : Bool} {M : Mem} : trD M (.bl b) = some b := rfl
@[simp] theorem ge_nat {n : Nat} : ((n : Int) < 0) = False := by simp

@[simp] theorem isNon_non : isNon .non = true := rfl
@[simp] theorem isNon_bl {b} : isNon (.bl b) = false := rfl
@[simp] theorem isNon_int {b} : isNon (.int b) = false := rfl
@[simp] theorem isNon_str {b} : isNon (.str b) = false := rfl
@[simp] theorem isNon_tup {b} : isNon (.tup b) = false := rfl
@[simp] theorem isNon_lst {b} : isNon (.lst b) = false := rfl
@[simp] theorem isNon_scr {b} : isNon (.scr b) = false := rfl
@[simp] theorem isNon_loc {b} : isNon (.loc b) = false := rfl
@[simp] theorem isBl_bl {b c} : isBl b (.bl c) = decide (c = b) := rfl
@[simp] theorem isBl_non {b} : isBl b .non = false := rfl
@[simp] theorem isBl_int {b c} : isBl b (.int c) = false := rfl
@[simp] theorem isBl_str {b c} : isBl b (.str c) = false := rfl
@[simp] theorem isBl_tup {b c} : isBl b (.tup c) = false := rfl
@[simp] theorem isBl_lst {b c} : isBl b (.lst c) = false := rfl
@[simp] theorem isBl_scr {b c} : isBl b (.scr c) = false := rfl
@[simp] theorem isBl_loc {b c} : isBl b (.loc c) = false := rfl
@[simp] theorem tyOf_non {M} : tyOf M .non = some "NoneType" := rfl
@[simp] theorem tyOf_bl {M b} : tyOf M (.bl b) = some "bool" := rfl
@[simp] theorem tyOf_int {M b} : tyOf M (.int b) = some "int" := rfl
@[simp] theorem tyOf_str {M b} : tyOf M (.str b) = some "str" := rfl
@[simp] theorem tyOf_tup {M b} : tyOf M (.tup b) = some "tuple" := rfl
@[simp] theorem tyOf_lst {M b} : tyOf M (.lst b) = some "list" := rfl
@[simp] theorem tyOf_scr {M b} : tyOf M (.scr b) = some "list" := rfl
theorem tyOf_loc {k : Nat} {M : Mem} {ds : List D} (h : M[k]? = some (.lst ds)) : tyOf M (.loc k) = some "list" := by
  show (match M[k]? with | some (.lst _) => some "list" | some (.dct _) => some "dict" | _ => none) = _
  rw [h]

@[simp] theorem wipeD_nil {ρ : Slots} : wipeD ρ [] = ρ := rfl
@[simp] theorem wipeD_cons {ρ : Slots} {v : Nat} {vs : List Nat} : wipeD ρ (v :: vs) = (wipeD ρ vs).set v none := rfl
@[simp] theorem tYesF_ap {ρ : Slots} {M : Mem} : tYesF ρ M = some (true, M) := rfl

@[simp] theorem filter_true {ds : List D} : ds.filter (fun _ => true) = ds := by simp

theorem guard_app {gk : Option Nat} {ds : List D} {M : Mem} (h : guard gk ds M) (x : O) : guard gk ds (M ++ [x]) := fun k e => by
  have := h k e
  rw [List.getElem?_append_left (List.getElem?_eq_some_iff.mp this).1]; exact this

/-! ### memories -/
@[simp] theorem get_app0 {M : Mem} {a : O} {A : Mem} : (M ++ a :: A)[M.length]? = some a := by
  rw [List.getElem?_append_right (Nat.le_refl _)]; simp
@[simp] theorem get_appj {M A : Mem} {j : Nat} : (M ++ A)[M.length + j]? = A[j]? := by
  rw [List.getElem?_append_right (Nat.le_add_right _ _)]; simp
theorem get_lt {M A : Mem} {k : Nat} (h : k < M.length) : (M ++ A)[k]? = M[k]? := List.getElem?_append_left h
theorem get_pre {M A : Mem} {k : Nat} {o : O} (h : M[k]? = some o) : (M ++ A)[k]? = some o := by
  rw [List.getElem?_append_left (List.getElem?_eq_some_iff.mp h).1]; exact h
@[simp] theorem set_app0 {M : Mem} {a b : O} {A : Mem} : (M ++ a :: A).set M.length b = M ++ b :: A := by
  rw [List.set_append_right _ _ (Nat.le_refl _)]; simp
@[simp] theorem set_appj {M A : Mem} {j : Nat} {b : O} : (M ++ A).set (M.length + j) b = M ++ A.set j b := by
  rw [List.set_append_right _ _ (Nat.le_add_right _ _)]; simp
@[simp] theorem take_app {M A : Mem} : (M ++ A).take M.length = M := by simp
@[simp] theorem take_appj {M A : Mem} {j : Nat} : (M ++ A).take (M.length + j) = M ++ A.take j := by
  rw [List.take_append, List.take_of_length_le (by omega), Nat.add_sub_cancel_left]
@[simp] theorem take_len {M : Mem} : M.take M.length = M := List.take_length
/-! ### what is trimmed -/
@[simp] theorem trimOk_refl {M : Mem} : trimOk M M := ⟨Nat.le_refl _, fun k o _ h => .inl h⟩
@[simp] theorem trimOk_app {M A : Mem} : trimOk M (M ++ A) := ⟨by simp, fun k o hk h => .inl (by rw [List.getElem?_append_left hk] at h; exact h)⟩
def trimC (n : Nat) : Mem → Mem → Prop
  | [], _ => True
  | o :: M, o' :: Me => (o' = o ∨ nlO n o' = true) ∧ trimC n M Me
  | _ :: _, [] => False
theorem trimC_len {n : Nat} : ∀ {M Me : Mem}, trimC n M Me → M.length ≤ Me.length
  | [], _, _ => Nat.zero_le _
  | _ :: M, _ :: Me, h => by simp; exact trimC_len h.2
theorem trimC_get {n : Nat} : ∀ {M Me : Mem}, trimC n M Me → ∀ {k : Nat} {o : O}, k < M.length → Me[k]? = some o → M[k]? = some o ∨ nlO n o = true
  | [], _, _, k, o, hk, _ => by simp at hk
  | a :: M, b :: Me, h, k, o, hk, q => by
    cases k with
    | zero =>
      simp at q
      subst q
      rcases h.1 with e | e
      · exact .inl (by rw [e]; rfl)
      · exact .inr e
    | succ k => simpa using trimC_get h.2 (k := k) (by simpa using hk) (by simpa using q)
theorem trimOk_C {M Me : Mem} (h : trimC M.length M Me) : trimOk M Me := ⟨trimC_len h, fun k o hk q => trimC_get h hk q⟩
theorem trimOk_C2 {M A B : Mem} (h : trimC (M.length + A.length) A B) : trimOk (M ++ A) (M ++ B) := by
  refine ⟨by simp; exact trimC_len h, fun k o hk q => ?_⟩
  by_cases hm : k < M.length
  · rw [List.getElem?_append_left hm] at q ⊢; exact .inl q
  · rw [List.getElem?_append_right (by omega)] at q ⊢
    rw [List.length_append] at hk ⊢
    exact trimC_get h (by omega) q
theorem trimOk_set {M Me : Mem} {k : Nat} {o : O} (h : trimOk M Me) (hn : k < M.length → nlO M.length o = true) : trimOk M (Me.set k o) := by
  refine ⟨by simp; exact h.1, fun j p hj q => ?_⟩
  by_cases e : j = k
  · subst e
    have : j < Me.length := Nat.lt_of_lt_of_le hj h.1
    rw [List.getElem?_set_self this] at q
    cases q
    exact .inr (hn hj)
  · rw [List.getElem?_set_ne (Ne.symm e)] at q
    exact h.2 j p hj q
@[simp] theorem nl_non {n} : nl n .non = true := rfl
@[simp] theorem nl_bl {n b} : nl n (.bl b) = true := rfl
@[simp] theorem nl_int {n i} : nl n (.int i) = true := rfl
@[simp] theorem nl_str {n i} : nl n (.str i) = true := rfl
@[simp] theorem nl_scr {n i} : nl n (.scr i) = true := rfl
@[simp] theorem nl_tup {n ds} : nl n (.tup ds) = nls n ds := by rw [nl]
@[simp] theorem nl_lst {n ds} : nl n (.lst ds) = nls n ds := by rw [nl]
@[simp] theorem nl_loc {n k} : nl n (.loc k) = decide (k < n) := by rw [nl]
@[simp] theorem nls_nil {n} : nls n [] = true := rfl
@[simp] theorem nls_cons {n d ds} : nls n (d :: ds) = (nl n d && nls n ds) := rfl
theorem nls_of {n : Nat} : ∀ {ds : List D}, (∀ d ∈ ds, nl n d = true) → nls n ds = true
  | [], _ => rfl
  | d :: ds, h => by rw [nls, h d List.mem_cons_self, nls_of fun e he => h e (List.mem_cons_of_mem _ he)]; rfl
@[simp] theorem nls_app {n : Nat} : ∀ {ds es : List D}, nls n (ds ++ es) = (nls n ds && nls n es)
  | [], _ => by simp
  | d :: ds, es => by rw [List.cons_append, nls_cons, nls_cons, nls_app, Bool.and_assoc]
theorem nls_map {α : Type} {n : Nat} {f : α → D} (h : ∀ x, nl n (f x) = true) (xs : List α) : nls n (xs.map f) = true := nls_of fun d hd => by
  obtain ⟨x, _, rfl⟩ := List.mem_map.mp hd; exact h x
@[simp] theorem nls_mp {α : Type} {n : Nat} {f : α → D} {xs : List α} (h : ∀ x, nl n (f x) = true) : nls n (xs.map f) = true := nls_map h xs
@[simp] theorem nlO_lst {n ds} : nlO n (.lst ds) = nls n ds := rfl
@[simp] theorem nlO_ins {n c fs} : nlO n (.ins c fs) = nlF n fs := rfl
@[simp] theorem nlO_dct {n fs} : nlO n (.dct fs) = nlK n fs := rfl
@[simp] theorem nlF_nil {n} : nlF n [] = true := rfl
@[simp] theorem nlF_cons {n f d fs} : nlF n ((f, d) :: fs) = (nl n d && nlF n fs) := rfl
@[simp] theorem nlK_nil {n} : nlK n [] = true := rfl
@[simp] theorem nlK_cons {n f d fs} : nlK n ((f, d) :: fs) = (nl n d && nlK n fs) := rfl
@[simp] theorem nlS_nil {n} : nlS n [] = true := rfl
@[simp] theorem nlS_none {n ρ} : nlS n (none :: ρ) = nlS n ρ := rfl
@[simp] theorem nlS_some {n d ρ} : nlS n (some d :: ρ) = (nl n d && nlS n ρ) := rfl
@[simp] theorem keepD_nil {ρ} : keepD [] ρ = ρ := by cases ρ <;> rfl
@[simp] theorem keepD_t {bs o ρ} : keepD (true :: bs) (o :: ρ) = o :: keepD bs ρ := rfl
@[simp] theorem keepD_f {bs o ρ} : keepD (false :: bs) (o :: ρ) = none :: keepD bs ρ := rfl
/-! ### the end of a def -/
section
variable {M Me G : Mem} {r : Rz}
theorem finK_same {r : Rz} : finK M r M = (r, M) := by
  unfold finK
  rw [if_pos trimOk_refl, List.take_length]
  cases r with
  | new ds => simp only; split <;> rfl
  | val d =>
    cases d with
    | loc k =>
      simp only
      split
      · rfl
      · rename_i h
        rw [List.getElem?_eq_none (by omega)]
    | _ => simp only; split <;> rfl
theorem finK_val {d : D} (t : trimOk M Me) (h : nl M.length d = true) : finK M (.val d) Me = (.val d, Me.take M.length) := by
  unfold finK
  rw [if_pos t]
  cases d with
  | loc k => rw [nl_loc] at h; simp only; rw [if_pos (of_decide_eq_true h)]
  | _ => simp only; rw [if_pos h]
theorem finK_new {ds : List D} (t : trimOk M Me) (h : nls M.length ds = true) : finK M (.new ds) Me = (.new ds, Me.take M.length) := by
  unfold finK
  rw [if_pos t]
  simp only
  rw [if_pos h]
theorem finK_loc {k : Nat} {ds : List D} (t : trimOk M Me) (hk : ¬ k < M.length) (hd : Me[k]? = some (.lst ds)) (h : nls M.length ds = true) : finK M (.val (.loc k)) Me = (.new ds, Me.take M.length) := by
  unfold finK
  rw [if_pos t]
  simp only
  rw [if_neg hk, hd]
  simp only
  rw [if_pos h]
@[simp] theorem finK_id {r : Rz} : finK M r M = (r, M) := finK_same
@[simp] theorem finK_appV {d : D} (h : nl M.length d = true) : finK M (.val d) (M ++ G) = (.val d, M) := by rw [finK_val trimOk_app h, take_app]
@[simp] theorem finK_appN {ds : List D} (h : nls M.length ds = true) : finK M (.new ds) (M ++ G) = (.new ds, M) := by rw [finK_new trimOk_app h, take_app]
@[simp] theorem finK_appL0 {ds : List D} (h : nls M.length ds = true) : finK M (.val (.loc M.length)) (M ++ .lst ds :: G) = (.new ds, M) := by
  rw [finK_loc trimOk_app (by omega) get_app0 h, take_app]
theorem finK_appL {j : Nat} {ds : List D} (hd : G[j]? = some (.lst ds)) (h : nls M.length ds = true) : finK M (.val (.loc (M.length + j))) (M ++ G) = (.new ds, M) := by
  rw [finK_loc trimOk_app (by omega) (by rw [get_appj]; exact hd) h, take_app]
@[simp] theorem finK_appL1 {a : O} {ds : List D} (h : nls M.length ds = true) : finK M (.val (.loc (M.length + 1))) (M ++ a :: .lst ds :: G) = (.new ds, M) := finK_appL rfl h
@[simp] theorem finK_appL2 {a b : O} {ds : List D} (h : nls M.length ds = true) : finK M (.val (.loc (M.length + 2))) (M ++ a :: b :: .lst ds :: G) = (.new ds, M) := finK_appL rfl h
end
noncomputable def fnOut (M : Mem) : Option (Fl × Slots × Mem) → Option (Rz × Mem)
  | some (.rt r, _, Me) => some (finK M r Me)
  | some (.nx, _, Me) => some (finK M (.val .non) Me)
  | _ => none
theorem mkFnK_eq {np ns : Nat} {body : Sf} {ds : List D} {M : Mem} : mkFnK np ns body ds M = if ds.length = np then fnOut M (body (ds.map some ++ List.replicate (ns - ds.length) none) M) else none := by
  unfold mkFnK fnOut
  split
  · split <;> simp_all
  · rfl
@[simp] theorem fnOut_rt {M Me : Mem} {r : Rz} {ρ : Slots} : fnOut M (some (.rt r, ρ, Me)) = some (finK M r Me) := rfl
@[simp] theorem fnOut_nx {M Me : Mem} {ρ : Slots} : fnOut M (some (.nx, ρ, Me)) = some (finK M (.val .non) Me) := rfl
@[simp] theorem fnOut_ite {M : Mem} {c : Prop} [Decidable c] {a b : Option (Fl × Slots × Mem)} : fnOut M (if c then a else b) = if c then fnOut M a else fnOut M b := by split <;> rfl
theorem fnOut_congr {M : Mem} {a b : Option (Fl × Slots × Mem)} (h : a = b) : fnOut M a = fnOut M b := by rw [h]
/-! ### a turn of a loop -/
section
variable {kl : List Bool} {M Me G : Mem} {ρ : Slots} {gk : Option Nat} {ds : List D} {g : Gf} {body : Sf} {d : D}
@[simp] theorem tidy_same : tidy kl M ρ M = (keepD kl ρ, M) := by
  unfold tidy
  rw [List.take_length]
  split <;> rfl
theorem tidy_trim (t : trimOk M Me) (h : nlS M.length (keepD kl ρ) = true) : tidy kl M ρ Me = (keepD kl ρ, Me.take M.length) := by
  unfold tidy
  rw [if_pos ⟨t, h⟩]
@[simp] theorem tidy_app (h : nlS M.length (keepD kl ρ) = true) : tidy kl M ρ (M ++ G) = (keepD kl ρ, M) := by rw [tidy_trim trimOk_app h, take_app]
noncomputable def stpOut (kl : List Bool) (gk : Option Nat) (ds : List D) (M : Mem) (q : Fl × Slots × Mem) : Option (Fl × Slots × Mem) := open Classical in
  if q.1.goes = true then (if guard gk ds (tidy kl M q.2.1 q.2.2).2 then some (q.1, tidy kl M q.2.1 q.2.2) else none) else some (match q.1 with
  | .rt r => (.rt r, [], q.2.2)
  | _ => q)
noncomputable def stpK1 (kl : List Bool) (gk : Option Nat) (ds : List D) (body : Sf) (M : Mem) (p : Slots × Mem) : Option (Fl × Slots × Mem) := (body p.1 p.2).bind (stpOut kl gk ds M)
@[simp] theorem stpK_ap : stpK kl gk ds g body d ρ M = bnd (stpK1 kl gk ds body M) (g d ρ M) := rfl
@[simp] theorem stpK1_ap {M2 : Mem} : stpK1 kl gk ds body M (ρ, M2) = bnd (stpOut kl gk ds M) (body ρ M2) := rfl
@[simp] theorem stpOut_nx : stpOut kl none ds M (.nx, ρ, Me) = some (.nx, tidy kl M ρ Me) := by
  show (if (true = true) then _ else _) = _
  rw [if_pos rfl, if_pos (by simp)]
@[simp] theorem stpOut_ct : stpOut kl none ds M (.ct, ρ, Me) = some (.ct, tidy kl M ρ Me) := by
  show (if (true = true) then _ else _) = _
  rw [if_pos rfl, if_pos (by simp)]
@[simp] theorem stpOut_bk : stpOut kl gk ds M (.bk, ρ, Me) = some (.bk, ρ, Me) := rfl
@[simp] theorem stpOut_rt {r : Rz} : stpOut kl gk ds M (.rt r, ρ, Me) = some (.rt r, [], Me) := rfl
theorem stpOut_nxL {k : Nat} (h : (tidy kl M ρ Me).2[k]? = some (.lst ds)) : stpOut kl (some k) ds M (.nx, ρ, Me) = some (.nx, tidy kl M ρ Me) := by
  show (if (true = true) then _ else _) = _
  rw [if_pos rfl, if_pos (show guard _ _ _ from fun j e => by cases e; exact h)]
theorem stpOut_ctL {k : Nat} (h : (tidy kl M ρ Me).2[k]? = some (.lst ds)) : stpOut kl (some k) ds M (.ct, ρ, Me) = some (.ct, tidy kl M ρ Me) := by
  show (if (true = true) then _ else _) = _
  rw [if_pos rfl, if_pos (show guard _ _ _ from fun j e => by cases e; exact h)]
@[simp] theorem gkOf_lst {ds} : gkOf (.lst ds) = none := rfl
@[simp] theorem gkOf_tup {ds} : gkOf (.tup ds) = none := rfl
@[simp] theorem gkOf_scr {ds} : gkOf (.scr ds) = none := rfl
@[simp] theorem gkOf_loc {k} : gkOf (.loc k) = some k := rfl
end
/-! ### loops over typed items -/
theorem loop_fold {α σ : Type} {step : Stp} (e : α → D) (S : σ → Slots) (N : σ → Mem) (f : σ → α → σ) (I : List α → σ → Prop)
    (hs : ∀ x xs s, I (x :: xs) s → (∃ fl : Fl, fl.goes = true ∧ step (e x) (S s) (N s) = some (fl, S (f s x), N (f s x))) ∧ I xs (f s x)) :
    ∀ xs s, I xs s → loopF step (xs.map e) (S s) (N s) = some (.nx, S (xs.foldl f s), N (xs.foldl f s))
  | [], s, _ => rfl
  | x :: xs, s, h => by
    obtain ⟨⟨fl, hf, h1⟩, h2⟩ := hs x xs s h
    have ih := loop_fold e S N f I hs xs (f s x) h2
    rw [List.map_cons, List.foldl_cons]
    unfold loopF
    rw [h1]
    cases fl with
    | nx => exact ih
    | ct => exact ih
    | bk => cases hf
    | rt r => cases hf
/-- a step that may return -/
theorem loop_exit {α σ β : Type} {step : Stp} (e : α → D) (S : σ → Slots) (N : σ → Mem) (R : β → Rz) (NB : β → Mem) (f : σ → α → Except β σ) (I : List α → σ → Prop)
    (hs : ∀ x xs s, I (x :: xs) s → (∀ s', f s x = .ok s' → (∃ fl : Fl, fl.goes = true ∧ step (e x) (S s) (N s) = some (fl, S s', N s')) ∧ I xs s') ∧ (∀ b, f s x = .error b → step (e x) (S s) (N s) = some (.rt (R b), [], NB b))) :
    ∀ xs s, I xs s → loopF step (xs.map e) (S s) (N s) = (match xs.foldlM f s with
      | .ok s' => some (.nx, S s', N s')
      | .error b => some (.rt (R b), [], NB b))
  | [], s, _ => rfl
  | x :: xs, s, h => by
    obtain ⟨h1, h2⟩ := hs x xs s h
    rw [List.map_cons, List.foldlM_cons]
    unfold loopF
    cases q : f s x with
    | error b =>
      rw [h2 b q]
      rfl
    | ok s' =>
      obtain ⟨⟨fl, hf, h3⟩, h4⟩ := h1 s' q
      have ih := loop_exit e S N R NB f I hs xs s' h4
      rw [h3]
      cases fl with
      | nx => exact ih
      | ct => exact ih
      | bk => cases hf
      | rt r => cases hf
theorem rgD_map {lo : Int} {n : Nat} : rgD lo n = (List.range n).map fun (i : Nat) => D.int (lo + i) := rfl
/-! ### comprehensions over typed items -/
def elemF (g : Gf) (tt : Tf) (te : Ef) (ρw : Slots) (d : D) (M : Mem) : Option (Option D × Mem) := (g d ρw M).bind fun p => (tt p.1 p.2).bind fun b => if b.1 = true then (te p.1 b.2).bind fun r => some (some r.1.d, r.2) else some (none, b.2)
def elem3 (r : Rz × Mem) : Option (Option D × Mem) := some (some r.1.d, r.2)
def elem2 (te : Ef) (ρ : Slots) (b : Bool × Mem) : Option (Option D × Mem) := if b.1 = true then (te ρ b.2).bind elem3 else some (none, b.2)
def elem1 (tt : Tf) (te : Ef) (p : Slots × Mem) : Option (Option D × Mem) := (tt p.1 p.2).bind (elem2 te p.1)
@[simp] theorem elemF_ap {g : Gf} {tt : Tf} {te : Ef} {ρw : Slots} {d : D} {M : Mem} : elemF g tt te ρw d M = bnd (elem1 tt te) (g d ρw M) := rfl
@[simp] theorem elem1_ap {tt : Tf} {te : Ef} {ρ : Slots} {M : Mem} : elem1 tt te (ρ, M) = bnd (elem2 te ρ) (tt ρ M) := rfl
@[simp] theorem elem2_ap {te : Ef} {ρ : Slots} {b : Bool} {M : Mem} : elem2 te ρ (b, M) = if b = true then bnd elem3 (te ρ M) else some (none, M) := rfl
@[simp] theorem elem3_ap {r : Rz} {M : Mem} : elem3 (r, M) = some (some r.d, M) := rfl
theorem lcF_ty {α : Type} {g : Gf} {tt : Tf} {te : Ef} {ρw : Slots} {M : Mem} {gk : Option Nat} {ds0 : List D} (e : α → D) (q : α → Option D) (hgd : ∀ x : O, guard gk ds0 (M ++ [x])) : ∀ (xs : List α) (acc : List D), acc.length + xs.length ≤ 16777216 →
    (∀ x ∈ xs, ∀ acc, elemF g tt te ρw (e x) (M ++ [.lst acc]) = some (q x, M ++ [.lst acc])) →
    lcF g tt te ρw M.length gk ds0 (xs.map e) (M ++ [.lst acc]) = some (M ++ [.lst (acc ++ xs.filterMap q)])
  | [], acc, _, _ => by rw [List.map_nil]; unfold lcF; simp
  | x :: xs, acc, hl, hd => by
    have h1 := hd x List.mem_cons_self acc
    have ih := fun acc' hl' => lcF_ty e q hgd xs acc' hl' fun d' h' => hd d' (List.mem_cons_of_mem _ h')
    rw [List.map_cons]
    unfold lcF
    unfold elemF at h1
    cases eg : g (e x) ρw (M ++ [.lst acc]) with
    | none => rw [eg] at h1; cases h1
    | some p =>
      rw [eg] at h1
      simp only [Option.bind_some] at h1 ⊢
      cases et : tt p.1 p.2 with
      | none => rw [et] at h1; cases h1
      | some b =>
        rw [et] at h1
        simp only [Option.bind_some] at h1 ⊢
        by_cases hb : b.1 = true
        · rw [if_pos hb] at h1 ⊢
          cases ev : te p.1 b.2 with
          | none => rw [ev] at h1; cases h1
          | some r =>
            rw [ev] at h1
            simp only [Option.bind_some, Option.some.injEq, Prod.mk.injEq] at h1 ⊢
            obtain ⟨h2, h3⟩ := h1
            rw [h3, get_end]
            simp only
            have hz : acc.length < sizeLine := by rw [line_lt]; simp at hl; omega
            rw [if_pos hz, set_end, if_pos (hgd _), ih _ (by simp at hl ⊢; omega), List.filterMap_cons, ← h2]
            simp
        · rw [if_neg hb] at h1 ⊢
          simp only [Option.some.injEq, Prod.mk.injEq] at h1
          obtain ⟨h2, h3⟩ := h1
          rw [h3, if_pos (hgd _), ih _ (by simp at hl ⊢; omega), List.filterMap_cons, ← h2]
theorem cLc_ty {α : Type} {it : If} {vs : List Nat} {g : Gf} {tt : Tf} {te : Ef} {ρ : Slots} {M : Mem} {gk : Option Nat} (e : α → D) (q : α → Option D) (xs : List α) (hi : it ρ M = some (xs.map e, gk, M)) (hgd : guard gk (xs.map e) M) (hl : xs.length ≤ 16777216)
    (hd : ∀ x ∈ xs, ∀ acc, elemF g tt te (wipeD ρ vs) (e x) (M ++ [.lst acc]) = some (q x, M ++ [.lst acc]))
    (hn : ∀ x ∈ xs, ∀ y, q x = some y → nl M.length y = true) : cLc it vs g tt te ρ M = some (.new (xs.filterMap q), M) := by
  unfold cLc
  rw [hi]
  simp only [Option.bind_some]
  rw [lcF_ty e q (guard_app hgd) xs [] (by simpa using hl) hd]
  simp only [Option.bind_some, List.nil_append]
  rw [get_end]
  simp only
  rw [if_pos]
  · simp
  · refine ⟨by simp, .inl (by simp), nls_of fun y hy => ?_⟩
    obtain ⟨x, hx, hq⟩ := List.mem_filterMap.mp hy
    exact hn x hx y hq
theorem fm_map {α : Type} {xs : List α} {h : α → D} : xs.filterMap (fun x => some (h x)) = xs.map h := by
  induction xs <;> simp [*]
theorem fm_ite {α : Type} {xs : List α} {p : α → Bool} {h : α → D} : xs.filterMap (fun x => if p x = true then some (h x) else none) = (xs.filter p).map h := by
  induction xs with
  | nil => rfl
  | cons x xs ih =>
    rw [List.filterMap_cons, List.filter_cons]
    cases p x <;> simp [ih]
/-! ### methods of lists -/
@[simp] theorem oAppend_ap {k : Nat} {x : D} {M : Mem} : oAppend (.loc k) [x] M = (match M[k]? with
    | some (.lst es) => if es.length < sizeLine then some (.val .non, M.set k (.lst (es ++ [x]))) else none
    | _ => none) := rfl
theorem asS_locE {k : Nat} {M : Mem} : asS M (.loc k) = (match M[k]? with | some (.lst ds) => some ds | _ => none) := rfl
theorem tyOf_locE {k : Nat} {M : Mem} : tyOf M (.loc k) = (match M[k]? with | some (.lst _) => some "list" | some (.dct _) => some "dict" | _ => none) := rfl
theorem oLen_locE {k : Nat} {M : Mem} : oLen [.loc k] M = (asS M (.loc k)).bind fun es => some (.val (.int es.length)) := rfl


/-- data to a depth -/
def plD : Nat → D → Bool
  | 0, _ => false
  | n + 1, d => match d with
    | .tup ds => decide (ds.length < 10000) && ds.all (plD n)
    | .lst ds => decide (ds.length < 10000) && ds.all (plD n)
    | .scr _ => false
    | .loc _ => false
    | _ => true
theorem plD_tup {n : Nat} {ds : List D} : plD (n + 1) (.tup ds) = (decide (ds.length < 10000) && ds.all (plD n)) := rfl
theorem plD_lst {n : Nat} {ds : List D} : plD (n + 1) (.lst ds) = (decide (ds.length < 10000) && ds.all (plD n)) := rfl
theorem plD_int {n : Nat} {i : Int} : plD (n + 1) (.int i) = true := rfl
theorem plD_ints {n : Nat} {l : List Int} : (l.map D.int).all (plD (n + 1)) = true := by
  rw [List.all_eq_true]; intro x hx
  obtain ⟨i, _, rfl⟩ := List.mem_map.mp hx; rfl

/-- None or an int -/
def stD : Option Int → D
  | none => .non
  | some i => .int i
@[simp] theorem nl_stD {n : Nat} {s : Option Int} : nl n (stD s) = true := by cases s <;> simp [stD, nl]
theorem eqB_st (a b : Option Int) (M : Mem) : eqB M (stD a) (stD b) = some (decide (a = b)) := by
  cases a with
  | none =>
    cases b with
    | none => simp [stD, eqB, py, py0, PyData.eqv]; decide
    | some j => simp [stD, eqB, py, py0, PyData.eqv]; exact ⟨by decide, rfl⟩
  | some i =>
    cases b with
    | none => simp [stD, eqB, py, py0, PyData.eqv]; exact ⟨rfl, by decide⟩
    | some j => simp [stD, eqB]
theorem oEq_st (a b : Option Int) (M : Mem) : oEq (stD a) (stD b) M = some (.val (.bl (decide (a = b)))) := by
  unfold oEq; rw [eqB_st]; rfl
@[simp] theorem isNon_st {s : Option Int} : isNon (stD s) = s.isNone := by cases s <;> rfl

end CI

/-! N18: more methods of lists -/
namespace CI
open PySem PySem.Spec PyProof.Rows L2
def oPop : Mop := fun d ds M => match d, ds with
  | .loc k, [] => match M[k]? with
    | some (.lst es) => (es[es.length - 1]?).bind fun y => some (.val y, M.set k (.lst es.dropLast))
    | _ => none
  | _, _ => none
def oPopAt : Mop := fun d ds M => match d, ds with
  | .loc k, [.int i] => match M[k]? with
    | some (.lst es) => if -(2 ^ 63) ≤ i ∧ i < 2 ^ 63 then (seqIndex? i es.length).bind fun j => (es[j]?).bind fun y => some (.val y, M.set k (.lst (es.eraseIdx j))) else none
    | _ => none
  | _, _ => none
def oInsert : Mop := fun d ds M => match d, ds with
  | .loc k, [.int i, y] => match M[k]? with
    | some (.lst es) => if es.length < sizeLine ∧ 0 ≤ i ∧ i < 2 ^ 63 then some (.val .non, M.set k (.lst (es.take i.toNat ++ y :: es.drop i.toNat))) else none
    | _ => none
  | _, _ => none
def oReverse : Mop := fun d ds M => match d, ds with
  | .loc k, [] => match M[k]? with
    | some (.lst es) => some (.val .non, M.set k (.lst es.reverse))
    | _ => none
  | _, _ => none
section
variable {K : PySem.W.Frag} {H : Hp} {m : List Addr}
theorem Rls.dropLast : ∀ {ds : List D} {vs : List V}, Rls K H m ds vs → Rls K H m ds.dropLast vs.dropLast
  | ds, vs, h => by rw [List.dropLast_eq_take, List.dropLast_eq_take, ← h.length]; exact h.take _
theorem Rls.snoc {ds : List D} {vs : List V} {d : D} {v : V} (h : Rls K H m ds vs) (r : Rl K H m d v) : Rls K H m (d :: ds) (v :: vs) := by
  rw [Rls]; exact ⟨v, vs, rfl, r, h⟩
theorem Rls.reverse : ∀ {ds : List D} {vs : List V}, Rls K H m ds vs → Rls K H m ds.reverse vs.reverse
  | [], _, h => by rw [rls_nil h]; rw [List.reverse_nil, List.reverse_nil, Rls]
  | d :: ds, _, h => by
    rw [Rls] at h
    obtain ⟨v, r, rfl, h1, h2⟩ := h
    rw [List.reverse_cons, List.reverse_cons]
    exact (Rls.reverse h2).append (by rw [Rls]; exact ⟨v, [], rfl, h1, by rw [Rls]⟩)
end
section
variable {X : Cx}
theorem ok_pop : MtOk X "list" "list.pop" oPop := by
  refine ⟨_, mt_pop, fun H m M d ds x xs z M' Q w rd rds ho P => ?_⟩
  unfold oPop at ho
  split at ho
  · rename_i k
    split at ho
    · rename_i es hk
      cases q : es[es.length - 1]? with
      | none => rw [q] at ho; cases ho
      | some y =>
        rw [q] at ho
        cases ho
        rw [Rl] at rd
        obtain ⟨a, rfl, ha⟩ := rd
        obtain ⟨b, hb, vs, h1, h2⟩ := w.get hk
        rw [ha] at hb; cases hb
        obtain ⟨v, hv, rv⟩ := h2.get q
        have e := w.ext_set (K := X.K) (u := .lst vs.dropLast) ha
        exact ⟨a, vs, v, rfl, rls_nil rds, h1, by rw [← h2.length]; exact hv, P.set w ha ⟨_, upd_same, (h2.ext e).dropLast⟩ (rv.ext e)⟩
    · cases ho
  · cases ho
theorem ok_popAt : MtOk X "list" "list.pop" oPopAt := by
  refine ⟨_, mt_popAt, fun H m M d ds x xs z M' Q w rd rds ho P => ?_⟩
  unfold oPopAt at ho
  split at ho
  · rename_i k i
    split at ho
    · rename_i es hk
      split at ho
      · rename_i hi
        cases q0 : seqIndex? i es.length with
        | none => rw [q0] at ho; cases ho
        | some j =>
          rw [q0] at ho
          simp only [Option.bind_some] at ho
          cases q : es[j]? with
          | none => rw [q] at ho; cases ho
          | some y =>
            rw [q] at ho
            cases ho
            rw [Rl] at rd
            obtain ⟨a, rfl, ha⟩ := rd
            obtain ⟨b, hb, vs, h1, h2⟩ := w.get hk
            rw [ha] at hb; cases hb
            obtain ⟨v, hv, rv⟩ := h2.get q
            obtain ⟨u, rfl, ru⟩ := rds.one
            rw [Rl] at ru; subst ru
            have e := w.ext_set (K := X.K) (u := .lst (vs.eraseIdx j)) ha
            exact ⟨a, vs, i, j, v, rfl, rfl, h1, hi.1, hi.2, by rw [← h2.length]; exact q0, hv, P.set w ha ⟨_, upd_same, (h2.ext e).eraseIdx j⟩ (rv.ext e)⟩
      · cases ho
    · cases ho
  · cases ho
theorem ok_insert : MtOk X "list" "list.insert" oInsert := by
  refine ⟨_, mt_insert, fun H m M d ds x xs z M' Q w rd rds ho P => ?_⟩
  unfold oInsert at ho
  split at ho
  · rename_i k i y
    split at ho
    · rename_i es hk
      split at ho
      · rename_i hi
        cases ho
        rw [Rl] at rd
        obtain ⟨a, rfl, ha⟩ := rd
        obtain ⟨b, hb, vs, h1, h2⟩ := w.get hk
        rw [ha] at hb; cases hb
        obtain ⟨u, v, rfl, ru, rv⟩ := rds.two
        rw [Rl] at ru; subst ru
        have eq : vs.take i.toNat ++ [v] ++ vs.drop i.toNat = vs.take i.toNat ++ v :: vs.drop i.toNat := by simp
        have e := w.ext_set (K := X.K) (u := .lst (vs.take i.toNat ++ v :: vs.drop i.toNat)) ha
        refine ⟨a, vs, i, v, rfl, rfl, h1, by rw [← h2.length]; exact hi.1, hi.2.1, hi.2.2, ?_⟩
        rw [eq]
        exact P.set w ha ⟨_, upd_same, ((h2.ext e).take _).append (((h2.ext e).drop _).snoc (rv.ext e))⟩ rl_non
      · cases ho
    · cases ho
  · cases ho
theorem ok_reverse : MtOk X "list" "list.reverse" oReverse := by
  refine ⟨_, mt_reverse, fun H m M d ds x xs z M' Q w rd rds ho P => ?_⟩
  unfold oReverse at ho
  split at ho
  · rename_i k
    split at ho
    · rename_i es hk
      cases ho
      rw [Rl] at rd
      obtain ⟨a, rfl, ha⟩ := rd
      obtain ⟨b, hb, vs, h1, h2⟩ := w.get hk
      rw [ha] at hb; cases hb
      have e := w.ext_set (K := X.K) (u := .lst vs.reverse) ha
      exact ⟨a, vs, rfl, rls_nil rds, h1, P.set w ha ⟨_, upd_same, (h2.ext e).reverse⟩ rl_non⟩
    · cases ho
  · cases ho
end
section
variable {k : Nat} {M : Mem} {i : Int} {y : D}
@[simp] theorem oPop_ap : oPop (.loc k) [] M = (match M[k]? with
    | some (.lst es) => (es[es.length - 1]?).bind fun y => some (.val y, M.set k (.lst es.dropLast))
    | _ => none) := rfl
@[simp] theorem oPopAt_ap : oPopAt (.loc k) [.int i] M = (match M[k]? with
    | some (.lst es) => if -(2 ^ 63) ≤ i ∧ i < 2 ^ 63 then (seqIndex? i es.length).bind fun j => (es[j]?).bind fun y => some (.val y, M.set k (.lst (es.eraseIdx j))) else none
    | _ => none) := rfl
@[simp] theorem oInsert_ap : oInsert (.loc k) [.int i, y] M = (match M[k]? with
    | some (.lst es) => if es.length < sizeLine ∧ 0 ≤ i ∧ i < 2 ^ 63 then some (.val .non, M.set k (.lst (es.take i.toNat ++ y :: es.drop i.toNat))) else none
    | _ => none) := rfl
@[simp] theorem oReverse_ap : oReverse (.loc k) [] M = (match M[k]? with
    | some (.lst es) => some (.val .non, M.set k (.lst es.reverse))
    | _ => none) := rfl
end
end CI

/-! N19: memories with a part at the end; places in lists; typed items -/
namespace CI
open PySem PySem.Spec PyProof.Rows L2
def tyO : Option O → Option String
  | some (.lst _) => some "list"
  | some (.dct _) => some "dict"
  | _ => none
@[simp] theorem tyOf_loc' {k : Nat} {M : Mem} : tyOf M (.loc k) = tyO M[k]? := by
  show (match M[k]? with | some (.lst _) => some "list" | some (.dct _) => some "dict" | _ => none) = _
  cases M[k]? with
  | none => rfl
  | some o => cases o <;> rfl
@[simp] theorem tyO_lst {ds} : tyO (some (.lst ds)) = some "list" := rfl
@[simp] theorem tyO_dct {ds} : tyO (some (.dct ds)) = some "dict" := rfl
def lsO : Option O → Option (List D)
  | some (.lst ds) => some ds
  | _ => none
@[simp] theorem asS_loc' {k : Nat} {M : Mem} : asS M (.loc k) = lsO M[k]? := by
  show (match M[k]? with | some (.lst ds) => some ds | _ => none) = _
  cases M[k]? with
  | none => rfl
  | some o => cases o <;> rfl
@[simp] theorem lsO_lst {ds} : lsO (some (.lst ds)) = some ds := rfl
@[simp] theorem asL_loc' {k : Nat} {M : Mem} : asL M (.loc k) = lsO M[k]? := asS_loc'
def lenO (ds : List D) : Option Rz := some (.val (.int ds.length))
@[simp] theorem lenO_ap {ds} : lenO ds = some (.val (.int ds.length)) := rfl
@[simp] theorem oLen_loc' {k : Nat} {M : Mem} : oLen [.loc k] M = bnd lenO (lsO M[k]?) := by
  show ((asS M (.loc k)).bind fun es => some (Rz.val (.int es.length))) = _
  rw [asS_loc']; rfl
section
variable {kl : List Bool} {M A B : Mem} {ρ : Slots}
theorem tidy_C2 (t : trimC (M.length + A.length) A B) (h : nlS (M.length + A.length) (keepD kl ρ) = true) : tidy kl (M ++ A) ρ (M ++ B) = (keepD kl ρ, M ++ B.take A.length) := by
  rw [tidy_trim (trimOk_C2 t) (by rw [List.length_append]; exact h), List.length_append, take_appj]
theorem tidy_C (t : trimC A.length A B) (h : nlS A.length (keepD kl ρ) = true) : tidy kl A ρ B = (keepD kl ρ, B.take A.length) := tidy_trim (trimOk_C t) h
@[simp] theorem tidy_a1 {a a' : O} (t : a' = a ∨ nlO (M.length + 1) a' = true) (h : nlS (M.length + 1) (keepD kl ρ) = true) : tidy kl (M ++ [a]) ρ (M ++ a' :: B) = (keepD kl ρ, M ++ [a']) := tidy_C2 (A := [a]) ⟨t, trivial⟩ h
@[simp] theorem tidy_a2 {a a' b b' : O} (t : a' = a ∨ nlO (M.length + 2) a' = true) (t2 : b' = b ∨ nlO (M.length + 2) b' = true) (h : nlS (M.length + 2) (keepD kl ρ) = true) : tidy kl (M ++ [a, b]) ρ (M ++ a' :: b' :: B) = (keepD kl ρ, M ++ [a', b']) := tidy_C2 (A := [a, b]) ⟨t, t2, trivial⟩ h
@[simp] theorem tidy_a3 {a a' b b' c c' : O} (t : a' = a ∨ nlO (M.length + 3) a' = true) (t2 : b' = b ∨ nlO (M.length + 3) b' = true) (t3 : c' = c ∨ nlO (M.length + 3) c' = true) (h : nlS (M.length + 3) (keepD kl ρ) = true) : tidy kl (M ++ [a, b, c]) ρ (M ++ a' :: b' :: c' :: B) = (keepD kl ρ, M ++ [a', b', c']) := tidy_C2 (A := [a, b, c]) ⟨t, t2, t3, trivial⟩ h
@[simp] theorem trimC_nil {n} {B} : trimC n [] B = True := rfl
@[simp] theorem trimC_cons {n a b} {A B} : trimC n (a :: A) (b :: B) = ((b = a ∨ nlO n b = true) ∧ trimC n A B) := rfl
end
/-! ### places -/
theorem at_nat {α : Type} {xs : List α} {i : Int} (h0 : 0 ≤ i) : L2.atI xs i = xs[i.toNat]? := by
  unfold L2.atI
  by_cases h : i < xs.length
  · have : ixN xs.length i = some i.toNat := by unfold ixN; split <;> (try split) <;> first | rfl | omega | simp_all
    rw [this]; rfl
  · have e : xs[i.toNat]? = none := List.getElem?_eq_none (by omega)
    have : ixN xs.length i = none := by unfold ixN; split <;> (try split) <;> first | rfl | omega | simp_all
    rw [this, e]; rfl
theorem at_neg {α : Type} {xs : List α} {i : Int} (h0 : i < 0) (h1 : -(xs.length : Int) ≤ i) : L2.atI xs i = xs[(i + xs.length).toNat]? := by
  unfold L2.atI
  have : ixN xs.length i = some (i + xs.length).toNat := by unfold ixN; split <;> (try split) <;> first | rfl | omega | simp_all
  rw [this]; rfl
theorem at_map {α : Type} {xs : List α} {f : α → D} {i : Int} : L2.atI (xs.map f) i = (L2.atI xs i).map f := by
  unfold L2.atI
  rw [List.length_map]
  cases ixN xs.length i with
  | none => rfl
  | some j => simp
def ixO (o : Option D) : Option Rz := o.bind fun x => some (.val x)
@[simp] theorem ixO_some {x : D} : ixO (some x) = some (.val x) := rfl
@[simp] theorem oIx_tup {ds : List D} {i : Int} {M : Mem} : oIx (.tup ds) (.int i) M = ixO (L2.atI ds i) := rfl
@[simp] theorem oIx_lst {ds : List D} {i : Int} {M : Mem} : oIx (.lst ds) (.int i) M = ixO (L2.atI ds i) := rfl
@[simp] theorem oIx_scr {ns : List Int} {i : Int} {M : Mem} : oIx (.scr ns) (.int i) M = ixO (L2.atI (ns.map D.int) i) := rfl
def ixL (i : Int) (ds : List D) : Option Rz := ixO (L2.atI ds i)
@[simp] theorem ixL_ap {i ds} : ixL i ds = ixO (L2.atI ds i) := rfl
@[simp] theorem oIx_loc {k : Nat} {i : Int} {M : Mem} : oIx (.loc k) (.int i) M = bnd (ixL i) (lsO M[k]?) := by
  show ((asS M (.loc k)).bind fun ds => (L2.atI ds i).bind fun x => some (Rz.val x)) = _
  rw [asS_loc']; rfl
@[simp] theorem atI_0 {α : Type} {x : α} {xs : List α} : L2.atI (x :: xs) 0 = some x := by rw [at_nat (by omega)]; rfl
@[simp] theorem atI_1 {α : Type} {x y : α} {xs : List α} : L2.atI (x :: y :: xs) 1 = some y := by rw [at_nat (by omega)]; rfl
@[simp] theorem atI_2 {α : Type} {x y z : α} {xs : List α} : L2.atI (x :: y :: z :: xs) 2 = some z := by rw [at_nat (by omega)]; rfl
@[simp] theorem atI_3 {α : Type} {x y z u : α} {xs : List α} : L2.atI (x :: y :: z :: u :: xs) 3 = some u := by rw [at_nat (by omega)]; rfl
@[simp] theorem atI_4 {α : Type} {x y z u v : α} {xs : List α} : L2.atI (x :: y :: z :: u :: v :: xs) 4 = some v := by rw [at_nat (by omega)]; rfl
@[simp] theorem atI_5 {α : Type} {x y z u v w : α} {xs : List α} : L2.atI (x :: y :: z :: u :: v :: w :: xs) 5 = some w := by rw [at_nat (by omega)]; rfl
/-! ### slices -/
def cutL {α : Type} (xs : List α) (lo hi : Option Int) : List α := (xs.drop (HT.sIx xs.length 0 lo)).take (HT.sIx xs.length xs.length hi - HT.sIx xs.length 0 lo)
@[simp] theorem cutD_map {α : Type} {xs : List α} {f : α → D} {lo hi : Option Int} : cutD (xs.map f) lo hi = (cutL xs lo hi).map f := by
  unfold cutD cutL
  rw [List.length_map, List.map_take, List.map_drop]
@[simp] theorem oSl_tup {ds : List D} {lo hi : Option Int} {M : Mem} : oSl lo hi (.tup ds) M = some (.val (.tup (cutD ds lo hi))) := rfl
@[simp] theorem oSl_lst {ds : List D} {lo hi : Option Int} {M : Mem} : oSl lo hi (.lst ds) M = some (.new (cutD ds lo hi)) := rfl
@[simp] theorem oSl_scr {ns : List Int} {lo hi : Option Int} {M : Mem} : oSl lo hi (.scr ns) M = some (.new ((cutL ns lo hi).map .int)) := by
  rw [← cutD_map]; rfl
def slL (lo hi : Option Int) (ds : List D) : Option Rz := some (.new (cutD ds lo hi))
@[simp] theorem slL_ap {lo hi ds} : slL lo hi ds = some (.new (cutD ds lo hi)) := rfl
@[simp] theorem oSl_loc {k : Nat} {lo hi : Option Int} {M : Mem} : oSl lo hi (.loc k) M = bnd (slL lo hi) (lsO M[k]?) := by
  show ((asL M (.loc k)).bind fun ds => some (Rz.new (cutD ds lo hi))) = _
  rw [asL_loc']; rfl
theorem cutL_len {α : Type} {xs : List α} {lo hi : Option Int} : (cutL xs lo hi).length ≤ xs.length := by unfold cutL; simp; omega
section
variable {α : Type} {xs : List α} {a b : Int}
theorem cutL_hi (h : 0 ≤ b) : cutL xs none (some b) = xs.take b.toNat := by
  show (xs.drop 0).take ((if b < 0 then (b + (xs.length : Int)).toNat else min b.toNat xs.length) - 0) = _
  rw [if_neg (by omega), List.drop_zero, Nat.sub_zero]
  by_cases q : b.toNat ≤ xs.length
  · rw [Nat.min_eq_left q]
  · rw [Nat.min_eq_right (by omega), List.take_length, List.take_of_length_le (by omega)]
theorem cutL_lo (h : 0 ≤ a) : cutL xs (some a) none = xs.drop a.toNat := by
  show (xs.drop (if a < 0 then (a + (xs.length : Int)).toNat else min a.toNat xs.length)).take (xs.length - (if a < 0 then (a + (xs.length : Int)).toNat else min a.toNat xs.length)) = _
  rw [if_neg (by omega)]
  by_cases q : a.toNat ≤ xs.length
  · rw [Nat.min_eq_left q, List.take_of_length_le (by simp)]
  · rw [Nat.min_eq_right (by omega), List.drop_length, List.drop_of_length_le (by omega), List.take_nil]
theorem cutL_mid (h : 0 ≤ a) (h2 : 0 ≤ b) : cutL xs (some a) (some b) = (xs.take b.toNat).drop a.toNat := by
  show (xs.drop (if a < 0 then (a + (xs.length : Int)).toNat else min a.toNat xs.length)).take ((if b < 0 then (b + (xs.length : Int)).toNat else min b.toNat xs.length) - (if a < 0 then (a + (xs.length : Int)).toNat else min a.toNat xs.length)) = _
  rw [if_neg (by omega), if_neg (by omega), List.drop_take]
  by_cases q : a.toNat ≤ xs.length
  · rw [Nat.min_eq_left q]
    by_cases q2 : b.toNat ≤ xs.length
    · rw [Nat.min_eq_left q2]
    · rw [Nat.min_eq_right (by omega)]
      rw [List.take_of_length_le (by simp), List.take_of_length_le (by simp; omega)]
  · rw [Nat.min_eq_right (a := a.toNat) (b := xs.length) (by omega), List.drop_length, List.drop_of_length_le (by omega), List.take_nil, List.take_nil]
theorem cutL_last (n : Nat) (hn : 0 < n) : cutL xs (some (-(n : Int))) none = xs.drop (xs.length - n) := by
  show (xs.drop (if -(n : Int) < 0 then (-(n : Int) + (xs.length : Int)).toNat else min (-(n : Int)).toNat xs.length)).take (xs.length - (if -(n : Int) < 0 then (-(n : Int) + (xs.length : Int)).toNat else min (-(n : Int)).toNat xs.length)) = _
  rw [if_pos (by omega)]
  have : (-(n : Int) + (xs.length : Int)).toNat = xs.length - n := by omega
  rw [this, List.take_of_length_le (by simp)]
theorem cutL_but : cutL xs none (some (-1)) = xs.dropLast := by
  show (xs.drop 0).take ((if (-1 : Int) < 0 then (-1 + (xs.length : Int)).toNat else min (-1 : Int).toNat xs.length) - 0) = _
  rw [if_pos (by omega), List.drop_zero, Nat.sub_zero, List.dropLast_eq_take]
  congr 1; omega
end
@[simp] theorem inD_str {k : Str} : ∀ {ks : List Str}, inD (.str k) (ks.map .str) = decide (k ∈ ks)
  | [] => by simp [inD]
  | x :: ks => by
    have ih := inD_str (k := k) (ks := ks)
    unfold inD at ih ⊢
    rw [List.map_cons, List.any_cons, ih]
    show ((x == k) || decide (k ∈ ks)) = _
    by_cases h : x = k
    · subst h; simp
    · have h2 : ¬ k = x := fun e => h e.symm
      simp [h, h2]
@[simp] theorem inD_int {k : Int} : ∀ {ks : List Int}, inD (.int k) (ks.map .int) = decide (k ∈ ks)
  | [] => by simp [inD]
  | x :: ks => by
    have ih := inD_int (k := k) (ks := ks)
    unfold inD at ih ⊢
    rw [List.map_cons, List.any_cons, ih]
    show ((x == k) || decide (k ∈ ks)) = _
    by_cases h : x = k
    · subst h; simp
    · have h2 : ¬ k = x := fun e => h e.symm
      simp [h, h2]
@[simp] theorem allfl_str {ks : List Str} : (ks.map D.str).all fl = true := by
  rw [List.all_eq_true]; intro x hx
  obtain ⟨y, _, rfl⟩ := List.mem_map.mp hx; rfl
@[simp] theorem allfl_int {ks : List Int} : (ks.map D.int).all fl = true := by
  rw [List.all_eq_true]; intro x hx
  obtain ⟨y, _, rfl⟩ := List.mem_map.mp hx; rfl
@[simp] theorem fl_str {x} : fl (.str x) = true := rfl
@[simp] theorem fl_int {x} : fl (.int x) = true := rfl
def in1 (neg : Bool) (d : D) (ds : List D) : Option Rz := if fl d = true ∧ ds.all fl = true then some (.val (.bl (if neg then !inD d ds else inD d ds))) else none
@[simp] theorem oIn_ap {neg : Bool} {d e : D} {M : Mem} : oIn neg d e M = bnd (in1 neg d) (asS M e) := rfl
@[simp] theorem in1_str {neg : Bool} {k : Str} {ks : List Str} : in1 neg (.str k) (ks.map .str) = some (.val (.bl (if neg then !decide (k ∈ ks) else decide (k ∈ ks)))) := by
  unfold in1; rw [if_pos ⟨rfl, allfl_str⟩, inD_str]
@[simp] theorem in1_int {neg : Bool} {k : Int} {ks : List Int} : in1 neg (.int k) (ks.map .int) = some (.val (.bl (if neg then !decide (k ∈ ks) else decide (k ∈ ks)))) := by
  unfold in1; rw [if_pos ⟨rfl, allfl_int⟩, inD_int]
/-! loops over written lists -/
def loopF1 (step : Stp) (ds : List D) (p : Fl × Slots × Mem) : Option (Fl × Slots × Mem) := match p.1 with
  | .nx => loopF step ds p.2.1 p.2.2
  | .ct => loopF step ds p.2.1 p.2.2
  | .bk => some (.nx, p.2.1, p.2.2)
  | .rt r => some (.rt r, p.2.1, p.2.2)
section
variable {step : Stp} {d : D} {ds : List D} {ρ : Slots} {M : Mem} {r : Rz}
@[simp] theorem loopF_nil : loopF step [] ρ M = some (.nx, ρ, M) := rfl
@[simp] theorem loopF_cons : loopF step (d :: ds) ρ M = bnd (loopF1 step ds) (step d ρ M) := rfl
@[simp] theorem loopF1_nx : loopF1 step ds (.nx, ρ, M) = loopF step ds ρ M := rfl
@[simp] theorem loopF1_ct : loopF1 step ds (.ct, ρ, M) = loopF step ds ρ M := rfl
@[simp] theorem loopF1_bk : loopF1 step ds (.bk, ρ, M) = some (.nx, ρ, M) := rfl
@[simp] theorem loopF1_rt : loopF1 step ds (.rt r, ρ, M) = some (.rt r, ρ, M) := rfl
end
/-! calls -/
def tupO (ds : List D) : Option Rz := some (.val (.tup ds))
@[simp] theorem tupO_ap {ds} : tupO ds = some (.val (.tup ds)) := rfl
@[simp] theorem oTuple_ap {d : D} {M : Mem} : oTuple [d] M = bnd tupO (asS M d) := rfl
def lisO (ds : List D) : Option Rz := some (.new ds)
@[simp] theorem lisO_ap {ds} : lisO ds = some (.new ds) := rfl
@[simp] theorem oList_ap {d : D} {M : Mem} : oList [d] M = bnd lisO (asS M d) := rfl
theorem oMin2_if {i j : Int} {M : Mem} : oMin2 [.int i, .int j] M = some (.val (.int (if j < i then j else i))) := rfl
theorem oMax2_if {i j : Int} {M : Mem} : oMax2 [.int i, .int j] M = some (.val (.int (if j > i then j else i))) := rfl
@[simp] theorem oMin2_ap {i j : Int} {M : Mem} : oMin2 [.int i, .int j] M = some (.val (.int (min i j))) := by
  rw [oMin2_if]; congr 3; split <;> omega
@[simp] theorem oMax2_ap {i j : Int} {M : Mem} : oMax2 [.int i, .int j] M = some (.val (.int (max i j))) := by
  rw [oMax2_if]; congr 3; split <;> omega
@[simp] theorem oInt_bl {b : Bool} {M : Mem} : oInt [.bl b] M = some (.val (.int (if b then 1 else 0))) := rfl
def srt2 (is : List Int) : Option Rz := some (.new ((isort is).map .int))
def srt1 (ds : List D) : Option Rz := (intsD ds).bind srt2
@[simp] theorem oSorted_ap {d : D} {M : Mem} : oSorted [d] M = bnd srt1 (asL M d) := rfl
@[simp] theorem srt1_ints {is : List Int} : srt1 (is.map .int) = some (.new ((isort is).map .int)) := by unfold srt1; rw [intsD_map]; rfl
@[simp] theorem oStr_int {i : Int} {M : Mem} : oStr [.int i] M = if i.natAbs.log2 < 1920 then some (.val (.str (toString i))) else none := rfl
@[simp] theorem trD_int {i : Int} {M : Mem} : trD M (.int i) = some (i != 0) := rfl
@[simp] theorem trD_non {M : Mem} : trD M .non = some false := rfl
def trO (ds : List D) : Option Bool := some (!ds.isEmpty)
@[simp] theorem trO_ap {ds} : trO ds = some (!ds.isEmpty) := rfl
@[simp] theorem trD_tup {ds} {M : Mem} : trD M (.tup ds) = some (!ds.isEmpty) := rfl
@[simp] theorem trD_lst {ds} {M : Mem} : trD M (.lst ds) = some (!ds.isEmpty) := rfl
@[simp] theorem trD_loc {k : Nat} {M : Mem} : trD M (.loc k) = bnd trO (lsO M[k]?) := by
  show ((asS M (.loc k)).bind fun ds => some (!ds.isEmpty)) = _
  rw [asS_loc']; rfl
end CI

/-! N20: * of ints, tuples, lists -/
namespace CI
open PySem PySem.Spec PyProof.Rows L2
section
variable {X : Cx}
def rMulE (K : PySem.W.Frag) : R2 := fun x y H Q => ∃ l k, x = .ref l ∧ y = .int k ∧ SqT K H l [] ∧ -1000000 < k ∧ k < 1000000 ∧ Q (.ref l) H
theorem op_mulE : OpR X (binaryOp .Mult) (rMulE X.K) := by
  intro pins s σ H x y v u Q I rx ry h
  obtain ⟨l, k, rfl, rfl, hT, h1, h2, q⟩ := h
  cases rx
  obtain ⟨t, rfl⟩ := ry
  obtain ⟨its, r, ⟨⟨cls, dd, data, sl⟩, ho, hc, n, hd⟩, hs⟩ := I.tuple hT
  simp only at hc hd
  subst hc hd
  have hle : its.length = 0 := r.length.symm
  have hn : its = [] := List.eq_nil_of_length_eq_zero hle
  have c0 : (decide (k < -(2 ^ 63)) || decide (k ≥ 2 ^ 63)) = false := by
    rw [decide_eq_false (by omega), decide_eq_false (by omega)] <;> rfl
  have c1 : (its.toArray.isEmpty || k == 1) = true := by rw [hn]; rfl
  refine wpAny_binaryOp_repeat_ref (T := "tuple") (U := "int") (by decide) ⟨_, ho, rfl⟩ (fun s' => typeIs_int s' k t) noFill_tuple_mul F.fills_int_mul F.slot_int_rmul repeat_tuple F.slot_int_index.lookup
    (call_meets F.slot_int_rmul (typeIs_int s k t) F.entry_int_rmul (F.args_int_rmul_2 _ _) (int_rmul_tuple k t l its.toArray n dd sl)
      ⟨ho, rfl, ⟨_, ho, rfl⟩, call_meets F.slot_tuple_mul ⟨_, ho, rfl⟩ F.entry_tuple_mul (F.args_tuple_mul_2 _ _) (tuple_mul1 l its.toArray n dd sl k t c0 c1) ⟨ho, ?_⟩⟩)
  exact ⟨.ref l, H, I, rfl, q⟩
def oMulA : Bop := fun d e M => match d, e with
  | .int i, .int j => if bMul i j = true then some (.val (.int (i * j))) else none
  | .tup ds, .int k => if -1000000 < k ∧ k ≤ 1000 ∧ ds.length ≤ 1000 then some (.val (.tup (List.replicate k.toNat ds).flatten)) else none
  | d, .int k => (asW M d).bind fun ds => if -1000000 < k ∧ k ≤ 1000 ∧ ds.length ≤ 1000 then some (.new (List.replicate k.toNat ds).flatten) else none
  | _, _ => none
theorem rep_nil {α : Type} : ∀ n : Nat, (List.replicate n ([] : List α)).flatten = []
  | 0 => rfl
  | n + 1 => by rw [List.replicate_succ, List.flatten_cons, rep_nil n]; rfl
theorem ok_mulA : OpOk X (binaryOp .Mult) oMulA := by
  refine ⟨_, op_mul.or (op_repT.or (op_mul1.or (op_mul0.or (op_mulE.or op_rep)))), fun H m M d e x y z Q w rd re ho P => ?_⟩
  unfold oMulA at ho
  split at ho
  · rename_i i j
    split at ho
    · rename_i hb
      cases ho
      rw [Rl] at rd; rw [Rl] at re
      refine .inl ⟨i, j, rd, re, ?_, P.val w rl_int⟩
      unfold bMul sm64 at hb
      simp only [Bool.or_eq_true, Bool.and_eq_true, decide_eq_true_eq] at hb
      exact hb
    · cases ho
  · rename_i ds k
    split at ho
    · rename_i hc
      obtain ⟨h2, h3, h4⟩ := hc
      cases ho
      have rd0 := rd
      rw [Rl] at rd; rw [Rl] at re; subst re
      obtain ⟨a, vs, rfl, hs, hr⟩ := rd
      by_cases hd : ds = []
      · subst hd
        have hv := rls_nil hr
        subst hv
        rw [rep_nil] at P
        exact .inr (.inr (.inr (.inr (.inl ⟨a, k, rfl, rfl, hs, h2, by omega, P.val w rd0⟩))))
      · have hv : vs ≠ [] := fun e => hd (by subst e; exact rls_of_nil hr)
        by_cases q1 : 2 ≤ k
        · exact .inr (.inl ⟨a, k, vs, rfl, rfl, hs, hv, q1, h3, by rw [← hr.length]; exact h4, P.tup w (hr.rep _)⟩)
        · by_cases q2 : k = 1
          · subst q2
            refine .inr (.inr (.inl ⟨a, vs, rfl, rfl, hs, P.val w ?_⟩))
            simpa using rd0
          · have hk : k.toNat = 0 := by omega
            rw [hk] at P
            exact .inr (.inr (.inr (.inl ⟨a, k, vs, rfl, rfl, hs, hv, by omega, h2, P.tup (ds := []) w (by rw [Rls])⟩)))
    · cases ho
  · rename_i k h1 h2
    cases q : asW M d with
    | none => rw [q] at ho; cases ho
    | some ds =>
      rw [q] at ho
      simp only [Option.bind_some] at ho
      split at ho
      · rename_i hc
        cases ho
        obtain ⟨a, vs, rfl, hv, hr⟩ := asW_ok w rd q
        rw [Rl] at re; subst re
        refine .inr (.inr (.inr (.inr (.inr ⟨a, k, vs, rfl, rfl, hv, by omega, by omega, ?_, P.new w (hr.rep _)⟩))))
        rw [← hr.length, sizeLine_eq]
        have : k.toNat ≤ 1000 := by omega
        calc ds.length * k.toNat ≤ 1000 * 1000 := Nat.mul_le_mul hc.2.2 this
          _ ≤ _ := by decide
      · cases ho
  · cases ho
@[simp] theorem oMulA_int {i j : Int} {M : Mem} : oMulA (.int i) (.int j) M = if bMul i j = true then some (.val (.int (i * j))) else none := rfl
@[simp] theorem oMulA_tup {ds : List D} {k : Int} {M : Mem} : oMulA (.tup ds) (.int k) M = if -1000000 < k ∧ k ≤ 1000 ∧ ds.length ≤ 1000 then some (.val (.tup (List.replicate k.toNat ds).flatten)) else none := rfl
@[simp] theorem oMulA_lst {ds : List D} {k : Int} {M : Mem} : oMulA (.lst ds) (.int k) M = if -1000000 < k ∧ k ≤ 1000 ∧ ds.length ≤ 1000 then some (.new (List.replicate k.toNat ds).flatten) else none := rfl
end
theorem rep_one {d : D} : ∀ n : Nat, (List.replicate n [d]).flatten = List.replicate n d
  | 0 => rfl
  | n + 1 => by rw [List.replicate_succ, List.flatten_cons, rep_one n]; rfl
end CI

/-! N21: == of data, by their trees -/
namespace CI
open PySem PySem.Spec PyProof.Rows L2
mutual
def deq : D → D → Bool
  | .non, .non => true
  | .bl a, .bl b => decide (a = b)
  | .bl a, .int b => decide ((if a then 1 else 0) = b)
  | .int a, .bl b => decide (a = (if b then 1 else 0))
  | .int a, .int b => decide (a = b)
  | .str a, .str b => decide (a = b)
  | .tup a, .tup b => deqs a b
  | .lst a, .lst b => deqs a b
  | _, _ => false
def deqs : List D → List D → Bool
  | [], [] => true
  | a :: as, b :: bs => deq a b && deqs as bs
  | _, _ => false
end
mutual
theorem deq_py : ∀ (n m : Nat) (d e : D) (p q : PyData), py0 d = some p → py0 e = some q → plS n d = true → plS m e = true → PyData.eqv p q = deq d e
  | 0, _, d, _, _, _, _, _, h, _ => by cases h
  | _ + 1, 0, _, e, _, _, _, _, _, h => by cases h
  | n + 1, m + 1, d, e, p, q, hp, hq, h1, h2 => by
    cases d with
    | scr _ => cases h1
    | loc _ => cases h1
    | non => cases hp; cases e <;> first | (cases h2; done) | (simp [py0] at hq; first | (subst hq; simp [PyData.eqv, deq]; done) | (subst hq; simp only [PyData.eqv, deq]; first | rfl | (rw [Bool.eq_iff_iff]; simp; done)) | (obtain ⟨ps, hps, rfl⟩ := hq; simp [PyData.eqv, deq]; done))
    | bl b => cases hp; cases e <;> first | (cases h2; done) | (simp [py0] at hq; first | (subst hq; simp [PyData.eqv, deq]; done) | (subst hq; simp only [PyData.eqv, deq]; first | rfl | (rw [Bool.eq_iff_iff]; simp; done)) | (obtain ⟨ps, hps, rfl⟩ := hq; simp [PyData.eqv, deq]; done))
    | int b => cases hp; cases e <;> first | (cases h2; done) | (simp [py0] at hq; first | (subst hq; simp [PyData.eqv, deq]; done) | (subst hq; simp only [PyData.eqv, deq]; first | rfl | (rw [Bool.eq_iff_iff]; simp; done)) | (obtain ⟨ps, hps, rfl⟩ := hq; simp [PyData.eqv, deq]; done))
    | str b => cases hp; cases e <;> first | (cases h2; done) | (simp [py0] at hq; first | (subst hq; simp [PyData.eqv, deq]; done) | (subst hq; simp only [PyData.eqv, deq]; first | rfl | (rw [Bool.eq_iff_iff]; simp; done)) | (obtain ⟨ps, hps, rfl⟩ := hq; simp [PyData.eqv, deq]; done))
    | tup as =>
      simp [py0] at hp
      obtain ⟨ps, hps, rfl⟩ := hp
      cases e with
      | scr _ => cases h2
      | loc _ => cases h2
      | tup bs =>
        simp [py0] at hq
        obtain ⟨qs, hqs, rfl⟩ := hq
        rw [PyData.eqv, deq]
        exact deqs_py n m as bs ps qs hps hqs h1 h2
      | lst bs => simp [py0] at hq; obtain ⟨qs, hqs, rfl⟩ := hq; simp [PyData.eqv, deq]
      | _ => simp [py0] at hq; subst hq; simp [PyData.eqv, deq]
    | lst as =>
      simp [py0] at hp
      obtain ⟨ps, hps, rfl⟩ := hp
      cases e with
      | scr _ => cases h2
      | loc _ => cases h2
      | lst bs =>
        simp [py0] at hq
        obtain ⟨qs, hqs, rfl⟩ := hq
        rw [PyData.eqv, deq]
        exact deqs_py n m as bs ps qs hps hqs h1 h2
      | tup bs => simp [py0] at hq; obtain ⟨qs, hqs, rfl⟩ := hq; simp [PyData.eqv, deq]
      | _ => simp [py0] at hq; subst hq; simp [PyData.eqv, deq]
theorem deqs_py : ∀ (n m : Nat) (ds es : List D) (ps qs : List PyData), py0s ds = some ps → py0s es = some qs → ds.all (plS n) = true → es.all (plS m) = true → PyData.eqvAll ps qs = deqs ds es
  | _, _, [], [], _, _, hp, hq, _, _ => by cases hp; cases hq; simp [PyData.eqvAll, deqs]
  | _, _, [], e :: es, _, qs, hp, hq, _, _ => by
    cases hp
    rw [py0s] at hq
    cases h : py0 e with
    | none => rw [h] at hq; cases hq
    | some q => cases h' : py0s es with
      | none => rw [h, h'] at hq; cases hq
      | some qs' => rw [h, h'] at hq; cases hq; simp [PyData.eqvAll, deqs]
  | _, _, d :: ds, [], ps, _, hp, hq, _, _ => by
    cases hq
    rw [py0s] at hp
    cases h : py0 d with
    | none => rw [h] at hp; cases hp
    | some q => cases h' : py0s ds with
      | none => rw [h, h'] at hp; cases hp
      | some qs' => rw [h, h'] at hp; cases hp; simp [PyData.eqvAll, deqs]
  | n, m, d :: ds, e :: es, ps, qs, hp, hq, h1, h2 => by
    rw [py0s] at hp hq
    rw [List.all_cons, Bool.and_eq_true] at h1 h2
    cases a1 : py0 d with
    | none => rw [a1] at hp; cases hp
    | some p =>
      cases a2 : py0s ds with
      | none => rw [a1, a2] at hp; cases hp
      | some ps' =>
        cases b1 : py0 e with
        | none => rw [b1] at hq; cases hq
        | some q =>
          cases b2 : py0s es with
          | none => rw [b1, b2] at hq; cases hq
          | some qs' =>
            rw [a1, a2] at hp; rw [b1, b2] at hq; cases hp; cases hq
            rw [PyData.eqvAll, deqs, deq_py n m d e p q a1 b1 h1.1 h2.1, deqs_py n m ds es ps' qs' a2 b2 h1.2 h2.2]
end
theorem eqB_deq {M : Mem} {n m : Nat} {d e : D} (hn : n ≤ 64) (hm : m ≤ 64) (h1 : plS n d = true) (h2 : plS m e = true) : eqB M d e = some (deq d e) := by
  obtain ⟨p, p1, p2, p3⟩ := plS_ok n d h1
  obtain ⟨q, q1, q2, q3⟩ := plS_ok m e h2
  have sp : SeqAt.shaped p = true := by unfold SeqAt.shaped; rw [p2, Bool.true_and]; exact decide_eq_true (by omega)
  have sq : SeqAt.shaped q = true := by unfold SeqAt.shaped; rw [q2, Bool.true_and]; exact decide_eq_true (by omega)
  have hk := deq_py n m d e p q p1 q1 h1 h2
  have hd : py M d = some p := by cases d <;> first | exact p1 | cases p1
  have he : py M e = some q := by cases e <;> first | exact q1 | cases q1
  have gen : (match py M d, py M e with
    | some a, some b => if SeqAt.shaped a = true ∧ SeqAt.shaped b = true then some (PyData.eqv a b) else none
    | _, _ => none) = some (deq d e) := by
    rw [hd, he]
    simp only [sp, sq, and_self, if_true, hk]
  unfold eqB
  split
  · rw [deq]
  · rw [deq]
  · rw [deq]
  · exact gen
theorem oEq_deq {M : Mem} {n m : Nat} {d e : D} (hn : n ≤ 64) (hm : m ≤ 64) (h1 : plS n d = true) (h2 : plS m e = true) : oEq d e M = some (.val (.bl (deq d e))) := by
  unfold oEq; rw [eqB_deq hn hm h1 h2]; rfl
theorem oNe_deq {M : Mem} {n m : Nat} {d e : D} (hn : n ≤ 64) (hm : m ≤ 64) (h1 : plS n d = true) (h2 : plS m e = true) : oNe d e M = some (.val (.bl (!deq d e))) := by
  unfold oNe; rw [eqB_deq hn hm h1 h2]; rfl
theorem deqs_map {α : Type} [DecidableEq α] {f : α → D} (hf : ∀ a b, deq (f a) (f b) = decide (a = b)) : ∀ xs ys : List α, deqs (xs.map f) (ys.map f) = decide (xs = ys)
  | [], [] => by simp [deqs]
  | [], y :: ys => by simp [deqs]
  | x :: xs, [] => by simp [deqs]
  | x :: xs, y :: ys => by
    rw [List.map_cons, List.map_cons, deqs, hf, deqs_map hf xs ys]
    by_cases h : x = y <;> by_cases h' : xs = ys <;> simp [h, h']
@[simp] theorem deq_int (a b : Int) : deq (.int a) (.int b) = decide (a = b) := by rw [deq]
@[simp] theorem deq_bl (a b : Bool) : deq (.bl a) (.bl b) = decide (a = b) := by rw [deq]
@[simp] theorem deq_str (a b : Str) : deq (.str a) (.str b) = decide (a = b) := by rw [deq]
@[simp] theorem deq_tup (a b : List D) : deq (.tup a) (.tup b) = deqs a b := by rw [deq]
@[simp] theorem deq_lst (a b : List D) : deq (.lst a) (.lst b) = deqs a b := by rw [deq]
@[simp] theorem deqs_nil : deqs [] [] = true := by rw [deqs]
@[simp] theorem deqs_nc {a as} : deqs [] (a :: as) = false := by simp [deqs]
@[simp] theorem deqs_cn {a as} : deqs (a :: as) [] = false := by simp [deqs]
@[simp] theorem deqs_cons {a b as bs} : deqs (a :: as) (b :: bs) = (deq a b && deqs as bs) := by rw [deqs]
@[simp] theorem deq_non : deq .non .non = true := by rw [deq]
@[simp] theorem deqs_ints {a b : List Int} : deqs (a.map .int) (b.map .int) = decide (a = b) := deqs_map (fun x y => deq_int x y) a b
theorem plS_ints {n : Nat} {l : List Int} : (l.map D.int).all (plS (n + 1)) = true := by
  rw [List.all_eq_true]; intro x hx
  obtain ⟨i, _, rfl⟩ := List.mem_map.mp hx; rfl
theorem plS_all {α : Type} {n : Nat} {f : α → D} (h : ∀ x, plS n (f x) = true) (xs : List α) : (xs.map f).all (plS n) = true := by
  rw [List.all_eq_true]; intro x hx
  obtain ⟨i, _, rfl⟩ := List.mem_map.mp hx; exact h i
theorem oEq_ints {a b : List Int} {M : Mem} : oEq (.tup (a.map .int)) (.tup (b.map .int)) M = some (.val (.bl (decide (a = b)))) := by
  rw [oEq_deq (n := 2) (m := 2) (by decide) (by decide) (by rw [plS_tup]; exact plS_ints) (by rw [plS_tup]; exact plS_ints), deq_tup, deqs_ints]
theorem oNe_ints {a b : List Int} {M : Mem} : oNe (.tup (a.map .int)) (.tup (b.map .int)) M = some (.val (.bl (!decide (a = b)))) := by
  rw [oNe_deq (n := 2) (m := 2) (by decide) (by decide) (by rw [plS_tup]; exact plS_ints) (by rw [plS_tup]; exact plS_ints), deq_tup, deqs_ints]
theorem oEq_intsL {a b : List Int} {M : Mem} : oEq (.lst (a.map .int)) (.lst (b.map .int)) M = some (.val (.bl (decide (a = b)))) := by
  rw [oEq_deq (n := 2) (m := 2) (by decide) (by decide) (by rw [plS_lst]; exact plS_ints) (by rw [plS_lst]; exact plS_ints), deq_lst, deqs_ints]
theorem oNe_intsL {a b : List Int} {M : Mem} : oNe (.lst (a.map .int)) (.lst (b.map .int)) M = some (.val (.bl (!decide (a = b)))) := by
  rw [oNe_deq (n := 2) (m := 2) (by decide) (by decide) (by rw [plS_lst]; exact plS_ints) (by rw [plS_lst]; exact plS_ints), deq_lst, deqs_ints]
theorem eqB_deqL {M : Mem} {n m k : Nat} {d : D} {es : List D} (hn : n ≤ 64) (hm : m ≤ 64) (h1 : plS n d = true) (h2 : plS m (.lst es) = true) (hk : M[k]? = some (.lst es)) : eqB M d (.loc k) = some (deq d (.lst es)) := by
  obtain ⟨p, p1, p2, p3⟩ := plS_ok n d h1
  obtain ⟨q, q1, q2, q3⟩ := plS_ok m _ h2
  have sp : SeqAt.shaped p = true := by unfold SeqAt.shaped; rw [p2, Bool.true_and]; exact decide_eq_true (by omega)
  have sq : SeqAt.shaped q = true := by unfold SeqAt.shaped; rw [q2, Bool.true_and]; exact decide_eq_true (by omega)
  have hq := deq_py n m d _ p q p1 q1 h1 h2
  have hd : py M d = some p := by cases d <;> first | exact p1 | cases p1
  have he : py M (.loc k) = some q := by
    show (match M[k]? with | some (.lst ds) => (py0s ds).map PyData.list | _ => none) = _
    rw [hk]
    rw [py0] at q1
    exact q1
  have gen : (match py M d, py M (.loc k) with
    | some a, some b => if SeqAt.shaped a = true ∧ SeqAt.shaped b = true then some (PyData.eqv a b) else none
    | _, _ => none) = some (deq d (.lst es)) := by
    rw [hd, he]
    simp only [sp, sq, and_self, if_true, hq]
  cases d <;> exact gen
theorem oEq_deqL {M : Mem} {n m k : Nat} {d : D} {es : List D} (hn : n ≤ 64) (hm : m ≤ 64) (h1 : plS n d = true) (h2 : plS m (.lst es) = true) (hk : M[k]? = some (.lst es)) : oEq d (.loc k) M = some (.val (.bl (deq d (.lst es)))) := by
  unfold oEq; rw [eqB_deqL hn hm h1 h2 hk]; rfl
theorem oNe_deqL {M : Mem} {n m k : Nat} {d : D} {es : List D} (hn : n ≤ 64) (hm : m ≤ 64) (h1 : plS n d = true) (h2 : plS m (.lst es) = true) (hk : M[k]? = some (.lst es)) : oNe d (.loc k) M = some (.val (.bl (!deq d (.lst es)))) := by
  unfold oNe; rw [eqB_deqL hn hm h1 h2 hk]; rfl
theorem deq_refl : ∀ (n : Nat) (d : D), plS n d = true → deq d d = true
  | 0, _, h => by cases h
  | n + 1, d, h => by
    have all : ∀ ds : List D, ds.all (plS n) = true → deqs ds ds = true := by
      intro ds
      induction ds with
      | nil => intro _; simp
      | cons d ds ih =>
        intro h
        rw [List.all_cons, Bool.and_eq_true] at h
        rw [deqs_cons, deq_refl n d h.1, ih h.2]; rfl
    cases d with
    | scr _ => cases h
    | loc _ => cases h
    | tup ds => rw [deq_tup]; exact all ds h
    | lst ds => rw [deq_lst]; exact all ds h
    | _ => simp
end CI

/-! N22: memories that are written out -/
namespace CI
open PySem PySem.Spec PyProof.Rows L2
section
variable {kl : List Bool} {M A B Me : Mem} {ρ : Slots} {a b : O} {d : D} {ds : List D} {k : Nat}
theorem trimOk_nil : trimOk [] Me := ⟨Nat.zero_le _, fun k o hk _ => by simp at hk⟩
@[simp] theorem tidy_nil (h : nlS 0 (keepD kl ρ) = true) : tidy kl [] ρ Me = (keepD kl ρ, []) := tidy_trim trimOk_nil h
@[simp] theorem tidy_cons (t : trimC (A.length + 1) (a :: A) (b :: B)) (h : nlS (A.length + 1) (keepD kl ρ) = true) : tidy kl (a :: A) ρ (b :: B) = (keepD kl ρ, b :: B.take A.length) := tidy_C t h
@[simp] theorem finK_nil (h : nl 0 d = true) : finK [] (.val d) Me = (.val d, []) := finK_val trimOk_nil h
@[simp] theorem finK_nilN (h : nls 0 ds = true) : finK [] (.new ds) Me = (.new ds, []) := finK_new trimOk_nil h
theorem finK_cons (t : trimC (A.length + 1) (a :: A) (b :: B)) (h : nl (A.length + 1) d = true) : finK (a :: A) (.val d) (b :: B) = (.val d, b :: B.take A.length) := finK_val (trimOk_C t) h
theorem finK_consN (t : trimC (A.length + 1) (a :: A) (b :: B)) (h : nls (A.length + 1) ds = true) : finK (a :: A) (.new ds) (b :: B) = (.new ds, b :: B.take A.length) := finK_new (trimOk_C t) h
end
@[simp] theorem nls_take {n k : Nat} {ds : List D} (h : nls n ds = true) : nls n (ds.take k) = true := by
  have : nls n (ds.take k ++ ds.drop k) = true := by rw [List.take_append_drop]; exact h
  rw [nls_app, Bool.and_eq_true] at this
  exact this.1
@[simp] theorem nls_drop {n k : Nat} {ds : List D} (h : nls n ds = true) : nls n (ds.drop k) = true := by
  have : nls n (ds.take k ++ ds.drop k) = true := by rw [List.take_append_drop]; exact h
  rw [nls_app, Bool.and_eq_true] at this
  exact this.2
end CI

/-! N23: enumerate of a tuple -/
namespace CI
open PySem PySem.Spec PyProof.Rows L2
open AutoSeq1 (wpAny_loadPart')
section enumT
variable {pg : Program} {wd : World} {Ar : Around} {Er : Value → Shared → Prop} {sh : Shared} {e it tu : Addr} {i : Nat} {items : Array Value} {x old : Value}
theorem newT (tu : Addr) (items : Array Value) (n : Nat) (dct : Option Addr) (sl : Array (Option Value)) :
    Meets (Builtin.«enumerate.__new__» ⟨[.type "enumerate", .ref tu], []⟩) (fun _ Rr sh => sh.heap.get? tu = some { cls := .type "tuple", dict := dct, data := .seq items n, slots := sl } ∧
      Rr (.ok (.ret (.ref (sh.heap.push { cls := .type "tuple_iterator", data := .fields #[.ref tu, .int 0 0] }).objs.size)))
        { sh with heap := (sh.heap.push { cls := .type "tuple_iterator", data := .fields #[.ref tu, .int 0 0] }).push { cls := .type "enumerate", data := .fields #[.none, .bool false, .ref sh.heap.objs.size, rawInt 0, .none, .none] } }) :=
  .of_wp fun pg wd Ar Rr sh hh => by
    obtain ⟨hp, g, dd, tk, os⟩ := sh; obtain ⟨ht, hh⟩ := hh
    have hsub := sub_enumerate
    have hT : Heap.IsTuple (Shared.heap ⟨hp, g, dd, tk, os⟩) tu items := ⟨_, ht, rfl, n, rfl⟩
    wp_walk using wpAny_loadPart' ht
    refine wpAny_stack_any fun stt => wpAny_pure ?_
    split
    · rename_i cc _ _ _ _ _
      cases (cc == Value.type "enumerate")
      · wp_walk using wpAny_loadPart' ht, wpAny_pyIter_tuple hT
        exact ⟨_, rfl, hh⟩
      · wp_walk using wpAny_loadPart' ht, wpAny_pyIter_tuple hT
        exact ⟨_, rfl, hh⟩
    · wp_walk using wpAny_loadPart' ht, wpAny_pyIter_tuple hT
      exact ⟨_, rfl, hh⟩
theorem callT {Qr : Value → Shared → Prop} (hT : sh.heap.IsTuple tu items)
    (hh : ∀ hq, IsEnum hq (sh.heap.objs.size + 1) sh.heap.objs.size 0 .none → hq.IsTupleIter sh.heap.objs.size tu 0 → hq.objs.size = sh.heap.objs.size + 2 →
      (∀ b o, sh.heap.get? b = some o → hq.get? b = some o) → Qr (.ref (sh.heap.objs.size + 1)) { sh with heap := hq }) :
    wpAny (model pg wd) Ar (call (.type "enumerate") [.ref tu]) Qr Er sh := by
  obtain ⟨⟨cc, dct, dt, sl⟩, ht, hc, n, hd⟩ := hT
  replace hc : cc = .type "tuple" := hc
  replace hd : dt = .seq items n := hd
  subst hc hd
  refine callType_new F.called_enumerate (by decide) (F.typeCall_enumerate_1 _) (F.newCall_enumerate_1 _) (fun ob => F.args_object_init_2 ob _) F.entry_enumerate_new
    (newT tu items n dct sl) ⟨ht, ?_⟩
  have hz : (sh.heap.push { cls := .type "tuple_iterator", data := .fields #[.ref tu, .int 0 0] }).objs.size = sh.heap.objs.size + 1 := Heap.size_push ..
  show _ ∧ _
  rw [hz]
  have he : IsEnum ((sh.heap.push { cls := .type "tuple_iterator", data := .fields #[.ref tu, .int 0 0] }).push
      { cls := .type "enumerate", data := .fields #[.none, .bool false, .ref sh.heap.objs.size, rawInt 0, .none, .none] }) (sh.heap.objs.size + 1) sh.heap.objs.size 0 .none := by
    have := Heap.get?_push_size (sh.heap.push { cls := .type "tuple_iterator", data := .fields #[.ref tu, .int 0 0] })
      (o := { cls := .type "enumerate", data := .fields #[.none, .bool false, .ref sh.heap.objs.size, rawInt 0, .none, .none] }) rfl
    rw [hz] at this; exact this
  refine ⟨⟨_, he, rfl⟩, hh _ he ⟨_, Heap.get?_push_of_some _ (Heap.get?_push_size _ rfl), rfl, rfl⟩ (by rw [Heap.size_push, hz]) fun b o q => Heap.get?_push_of_some _ (Heap.get?_push_of_some _ q)⟩
theorem nextT {Qr : Value → Shared → Prop} (hit : sh.heap.IsTupleIter it tu i) (ht : sh.heap.IsTuple tu items) (hx : items[i]? = some x)
    (hQ : ∀ hq, hq.IsTupleIter it tu (i + 1) → Heap.SameBut it sh.heap hq → Qr x { sh with heap := hq }) :
    wpAny (model pg wd) Ar (Builtin.SmallTypes.nextOf (.ref it)) Qr Er sh := by
  obtain ⟨o, ho, hc, hd⟩ := id hit
  obtain ⟨ot, hot, _, nt, hdt⟩ := ht
  unfold Builtin.SmallTypes.nextOf
  refine wpAny_bind (wpAny_callSpecial?_slot (name := Str.ofString "__next__") hit.typeIs F.slot_tuple_iterator_next (wpAny_call_entry F.slot_tuple_iterator_next hit.typeIs F.entry_tuple_iterator_next ?_ (F.args_tuple_iterator_next_1 _)))
  show wpAny _ _ (field (.ref it) 0 >>= _) _ _ sh
  refine wpAny_bind (wpAny_field ho hd (x := .ref tu) rfl ?_)
  show wpAny _ _ (if (Value.ref tu == Value.none) = true then _ else _) _ _ sh
  rw [if_neg (show ¬ ((Value.ref tu == Value.none) = true) from Bool.false_ne_true)]
  show wpAny _ _ (field (.ref it) 1 >>= _) _ _ sh
  refine wpAny_bind (wpAny_field ho hd (x := .int i 0) rfl ?_)
  show wpAny _ _ (seqItems? (.ref tu) >>= _) _ _ sh
  refine wpAny_bind (wpAny_seqItems hot hdt ?_)
  simp only [Int.toNat_natCast, hx]
  refine wpAny_bind (wpAny_setField ho hd (by simp) (wpAny_pure ⟨x, rfl, wpAny_pure (hQ _ ⟨_, Heap.get?_update_self _ ho (Obj.isFreed_of_fields (Obj.data_mapFields hd _)), (Obj.cls_mapFields ..).trans hc, by rw [Obj.data_mapFields hd]; simp [rawInt]⟩ (Heap.SameBut.update ..))⟩))
theorem nextTend {Qr : Value → Shared → Prop} (hn : Ar.handled = none) (hit : sh.heap.IsTupleIter it tu i) (ht : sh.heap.IsTuple tu items) (hx : items[i]? = none)
    (hE : ∀ hq ee, Heap.ExtBut it sh.heap hq → (∃ o, hq.get? ee = some o ∧ o.cls = .type "StopIteration") → Er (.ref ee) { sh with heap := hq }) :
    wpAny (model pg wd) Ar (Builtin.SmallTypes.nextOf (.ref it)) Qr Er sh := by
  obtain ⟨o, ho, hc, hd⟩ := id hit
  obtain ⟨ot, hot, _, nt, hdt⟩ := ht
  unfold Builtin.SmallTypes.nextOf
  refine wpAny_bind (wpAny_callSpecial?_slot (name := Str.ofString "__next__") hit.typeIs F.slot_tuple_iterator_next (wpAny_call_entry F.slot_tuple_iterator_next hit.typeIs F.entry_tuple_iterator_next ?_ (F.args_tuple_iterator_next_1 _)))
  show wpAny _ _ (field (.ref it) 0 >>= _) _ _ sh
  refine wpAny_bind (wpAny_field ho hd (x := .ref tu) rfl ?_)
  show wpAny _ _ (if (Value.ref tu == Value.none) = true then _ else _) _ _ sh
  rw [if_neg (show ¬ ((Value.ref tu == Value.none) = true) from Bool.false_ne_true)]
  show wpAny _ _ (field (.ref it) 1 >>= _) _ _ sh
  refine wpAny_bind (wpAny_field ho hd (x := .int i 0) rfl ?_)
  show wpAny _ _ (seqItems? (.ref tu) >>= _) _ _ sh
  refine wpAny_bind (wpAny_seqItems hot hdt ?_)
  simp only [Int.toNat_natCast, hx]
  refine wpAny_bind (wpAny_rule (wpAny_bind (wpAny_setField ho hd (by simp) ?_)))
  show wpAny _ _ (newExc (.type "StopIteration") [] >>= _) _ _ _
  refine wpAny_bind ?_
  simp only [newExc, newTuple]
  refine wpAny_bind (wpAny_newObj_type (wpAny_bind (m := firstArgMember _ _) (wpAny_of_eq (a := Value.none) (by first | rfl | (simp only [firstArgMember]; rfl)) (wpAny_newObj_type ?_ (by size_fits)))) (by size_fits))
  simp only [raiseNew]
  refine wpAny_bind (wpAny_handled ?_)
  first | rw [show Ar.in1.handled = none from hn] | rw [hn]
  exact wpAny_bind (wpAny_pure (wpAny_throw (hE _ _ (((Heap.SameBut.update ..).extBut.push _).push _) ⟨_, Heap.get?_push_size _ rfl, rfl⟩)))
theorem enumTitem {Qr : Value → Shared → Prop} (he : IsEnum sh.heap e it i old) (hit : sh.heap.IsTupleIter it tu i) (ht : sh.heap.IsTuple tu items) (hx : items[i]? = some x) (hne : e ≠ it)
    (hQ : ∀ hq, IsEnumOut hq e it ((i : Int) + 1) x sh.heap.objs.size → hq.IsTupleIter it tu (i + 1) →
      hq.get? sh.heap.objs.size = some { cls := .type "tuple", data := .seq #[.int i sh.toks, x] } → hq.objs.size = sh.heap.objs.size + 1 →
      (∀ b o, b ≠ e → b ≠ it → sh.heap.get? b = some o → hq.get? b = some o) → Qr (.ref sh.heap.objs.size) { sh with heap := hq, toks := sh.toks + 1 }) :
    wpAny (model pg wd) Ar (Builtin.«enumerate.__next__» ⟨[.ref e], []⟩) (fun fin s2 => ∃ v, fin = .done (.ret v) ∧ Qr v s2) Er sh := by
  obtain ⟨hp, g, dd, tk, os⟩ := sh
  show wpAny _ _ (field (.ref e) 2 >>= _) _ _ _
  refine wpAny_bind (wpAny_field he rfl (x := .ref it) rfl ?_)
  refine wpAny_bind (nextT hit ht hx fun k1 kit1 ks1 => ?_)
  replace ks1 : Heap.SameBut it hp k1 := ks1
  have ke1 : IsEnum k1 e it i old := (ks1.2 e hne).trans he
  show wpAny _ _ (field (.ref e) 3 >>= _) _ _ ⟨k1, g, dd, tk, os⟩
  refine wpAny_bind (wpAny_field ke1 rfl (x := rawInt i) rfl ?_)
  show wpAny _ _ (field (.ref e) 4 >>= _) _ _ ⟨k1, g, dd, tk, os⟩
  refine wpAny_bind (wpAny_field ke1 rfl (x := .none) rfl ?_)
  show wpAny _ _ (mkInt i >>= _) _ _ ⟨k1, g, dd, tk, os⟩
  refine wpAny_bind (wpAny_mkInt ?_)
  show wpAny _ _ (setField (.ref e) 3 (rawInt ((i : Int) + 1)) >>= _) _ _ ⟨k1, g, dd, tk + 1, os⟩
  refine wpAny_bind (wpAny_setField_rec ke1 (by simp) fun k2 ke2 ks2 => ?_)
  replace ks2 : Heap.SameBut e k1 k2 := ks2
  replace ke2 : IsEnum k2 e it ((i : Int) + 1) old := ke2
  show wpAny _ _ (setField (.ref e) 4 .none >>= _) _ _ ⟨k2, g, dd, tk + 1, os⟩
  refine wpAny_bind (wpAny_setField_rec ke2 (by simp) fun k3 ke3 ks3 => ?_)
  replace ks3 : Heap.SameBut e k2 k3 := ks3
  replace ke3 : IsEnum k3 e it ((i : Int) + 1) old := ke3
  show wpAny _ _ (newTuple [.int i tk, x] >>= _) _ _ ⟨k3, g, dd, tk + 1, os⟩
  refine wpAny_bind (wpAny_newTuple ?_)
  have ke4 : IsEnum (k3.push { cls := .type "tuple", data := .seq #[.int i tk, x] }) e it ((i : Int) + 1) old := Heap.get?_push_of_some _ ke3
  generalize kh4 : k3.push { cls := .type "tuple", data := .seq #[.int i tk, x] } = k4 at ke4
  have ksz : k3.objs.size = hp.objs.size := by rw [ks3.1, ks2.1, ks1.1]
  have kel : e < hp.objs.size := Heap.lt_size he
  have kt4 : k4.get? hp.objs.size = some { cls := .type "tuple", data := .seq #[.int i tk, x] } := by rw [← kh4, ← ksz]; exact Heap.get?_push_size _ rfl
  have kz4 : k4.objs.size = hp.objs.size + 1 := by rw [← kh4, Heap.size_push, ksz]
  have kk4 : ∀ b o, b ≠ e → b ≠ it → hp.get? b = some o → k4.get? b = some o := fun b o q1 q2 hb => by
    rw [← kh4]; exact Heap.get?_push_of_some _ (ks3.extBut b o q1 (ks2.extBut b o q1 (ks1.extBut b o q2 hb)))
  have kit4 : k4.IsTupleIter it tu (i + 1) := by
    rw [← kh4]; obtain ⟨o, ho, r⟩ := (kit1.extBut ks2.extBut (Ne.symm hne)).extBut ks3.extBut (Ne.symm hne); exact ⟨o, Heap.get?_push_of_some _ ho, r⟩
  show wpAny _ _ (Builtin.SmallTypes.ownedTupleIsFree (.ref e) >>= _) _ _ ⟨k4, g, dd, tk + 1, os⟩
  rw [ksz]
  clear kh4 ke3 ks3 ke2 ks2 ke1 ks1 kit1 ksz k3 k2 k1
  refine wpAny_bind ?_
  unfold Builtin.SmallTypes.ownedTupleIsFree
  refine wpAny_bind (wpAny_field ke4 rfl (x := .none) rfl (wpAny_pure ?_))
  simp only [if_true]
  refine wpAny_bind (wpAny_rule ?_)
  refine wpAny_bind (wpAny_field ke4 rfl (x := old) rfl ?_)
  refine wpAny_bind (wpAny_setField_rec ke4 (by simp) fun k5 ke5 ks5 => ?_)
  replace ks5 : Heap.SameBut e k4 k5 := ks5
  replace ke5 : IsEnum k5 e it ((i : Int) + 1) x := ke5
  show wpAny _ _ (Builtin.SmallTypes.ownedTupleHandOut (.ref e) (.ref hp.objs.size) >>= _) _ _ ⟨k5, g, dd, tk + 1, os⟩
  refine wpAny_bind ?_
  unfold Builtin.SmallTypes.ownedTupleHandOut
  refine wpAny_bind (wpAny_setField_rec ke5 (by simp) fun k6 ke6 ks6 => ?_)
  replace ks6 : Heap.SameBut e k5 k6 := ks6
  replace ke6 : IsEnumOut k6 e it ((i : Int) + 1) x hp.objs.size := ke6
  refine wpAny_setField_rec ke6 (by simp) fun k7 ke7 ks7 => ?_
  replace ks7 : Heap.SameBut e k6 k7 := ks7
  replace ke7 : IsEnumOut k7 e it ((i : Int) + 1) x hp.objs.size := ke7
  refine wpAny_bind (wpAny_letGo (wpAny_pure ⟨_, rfl, hQ k7 ke7 (((kit4.extBut ks5.extBut (Ne.symm hne)).extBut ks6.extBut (Ne.symm hne)).extBut ks7.extBut (Ne.symm hne))
    (ks7.extBut _ _ (Nat.ne_of_gt kel) (ks6.extBut _ _ (Nat.ne_of_gt kel) (ks5.extBut _ _ (Nat.ne_of_gt kel) kt4))) (by rw [ks7.1, ks6.1, ks5.1, kz4])
    fun b o q1 q2 hb => ks7.extBut b o q1 (ks6.extBut b o q1 (ks5.extBut b o q1 (kk4 b o q1 q2 hb)))⟩))
theorem pyNextT {Qr : Option Value → Shared → Prop} (he : IsEnum sh.heap e it i old) (hit : sh.heap.IsTupleIter it tu i) (ht : sh.heap.IsTuple tu items) (hx : items[i]? = some x) (hne : e ≠ it)
    (hQ : ∀ hq, IsEnumOut hq e it ((i : Int) + 1) x sh.heap.objs.size → hq.IsTupleIter it tu (i + 1) →
      hq.get? sh.heap.objs.size = some { cls := .type "tuple", data := .seq #[.int i sh.toks, x] } → hq.objs.size = sh.heap.objs.size + 1 →
      (∀ b o, b ≠ e → b ≠ it → sh.heap.get? b = some o → hq.get? b = some o) → Qr (some (.ref sh.heap.objs.size)) { sh with heap := hq, toks := sh.toks + 1 }) :
    wpAny (model pg wd) Ar (pyNext (.ref e)) Qr Er sh := by
  have hT : sh.TypeIs (.ref e) "enumerate" := ⟨_, he, rfl⟩
  unfold pyNext
  exact wpAny_bind (wpAny_attempt (wpAny_callSpecial?_slot (name := Str.ofString "__next__") hT F.slot_enumerate_next (wpAny_call_entry F.slot_enumerate_next hT F.entry_enumerate_next
      (enumTitem he hit ht hx hne fun hq a b c d k => wpAny_pure (hQ hq a b c d k)) (F.args_enumerate_next_1 _))))
theorem pyNextTend {Qr : Option Value → Shared → Prop} (hn : Ar.handled = none) (he : IsEnum sh.heap e it i old) (hit : sh.heap.IsTupleIter it tu i) (ht : sh.heap.IsTuple tu items) (hx : items[i]? = none)
    (hQ : ∀ hq, Heap.ExtBut it sh.heap hq → Qr none { sh with heap := hq }) : wpAny (model pg wd) Ar (pyNext (.ref e)) Qr Er sh := by
  have hT : sh.TypeIs (.ref e) "enumerate" := ⟨_, he, rfl⟩
  unfold pyNext
  refine wpAny_bind (wpAny_attempt (wpAny_callSpecial?_slot (name := Str.ofString "__next__") hT F.slot_enumerate_next (wpAny_call_entry F.slot_enumerate_next hT F.entry_enumerate_next ?_ (F.args_enumerate_next_1 _))))
  show wpAny _ _ (field (.ref e) 2 >>= _) _ _ _
  refine wpAny_bind (wpAny_field he rfl (x := .ref it) rfl ?_)
  refine wpAny_bind (nextTend hn hit ht hx fun hq ee he2 ⟨o, ho, hc⟩ => ?_)
  exact wpAny_bind (wpAny_isInstance (T := "StopIteration") (b := true) ⟨o, ho, hc⟩ isSubtype_stop (wpAny_pure (hQ _ he2)))
end enumT
/-- the tuple at a, each item in a new pair -/
def IteT (K : PySem.W.Frag) (a : Addr) : It :=
  ⟨fun i H => ∃ (xs : List V) (x : V), SqT K H a xs ∧ xs[i]? = some x, fun i H v H' => ∃ T x, v = .ref T ∧ H T = none ∧ H' = upd H T (.tup [.int (i : Nat), x]) ∧ ∀ xs, SqT K H a xs → xs[i]? = some x, fun i H => ∃ xs : List V, SqT K H a xs ∧ xs.length ≤ i⟩
theorem tupOf {h : Heap} {a : Addr} {its : Array Value} (p : IsTup h a its) : h.IsTuple a its := p
theorem turnT {Pg : Program} {wd : World} {K : PySem.W.Frag} {elts : List Expr} {kk : Nat} {tpos : Pos} (a e it : Addr) :
    Turn Pg wd K (.Tuple elts kk tpos) (IteT K a) [e, it] e (fun i h => (∃ old, IsEnum h e it ((i : Nat) : Int) old) ∧ h.IsTupleIter it a i ∧ e ≠ it) where
  mem := by simp
  obj := fun i h st b hb => by
    obtain ⟨⟨old, he⟩, ⟨o, ho, hc, hd⟩, _⟩ := st
    have e2 : b = e ∨ b = it := by simpa using hb
    rcases e2 with z | z
    · rw [z]; exact ⟨_, he, fun v q => nomatch q⟩
    · rw [z]; exact ⟨o, ho, fun v q => by rw [hd] at q; cases q⟩
  keep := fun i h h2 st k => let ⟨⟨old, he⟩, ⟨o, ho, r⟩, hne⟩ := st; ⟨⟨old, k e (by simp) _ he⟩, ⟨o, k it (by simp) o ho, r⟩, hne⟩
  item := by
    intro X hP hw hK hc i pins sh σ H E I hf st hg
    subst hP hw hK
    obtain ⟨⟨old, he⟩, hit, hne⟩ := st
    obtain ⟨xs, x, hq, hx⟩ := hg
    obtain ⟨its, rv, p, hz⟩ := I.tuple hq
    obtain ⟨u, hu, ru⟩ := rv.get hx
    have hel : e < sh.heap.objs.size := Heap.lt_size he
    have hil : it < sh.heap.objs.size := by obtain ⟨_, q, _⟩ := hit; exact Heap.lt_size q
    refine pyNextT he hit (tupOf p) (x := u) (by simpa using hu) hne fun h1 ho hit1 hT hsz hk => ?_
    refine ⟨_, rfl, wpAny_letOwnedTupleGo_enum (s := { sh with heap := h1, toks := sh.toks + 1 }) ho fun h2 he2 sb => ?_⟩
    have hT2 : h2.get? sh.heap.objs.size = some { cls := .type "tuple", data := .seq #[.int i sh.toks, u] } := (sb.2 _ (Nat.ne_of_gt hel)).trans hT
    have new : ObjOk X.prog X.w (upd H sh.heap.objs.size (.tup [.int (i : Nat), x])) h2 sh.heap.objs.size (.tup [.int (i : Nat), x]) :=
      ⟨by show 2 ≤ sizeLine; decide, [.int i sh.toks, u], .cons ⟨_, rfl⟩ (.cons ru .nil), ⟨_, hT2, rfl, _, rfl⟩⟩
    have I1 : Inv X pins σ (upd H sh.heap.objs.size (.tup [.int (i : Nat), x])) { sh with heap := h2, toks := sh.toks + 1 } :=
      I.turnedNew (ch := [e, it]) (fun b ob hb q => (sb.2 b (fun z => hb (by simp [z]))).trans (hk b ob (fun z => hb (by simp [z])) (fun z => hb (by simp [z])) q)) hf (Nat.le_refl _) new
    refine ⟨.ref sh.heap.objs.size, _, I1, rfl, ⟨_, x, rfl, I.hok.fresh (Nat.le_refl _), rfl, fun ys hy => by rw [I.tuple_inj hy hq]; exact hx⟩, ⟨⟨u, ?_⟩, ?_, hne⟩, fun b hb => ?_⟩
    · have e1 : ((i + 1 : Nat) : Int) = (i : Int) + 1 := by omega
      rw [e1]; exact he2
    · obtain ⟨o, ho2, r⟩ := hit1
      exact ⟨o, (sb.2 it (Ne.symm hne)).trans ho2, r⟩
    · have hb2 : b < sh.heap.objs.size := by
        have e2 : b = e ∨ b = it := by simpa using hb
        rcases e2 with z | z
        · rw [z]; exact hel
        · rw [z]; exact hil
      rw [upd_ne (Nat.ne_of_lt hb2)]
      exact (hf b hb).1
  done := by
    intro X hP hw hK hc i pins sh σ H E I hf st hg
    subst hP hw hK
    obtain ⟨⟨old, he⟩, hit, hne⟩ := st
    obtain ⟨xs, hq, hx⟩ := hg
    obtain ⟨its, rv, p, hz⟩ := I.tuple hq
    obtain ⟨f0, f1, f2, f3, f4, f5⟩ := hf it (by simp)
    have hl := rv.length
    exact pyNextTend (I.ok.hd hc) he hit (tupOf p) (by simp; omega) fun h1 eb => ⟨rfl, I.turned (t' := sh.toks) (fun b o hb q => eb b o hb q) f0 f1 f3 f4 f5⟩
  self := fun Ar i sh Q E st h => let ⟨⟨_, he⟩, _⟩ := st; wpAny_pyIter_enum he h
def iEnumTu (K : PySem.W.Frag) (ta : TA) : TI := fun σ H R => ta σ H fun vs H1 => ∃ a xs, vs = [.ref a] ∧ SqT K H1 a xs ∧ R (IteT K a) H1
theorem pi_enumT {X : Cx} {e : Expr} {ta : TA} {p pos tpos : Pos} {elts : List Expr} {kk : Nat} (hg : Gl X "enumerate") (hm : X.mg "enumerate" = none) (ha : PA X [e] ta) (hs : starEach [e] X.env = [(false, eval e X.env)] := by rfl) :
    PI X (.Tuple elts kk tpos) (.Call (.Name "enumerate" p) [e] [] pos) (iEnumTu X.K ta) := by
  refine ⟨fun pins sh σ H R I h => ?_⟩
  refine Call_ (ld_blt I hg hm boot_enumerate (PyProof.Rows.callWith_type1 (thn (ha.run pos pins sh σ H _ I h) fun us s1 ⟨vs, H1, I1, r1, q1⟩ => ?_) hs rfl))
  obtain ⟨a, xs, ex, hq, q⟩ := q1
  subst ex
  cases r1 with
  | cons r rr =>
    cases rr
    cases r
    obtain ⟨its, rv, p2, hz⟩ := I1.tuple hq
    refine callT (tupOf p2) fun h1 he hit hsz hk => wpAny_pyIter_enum he ?_
    have I2 : Inv X pins σ H1 { s1 with heap := h1 } := I1.kept (t' := s1.toks) hk
    refine ⟨s1.heap.objs.size + 1, [s1.heap.objs.size + 1, s1.heap.objs.size], _, _, H1, rfl, I2, turnT a (s1.heap.objs.size + 1) s1.heap.objs.size, ⟨⟨.none, he⟩, hit, Nat.succ_ne_self _⟩, fun b hb => ?_, q⟩
    have e2 : b = s1.heap.objs.size + 1 ∨ b = s1.heap.objs.size := by simpa using hb
    have hle : s1.heap.objs.size ≤ b := by
      rcases e2 with z | z
      · rw [z]; exact Nat.le_succ _
      · rw [z]; exact Nat.le_refl _
    exact I1.fpOk hle (I1.hok.fresh hle)
theorem yl_enT {K : PySem.W.Frag} {H : Hp} {m : List Addr} {a : Addr} {ds : List D} {vs : List V} (h : SqT K H a vs) (r : Rls K H m ds vs) : Yl K H m (IteT K a) (enD ds) none where
  go := fun i H1 m1 hi e _ => by
    have hl := r.length
    rw [enD_len] at hi
    exact ⟨vs, vs[i], sqT_ext e h, List.getElem?_eq_getElem (by omega)⟩
  yld := fun i d H1 m1 M1 x H' q e _ w y => by
    obtain ⟨T, u, rfl, hn, rfl, y⟩ := y
    obtain ⟨d0, q0, rfl⟩ := enD_get q
    obtain ⟨v, h1, h2⟩ := (r.ext e).get q0
    have := y vs (sqT_ext e h)
    rw [h1] at this; cases this
    refine ⟨.new hn, w.new hn, ?_⟩
    rw [Rl]
    refine ⟨T, _, rfl, .of upd_same, ?_⟩
    rw [Rls]
    refine ⟨_, _, rfl, by rw [Rl], ?_⟩
    rw [Rls]
    refine ⟨_, _, rfl, h2.ext (.new hn), ?_⟩
    rw [Rls]
  stop := fun H1 m1 e _ => ⟨vs, sqT_ext e h, by rw [enD_len, r.length]; exact Nat.le_refl _⟩
def iEnT (f : Ef) : If := fun ρ M => (f ρ M).bind fun p => match p.1.d with
  | .tup ds => some (enD ds, none, p.2)
  | .lst ds => some (enD ds, none, p.2)
  | .scr ns => some (enD (ns.map .int), none, p.2)
  | _ => none
theorem ci_enT {X : Cx} {a : Expr} {fa : Ef} {p pos tpos : Pos} {elts : List Expr} {kk : Nat} (hg : Gl X "enumerate") (hm : X.mg "enumerate" = none) (ha : CEx X a fa) (hs : starEach [a] X.env = [(false, eval a X.env)] := by rfl) (hs' : starEach [a] X.env = (false, eval a X.env) :: starEach [] X.env := by rfl) :
    CIx X (.Tuple elts kk tpos) (.Call (.Name "enumerate" p) [a] [] pos) (iEnT fa) :=
  PI.imp (PI.or (pi_enum hg hm (pa_cons ha pa_nil hs') hs) (pi_enumT hg hm (pa_cons ha pa_nil hs') hs)) fun σ H R ⟨ρ, M, m, ds, gk, M', rs, w, hf, P⟩ => by
    unfold iEnT at hf
    cases ea : fa ρ M with
    | none => rw [ea] at hf; cases hf
    | some q =>
      rw [ea] at hf
      simp only [Option.bind_some] at hf
      split at hf
      · rename_i es he
        cases hf
        refine .inr (bindE rs w ea fun H1 m1 v e1 w1 rs1 r1 => ?_)
        rw [he, Rl] at r1
        obtain ⟨b, vs, rfl, h1, h2⟩ := r1
        exact ⟨b, vs, rfl, h1, P H1 m1 _ e1 w1 gd_none (yl_enT h1 h2)⟩
      · rename_i es he
        cases hf
        refine .inl (bindE rs w ea fun H1 m1 v e1 w1 rs1 r1 => ?_)
        rw [he, Rl] at r1
        obtain ⟨b, vs, rfl, hn, h1, h2⟩ := r1
        exact ⟨b, vs, rfl, .of h1, P H1 m1 _ e1 w1 gd_none (yl_en (fun H2 m2 e2 => .of (e2.lst _ _ hn h1)) h2)⟩
      · rename_i ns he
        cases hf
        refine .inl (bindE rs w ea fun H1 m1 v e1 w1 rs1 r1 => ?_)
        rw [he, Rl] at r1
        obtain ⟨b, rfl, h1⟩ := r1
        exact ⟨b, _, rfl, h1.l, P H1 m1 _ e1 w1 gd_none (yl_en (fun H2 m2 e2 => (SqS.l (h1.imp (fun ⟨o, s⟩ => ⟨o, e2.frz _ _ _ s⟩) id))) .ints)⟩
      · cases hf
def iEnT1 (p : Rz × Mem) : Option (List D × Option Nat × Mem) := match p.1.d with | .tup ds => some (enD ds, none, p.2) | .lst ds => some (enD ds, none, p.2) | .scr ns => some (enD (ns.map .int), none, p.2) | _ => none
section
variable {f : Ef} {ρ : Slots} {M : Mem} {ds : List D}
@[simp] theorem iEnT_ap : iEnT f ρ M = bnd iEnT1 (f ρ M) := rfl
@[simp] theorem iEnT1_tup : iEnT1 (.val (.tup ds), M) = some (enD ds, none, M) := rfl
@[simp] theorem iEnT1_lst : iEnT1 (.val (.lst ds), M) = some (enD ds, none, M) := rfl
@[simp] theorem iEnT1_new : iEnT1 (.new ds, M) = some (enD ds, none, M) := rfl
end
theorem enD_map {α : Type} {f : α → D} {xs : List α} : enD (xs.map f) = xs.zipIdx.map fun p => D.tup [.int ((p.2 : Nat) : Int), f p.1] := by
  unfold enD
  rw [List.zipIdx_map, List.map_map]
  rfl
end CI

/-! N24: stores at places -/
namespace CI
open PySem PySem.Spec PyProof.Rows L2
section
variable {d : D} {ρ : Slots} {k : Nat} {i : Int} {M : Mem} {es : List D} {j : Nat}
def gIx4 (d : D) (ρ : Slots) (k : Nat) (i : Int) (M : Mem) (es : List D) : Option (Slots × Mem) := (ixN es.length i).bind (gIx3 d k i ρ M es)
@[simp] theorem gIx2_loc : gIx2 d ρ (.loc k) (.val (.int i), M) = bnd (gIx4 d ρ k i M) (lsO M[k]?) := by
  show (match M[k]? with | some (.lst es) => (ixN es.length i).bind (gIx3 d k i ρ M es) | _ => none) = _
  cases M[k]? with
  | none => rfl
  | some o => cases o <;> rfl
@[simp] theorem gIx4_ap : gIx4 d ρ k i M es = bnd (gIx3 d k i ρ M es) (ixN es.length i) := rfl
@[simp] theorem gIx3_ap : gIx3 d k i ρ M es j = some (ρ, M.set k (.lst (es.set j d))) := rfl
theorem ixN_nat {n : Nat} (h0 : 0 ≤ i) (h1 : i < n) : ixN n i = some i.toNat := by unfold ixN; rw [if_pos h0, if_pos h1]
end
@[simp] theorem nls_set {n : Nat} {e : D} (he : nl n e = true) : ∀ {ds : List D} {i : Nat}, nls n ds = true → nls n (ds.set i e) = true
  | [], _, _ => rfl
  | d :: ds, 0, h => by
    rw [nls_cons, Bool.and_eq_true] at h
    rw [List.set_cons_zero, nls_cons, he, h.2]; rfl
  | d :: ds, i + 1, h => by
    rw [nls_cons, Bool.and_eq_true] at h
    rw [List.set_cons_succ, nls_cons, h.1, nls_set he h.2]; rfl
end CI

/-! N25: x in range(..) -/
namespace CI
open PySem PySem.Spec PyProof.Rows L2
section
variable {X : Cx} {a b c : Expr} {fa fb fc : Ef} {p pos pos2 : Pos}
def rInR (neg : Bool) : R2 := fun x y H Q => ∃ i ad lo hi, x = V.int i ∧ y = V.ref ad ∧ H ad = some (.rng lo hi) ∧ Q (.bl (if neg then !decide (lo ≤ i ∧ i < hi) else decide (lo ≤ i ∧ i < hi))) H
theorem op_inR : OpR X (compareOp .In) (rInR false) := op_in_rng
theorem op_notInR : OpR X (compareOp .NotIn) (rInR true) := by
  intro pins sh σ H x y v u Q I rx ry h
  obtain ⟨i, ad, lo, hi, rfl, rfl, ha, q⟩ := h
  obtain ⟨k, rfl⟩ := rx
  obtain rfl : u = Value.ref ad := ry
  obtain ⟨t1, t2, t3, ho⟩ := I.hok ad _ ha
  show wpAny _ _ (do return Value.bool !(← contains (Value.ref ad) (Value.int i k))) _ _ sh
  refine wpAny_bind (wpAny_contains_slot (T := "range") ⟨_, ho, rfl⟩ F.slot_range_contains (call_meets F.slot_range_contains ⟨_, ho, rfl⟩ F.entry_range_contains (F.args_range_contains_2 _ _) (q_contains ad lo hi i t1 t2 t3 k) ⟨ho, wpAny_truthy_bool (wpAny_pure ⟨.bl _, H, I, rfl, ?_⟩)⟩))
  rw [place1]
  exact q
theorem cr_range1' : CallR X (.type "range") (fun vs H Q => ∃ j, vs = [V.int j] ∧ ∀ q, H q = none → Q (.ref q) (upd H q (.rng 0 j))) := by
  intro pins sh σ H vs us Q I r h
  obtain ⟨j, rfl, q⟩ := h
  obtain ⟨u1, rfl, ri⟩ := vals1 r
  obtain ⟨t, rfl⟩ := ri
  refine call_range_1 ⟨.ref sh.heap.objs.size, upd H sh.heap.objs.size (.rng 0 j), I.laid (t' := sh.toks + 2) (fun b o e => Heap.get?_push_of_some _ e) (Nat.le_refl _) ?_, rfl, q _ (I.hok.fresh (Nat.le_refl _))⟩
  exact ⟨_, _, _, Heap.get?_push_size _ rfl⟩
/-- x in range(lo, hi) -/
def cInR (neg : Bool) (fa fb fc : Ef) : Ef := fun ρ M => (fa ρ M).bind fun p => (fb ρ p.2).bind fun q => (fc ρ q.2).bind fun r => match p.1.d, q.1.d, r.1.d with
  | .int i, .int lo, .int hi => some (.val (.bl (if neg then !decide (lo ≤ i ∧ i < hi) else decide (lo ≤ i ∧ i < hi))), r.2)
  | _, _, _ => none
theorem inR_of {neg : Bool} {σ : L2.St} {H : Hp} {Q : VK} (h : tE X.K (cInR neg fa fb fc) σ H Q) :
    tE X.K fa σ H fun x H1 => tE X.K fb σ H1 fun y H2 => tE X.K fc σ H2 fun z H3 => ∃ lo hi, [y, z] = [V.int lo, V.int hi] ∧ ∀ q, H3 q = none → rInR neg x (.ref q) (upd H3 q (.rng lo hi)) Q := by
  obtain ⟨ρ, M, m, z, M', rs, w, hf, P⟩ := h
  unfold cInR at hf
  cases ea : fa ρ M with
  | none => rw [ea] at hf; cases hf
  | some p =>
    cases eb : fb ρ p.2 with
    | none => simp [ea, eb] at hf
    | some q =>
      cases ec : fc ρ q.2 with
      | none => simp [ea, eb, ec] at hf
      | some r =>
        simp only [ea, eb, ec, Option.bind_some] at hf
        refine bindE rs w ea fun H1 m1 v1 e1 w1 rs1 r1 => bindE rs1 w1 eb fun H2 m2 v2 e2 w2 rs2 r2 => bindE rs2 w2 ec fun H3 m3 v3 e3 w3 rs3 r3 => ?_
        split at hf
        · rename_i i lo hi h1 h2 h3
          cases hf
          rw [h1, Rl] at r1; subst r1
          rw [h2, Rl] at r2; subst r2
          rw [h3, Rl] at r3; subst r3
          refine ⟨lo, hi, rfl, fun ad hn => ⟨i, ad, lo, hi, rfl, rfl, upd_same, ?_⟩⟩
          exact (P.ext (((e1.trans e2).trans e3).trans (.new hn))).val (w3.new hn) (by rw [Rl])
        · cases hf
theorem ce_inR2 {op : CmpOp} {neg : Bool} (ho : OpR X (compareOp op) (rInR neg)) (hg : Gl X "range") (hm : X.mg "range" = none) (ha : CEx X a fa) (hb : CEx X b fb) (hc : CEx X c fc) (hk : behindInMarks op (.Call (.Name "range" p) [b, c] [] pos2) = false := by rfl)
    (na : starEach [b, c] X.env = (false, eval b X.env) :: starEach [c] X.env := by rfl) (nb : starEach [c] X.env = (false, eval c X.env) :: starEach [] X.env := by rfl) (hpl : (backTo pos2 (starEach [c] X.env)).any (·.1) = false := by rfl) :
    CEx X (.Compare a [op] [.Call (.Name "range" p) [b, c] [] pos2] pos) (cInR neg fa fb fc) :=
  PE.imp (pe_cmpR ho ha (pe_callTy cr_range2 hg hm (by decide +kernel) (pa_cons hb (pa_cons hc pa_nil nb) na) (by decide) (by decide) na hpl) hk) fun σ H Q h => inR_of h
def cInR1 (neg : Bool) (fa fc : Ef) : Ef := cInR neg fa (cInt 0) fc
theorem inR1_of {neg : Bool} {σ : L2.St} {H : Hp} {Q : VK} (h : tE X.K (cInR1 neg fa fc) σ H Q) :
    tE X.K fa σ H fun x H1 => tE X.K fc σ H1 fun z H3 => ∃ hi, [z] = [V.int hi] ∧ ∀ q, H3 q = none → rInR neg x (.ref q) (upd H3 q (.rng 0 hi)) Q := by
  obtain ⟨ρ, M, m, z, M', rs, w, hf, P⟩ := h
  unfold cInR1 cInR at hf
  cases ea : fa ρ M with
  | none => rw [ea] at hf; cases hf
  | some p =>
    rw [ea] at hf
    simp only [Option.bind_some] at hf
    rw [show cInt 0 ρ p.2 = some (.val (.int 0), p.2) from rfl] at hf
    cases ec : fc ρ p.2 with
    | none => simp [ec] at hf
    | some r =>
      simp only [ec, Option.bind_some] at hf
      refine bindE rs w ea fun H1 m1 v1 e1 w1 rs1 r1 => bindE rs1 w1 ec fun H3 m3 v3 e3 w3 rs3 r3 => ?_
      split at hf
      · rename_i i lo hi h1 h2 h3
        cases hf
        cases h2
        rw [h1, Rl] at r1; subst r1
        rw [h3, Rl] at r3; subst r3
        refine ⟨hi, rfl, fun ad hn => ⟨i, ad, 0, hi, rfl, rfl, upd_same, ?_⟩⟩
        exact (P.ext ((e1.trans e3).trans (.new hn))).val (w3.new hn) (by rw [Rl])
      · cases hf
theorem ce_inR1 {op : CmpOp} {neg : Bool} (ho : OpR X (compareOp op) (rInR neg)) (hg : Gl X "range") (hm : X.mg "range" = none) (ha : CEx X a fa) (hc : CEx X c fc) (hk : behindInMarks op (.Call (.Name "range" p) [c] [] pos2) = false := by rfl)
    (nb : starEach [c] X.env = (false, eval c X.env) :: starEach [] X.env := by rfl) :
    CEx X (.Compare a [op] [.Call (.Name "range" p) [c] [] pos2] pos) (cInR1 neg fa fc) :=
  PE.imp (pe_cmpR ho ha (pe_callTy cr_range1' hg hm (by decide +kernel) (pa_cons hc pa_nil nb) (by decide) (by decide) nb (by rfl)) hk) fun σ H Q h => inR1_of h
theorem ct_of {e : Expr} {f : Ef} {t : TT} (h : PT X e t) (i : ∀ σ H Q, tT X.K (toB f) σ H Q → t σ H Q) : CTx X e (toB f) := PT.imp h i
theorem ct_inR2 {op : CmpOp} {neg : Bool} (ho : OpR X (compareOp op) (rInR neg)) (hg : Gl X "range") (hm : X.mg "range" = none) (ha : CEx X a fa) (hb : CEx X b fb) (hc : CEx X c fc) (hk : behindInMarks op (.Call (.Name "range" p) [b, c] [] pos2) = false := by rfl)
    (na : starEach [b, c] X.env = (false, eval b X.env) :: starEach [c] X.env := by rfl) (nb : starEach [c] X.env = (false, eval c X.env) :: starEach [] X.env := by rfl) (hpl : (backTo pos2 (starEach [c] X.env)).any (·.1) = false := by rfl) :
    CTx X (.Compare a [op] [.Call (.Name "range" p) [b, c] [] pos2] pos) (toB (cInR neg fa fb fc)) :=
  PT.imp (pt_cmpR ho ha (pe_callTy cr_range2 hg hm (by decide +kernel) (pa_cons hb (pa_cons hc pa_nil nb) na) (by decide) (by decide) na hpl) hk) fun σ H Q h => inR_of (tst_of h)
theorem ct_inR1 {op : CmpOp} {neg : Bool} (ho : OpR X (compareOp op) (rInR neg)) (hg : Gl X "range") (hm : X.mg "range" = none) (ha : CEx X a fa) (hc : CEx X c fc) (hk : behindInMarks op (.Call (.Name "range" p) [c] [] pos2) = false := by rfl)
    (nb : starEach [c] X.env = (false, eval c X.env) :: starEach [] X.env := by rfl) :
    CTx X (.Compare a [op] [.Call (.Name "range" p) [c] [] pos2] pos) (toB (cInR1 neg fa fc)) :=
  PT.imp (pt_cmpR ho ha (pe_callTy cr_range1' hg hm (by decide +kernel) (pa_cons hc pa_nil nb) (by decide) (by decide) nb (by rfl)) hk) fun σ H Q h => inR1_of (tst_of h)
def inR3 (neg : Bool) (d e : D) (r : Rz × Mem) : Option (Rz × Mem) := match d, e, r.1.d with
  | .int i, .int lo, .int hi => some (.val (.bl (if neg then !decide (lo ≤ i ∧ i < hi) else decide (lo ≤ i ∧ i < hi))), r.2)
  | _, _, _ => none
def inR2 (neg : Bool) (fc : Ef) (ρ : Slots) (d : D) (q : Rz × Mem) : Option (Rz × Mem) := (fc ρ q.2).bind (inR3 neg d q.1.d)
def inR1 (neg : Bool) (fb fc : Ef) (ρ : Slots) (p : Rz × Mem) : Option (Rz × Mem) := (fb ρ p.2).bind (inR2 neg fc ρ p.1.d)
variable {ρ : Slots} {M : Mem} {neg : Bool} {r : Rz} {d : D} {i lo hi : Int}
@[simp] theorem cInR_ap : cInR neg fa fb fc ρ M = bnd (inR1 neg fb fc ρ) (fa ρ M) := rfl
@[simp] theorem cInR1_ap : cInR1 neg fa fc ρ M = bnd (inR1 neg (cInt 0) fc ρ) (fa ρ M) := rfl
@[simp] theorem inR1_ap : inR1 neg fb fc ρ (r, M) = bnd (inR2 neg fc ρ r.d) (fb ρ M) := rfl
@[simp] theorem inR2_ap : inR2 neg fc ρ d (r, M) = bnd (inR3 neg d r.d) (fc ρ M) := rfl
@[simp] theorem inR3_ap : inR3 neg (.int i) (.int lo) (.val (.int hi), M) = some (.val (.bl (if neg then !decide (lo ≤ i ∧ i < hi) else decide (lo ≤ i ∧ i < hi))), M) := rfl
end
end CI

/-! N26: small helps for walks: == of objects, results that hold an object, loops with an accumulating list -/
namespace CI
open PySem PySem.Spec PyProof.Rows L2
theorem stpK_ds {kl : List Bool} {ds ds' : List D} {g : Gf} {body : Sf} : stpK kl none ds g body = stpK kl none ds' g body := by
  funext d ρ M
  unfold stpK
  simp only [guard_none]
theorem ints_at (ds : List Int) (j : Nat) (h : j < ds.length) : L2.atI (ds.map D.int) (j : Int) = some (.int (ds.getD j 0)) := by
  rw [at_map, at_nat (by omega)]
  simp [h]
theorem ints_ix (ds : List Int) (j : Nat) (h : j < ds.length) (M : Mem) : oIx (.lst (ds.map .int)) (.int (j : Int)) M = some (.val (.int (ds.getD j 0))) := by
  rw [oIx_lst, ints_at ds j h]; rfl
theorem scr_ix (ns : List Int) (j : Nat) (h : j < ns.length) (M : Mem) : oIx (.scr ns) (.int (j : Int)) M = some (.val (.int (ns.getD j 0))) := by
  rw [oIx_scr, ints_at ns j h]; rfl
theorem ints_dr {ds : List Int} (hb : ∀ d ∈ ds, 0 ≤ d ∧ d < 1000) {j : Nat} (h : j < ds.length) : 0 ≤ ds.getD j 0 ∧ ds.getD j 0 < 1000 :=
  hb _ (by rw [List.getD_eq_getElem?_getD, List.getElem?_eq_getElem h]; exact List.getElem_mem _)
theorem tidy_out {kl : List Bool} {M Me : Mem} {ρ : Slots} (h : nlS M.length (keepD kl ρ) = false) : tidy kl M ρ Me = (keepD kl ρ, Me) := by
  unfold tidy; rw [if_neg (by rw [h]; simp)]
theorem finK_out {M Me : Mem} {ds : List D} (h : nl M.length (.tup ds) = false) : finK M (.val (.tup ds)) Me = (.val (.tup ds), Me) := by
  unfold finK; split <;> simp [h]
theorem oAdd_end (M : Mem) (xs ys : List D) (h : xs.length + ys.length ≤ 16777216) : oAdd (.loc M.length) (.lst ys) (M ++ [.lst xs]) = some (.new (xs ++ ys)) := by
  have e : asW (M ++ [.lst xs]) (.loc M.length) = some xs := by
    show (match (M ++ [O.lst xs])[M.length]? with | some (.lst ds) => some ds | _ => none) = some xs
    rw [get_end]
  have e2 : asW (M ++ [.lst xs]) (.lst ys) = some ys := rfl
  show (match asW (M ++ [.lst xs]) (.loc M.length), asW (M ++ [.lst xs]) (.lst ys) with | some as, some bs => if as.length + bs.length ≤ sizeLine then some (Rz.new (as ++ bs)) else none | _, _ => none) = _
  rw [e, e2]
  simp [h]
theorem py_loc {M : Mem} {k : Nat} {es : List D} (hk : M[k]? = some (.lst es)) : py M (.loc k) = py M (.lst es) := by
  have a : py M (.loc k) = (py0s es).map PyData.list := by
    show (match M[k]? with | some (.lst ds) => (py0s ds).map PyData.list | _ => none) = _
    rw [hk]
  have b : py M (.lst es) = (py0s es).map PyData.list := by
    show py0 (.lst es) = _
    rw [py0]
  rw [a, b]
theorem eqB_locL {M : Mem} {k : Nat} {es : List D} {e : D} (hk : M[k]? = some (.lst es)) : eqB M (.loc k) e = eqB M (.lst es) e := by
  have h := py_loc hk
  unfold eqB
  cases e <;> simp only [h]
theorem eqB_locR {M : Mem} {k : Nat} {es : List D} {e : D} (hk : M[k]? = some (.lst es)) : eqB M e (.loc k) = eqB M e (.lst es) := by
  have h := py_loc hk
  unfold eqB
  cases e <;> simp only [h]
theorem oNe_locL {M : Mem} {k : Nat} {es : List D} {e : D} (hk : M[k]? = some (.lst es)) : oNe (.loc k) e M = oNe (.lst es) e M := by unfold oNe; rw [eqB_locL hk]
theorem oNe_locR {M : Mem} {k : Nat} {es : List D} {e : D} (hk : M[k]? = some (.lst es)) : oNe e (.loc k) M = oNe e (.lst es) M := by unfold oNe; rw [eqB_locR hk]
theorem oEq_locL {M : Mem} {k : Nat} {es : List D} {e : D} (hk : M[k]? = some (.lst es)) : oEq (.loc k) e M = oEq (.lst es) e M := by unfold oEq; rw [eqB_locL hk]
theorem oEq_locR {M : Mem} {k : Nat} {es : List D} {e : D} (hk : M[k]? = some (.lst es)) : oEq e (.loc k) M = oEq e (.lst es) M := by unfold oEq; rw [eqB_locR hk]
theorem strOk_lit (s : String) : PyData.strOk (Str.ofString s) = true := by
  rw [Str.ofString_eq_toList]
  unfold PyData.strOk
  simp only [List.all_toArray, List.all_map, List.all_eq_true, Function.comp, decide_eq_true_eq]
  intro c _
  have := c.valid
  show c.val.toNat < 1114112
  rcases this with h | h
  · have : c.val.toNat < 55296 := h
    omega
  · exact h.2
theorem plS_lit (n : Nat) (s : String) : plS (n + 1) (.str (Str.ofString s)) = true := strOk_lit s
/-- a loop with a list at the end of the memory that grows, or is made anew -/
theorem loop_acc {α σ β : Type} {step : Stp} (e : α → D) (b : β → D) (ρ : Nat → σ → Slots) (f : σ × List β → α → σ × List β) (I : List α → σ × List β → Prop)
    (hs : ∀ x xs s T M1, I (x :: xs) (s, T) → (∃ G fl, (fl = .nx ∨ fl = .ct) ∧ step (e x) (ρ M1.length s) (M1 ++ [.lst (T.map b)]) = some (fl, ρ (M1 ++ G).length (f (s, T) x).1, M1 ++ G ++ [.lst ((f (s, T) x).2.map b)])) ∧ I xs (f (s, T) x)) :
    ∀ xs s T (M1 : Mem), I xs (s, T) → ∃ G, loopF step (xs.map e) (ρ M1.length s) (M1 ++ [.lst (T.map b)]) = some (.nx, ρ (M1 ++ G).length (xs.foldl f (s, T)).1, M1 ++ G ++ [.lst ((xs.foldl f (s, T)).2.map b)])
  | [], s, T, M1, _ => ⟨[], by simp [loopF]⟩
  | x :: xs, s, T, M1, h => by
    obtain ⟨⟨G, fl, hf, e1⟩, h1⟩ := hs x xs s T M1 h
    obtain ⟨G2, e2⟩ := loop_acc e b ρ f I hs xs (f (s, T) x).1 (f (s, T) x).2 (M1 ++ G) h1
    refine ⟨G ++ G2, ?_⟩
    rw [← List.append_assoc, List.map_cons, List.foldl_cons]
    unfold loopF
    rw [e1]
    rcases hf with rfl | rfl <;> exact e2
theorem whK_stop {kl : List Bool} {t : Tf} {body : Sf} {n : Nat} {ρ : Slots} {M M' : Mem} (ht : t ρ M = some (false, M')) : whK kl t body (n + 1) ρ M = some (.nx, ρ, M') := by
  unfold whK; rw [ht]; rfl
theorem whK_go {kl : List Bool} {t : Tf} {body : Sf} {n : Nat} {ρ ρ2 : Slots} {M M' M2 : Mem} (ht : t ρ M = some (true, M')) (hb : body ρ M' = some (.nx, ρ2, M2)) : whK kl t body (n + 1) ρ M = whK kl t body n (tidy kl M ρ2 M2).1 (tidy kl M ρ2 M2).2 := by
  conv => lhs; unfold whK
  rw [ht]
  simp only [Option.bind_some, if_true]
  rw [hb]
  rfl
end CI

/-! N27: lists lent to a def that only reads them -/
namespace CI
open PySem PySem.Spec PyProof.Rows L2
mutual
/-- no list and no place in it: numbers, words, tuples of such -/
def flat : D → Bool
  | .tup ds => flats ds
  | .lst _ => false
  | .loc _ => false
  | _ => true
def flats : List D → Bool
  | [] => true
  | d :: ds => flat d && flats ds
end
def flatR : Rz → Bool
  | .val d => flat d
  | .new ds => flats ds
def isLo : O → Bool
  | .lst _ => true
  | _ => false
def lend (M : Mem) (d : D) : D := match d with
  | .loc k => match M[k]? with
    | some (.lst ds) => .lst ds
    | _ => .loc k
  | d => d
def cLend1 (F : Fn) (p : List D × Mem) : Option (Rz × Mem) :=
  if p.2.all isLo = true ∧ nls 0 (p.1.map (lend p.2)) = true then (F (p.1.map (lend p.2)) []).bind fun q => if q.2 = [] ∧ flatR q.1 = true then some (q.1, p.2) else none else none
def cLend (F : Fn) (g : Af) : Ef := fun ρ M => (g ρ M).bind (cLend1 F)
section
variable {K : PySem.W.Frag} {H : Hp} {m : List Addr} {M : Mem}
mutual
theorem Rl.up : ∀ {d : D} {v : V}, flat d = true → Rl K H [] d v → Rl K H m d v
  | .non, _, _, h => h
  | .bl _, _, _, h => h
  | .int _, _, _, h => h
  | .str _, _, _, h => h
  | .scr _, _, _, h => h
  | .tup ds, _, f, h => by
    rw [Rl] at h ⊢
    obtain ⟨a, vs, h1, h2, h3⟩ := h
    rw [flat] at f
    exact ⟨a, vs, h1, h2, Rls.up f h3⟩
  | .lst _, _, f, _ => by rw [flat] at f; cases f
  | .loc _, _, f, _ => by rw [flat] at f; cases f
theorem Rls.up : ∀ {ds : List D} {vs : List V}, flats ds = true → Rls K H [] ds vs → Rls K H m ds vs
  | [], _, _, h => by rw [Rls] at h ⊢; exact h
  | d :: ds, _, f, h => by
    rw [Rls] at h ⊢
    obtain ⟨v, r, h1, h2, h3⟩ := h
    rw [flats, Bool.and_eq_true] at f
    exact ⟨v, r, h1, Rl.up f.1 h2, Rls.up f.2 h3⟩
end
theorem lend_ok {d : D} {v : V} (w : Wd K H m M) (r : Rl K H m d v) (n : nl 0 (lend M d) = true) : Rl K H [] (lend M d) v := by
  have cut : ∀ {d : D} {v : V}, nl 0 d = true → Rl K H m d v → Rl K H [] d v := fun n r => Rl.cut (m := []) (l := m) r n
  cases d with
  | loc k =>
    unfold lend at n ⊢
    simp only at n ⊢
    cases q : M[k]? with
    | none => rw [q] at n; simp [nl] at n
    | some o =>
      rw [q] at n
      cases o with
      | lst ds =>
        simp only at n ⊢
        rw [Rl] at r
        obtain ⟨a, rfl, hk⟩ := r
        have ro := w.at_ k a _ hk q
        obtain ⟨vs, h1, h2⟩ := ro
        rw [Rl]
        refine ⟨a, vs, rfl, by simp, h1, ?_⟩
        exact Rls.cut' (m := []) (l := m) h2 (by simpa [nl] using n)
      | ins c fs => simp [nl] at n
      | dct kv => simp [nl] at n
  | _ => exact cut n r
theorem lends_ok (w : Wd K H m M) : ∀ {ds : List D} {vs : List V}, Rls K H m ds vs → nls 0 (ds.map (lend M)) = true → Rls K H [] (ds.map (lend M)) vs
  | [], _, r, _ => by rw [Rls] at r; rw [List.map_nil, Rls]; exact r
  | d :: ds, _, r, n => by
    rw [Rls] at r
    obtain ⟨v, vs, rfl, h1, h2⟩ := r
    rw [List.map_cons, nls, Bool.and_eq_true] at n
    rw [List.map_cons, Rls]
    exact ⟨v, vs, rfl, lend_ok w h1 n.1, lends_ok w h2 n.2⟩
/-- what a def did that held nothing: every list stands -/
theorem back_ok (hl : M.all isLo = true) (w : Wd K H m M) {H1 : Hp} {m1 : List Addr} (e : Ext H [] H1 m1) (w1 : Wd K H1 m1 []) : Ext H m H1 m ∧ Wd K H1 m M := by
  have hm1 : m1 = [] := List.length_eq_zero_iff.mp w1.len
  subst hm1
  have e2 : Ext H m H1 m := ⟨e.tup, e.frz, fun a xs _ h => e.lst a xs (by simp) h, e.trk, [], by simp, fun _ h => nomatch h⟩
  refine ⟨e2, w.len, w.nd, fun k a o h1 h2 => ?_⟩
  have ro := w.at_ k a o h1 h2
  have io : isLo o = true := List.all_eq_true.mp hl o (List.mem_of_getElem? h2)
  cases o with
  | lst ds =>
    obtain ⟨vs, q1, q2⟩ := ro
    exact ⟨vs, e.lst a vs (by simp) q1, q2.ext e2⟩
  | ins c fs => cases io
  | dct kv => cases io
end
section
variable {X : Cx} {k : Nat} {f : Addr} {fd : FuncData} {ps : List Str} {x m c : Str} {p pos apos : Pos} {e o : Expr} {es : List Expr} {G : Fn} {fo : Ef} {g : Af}
theorem lend_of {σ : L2.St} {H : Hp} {Q : VK} {E : XK} (h : tE X.K (cLend G g) σ H Q) : tCall (spF X.K G) [] E (tA X.K g) σ H Q := by
  obtain ⟨ρ, M, m, z, M', rs, w, hf, P⟩ := h
  unfold cLend at hf
  cases ea : g ρ M with
  | none => rw [ea] at hf; cases hf
  | some p =>
    rw [ea] at hf
    simp only [Option.bind_some] at hf
    unfold cLend1 at hf
    split at hf
    · rename_i hc
      cases eb : G (p.1.map (lend p.2)) [] with
      | none => rw [eb] at hf; cases hf
      | some q =>
        rw [eb] at hf
        simp only [Option.bind_some] at hf
        split at hf
        · rename_i hq
          cases hf
          refine bindA rs w ea fun H1 m1 vs e1 w1 rs1 r1 => ?_
          obtain ⟨q1, q2⟩ := q
          simp only at hq hc
          obtain ⟨rfl, hfl⟩ := hq
          refine ⟨p.1.map (lend p.2), [], [], q1, [], by rw [List.append_nil]; exact lends_ok w1 r1 hc.2, ⟨rfl, .nil, fun _ _ _ h => by cases h⟩, eb, ?_⟩
          intro H2 m2 e2 w2
          obtain ⟨e3, w3⟩ := back_ok hc.1 w1 e2 w2
          have hm2 : m2 = [] := List.length_eq_zero_iff.mp w2.len
          subst hm2
          have P2 := P H2 m1 (e1.trans e3) w3
          cases q1 with
          | val d => exact fun v r => P2 v (Rl.up hfl r)
          | new ds => exact fun vs a r n => P2 vs a (Rls.up hfl r) n
        · cases hf
    · cases hf
theorem ce_lend (F : FnOk X.prog X.w X.K X.mg X.base CX0 k f fd ps (spF X.K G)) (hr : Room k X.A) (hg : Gl X x) (hm : X.mg x = some (.ref f)) (hk : PySem.W.keepIn X.K (.ref f) = true) (hb : Binds X.K fd ps [])
    (ha : CAx X (e :: es) g) (hdb : (x == ("__debug__" : Str)) = false := by decide) (he : starEach (e :: es) X.env = (false, eval e X.env) :: starEach es X.env := by rfl) (hpl : (backTo pos (starEach es X.env)).any (·.1) = false := by rfl) :
    CEx X (.Call (.Name x p) (e :: es) [] pos) (cLend G g) := PE.imp (pe_call F hr hg hm hk hb .nil pass0 ha hdb he hpl) fun _ _ _ h => lend_of h
end
@[simp] theorem cLend_ap {F : Fn} {g : Af} {ρ : Slots} {M : Mem} : cLend F g ρ M = bnd (cLend1 F) (g ρ M) := rfl
end CI

namespace K03
open PySem PySem.Spec PyProof.Rows L2 CI
noncomputable def L__law_draws_1 : Sf :=
    (sIf (toB (cBin oGt (cVar 3) (cInt (0))))
    (sCons (sExpr (cBM "list" oAppend (cVar 2) (aCons (cBin oMod (cCB oInt (aCons (cVar 3) aNil)) (cInt (1000))) aNil)))
    (sSet 3 (cBin oDiv (cVar 3) (cInt (1000)))))
    sNil)
noncomputable def L__law_draws_2 : Sf :=
    (sCons (sSet 4 (cBin oMod (cCB oInt (aCons (cBin oAdd (cBin oAdd (cBin oMulA (cVar 4) (cInt (48271))) (cBin oMulA (cVar 5) (cInt (69621)))) (cInt (7))) aNil)) (cInt (2147483647))))
    (sIf (toB (cBin oLt (cCB oLen (aCons (cVar 2) aNil)) (cVar 1)))
    (sExpr (cBM "list" oAppend (cVar 2) (aCons (cBin oMod (cCB oInt (aCons (cBin oMod (cCB oInt (aCons (cBin oAdd (cBin oMulA (cVar 4) (cInt (69621))) (cInt (5))) aNil)) (cInt (2147483629))) aNil)) (cInt (1000))) aNil)))
    sNil))
noncomputable def B__law_draws : Sf :=
    (sCons (sSetM 2 (cLst aNil))
    (sCons (sSet 3 (cCB oInt (aCons (cVar 0) aNil)))
    (sCons (sIf (toB (cBin oGe (cVar 3) (cBin oPow (cInt (10)) (cInt (18)))))
    (sForK [true, true, true, true, false, false] (iRg1 (cVar 1)) (gNm 5) L__law_draws_1)
    sNil)
    (sCons (sSet 4 (cBin oMod (cCB oInt (aCons (cBin oAdd (cBin oMulA (cCB oInt (aCons (cVar 0) aNil)) (cInt (48271))) (cInt (11))) aNil)) (cInt (2147483647))))
    (sCons (sForK [false, true, true, false, true, false] (iRg1 (cVar 1)) (gNm 5) L__law_draws_2)
    (sRet (cVar 2)))))))
noncomputable def F__law_draws : Fn := mkFnK 2 6 B__law_draws
noncomputable def B__law_size : Sf :=
    (sCons (sSet 1 (cCall F__law_draws (aCons (cVar 0) (aCons (cInt (2)) aNil))))
    (sCons (sSet 2 (cBin oAdd (cInt (1)) (cBin oMod (cCB oInt (aCons (cBin oIx (cVar 1) (cInt (0))) aNil)) (cInt (4)))))
    (sCons (sSet 3 (cBin oAdd (cInt (2)) (cBin oMod (cCB oInt (aCons (cBin oIx (cVar 1) (cInt (1))) aNil)) (cInt (8)))))
    (sCons (sIf (toB (cBin oEq (cBin oMod (cCB oInt (aCons (cBin oIx (cVar 1) (cInt (0))) aNil)) (cInt (100))) (cInt (99))))
    (sSet 2 (cInt (12)))
    sNil)
    (sCons (sIf (toB (cBin oEq (cBin oMod (cCB oInt (aCons (cBin oIx (cVar 1) (cInt (1))) aNil)) (cInt (100))) (cInt (99))))
    (sSet 3 (cInt (40)))
    sNil)
    (sRet (cTup (aCons (cVar 2) (aCons (cVar 3) aNil)))))))))
noncomputable def F__law_size : Fn := mkFnK 1 4 B__law_size
noncomputable def B__law_glyph : Sf :=
    (sCons (sIf (toB (cBin oEq (cBin oMod (cCB oInt (aCons (cVar 0) aNil)) (cInt (7))) (cInt (0))))
    (sRet (cInt (32)))
    sNil)
    (sCons (sIf (toB (cBin oEq (cBin oMod (cCB oInt (aCons (cVar 0) aNil)) (cInt (7))) (cInt (1))))
    (sRet (cBin oAdd (cInt (192)) (cBin oMod (cBin oDiv (cCB oInt (aCons (cVar 0) aNil)) (cInt (7))) (cInt (64)))))
    sNil)
    (sCons (sIf (toB (cBin oEq (cBin oMod (cCB oInt (aCons (cVar 0) aNil)) (cInt (7))) (cInt (2))))
    (sRet (cBin oAdd (cInt (160)) (cBin oMod (cBin oDiv (cCB oInt (aCons (cVar 0) aNil)) (cInt (7))) (cInt (32)))))
    sNil)
    (sRet (cBin oAdd (cInt (33)) (cBin oMod (cBin oDiv (cCB oInt (aCons (cVar 0) aNil)) (cInt (7))) (cInt (94))))))))
noncomputable def F__law_glyph : Fn := mkFnK 1 1 B__law_glyph
noncomputable def L__law_style_1 : Sf :=
    (sIf (toB (cBin oEq (cBin oMod (cBin oDiv (cCB oInt (aCons (cVar 0) aNil)) (cVar 3)) (cInt (2))) (cInt (1))))
    (sExpr (cBM "list" oAppend (cVar 1) (aCons (cVar 2) aNil)))
    sNil)
noncomputable def B__law_style : Sf :=
    (sCons (sSetM 1 (cLst aNil))
    (sCons (sIf (toB (cBin oGt (cBin oMod (cCB oInt (aCons (cVar 0) aNil)) (cInt (3))) (cInt (0))))
    (sCons (sForK [true, true, false, false] (iSeq (cTup (aCons (cTup (aCons (cInt (1)) (aCons (cInt (3)) aNil))) (aCons (cTup (aCons (cInt (4)) (aCons (cInt (6)) aNil))) (aCons (cTup (aCons (cInt (7)) (aCons (cInt (12)) aNil))) aNil))))) (gTp 2 (gsCons (gNm 2) (gsCons (gNm 3) gsNil))) L__law_style_1)
    (sCons (sIf (toB (cBin oGt (cBin oMod (cBin oDiv (cCB oInt (aCons (cVar 0) aNil)) (cInt (24))) (cInt (3))) (cInt (0))))
    (sExpr (cBM "list" oAppend (cVar 1) (aCons (cBin oAdd (cInt (30)) (cBin oMod (cBin oDiv (cCB oInt (aCons (cVar 0) aNil)) (cInt (72))) (cInt (8)))) aNil)))
    sNil)
    (sIf (toB (cBin oEq (cBin oMod (cBin oDiv (cCB oInt (aCons (cVar 0) aNil)) (cInt (24))) (cInt (3))) (cInt (2))))
    (sExpr (cBM "list" oAppend (cVar 1) (aCons (cBin oAdd (cInt (40)) (cBin oMod (cBin oDiv (cCB oInt (aCons (cVar 0) aNil)) (cInt (216))) (cInt (8)))) aNil)))
    sNil)))
    sNil)
    (sRet (cCB oTuple (aCons (cVar 1) aNil)))))
noncomputable def F__law_style : Fn := mkFnK 1 4 B__law_style
noncomputable def L__law_line_1 : Sf :=
    (sCons (sSet 4 (cCall F__law_glyph (aCons (cBin oIx (cVar 0) (cBin oMulA (cInt (2)) (cVar 3))) aNil)))
    (sCons (sSet 5 (cCall F__law_style (aCons (cBin oIx (cVar 0) (cBin oAdd (cBin oMulA (cInt (2)) (cVar 3)) (cInt (1)))) aNil)))
    (sIf (kAnd (toB (cBin oLt (cCB oLen (aCons (cVar 2) aNil)) (cVar 1))) (toB (cBin oLt (cVar 4) (cInt (192)))))
    (sExpr (cBM "list" oAppend (cVar 2) (aCons (cTup (aCons (cVar 4) (aCons (cIf (kAnd (toB (cBin oEq (cVar 4) (cInt (32)))) (toB (cBin oEq (cBin oMod (cCB oInt (aCons (cBin oIx (cVar 0) (cBin oMulA (cInt (2)) (cVar 3))) aNil)) (cInt (2))) (cInt (0))))) (cTup aNil) (cVar 5)) aNil))) aNil)))
    (sIf (toB (cBin oLt (cBin oAdd (cCB oLen (aCons (cVar 2) aNil)) (cInt (1))) (cVar 1)))
    (sCons (sExpr (cBM "list" oAppend (cVar 2) (aCons (cTup (aCons (cVar 4) (aCons (cVar 5) aNil))) aNil)))
    (sExpr (cBM "list" oAppend (cVar 2) (aCons (cTup (aCons (cInt (0)) (aCons (cVar 5) aNil))) aNil))))
    (sIf (toB (cBin oLt (cCB oLen (aCons (cVar 2) aNil)) (cVar 1)))
    (sExpr (cBM "list" oAppend (cVar 2) (aCons (cTup (aCons (cInt (32)) (aCons (cTup aNil) aNil))) aNil)))
    sNil)))))
noncomputable def B__law_line : Sf :=
    (sCons (sSetM 2 (cLst aNil))
    (sCons (sForK [true, true, true, false, false, false] (iRg1 (cVar 1)) (gNm 3) L__law_line_1)
    (sRet (cCB oTuple (aCons (cVar 2) aNil)))))
noncomputable def F__law_line : Fn := mkFnK 2 6 B__law_line
noncomputable def L__law_screen_1 : Sf :=
    (sExpr (cBM "list" oAppend (cVar 2) (aCons (cCall F__law_line (aCons (cSl (cVar 1) (sSome (cBin oAdd (cInt (12)) (cBin oMulA (cBin oMulA (cInt (2)) (cVar 3)) (cVar 7)))) (sSome (cBin oAdd (cInt (12)) (cBin oMulA (cBin oMulA (cInt (2)) (cBin oAdd (cVar 3) (cInt (1)))) (cVar 7))))) (aCons (cVar 7) aNil))) aNil)))
noncomputable def Q__law_screen_1 : Ef :=
    (cLc (iRg1 (cBin oMod (cCB oInt (aCons (cBin oIx (cVar 1) (cInt (3))) aNil)) (cInt (9)))) [8] (gNm 8) tYesF (cCall F__law_glyph (aCons (cBin oIx (cVar 1) (cBin oAdd (cInt (4)) (cVar 8))) aNil)))
noncomputable def B__law_screen : Sf :=
    (sCons (sAsg (gTp 2 (gsCons (gNm 6) (gsCons (gNm 7) gsNil))) (cCall F__law_size (aCons (cVar 0) aNil)))
    (sCons (sSet 1 (cCall F__law_draws (aCons (cVar 0) (aCons (cBin oAdd (cInt (12)) (cBin oMulA (cBin oMulA (cInt (2)) (cVar 6)) (cVar 7))) aNil))))
    (sCons (sSetM 2 (cLst aNil))
    (sCons (sForK [false, true, true, false, false, false, true, true, false] (iRg1 (cVar 6)) (gNm 3) L__law_screen_1)
    (sCons (sSet 4 (cCB oTuple (aCons Q__law_screen_1 aNil)))
    (sCons (sIf (toB (cBin oEq (cBin oMod (cCB oInt (aCons (cBin oIx (cVar 1) (cInt (3))) aNil)) (cInt (50))) (cInt (49))))
    (sSet 4 (cBin oMulA (cVar 4) (cInt (5))))
    sNil)
    (sCons (sSet 5 (cTup (aCons (cBin oMod (cCB oInt (aCons (cBin oIx (cVar 1) (cInt (2))) aNil)) (cVar 6)) (aCons (cBin oMod (cBin oDiv (cCB oInt (aCons (cBin oIx (cVar 1) (cInt (2))) aNil)) (cInt (12))) (cVar 7)) aNil))))
    (sRet (cTup (aCons (cCB oTuple (aCons (cVar 2) aNil)) (aCons (cVar 5) (aCons (cBin oEq (cBin oMod (cBin oDiv (cCB oInt (aCons (cBin oIx (cVar 1) (cInt (3))) aNil)) (cInt (9))) (cInt (2))) (cInt (0))) (aCons (cSl (cVar 4) sNone (sSome (cInt (40)))) aNil)))))))))))))
noncomputable def F__law_screen : Fn := mkFnK 1 9 B__law_screen
noncomputable def B__law_cell : Sf :=
    (sCons (sIf (toB (cBin oLt (cVar 1) (cCB oLen (aCons (cVar 0) aNil))))
    (sRet (cCB oInt (aCons (cBin oIx (cVar 0) (cVar 1)) aNil)))
    sNil)
    (sRet (cInt (0))))
noncomputable def F__law_cell : Fn := mkFnK 2 2 B__law_cell
noncomputable def L__law_resized_1 : Sf :=
    (sCons (sSet 7 (cTup (aCons (cInt (32)) (aCons (cTup aNil) aNil))))
    (sCons (sIf (kAnd (toB (cBin oLt (cVar 4) (cCB oLen (aCons (cBin oIx (cVar 0) (cInt (0))) aNil)))) (toB (cBin oLt (cVar 6) (cCB oLen (aCons (cBin oIx (cBin oIx (cVar 0) (cInt (0))) (cInt (0))) aNil)))))
    (sCons (sSet 7 (cBin oIx (cBin oIx (cBin oIx (cVar 0) (cInt (0))) (cVar 4)) (cVar 6)))
    (sIf (kAnd (toB (cBin oGe (cBin oIx (cVar 7) (cInt (0))) (cInt (192)))) (toB (cBin oEq (cBin oAdd (cVar 6) (cInt (1))) (cVar 2))))
    (sSet 7 (cTup (aCons (cInt (32)) (aCons (cTup aNil) aNil))))
    sNil))
    sNil)
    (sExpr (cBM "list" oAppend (cVar 5) (aCons (cVar 7) aNil)))))
noncomputable def L__law_resized_2 : Sf :=
    (sCons (sSetM 5 (cLst aNil))
    (sCons (sForK [true, true, true, true, true, true, false, false] (iRg1 (cVar 2)) (gNm 6) L__law_resized_1)
    (sExpr (cBM "list" oAppend (cVar 3) (aCons (cCB oTuple (aCons (cVar 5) aNil)) aNil)))))
noncomputable def B__law_resized : Sf :=
    (sCons (sSetM 3 (cLst aNil))
    (sCons (sForK [true, true, true, true, false, false, false, false] (iRg1 (cVar 1)) (gNm 4) L__law_resized_2)
    (sCons (sAsg (gTp 2 (gsCons (gNm 4) (gsCons (gNm 6) gsNil))) (cBin oIx (cVar 0) (cInt (1))))
    (sRet (cTup (aCons (cCB oTuple (aCons (cVar 3) aNil)) (aCons (cTup (aCons (cCB oMin2 (aCons (cVar 4) (aCons (cBin oSub (cVar 1) (cInt (1))) aNil))) (aCons (cCB oMin2 (aCons (cVar 6) (aCons (cBin oSub (cVar 2) (cInt (1))) aNil))) aNil))) (aCons (cBin oIx (cVar 0) (cInt (2))) (aCons (cBin oIx (cVar 0) (cInt (3))) aNil)))))))))
noncomputable def F__law_resized : Fn := mkFnK 3 8 B__law_resized
noncomputable def B_cut_at : Sf :=
    (sCons (sIf (kAnd (toB (cBin oLt (cVar 1) (cCB oLen (aCons (cVar 0) aNil)))) (toB (cBin oEq (cBin oIx (cBin oIx (cVar 0) (cVar 1)) (cInt (0))) (cInt (0)))))
    (sRet (cBin oAdd (cBin oAdd (cSl (cVar 0) sNone (sSome (cBin oSub (cVar 1) (cInt (1))))) (cTup (aCons (cVal (.tup [(.int (32)), (.tup [])])) (aCons (cVal (.tup [(.int (32)), (.tup [])])) aNil)))) (cSl (cVar 0) (sSome (cBin oAdd (cVar 1) (cInt (1)))) sNone)))
    sNil)
    (sRet (cVar 0)))
noncomputable def F_cut_at : Fn := mkFnK 2 2 B_cut_at
noncomputable def B_blank_line : Sf :=
    (sRet (cBin oMulA (cTup (aCons (cVal (.tup [(.int (32)), (.tup [])])) aNil)) (cVar 0)))
noncomputable def F_blank_line : Fn := mkFnK 1 1 B_blank_line
noncomputable def B_fitted : Sf :=
    (sCons (sIf (toB (cBin oGe (cVar 1) (cCB oLen (aCons (cVar 0) aNil))))
    (sRet (cBin oAdd (cVar 0) (cCall F_blank_line (aCons (cBin oSub (cVar 1) (cCB oLen (aCons (cVar 0) aNil))) aNil))))
    sNil)
    (sRet (cSl (cCall F_cut_at (aCons (cVar 0) (aCons (cVar 1) aNil))) sNone (sSome (cVar 1)))))
noncomputable def F_fitted : Fn := mkFnK 2 2 B_fitted
noncomputable def Q_fitted_lines_1 : Ef :=
    (cLc (iSeq (cSl (cVar 0) sNone (sSome (cVar 1)))) [4] (gNm 4) tYesF (cCall F_fitted (aCons (cVar 4) (aCons (cVar 2) aNil))))
noncomputable def B_fitted_lines : Sf :=
    (sCons (sSet 3 Q_fitted_lines_1)
    (sRet (cBin oAdd (cCB oTuple (aCons (cVar 3) aNil)) (cBin oMulA (cTup (aCons (cCall F_blank_line (aCons (cVar 2) aNil)) aNil)) (cBin oSub (cVar 1) (cCB oLen (aCons (cVar 3) aNil)))))))
noncomputable def F_fitted_lines : Fn := mkFnK 3 5 B_fitted_lines
noncomputable def B_resized : Sf :=
    (sCons (sAsg (gTp 4 (gsCons (gNm 4) (gsCons (gNm 5) (gsCons (gNm 6) (gsCons (gNm 7) gsNil))))) (cVar 0))
    (sCons (sSet 3 (cTup (aCons (cCB oMin2 (aCons (cBin oIx (cVar 5) (cInt (0))) (aCons (cBin oSub (cVar 1) (cInt (1))) aNil))) (aCons (cCB oMin2 (aCons (cBin oIx (cVar 5) (cInt (1))) (aCons (cBin oSub (cVar 2) (cInt (1))) aNil))) aNil))))
    (sRet (cTup (aCons (cCall F_fitted_lines (aCons (cVar 4) (aCons (cVar 1) (aCons (cVar 2) aNil)))) (aCons (cVar 3) (aCons (cVar 6) (aCons (cVar 7) aNil))))))))
noncomputable def F_resized : Fn := mkFnK 3 8 B_resized
noncomputable def Q_line_text_1 : Ef :=
    (cLc (iSeq (cVar 0)) [2, 3] (gTp 2 (gsCons (gNm 2) (gsCons (gNm 3) gsNil))) (toB (cBin oNe (cVar 2) (cInt (0)))) (cVar 2))
noncomputable def L_line_text_1 : Sf :=
    (sExpr (cBM "list" oPop (cVar 1) aNil))
noncomputable def T_line_text_1 : Tf :=
    (kAnd (toTr (cVar 1)) (toB (cBin oEq (cBin oIx (cVar 1) (cNeg (cInt (1)))) (cInt (32)))))
noncomputable def B_line_text : Sf :=
    (sCons (sSetM 1 Q_line_text_1)
    (sCons (sWhileK [false, true, false, false] 100000 T_line_text_1 L_line_text_1)
    (sRet (cVar 1))))
noncomputable def F_line_text : Fn := mkFnK 1 4 B_line_text
noncomputable def Q_screen_text_1 : Ef :=
    (cLc (iSeq (cBin oIx (cVar 0) (cInt (0)))) [1] (gNm 1) tYesF (cCall F_line_text (aCons (cVar 1) aNil)))
noncomputable def B_screen_text : Sf :=
    (sRet Q_screen_text_1)
noncomputable def F_screen_text : Fn := mkFnK 1 2 B_screen_text
noncomputable def B_kind_of : Sf :=
    (sCons (sIf (kOr (toB (cBin oLt (cVar 0) (cInt (32)))) (toB (cChain oLe oLe (cInt (127)) (cVar 0) (cInt (159)))))
    (sRet (cStr "control"))
    sNil)
    (sCons (sIf (toB (cBin oGe (cVar 0) (cInt (192))))
    (sRet (cStr "wide"))
    sNil)
    (sRet (cStr "narrow"))))
noncomputable def F_kind_of : Fn := mkFnK 1 1 B_kind_of
noncomputable def L_is_printable_1 : Sf :=
    (sIf (toB (cBin oEq (cCall F_kind_of (aCons (cVar 1) aNil)) (cStr "control")))
    (sRet (cBl false))
    sNil)
noncomputable def B_is_printable : Sf :=
    (sCons (sForK [false, false] (iSeq (cVar 0)) (gNm 1) L_is_printable_1)
    (sRet (cBl true)))
noncomputable def F_is_printable : Fn := mkFnK 1 2 B_is_printable
noncomputable def B_kind_of_number : Sf :=
    (sCons (sIf (toB (cBin oEq (cVar 0) (cInt (1))))
    (sRet (cStr "bold"))
    sNil)
    (sCons (sIf (toB (cBin oEq (cVar 0) (cInt (4))))
    (sRet (cStr "underlined"))
    sNil)
    (sCons (sIf (toB (cBin oEq (cVar 0) (cInt (7))))
    (sRet (cStr "inverse"))
    sNil)
    (sCons (sIf (toB (cChain oLe oLe (cInt (30)) (cVar 0) (cInt (37))))
    (sRet (cStr "foreground"))
    sNil)
    (sCons (sIf (toB (cChain oLe oLe (cInt (40)) (cVar 0) (cInt (47))))
    (sRet (cStr "background"))
    sNil)
    (sRet (cStr "")))))))
noncomputable def F_kind_of_number : Fn := mkFnK 1 1 B_kind_of_number
noncomputable def L_is_style_1 : Sf :=
    (sCons (sSet 4 (cCall F_kind_of_number (aCons (cVar 3) aNil)))
    (sCons (sIf (kOr (toB (cBin oEq (cVar 4) (cStr ""))) (kOr (toB (cBin (oIn false) (cVar 4) (cVar 1))) (toB (cBin oLe (cVar 3) (cVar 2)))))
    (sRet (cBl false))
    sNil)
    (sCons (sExpr (cBM "list" oAppend (cVar 1) (aCons (cVar 4) aNil)))
    (sSet 2 (cVar 3)))))
noncomputable def B_is_style : Sf :=
    (sCons (sSetM 1 (cLst aNil))
    (sCons (sSet 2 (cInt (0)))
    (sCons (sForK [false, true, true, false, false] (iSeq (cVar 0)) (gNm 3) L_is_style_1)
    (sRet (cBl true)))))
noncomputable def F_is_style : Fn := mkFnK 1 5 B_is_style
noncomputable def L_is_line_1 : Sf :=
    (sCons (sIf (kNot (toTr (cCall F_is_style (aCons (cVar 3) aNil))))
    (sRet (cBl false))
    sNil)
    (sIf (toB (cBin (oIs true) (cVar 1) cNon))
    (sCons (sIf (kOr (toB (cBin oNe (cVar 2) (cInt (0)))) (toB (cBin oNe (cVar 3) (cVar 1))))
    (sRet (cBl false))
    sNil)
    (sSet 1 cNon))
    (sIf (kOr (toB (cBin oEq (cVar 2) (cInt (0)))) (toB (cBin oEq (cCall F_kind_of (aCons (cVar 2) aNil)) (cStr "control"))))
    (sRet (cBl false))
    (sIf (toB (cBin oEq (cCall F_kind_of (aCons (cVar 2) aNil)) (cStr "wide")))
    (sSet 1 (cVar 3))
    sNil))))
noncomputable def B_is_line : Sf :=
    (sCons (sSet 1 cNon)
    (sCons (sForK [false, true, false, false] (iSeq (cVar 0)) (gTp 2 (gsCons (gNm 2) (gsCons (gNm 3) gsNil))) L_is_line_1)
    (sRet (cBin (oIs false) (cVar 1) cNon))))
noncomputable def F_is_line : Fn := mkFnK 1 4 B_is_line
noncomputable def L_is_screen_1 : Sf :=
    (sIf (kOr (toB (cBin oNe (cCB oLen (aCons (cVar 2) aNil)) (cVar 1))) (kNot (toTr (cCall F_is_line (aCons (cVar 2) aNil)))))
    (sRet (cBl false))
    sNil)
noncomputable def B_is_screen : Sf :=
    (sCons (sAsg (gTp 4 (gsCons (gNm 3) (gsCons (gNm 4) (gsCons (gNm 5) (gsCons (gNm 6) gsNil))))) (cVar 0))
    (sCons (sIf (kOr (toB (cBin oLt (cCB oLen (aCons (cVar 3) aNil)) (cInt (1)))) (toB (cBin oGt (cCB oLen (aCons (cVar 3) aNil)) (cVal (.int (12))))))
    (sRet (cBl false))
    sNil)
    (sCons (sSet 1 (cCB oLen (aCons (cBin oIx (cVar 3) (cInt (0))) aNil)))
    (sCons (sIf (kOr (toB (cBin oLt (cVar 1) (cInt (2)))) (toB (cBin oGt (cVar 1) (cVal (.int (40))))))
    (sRet (cBl false))
    sNil)
    (sCons (sForK [false, true, false, true, true, false, true] (iSeq (cVar 3)) (gNm 2) L_is_screen_1)
    (sCons (sIf (kNot (kAnd (toB (cChain oLe oLt (cInt (0)) (cBin oIx (cVar 4) (cInt (0))) (cCB oLen (aCons (cVar 3) aNil)))) (toB (cChain oLe oLt (cInt (0)) (cBin oIx (cVar 4) (cInt (1))) (cVar 1)))))
    (sRet (cBl false))
    sNil)
    (sRet (cAnd (cBin oLe (cCB oLen (aCons (cVar 6) aNil)) (cVal (.int (40)))) (cCall F_is_printable (aCons (cVar 6) aNil))))))))))
noncomputable def F_is_screen : Fn := mkFnK 1 7 B_is_screen
noncomputable def L_law_1 : Sf :=
    (sCons (sAsg (gTp 2 (gsCons (gNm 9) (gsCons (gNm 10) gsNil))) (cCall F__law_size (aCons (cVar 2) aNil)))
    (sCons (sSet 5 (cCall F__law_resized (aCons (cVar 1) (aCons (cVar 9) (aCons (cVar 10) aNil)))))
    (sCons (sSet 6 (cCall F_resized (aCons (cVar 1) (aCons (cVar 9) (aCons (cVar 10) aNil)))))
    (sCons (sIf (kOr (toB (cBin oNe (cVar 6) (cVar 5))) (kOr (kNot (toTr (cCall F_is_screen (aCons (cVar 6) aNil)))) (toB (cBin oNe (cCall F_resized (aCons (cVar 6) (aCons (cVar 9) (aCons (cVar 10) aNil)))) (cVar 6)))))
    (sRet (cBl false))
    sNil)
    (sSet 1 (cVar 6))))))
noncomputable def Q_law_1 : Ef :=
    (cLc (iSeq (cVar 4)) [2] (gNm 2) (toB (cBin oNe (cBin oIx (cVar 2) (cInt (0))) (cInt (0)))) (cBin oIx (cVar 2) (cInt (0))))
noncomputable def L_law_2 : Sf :=
    (sIf (toB (cBin oEq (cBin oIx (cVar 7) (cNeg (cInt (1)))) (cInt (32))))
    (sSet 7 (cSl (cVar 7) sNone (sSome (cNeg (cInt (1))))))
    sNil)
noncomputable def L_law_3 : Sf :=
    (sCons (sSet 7 Q_law_1)
    (sCons (sForK [false, true, false, true, false, false, false, true, false, false, false] (iRg1 (cCB oLen (aCons (cVar 7) aNil))) (gNm 8) L_law_2)
    (sExpr (cBM "list" oAppend (cVar 3) (aCons (cVar 7) aNil)))))
noncomputable def B_law : Sf :=
    (sCons (sSet 1 (cCall F__law_screen (aCons (cCall F__law_cell (aCons (cVar 0) (aCons (cInt (0)) aNil))) aNil)))
    (sCons (sForK [false, true, false, false, false, false, false, false, false, false, false] (iSeq (cSl (cVar 0) (sSome (cInt (1))) sNone)) (gNm 2) L_law_1)
    (sCons (sSetM 3 (cLst aNil))
    (sCons (sForK [false, true, false, true, false, false, false, false, false, false, false] (iSeq (cBin oIx (cVar 1) (cInt (0)))) (gNm 4) L_law_3)
    (sRet (cBin oEq (cCall F_screen_text (aCons (cVar 1) aNil)) (cVar 3)))))))
noncomputable def F_law : Fn := mkFnK 1 11 B_law
end K03
namespace K03
open PySem PySem.Spec PyProof.Rows L2 CI
/-! draws -/
def dw1 (s : List Int × Int) (_ : Nat) : List Int × Int := if 0 < s.2 then (s.1 ++ [s.2 % 1000], s.2 / 1000) else s
def dw2 (many : Nat) (s : List Int × Int) (k : Nat) : List Int × Int :=
  (if s.1.length < many then s.1 ++ [((s.2 * 48271 + k * 69621 + 7) % 2147483647 * 69621 + 5) % 2147483629 % 1000] else s.1, (s.2 * 48271 + k * 69621 + 7) % 2147483647)
def drw (cell : Int) (many : Nat) : List Int :=
  ((List.range many).foldl (dw2 many) (if 1000000000000000000 ≤ cell then ((List.range many).foldl dw1 ([], cell)).1 else [], (cell * 48271 + 11) % 2147483647)).1
theorem dw1_ok (s : List Int × Int) : ∀ (xs : List Nat), (∀ r ∈ s.1, 0 ≤ r ∧ r < 1000) → (xs.foldl dw1 s).1.length ≤ s.1.length + xs.length ∧ ∀ r ∈ (xs.foldl dw1 s).1, 0 ≤ r ∧ r < 1000
  | [], h => ⟨Nat.le_refl _, h⟩
  | x :: xs, h => by
    rw [List.foldl_cons]
    have h2 : (dw1 s x).1.length ≤ s.1.length + 1 := by unfold dw1; split <;> simp
    have h3 : ∀ r ∈ (dw1 s x).1, 0 ≤ r ∧ r < 1000 := by
      unfold dw1; split
      · intro r hr
        rcases List.mem_append.mp hr with q | q
        · exact h r q
        · simp at q; subst q; omega
      · exact h
    have := dw1_ok (dw1 s x) xs h3
    exact ⟨by simp; omega, this.2⟩
theorem dw2_ok (many : Nat) (s : List Int × Int) : ∀ (xs : List Nat), (∀ r ∈ s.1, 0 ≤ r ∧ r < 1000) → s.1.length ≤ many →
    (xs.foldl (dw2 many) s).1.length ≤ many ∧ (min many (s.1.length + xs.length) ≤ (xs.foldl (dw2 many) s).1.length) ∧ ∀ r ∈ (xs.foldl (dw2 many) s).1, 0 ≤ r ∧ r < 1000
  | [], h, hl => ⟨hl, by simp; omega, h⟩
  | x :: xs, h, hl => by
    rw [List.foldl_cons]
    have h2 : (dw2 many s x).1.length ≤ many ∧ min many (s.1.length + 1) ≤ (dw2 many s x).1.length := by unfold dw2; simp only; split <;> (try simp) <;> omega
    have h3 : ∀ r ∈ (dw2 many s x).1, 0 ≤ r ∧ r < 1000 := by
      unfold dw2; simp only; split
      · intro r hr
        rcases List.mem_append.mp hr with q | q
        · exact h r q
        · simp at q; subst q; omega
      · exact h
    have := dw2_ok many (dw2 many s x) xs h3 h2.1
    exact ⟨this.1, by simp; omega, this.2.2⟩
theorem drw_ok (cell : Int) (many : Nat) : (drw cell many).length = many ∧ ∀ r ∈ drw cell many, 0 ≤ r ∧ r < 1000 := by
  have h1 := dw1_ok ([], cell) (List.range many) (by simp)
  have key : ∀ r : List Int, r.length ≤ many → (∀ x ∈ r, 0 ≤ x ∧ x < 1000) → ((List.range many).foldl (dw2 many) (r, (cell * 48271 + 11) % 2147483647)).1.length = many ∧ ∀ x ∈ ((List.range many).foldl (dw2 many) (r, (cell * 48271 + 11) % 2147483647)).1, 0 ≤ x ∧ x < 1000 := fun r hr hb => by
    have := dw2_ok many (r, (cell * 48271 + 11) % 2147483647) (List.range many) hb hr
    refine ⟨?_, this.2.2⟩
    have h2 := this.2.1
    simp only [List.length_range] at h2
    have h3 := this.1
    omega
  unfold drw
  split
  · exact key _ (by have := h1.1; simp at this; omega) h1.2
  · exact key [] (by simp) (by simp)
theorem draws_eq (cell : Int) (many : Nat) (hm : many < 10000) (M : Mem) : F__law_draws [.int cell, .int many] M = some (.new ((drw cell many).map .int), M) := by
  have hrg : rgB (many : Int) = true := rgB_nat (by omega)
  have l1 : ∀ rest : Int, loopF (stpK [true, true, true, true, false, false] none (rgD 0 many) (gNm 5) L__law_draws_1) (rgD 0 many) [some (.int cell), some (.int many), some (.loc M.length), some (.int rest), none, none] (M ++ [.lst []]) =
      some (.nx, [some (.int cell), some (.int many), some (.loc M.length), some (.int ((List.range many).foldl dw1 ([], rest)).2), none, none], M ++ [.lst (((List.range many).foldl dw1 ([], rest)).1.map .int)]) := fun rest => by
    have := loop_fold (step := stpK [true, true, true, true, false, false] none (rgD 0 many) (gNm 5) L__law_draws_1) (fun i : Nat => D.int (0 + i))
      (fun s : List Int × Int => [some (.int cell), some (.int many), some (.loc M.length), some (.int s.2), none, none]) (fun s => M ++ [.lst (s.1.map .int)]) dw1 (fun xs s => s.1.length + xs.length < 20000) (fun x xs s h => by
        simp at h
        refine ⟨⟨.nx, rfl, ?_⟩, ?_⟩
        · have hl : s.1.length < 16777216 := by omega
          rw [stpK_ap]
          by_cases h0 : 0 < s.2 <;> simp -implicitDefEqProofs [L__law_draws_1, dw1, h0, hl]
        · unfold dw1; split <;> (try simp) <;> omega) (List.range many) ([], rest) (by simp; omega)
    exact this
  have l2 : ∀ (rows : List Int) (st : Int), rows.length ≤ many → loopF (stpK [false, true, true, false, true, false] none (rgD 0 many) (gNm 5) L__law_draws_2) (rgD 0 many) [none, some (.int many), some (.loc M.length), none, some (.int st), none] (M ++ [.lst (rows.map .int)]) =
      some (.nx, [none, some (.int many), some (.loc M.length), none, some (.int ((List.range many).foldl (dw2 many) (rows, st)).2), none], M ++ [.lst (((List.range many).foldl (dw2 many) (rows, st)).1.map .int)]) := fun rows st hl => by
    have := loop_fold (step := stpK [false, true, true, false, true, false] none (rgD 0 many) (gNm 5) L__law_draws_2) (fun i : Nat => D.int (0 + i))
      (fun s : List Int × Int => [none, some (.int many), some (.loc M.length), none, some (.int s.2), none]) (fun s => M ++ [.lst (s.1.map .int)]) (dw2 many) (fun xs s => s.1.length ≤ many) (fun x xs s h => by
        refine ⟨⟨.nx, rfl, ?_⟩, ?_⟩
        · have hl : s.1.length < 16777216 := by omega
          obtain ⟨st2, est⟩ : ∃ st2 : Int, st2 = (s.2 * 48271 + (x : Int) * 69621 + 7) % 2147483647 := ⟨_, rfl⟩
          rw [stpK_ap]
          by_cases h0 : s.1.length < many <;> simp -implicitDefEqProofs [L__law_draws_2, dw2, h0, hl, ← est]
        · unfold dw2; simp only; split <;> (try simp) <;> omega) (List.range many) (rows, st) hl
    exact this
  unfold F__law_draws B__law_draws
  rw [mkFnK_eq]
  by_cases hc : (1000000000000000000 : Int) ≤ cell
  · have h1 := (dw1_ok ([], cell) (List.range many) (by simp)).1
    simp at h1
    simp -implicitDefEqProofs [hc, hrg, l1, l2 _ _ h1, drw]
  · have l2' := l2 [] ((cell * 48271 + 11) % 2147483647) (by simp)
    simp at l2'
    simp -implicitDefEqProofs [hc, hrg, l2', drw]
theorem draws2 (cell : Int) : ∃ a b : Int, (0 ≤ a ∧ a < 1000) ∧ (0 ≤ b ∧ b < 1000) ∧ drw cell 2 = [a, b] := by
  obtain ⟨hl, hb⟩ := drw_ok cell 2
  match h : drw cell 2, hl with
  | [a, b], _ => rw [h] at hb; exact ⟨a, b, hb a (by simp), hb b (by simp), rfl⟩
def cellN (ns : List Int) (k : Nat) : Int := ns.getD k 0
theorem cell_eq (ns : List Int) (k : Nat) (M : Mem) : F__law_cell [.scr ns, .int k] M = some (.val (.int (cellN ns k)), M) := by
  unfold F__law_cell B__law_cell cellN
  rw [mkFnK_eq]
  by_cases h : k < ns.length
  · simp -implicitDefEqProofs [h, at_map, at_nat]
  · simp -implicitDefEqProofs [h]
theorem size_ok (cell : Int) : ∃ r c : Int, (1 ≤ r ∧ r ≤ 12) ∧ (2 ≤ c ∧ c ≤ 40) ∧ ∀ M, F__law_size [.int cell] M = some (.val (.tup [.int r, .int c]), M) := by
  obtain ⟨a, b, ha, hb, hd⟩ := draws2 cell
  have hd2 := fun M => draws_eq cell 2 (by decide) M
  rw [hd] at hd2
  simp only [List.map_cons, List.map_nil] at hd2
  have hd3 : ∀ M, F__law_draws [.int cell, .int 2] M = some (.new [.int a, .int b], M) := hd2
  refine ⟨if a % 100 = 99 then 12 else 1 + a % 4, if b % 100 = 99 then 40 else 2 + b % 8, by split <;> omega, by split <;> omega, fun M => ?_⟩
  unfold F__law_size B__law_size
  rw [mkFnK_eq]
  by_cases h1 : a % 100 = 99 <;> by_cases h2 : b % 100 = 99 <;> simp -implicitDefEqProofs [hd3, h1, h2]
def isGl (g : Int) : Prop := (32 ≤ g ∧ g ≤ 126) ∨ (160 ≤ g ∧ g ≤ 255)
theorem glyph_ok (d : Int) : ∃ g : Int, isGl g ∧ ∀ M, F__law_glyph [.int d] M = some (.val (.int g), M) := by
  unfold isGl F__law_glyph B__law_glyph
  by_cases h0 : d % 7 = 0
  · exact ⟨32, by omega, fun M => by rw [mkFnK_eq]; simp -implicitDefEqProofs [h0]⟩
  by_cases h1 : d % 7 = 1
  · exact ⟨192 + d / 7 % 64, by omega, fun M => by rw [mkFnK_eq]; simp -implicitDefEqProofs [h0, h1]⟩
  by_cases h2 : d % 7 = 2
  · exact ⟨160 + d / 7 % 32, by omega, fun M => by rw [mkFnK_eq]; simp -implicitDefEqProofs [h0, h1, h2]⟩
  · exact ⟨33 + d / 7 % 94, by omega, fun M => by rw [mkFnK_eq]; simp -implicitDefEqProofs [h0, h1, h2]⟩
/-! styles -/
def kindN (n : Int) : Str := if n = 1 then "bold" else if n = 4 then "underlined" else if n = 7 then "inverse" else if 30 ≤ n ∧ n ≤ 37 then "foreground" else if 40 ≤ n ∧ n ≤ 47 then "background" else ""
theorem kind_eq (n : Int) (M : Mem) : F_kind_of_number [.int n] M = some (.val (.str (kindN n)), M) := by
  unfold F_kind_of_number B_kind_of_number kindN
  rw [mkFnK_eq]
  simp -implicitDefEqProofs
@[simp] theorem kindN_eq0 : ((0 : Int) = 1) = False := by decide
/-- a style: ascending, each number of a kind of its own -/
def OkSt (st : List Int) : Prop := st.Pairwise (fun a b => a < b ∧ kindN a ≠ kindN b) ∧ (∀ a ∈ st, kindN a ≠ "" ∧ 0 < a) ∧ st.length ≤ 100
def stF (s : List Str × Int) (n : Int) : Except (List Str) (List Str × Int) := if kindN n = "" ∨ kindN n ∈ s.1 ∨ n ≤ s.2 then .error s.1 else .ok (s.1 ++ [kindN n], n)
def isStyleB (st : List Int) : Bool := match st.foldlM stF ([], 0) with | .ok _ => true | .error _ => false
theorem style_eq (st : List Int) (hl : st.length ≤ 1000) (M : Mem) : F_is_style [.tup (st.map .int)] M = some (.val (.bl (isStyleB st)), M) := by
  have lp := loop_exit (step := stpK [false, true, true, false, false] none (st.map .int) (gNm 3) L_is_style_1) D.int
    (fun s : List Str × Int => [none, some (.loc M.length), some (.int s.2), none, none]) (fun s => M ++ [.lst (s.1.map .str)]) (fun _ => .val (.bl false)) (fun b => M ++ [.lst (b.map .str)]) stF (fun xs s => s.1.length + xs.length ≤ 1000) (fun x xs s h => by
      simp at h
      have hl : s.1.length < 16777216 := by omega
      unfold stF
      by_cases hc : kindN x = "" ∨ kindN x ∈ s.1 ∨ x ≤ s.2
      · rw [if_pos hc]
        refine ⟨fun s' e => (nomatch e), fun b e => ?_⟩
        cases e
        rw [stpK_ap]
        simp -implicitDefEqProofs [L_is_style_1, kind_eq, hc]
      · rw [if_neg hc]
        refine ⟨fun s' e => ?_, fun b e => (nomatch e)⟩
        cases e
        refine ⟨⟨.nx, rfl, ?_⟩, by simp; omega⟩
        rw [stpK_ap]
        simp -implicitDefEqProofs [L_is_style_1, kind_eq, hc, hl]) st ([], 0) (by simpa using hl)
  simp only [List.map_nil] at lp
  unfold F_is_style B_is_style isStyleB
  rw [mkFnK_eq]
  simp -implicitDefEqProofs [lp]
  cases st.foldlM stF ([], 0) <;> simp -implicitDefEqProofs
theorem style_ok {st : List Int} (h : OkSt st) : isStyleB st = true := by
  have key : ∀ (ns : List Int) (s : List Str × Int), ns.Pairwise (fun a b => a < b ∧ kindN a ≠ kindN b) → (∀ a ∈ ns, kindN a ≠ "" ∧ kindN a ∉ s.1 ∧ s.2 < a) → ∃ s', ns.foldlM stF s = .ok s' := by
    intro ns
    induction ns with
    | nil => intro s _ _; exact ⟨s, rfl⟩
    | cons n ns ih =>
      intro s hp ha
      rw [List.pairwise_cons] at hp
      have h1 := ha n List.mem_cons_self
      have e : stF s n = .ok (s.1 ++ [kindN n], n) := by
        unfold stF
        rw [if_neg]
        rintro (q | q | q)
        · exact h1.1 q
        · exact h1.2.1 q
        · omega
      rw [List.foldlM_cons, e]
      refine ih (s.1 ++ [kindN n], n) hp.2 fun a haa => ?_
      have h2 := ha a (List.mem_cons_of_mem _ haa)
      have h3 := hp.1 a haa
      refine ⟨h2.1, ?_, h3.1⟩
      simp only [List.mem_append, List.mem_singleton]
      rintro (q | q)
      · exact h2.2.1 q
      · exact h3.2 q.symm
  obtain ⟨s', hs⟩ := key st ([], 0) h.1 fun a ha => ⟨(h.2.1 a ha).1, by simp, (h.2.1 a ha).2⟩
  unfold isStyleB
  rw [hs]
theorem lits3 (n : Int) : True := trivial
def styleN (d : Int) : List Int := if 0 < d % 3 then (if d / 3 % 2 = 1 then [1] else []) ++ (if d / 6 % 2 = 1 then [4] else []) ++ (if d / 12 % 2 = 1 then [7] else []) ++
  (if 0 < d / 24 % 3 then [30 + d / 72 % 8] else []) ++ (if d / 24 % 3 = 2 then [40 + d / 216 % 8] else []) else []
theorem kindN_fg {n : Int} (h : 30 ≤ n ∧ n ≤ 37) : kindN n = "foreground" := by
  unfold kindN; rw [if_neg (by omega), if_neg (by omega), if_neg (by omega), if_pos h]
theorem kindN_bg {n : Int} (h : 40 ≤ n ∧ n ≤ 47) : kindN n = "background" := by
  unfold kindN; rw [if_neg (by omega), if_neg (by omega), if_neg (by omega), if_neg (by omega), if_pos h]
theorem kindN_1 : kindN 1 = "bold" := rfl
theorem kindN_4 : kindN 4 = "underlined" := rfl
theorem kindN_7 : kindN 7 = "inverse" := rfl
theorem styleN_ok (d : Int) : OkSt (styleN d) := by
  have hf := kindN_fg (n := 30 + d / 72 % 8) (by omega)
  have hb := kindN_bg (n := 40 + d / 216 % 8) (by omega)
  have e1 : (1 : Int) < 30 + d / 72 % 8 := by omega
  have e2 : (4 : Int) < 30 + d / 72 % 8 := by omega
  have e3 : (7 : Int) < 30 + d / 72 % 8 := by omega
  have e4 : (1 : Int) < 40 + d / 216 % 8 := by omega
  have e5 : (4 : Int) < 40 + d / 216 % 8 := by omega
  have e6 : (7 : Int) < 40 + d / 216 % 8 := by omega
  have e7 : 30 + d / 72 % 8 < 40 + d / 216 % 8 := by omega
  have e8 : 0 < 30 + d / 72 % 8 := by omega
  have e9 : 0 < 40 + d / 216 % 8 := by omega
  unfold OkSt styleN
  split
  · by_cases h1 : d / 3 % 2 = 1 <;> by_cases h2 : d / 6 % 2 = 1 <;> by_cases h3 : d / 12 % 2 = 1 <;> by_cases h4 : 0 < d / 24 % 3 <;> by_cases h5 : d / 24 % 3 = 2 <;>
      simp [h1, h2, h3, h4, h5, kindN_1, kindN_4, kindN_7, hf, hb, e1, e2, e3, e4, e5, e6, e7, e8, e9] <;> (try decide)
  · simp
theorem sty_eq (d : Int) (M : Mem) : F__law_style [.int d] M = some (.val (.tup ((styleN d).map .int)), M) := by
  unfold F__law_style B__law_style
  rw [mkFnK_eq]
  unfold styleN
  by_cases h0 : 0 < d % 3
  · by_cases h1 : d / 3 % 2 = 1 <;> by_cases h2 : d / 6 % 2 = 1 <;> by_cases h3 : d / 12 % 2 = 1 <;> by_cases h4 : 0 < d / 24 % 3 <;> by_cases h5 : d / 24 % 3 = 2 <;>
      simp -implicitDefEqProofs [L__law_style_1, h0, h1, h2, h3, h4, h5]
  · simp -implicitDefEqProofs [h0]
end K03

namespace K03
open PySem PySem.Spec PyProof.Rows L2 CI
/-! cells, lines -/
abbrev Cell := Int × List Int
def encC (c : Cell) : D := .tup [.int c.1, .tup (c.2.map .int)]
def encL (l : List Cell) : D := .tup (l.map encC)
def bl : Cell := (32, [])
@[simp] theorem nl_encC {n : Nat} {c : Cell} : nl n (encC c) = true := by unfold encC; simp
theorem encC_bl : D.tup [.int 32, .tup []] = encC bl := rfl
theorem encC_mk (c : Int) (s : List Int) : encC (c, s) = D.tup [.int c, .tup (s.map .int)] := rfl
def kindC (c : Int) : Str := if c < 32 ∨ (127 ≤ c ∧ c ≤ 159) then "control" else if 192 ≤ c then "wide" else "narrow"
theorem kindC_eq (c : Int) (M : Mem) : F_kind_of [.int c] M = some (.val (.str (kindC c)), M) := by
  unfold F_kind_of B_kind_of kindC
  rw [mkFnK_eq]
  by_cases h1 : c < 32 <;> by_cases h2 : 127 ≤ c <;> by_cases h3 : c ≤ 159 <;> by_cases h4 : 192 ≤ c <;> simp -implicitDefEqProofs [h1, h2, h3, h4]
/-- a line: wide characters with their right halves -/
inductive OkL : List Cell → Prop
  | nil : OkL []
  | nar {c s r} : (32 ≤ c ∧ c ≤ 126) ∨ (160 ≤ c ∧ c ≤ 191) → OkSt s → OkL r → OkL ((c, s) :: r)
  | wid {c s r} : 192 ≤ c → OkSt s → OkL r → OkL ((c, s) :: (0, s) :: r)
theorem okSt_nil : OkSt [] := ⟨.nil, by simp, by simp⟩
theorem okL_bl {r : List Cell} (h : OkL r) : OkL (bl :: r) := .nar (.inl ⟨by decide, by decide⟩) okSt_nil h
theorem okL_bls : ∀ n : Nat, OkL (List.replicate n bl)
  | 0 => .nil
  | n + 1 => by rw [List.replicate_succ]; exact okL_bl (okL_bls n)
theorem OkL.app {a b : List Cell} (h : OkL a) (h2 : OkL b) : OkL (a ++ b) := by
  induction h with
  | nil => exact h2
  | nar h s _ ih => exact .nar h s ih
  | wid h s _ ih => exact .wid h s ih
/-- places: what stands there -/
theorem OkL.at_ {l : List Cell} (h : OkL l) : ∀ (j : Nat) (c : Cell), l[j]? = some c →
    (c.1 = 0 ∧ ∃ i d, j = i + 1 ∧ l[i]? = some d ∧ 192 ≤ d.1 ∧ d.2 = c.2) ∨ (c.1 ≠ 0 ∧ 32 ≤ c.1 ∧ (c.1 < 192 ∨ l[j + 1]? = some (0, c.2))) := by
  induction h with
  | nil => intro j c h; simp at h
  | @nar c0 s r hc hs _ ih =>
    intro j c h
    cases j with
    | zero => simp at h; subst h; exact .inr ⟨by simp; omega, by simp; omega, .inl (by simp; omega)⟩
    | succ j =>
      rcases ih j c (by simpa using h) with ⟨h1, i, d, rfl, h2, h3, h4⟩ | ⟨h1, h2, h3⟩
      · exact .inl ⟨h1, i + 1, d, rfl, by simpa using h2, h3, h4⟩
      · exact .inr ⟨h1, h2, h3.imp id (by simp)⟩
  | @wid c0 s r hc hs _ ih =>
    intro j c h
    match j, h with
    | 0, h => simp at h; subst h; exact .inr ⟨by simp; omega, by simp; omega, .inr (by simp)⟩
    | 1, h => simp at h; subst h; exact .inl ⟨rfl, 0, (c0, s), rfl, rfl, hc, rfl⟩
    | j + 2, h =>
      rcases ih j c (by simpa using h) with ⟨h1, i, d, rfl, h2, h3, h4⟩ | ⟨h1, h2, h3⟩
      · exact .inl ⟨h1, i + 2, d, rfl, by simpa using h2, h3, h4⟩
      · exact .inr ⟨h1, h2, h3.imp id (by simp)⟩
/-- a cut ahead of what is no right half -/
theorem OkL.cut {l : List Cell} (h : OkL l) : ∀ (j : Nat), (∀ c, l[j]? = some c → c.1 ≠ 0) → OkL (l.take j) ∧ OkL (l.drop j) := by
  induction h with
  | nil => intro j _; simp; exact .nil
  | @nar c0 s r hc hs hr ih =>
    intro j hj
    cases j with
    | zero => exact ⟨.nil, .nar hc hs hr⟩
    | succ j =>
      have := ih j (fun c h => hj c (by simpa using h))
      exact ⟨.nar hc hs this.1, this.2⟩
  | @wid c0 s r hc hs hr ih =>
    intro j hj
    match j with
    | 0 => exact ⟨.nil, .wid hc hs hr⟩
    | 1 => exact absurd rfl (hj (0, s) (by simp))
    | j + 2 =>
      have := ih j (fun c h => hj c (by simpa using h))
      exact ⟨.wid hc hs this.1, this.2⟩
def encH : Option (List Int) → D
  | none => .non
  | some s => .tup (s.map .int)
def lineF (h : Option (List Int)) (c : Cell) : Except Unit (Option (List Int)) :=
  if isStyleB c.2 = false then .error () else match h with
  | some h => if c.1 ≠ 0 ∨ c.2 ≠ h then .error () else .ok none
  | none => if c.1 = 0 ∨ kindC c.1 = "control" then .error () else if kindC c.1 = "wide" then .ok (some c.2) else .ok none
def isLineB (l : List Cell) : Bool := match l.foldlM lineF none with | .ok none => true | _ => false
theorem isLine_eq (l : List Cell) (hs : ∀ c ∈ l, c.2.length ≤ 1000) (M : Mem) : F_is_line [encL l] M = some (.val (.bl (isLineB l)), M) := by
  have lp := loop_exit (step := stpK [false, true, false, false] none (l.map encC) (gTp 2 (gsCons (gNm 2) (gsCons (gNm 3) gsNil))) L_is_line_1) encC
    (fun s : Option (List Int) => [none, some (encH s), none, none]) (fun _ => M) (fun _ => .val (.bl false)) (fun _ => M) lineF (fun xs s => ∀ c ∈ xs, c.2.length ≤ 1000) (fun c xs s h => by
      obtain ⟨x, st⟩ := c
      have hst := h (x, st) List.mem_cons_self
      have hr : ∀ c ∈ xs, c.2.length ≤ 1000 := fun c hc => h c (List.mem_cons_of_mem _ hc)
      have se := fun M => style_eq st hst M
      unfold lineF
      cases hb : isStyleB st with
      | false =>
        rw [hb] at se
        refine ⟨fun s' e => (nomatch e), fun b e => ?_⟩
        simp -implicitDefEqProofs [encC_mk, L_is_line_1, se]
      | true =>
        rw [hb] at se
        simp only [Bool.true_eq_false, if_false]
        cases s with
        | none =>
          simp only
          by_cases h0 : x = 0 ∨ kindC x = "control"
          · rw [if_pos h0]
            refine ⟨fun s' e => (nomatch e), fun b e => ?_⟩
            simp -implicitDefEqProofs [encC_mk, L_is_line_1, se, encH, kindC_eq, h0]
          · rw [if_neg h0]
            by_cases h1 : kindC x = "wide"
            · rw [if_pos h1]
              refine ⟨fun s' e => ?_, fun b e => (nomatch e)⟩
              cases e
              refine ⟨⟨.nx, rfl, ?_⟩, hr⟩
              rw [h1] at h0
              simp -implicitDefEqProofs [encC_mk, L_is_line_1, se, encH, kindC_eq, h0, h1]
            · rw [if_neg h1]
              refine ⟨fun s' e => ?_, fun b e => (nomatch e)⟩
              cases e
              refine ⟨⟨.nx, rfl, ?_⟩, hr⟩
              simp -implicitDefEqProofs [encC_mk, L_is_line_1, se, encH, kindC_eq, h0, h1]
        | some hh =>
          simp only
          by_cases h0 : x ≠ 0 ∨ st ≠ hh
          · rw [if_pos h0]
            refine ⟨fun s' e => (nomatch e), fun b e => ?_⟩
            simp -implicitDefEqProofs [encC_mk, L_is_line_1, se, encH, oNe_ints]
            exact fun e => h0.resolve_left (fun q => q e)
          · rw [if_neg h0]
            refine ⟨fun s' e => ?_, fun b e => (nomatch e)⟩
            cases e
            refine ⟨⟨.nx, rfl, ?_⟩, hr⟩
            simp -implicitDefEqProofs [encC_mk, L_is_line_1, se, encH, oNe_ints, h0]) l none hs
  unfold F_is_line B_is_line isLineB encL
  rw [mkFnK_eq]
  simp -implicitDefEqProofs [encH] at lp
  simp -implicitDefEqProofs [lp]
  cases hf : l.foldlM lineF none with
  | error u => simp -implicitDefEqProofs
  | ok s => cases s <;> simp -implicitDefEqProofs [encH]
theorem okL_line {l : List Cell} (h : OkL l) : isLineB l = true := by
  have key : l.foldlM lineF none = .ok none := by
    induction h with
    | nil => rfl
    | @nar c s r hc hs _ ih =>
      rw [List.foldlM_cons]
      have : lineF none (c, s) = .ok none := by
        unfold lineF
        have k1 : kindC c = "narrow" := by unfold kindC; rw [if_neg (by omega), if_neg (by omega)]
        have c0 : c ≠ 0 := by omega
        simp +decide [style_ok hs, k1, c0]
      rw [this]; exact ih
    | @wid c s r hc hs _ ih =>
      have k1 : kindC c = "wide" := by unfold kindC; rw [if_neg (by omega), if_pos hc]
      rw [List.foldlM_cons]
      have : lineF none (c, s) = .ok (some s) := by
        have c0 : c ≠ 0 := by omega
        unfold lineF; simp +decide [style_ok hs, k1, c0]
      rw [this]
      show (((0, s) : Cell) :: r).foldlM lineF (some s) = _
      rw [List.foldlM_cons]
      have : lineF (some s) (0, s) = .ok none := by unfold lineF; simp [style_ok hs]
      rw [this]; exact ih
  unfold isLineB
  rw [key]
theorem OkL.sty {l : List Cell} (h : OkL l) : ∀ c ∈ l, OkSt c.2 := by
  induction h with
  | nil => intro c h; cases h
  | nar _ hs _ ih =>
    intro c hc
    rcases List.mem_cons.mp hc with e | e
    · subst e; exact hs
    · exact ih c e
  | wid _ hs _ ih =>
    intro c hc
    rcases List.mem_cons.mp hc with e | e
    · subst e; exact hs
    · rcases List.mem_cons.mp e with e | e
      · subst e; exact hs
      · exact ih c e
theorem isLine_ok {l : List Cell} (h : OkL l) (M : Mem) : F_is_line [encL l] M = some (.val (.bl true), M) := by
  rw [isLine_eq l (fun c hc => by have := (h.sty c hc).2.2; omega), okL_line h]
end K03

namespace K03
open PySem PySem.Spec PyProof.Rows L2 CI
theorem nl_encL {n : Nat} {l : List Cell} : nl n (encL l) = true := by unfold encL; simp
/-! cut -/
def cutAt (l : List Cell) (k : Nat) : List Cell := match l[k]? with
  | some c => if c.1 = 0 then l.take (k - 1) ++ bl :: bl :: l.drop (k + 1) else l
  | none => l
theorem encL_app (a b : List Cell) : D.tup (a.map encC ++ b.map encC) = encL (a ++ b) := by unfold encL; rw [List.map_append]
theorem cut_eq (l : List Cell) (k : Nat) (h : OkL l) (hl : l.length ≤ 1000) (M : Mem) : F_cut_at [encL l, .int k] M = some (.val (encL (cutAt l k)), M) := by
  unfold F_cut_at B_cut_at cutAt
  rw [mkFnK_eq]
  cases hk : l[k]? with
  | none =>
    have : ¬ k < l.length := by
      intro q
      rw [List.getElem?_eq_getElem q] at hk; cases hk
    simp -implicitDefEqProofs [encL, this]
  | some c =>
    obtain ⟨hk2, rfl⟩ := List.getElem?_eq_some_iff.mp hk
    by_cases h0 : l[k].1 = 0
    · have h1 : 1 ≤ k := by
        rcases h.at_ k _ hk with ⟨_, i, d, e, _⟩ | ⟨e, _⟩
        · omega
        · exact absurd h0 e
      have e1 : cutL l none (some ((k : Int) - 1)) = l.take (k - 1) := by rw [cutL_hi (by omega)]; congr 1; omega
      have e2 : cutL l (some ((k : Int) + 1)) none = l.drop (k + 1) := by rw [cutL_lo (by omega)]; congr 1
      have e3 : min (k - 1) l.length + 2 ≤ 16777216 := by omega
      have e4 : min (k - 1) l.length + 2 + (l.length - (k + 1)) ≤ 16777216 := by omega
      simp -implicitDefEqProofs [encL, hk2, at_map, at_nat, encC, h0, e1, e2, e3, e4, bl]
    · simp -implicitDefEqProofs [encL, hk2, at_map, at_nat, encC, h0]
theorem cutAt_len (l : List Cell) (k : Nat) (h : OkL l) : (cutAt l k).length = l.length := by
  unfold cutAt
  split
  · rename_i c hk
    have hk2 : k < l.length := (List.getElem?_eq_some_iff.mp hk).1
    split
    · rename_i h0
      have h1 : 1 ≤ k := by
        rcases h.at_ k c hk with ⟨_, i, d, e, _⟩ | ⟨e, _⟩
        · omega
        · exact absurd h0 e
      simp; omega
    · rfl
  · rfl
theorem cutAt_ok (l : List Cell) (k : Nat) (h : OkL l) : OkL (cutAt l k) ∧ (∀ c, (cutAt l k)[k]? = some c → c.1 ≠ 0) := by
  unfold cutAt
  split
  · rename_i c hk
    have hk2 : k < l.length := (List.getElem?_eq_some_iff.mp hk).1
    split
    · rename_i h0
      rcases h.at_ k c hk with ⟨_, i, d, rfl, h2, h3, _⟩ | ⟨e, _⟩
      · have a1 := (h.cut i (fun c' hc' => by rw [h2] at hc'; cases hc'; omega)).1
        have a2 := (h.cut (i + 1 + 1) (fun c' hc' e => by
          rcases h.at_ _ c' hc' with ⟨_, i', d', q, q2, q3, _⟩ | ⟨e', _⟩
          · have : i' = i + 1 := by omega
            subst this
            rw [hk] at q2; cases q2
            omega
          · exact e' e)).2
        refine ⟨a1.app (okL_bl (okL_bl a2)), fun c' hc' => ?_⟩
        rw [List.getElem?_append_right (by simp; omega)] at hc'
        have : i + 1 - (l.take (i + 1 - 1)).length = 1 := by simp; omega
        rw [this] at hc'
        simp at hc'
        subst hc'
        decide
      · exact absurd h0 e
    · rename_i h0
      exact ⟨h, fun c' hc' => by rw [hk] at hc'; cases hc'; exact h0⟩
  · rename_i hk
    exact ⟨h, fun c' hc' => by rw [hk] at hc'; cases hc'⟩
theorem encL_rep (n : Nat) : D.tup (List.replicate n (D.tup [.int 32, .tup []])) = encL (List.replicate n bl) := by
  unfold encL; rw [List.map_replicate]; rfl
theorem blank_eq (n : Int) (h1 : -1000 < n) (h2 : n ≤ 1000) (M : Mem) : F_blank_line [.int n] M = some (.val (encL (List.replicate n.toNat bl)), M) := by
  unfold F_blank_line B_blank_line
  rw [mkFnK_eq]
  have e1 : -1000000 < n := by omega
  simp -implicitDefEqProofs [e1, h2, rep_one, encL, bl, encC]
def fit (l : List Cell) (n : Nat) : List Cell := if l.length ≤ n then l ++ List.replicate (n - l.length) bl else (cutAt l n).take n
theorem fit_eq (l : List Cell) (n : Nat) (h : OkL l) (hl : l.length ≤ 1000) (hn : n ≤ 1000) (M : Mem) : F_fitted [encL l, .int n] M = some (.val (encL (fit l n)), M) := by
  unfold F_fitted B_fitted fit
  rw [mkFnK_eq]
  by_cases hc : l.length ≤ n
  · have b := fun M => blank_eq ((n : Int) - l.length) (by omega) (by omega) M
    have e : ((n : Int) - l.length).toNat = n - l.length := by omega
    rw [e] at b
    have e2 : l.length + (n - l.length) ≤ 16777216 := by omega
    have e3 : n ≤ 16777216 := by omega
    unfold encL at b ⊢
    simp -implicitDefEqProofs [hc, b, e2, e3]
  · have c := fun M => cut_eq l n h hl M
    have e3 : ∀ xs : List Cell, cutL xs none (some (n : Int)) = xs.take n := fun xs => by rw [cutL_hi (by omega)]; rfl
    unfold encL at c ⊢
    simp -implicitDefEqProofs [hc, c, e3]
theorem fit_len (l : List Cell) (n : Nat) (h : OkL l) : (fit l n).length = n := by
  unfold fit
  split
  · simp; omega
  · rw [List.length_take, cutAt_len l n h]; omega
theorem fit_ok (l : List Cell) (n : Nat) (h : OkL l) : OkL (fit l n) := by
  unfold fit
  split
  · exact h.app (okL_bls _)
  · have := cutAt_ok l n h
    exact (this.1.cut n this.2).1
/-- the cells of a fitted line -/
theorem fit_at (l : List Cell) (n : Nat) (h : OkL l) (j : Nat) (hj : j < n) : (fit l n)[j]? = some (match l[j]? with
    | some c => if 192 ≤ c.1 ∧ j + 1 = n then bl else c
    | none => bl) := by
  unfold fit
  split
  · rename_i hc
    by_cases hjl : j < l.length
    · rw [List.getElem?_append_left hjl, List.getElem?_eq_getElem hjl]
      simp only
      rw [if_neg]
      rintro ⟨q1, q2⟩
      rcases h.at_ j l[j] (List.getElem?_eq_getElem hjl) with ⟨e, _⟩ | ⟨_, _, e⟩
      · omega
      · rcases e with e | e
        · omega
        · have := (List.getElem?_eq_some_iff.mp e).1
          omega
    · rw [List.getElem?_append_right (by omega), List.getElem?_eq_none (l := l) (by omega), List.getElem?_replicate, if_pos (by omega)]
  · rename_i hc
    have hjl : j < l.length := by omega
    rw [List.getElem?_take_of_lt hj, List.getElem?_eq_getElem hjl]
    simp only
    unfold cutAt
    have hn : n < l.length := by omega
    rw [List.getElem?_eq_getElem hn]
    simp only
    by_cases h0 : l[n].1 = 0
    · rw [if_pos h0]
      rcases h.at_ n l[n] (List.getElem?_eq_getElem hn) with ⟨_, i, d, e, h2, h3, _⟩ | ⟨e, _⟩
      · by_cases hji : j + 1 = n
        · have : i = j := by omega
          subst this
          rw [List.getElem?_eq_getElem hjl] at h2
          cases h2
          rw [if_pos ⟨h3, hji⟩, List.getElem?_append_right (by simp; omega)]
          have : i - (l.take (n - 1)).length = 0 := by simp; omega
          rw [this]; rfl
        · rw [if_neg (fun q => hji q.2), List.getElem?_append_left (by simp; omega), List.getElem?_take_of_lt (by omega), List.getElem?_eq_getElem hjl]
      · exact absurd h0 e
    · rw [if_neg h0, List.getElem?_eq_getElem hjl, if_neg]
      rintro ⟨q1, q2⟩
      rcases h.at_ j l[j] (List.getElem?_eq_getElem hjl) with ⟨e, _⟩ | ⟨_, _, e⟩
      · omega
      · rcases e with e | e
        · omega
        · rw [q2, List.getElem?_eq_getElem hn] at e
          have := Option.some.inj e
          rw [this] at h0
          exact h0 rfl
end K03

namespace K03
open PySem PySem.Spec PyProof.Rows L2 CI
/-! screens -/
structure Scr where
  lines : List (List Cell)
  row : Nat
  col : Nat
  vis : Bool
  title : List Int
def encLs (ls : List (List Cell)) : D := .tup (ls.map encL)
def encS (s : Scr) : D := .tup [encLs s.lines, .tup [.int s.row, .int s.col], .bl s.vis, .tup (s.title.map .int)]
structure OkS (s : Scr) (r c : Nat) : Prop where
  rows : s.lines.length = r
  r1 : 1 ≤ r
  r2 : r ≤ 12
  c1 : 2 ≤ c
  c2 : c ≤ 40
  ln : ∀ l ∈ s.lines, OkL l ∧ l.length = c
  row : s.row < r
  col : s.col < c
  tl : s.title.length ≤ 40
  tg : ∀ g ∈ s.title, isGl g
def fitLs (ls : List (List Cell)) (r c : Nat) : List (List Cell) := (ls.take r).map (fun l => fit l c) ++ List.replicate (r - ls.length) (List.replicate c bl)
theorem encLs_map (ls : List (List Cell)) (f : List Cell → List Cell) : ls.map (fun l => encL (f l)) = (ls.map f).map encL := by rw [List.map_map]; rfl
theorem fitLs_eq (ls : List (List Cell)) (r c : Nat) (h : ∀ l ∈ ls, OkL l ∧ l.length ≤ 1000) (hl : ls.length ≤ 1000) (hr : r ≤ 1000) (hc : c ≤ 1000) (M : Mem) :
    F_fitted_lines [encLs ls, .int r, .int c] M = some (.val (encLs (fitLs ls r c)), M) := by
  have ct : cutL ls none (some (r : Int)) = ls.take r := by rw [cutL_hi (by omega)]; rfl
  have q : ∀ x : Option D, Q_fitted_lines_1 [some (encLs ls), some (.int r), some (.int c), x, none] M = some (.new ((ls.take r).map fun l => encL (fit l c)), M) := fun x => by
    rw [← fm_map]
    unfold Q_fitted_lines_1
    refine cLc_ty (gk := none) encL (fun l => some (encL (fit l c))) (ls.take r) ?_ (fun k e => by cases e) (by simp; omega) (fun l hl2 acc => ?_) (fun l _ y e => by cases e; exact nl_encL)
    · unfold encLs; simp -implicitDefEqProofs [ct]
    · have hm := h l (List.mem_of_mem_take hl2)
      have fe := fun M => fit_eq l c hm.1 hm.2 hc M
      simp -implicitDefEqProofs [fe]
  have b := fun M => blank_eq (c : Int) (by omega) (by omega) M
  unfold F_fitted_lines B_fitted_lines fitLs
  rw [mkFnK_eq]
  have e2 : -1000000 < (r : Int) - ((min r ls.length : Nat) : Int) := by omega
  have e3 : (r : Int) - ((min r ls.length : Nat) : Int) ≤ 1000 := by omega
  have e4 : min r ls.length + (r - min r ls.length) ≤ 16777216 := by omega
  have e5 : r - min r ls.length = r - ls.length := by omega
  simp -implicitDefEqProofs [q, b, e2, e3, e4, rep_one]
  rw [e5]
  unfold encLs encL; simp; rfl
def rsz (s : Scr) (r c : Nat) : Scr := ⟨fitLs s.lines r c, min s.row (r - 1), min s.col (c - 1), s.vis, s.title⟩
theorem rsz_eq (s : Scr) (r c r0 c0 : Nat) (h : OkS s r0 c0) (hr : 1 ≤ r ∧ r ≤ 12) (hc : 2 ≤ c ∧ c ≤ 40) (M : Mem) : F_resized [encS s, .int r, .int c] M = some (.val (encS (rsz s r c)), M) := by
  have f := fun M => fitLs_eq s.lines r c (fun l hl => ⟨(h.ln l hl).1, by have := (h.ln l hl).2; have := h.c2; omega⟩) (by have := h.rows; have := h.r2; omega) (by omega) (by omega) M
  unfold F_resized B_resized rsz
  rw [mkFnK_eq]
  have e1 : min (s.row : Int) ((r : Int) - 1) = ((min s.row (r - 1) : Nat) : Int) := by omega
  have e2 : min (s.col : Int) ((c : Int) - 1) = ((min s.col (c - 1) : Nat) : Int) := by omega
  simp -implicitDefEqProofs [encS, f, e1, e2]
theorem fitLs_len (ls : List (List Cell)) (r c : Nat) : (fitLs ls r c).length = r := by unfold fitLs; simp; omega
theorem rsz_ok (s : Scr) (r c r0 c0 : Nat) (h : OkS s r0 c0) (hr : 1 ≤ r ∧ r ≤ 12) (hc : 2 ≤ c ∧ c ≤ 40) : OkS (rsz s r c) r c where
  rows := fitLs_len _ _ _
  r1 := hr.1
  r2 := hr.2
  c1 := hc.1
  c2 := hc.2
  ln := fun l hl => by
    unfold rsz fitLs at hl
    rcases List.mem_append.mp hl with q | q
    · obtain ⟨l0, h1, rfl⟩ := List.mem_map.mp q
      have := h.ln l0 (List.mem_of_mem_take h1)
      exact ⟨fit_ok _ _ this.1, fit_len _ _ this.1⟩
    · rw [(List.mem_replicate.mp q).2]
      exact ⟨okL_bls _, by simp⟩
  row := by show min s.row (r - 1) < r; omega
  col := by show min s.col (c - 1) < c; omega
  tl := h.tl
  tg := h.tg
/-! is_screen -/
theorem kindC_gl {g : Int} (h : isGl g) : (kindC g = "control") = False := by
  unfold isGl at h
  unfold kindC
  rw [if_neg (by omega)]
  split <;> simp <;> decide
theorem printable_ok (t : List Int) (h : ∀ g ∈ t, isGl g) (M : Mem) : F_is_printable [.tup (t.map .int)] M = some (.val (.bl true), M) := by
  have lp := loop_fold (step := stpK [false, false] none (t.map .int) (gNm 1) L_is_printable_1) D.int (fun _ : Unit => [none, none]) (fun _ => M) (fun s _ => s) (fun xs _ => ∀ g ∈ xs, isGl g) (fun g xs s h => by
    refine ⟨⟨.nx, rfl, ?_⟩, fun x hx => h x (List.mem_cons_of_mem _ hx)⟩
    have := kindC_gl (h g List.mem_cons_self)
    simp -implicitDefEqProofs [L_is_printable_1, kindC_eq, this]) t () h
  unfold F_is_printable B_is_printable
  rw [mkFnK_eq]
  simp -implicitDefEqProofs [lp]
theorem isScreen_ok (s : Scr) (r c : Nat) (h : OkS s r c) (M : Mem) : F_is_screen [encS s] M = some (.val (.bl true), M) := by
  have lp := loop_fold (step := stpK [false, true, false, true, true, false, true] none (s.lines.map encL) (gNm 2) L_is_screen_1) encL (fun _ : Unit => [none, some (.int c), none, some (encLs s.lines), some (.tup [.int s.row, .int s.col]), none, some (.tup (s.title.map .int))]) (fun _ => M) (fun s _ => s) (fun xs _ => ∀ l ∈ xs, OkL l ∧ l.length = c) (fun l xs _ h => by
    refine ⟨⟨.nx, rfl, ?_⟩, fun x hx => h x (List.mem_cons_of_mem _ hx)⟩
    have hl := h l List.mem_cons_self
    have il := fun M => isLine_ok hl.1 M
    have e : oLen [encL l] M = some (.val (.int c)) := by unfold encL; rw [oLen_tup, List.length_map, hl.2]
    simp -implicitDefEqProofs [L_is_screen_1, il, e, encLs, nls_mp, nl_encL]) s.lines () h.ln
  have pr := fun M => printable_ok s.title h.tg M
  obtain ⟨l0, ls, hls⟩ : ∃ l0 ls, s.lines = l0 :: ls := by
    cases hl : s.lines with
    | nil => have h1 := h.rows; have h2 := h.r1; rw [hl] at h1; simp at h1; omega
    | cons a b => exact ⟨a, b, rfl⟩
  have h0 := (h.ln l0 (by rw [hls]; exact List.mem_cons_self)).2
  have hr := h.rows; have hr1 := h.r1; have hr2 := h.r2; have hc1 := h.c1; have hc2 := h.c2; have hrow := h.row; have hcol := h.col; have htl := h.tl
  have a1 : ¬ (ls.length + 1 < 1) := by omega
  have e1 : ∀ M, oLen [encLs s.lines] M = some (.val (.int r)) := fun M => by unfold encLs; rw [oLen_tup, List.length_map, hr]
  have e2 : ∀ M, oIx (encLs s.lines) (.int 0) M = some (.val (encL l0)) := fun M => by unfold encLs; rw [hls, oIx_tup, List.map_cons, atI_0]; rfl
  have e3 : ∀ M, oLen [encL l0] M = some (.val (.int c)) := fun M => by unfold encL; rw [oLen_tup, List.length_map, h0]
  have e4 : ∀ M, asS M (encLs s.lines) = some (s.lines.map encL) := fun _ => rfl
  have e5 : gkOf (encLs s.lines) = none := rfl
  unfold F_is_screen B_is_screen
  rw [mkFnK_eq]
  have b1 : ¬ ((r : Int) < 1) := by omega
  have b2 : ¬ ((12 : Int) < r) := by omega
  have b3 : ¬ ((c : Int) < 2) := by omega
  have b4 : ¬ ((40 : Int) < c) := by omega
  have b5 : (0 : Int) ≤ s.row := by omega
  have b6 : (s.row : Int) < r := by omega
  have b7 : (0 : Int) ≤ s.col := by omega
  have b8 : (s.col : Int) < c := by omega
  have b9 : (s.title.length : Int) ≤ 40 := by omega
  simp -implicitDefEqProofs [encS, e1, e2, e3, e4, e5, b1, b2, b3, b4, b5, b6, b7, b8, b9, lp, pr]
theorem plS_encC (c : Cell) : plS 3 (encC c) = true := by
  unfold encC
  rw [plS_tup]
  simp only [List.all_cons, List.all_nil, plS_int, plS_tup, plS_ints, Bool.and_true]
theorem plS_encL (l : List Cell) : plS 4 (encL l) = true := by
  unfold encL; rw [plS_tup]; exact plS_all plS_encC l
theorem plS_encS (s : Scr) : plS 6 (encS s) = true := by
  unfold encS encLs
  rw [plS_tup]
  simp only [List.all_cons, List.all_nil, plS_int, plS_bl, plS_tup, plS_ints, Bool.and_true, plS_all plS_encL]
theorem nl_encS {n : Nat} (s : Scr) : nl n (encS s) = true := by unfold encS encLs; simp [nl_encL]
end K03

namespace K03
open PySem PySem.Spec PyProof.Rows L2 CI
/-! texts of lines -/
def txt (l : List Cell) : List Int := (l.filter fun c => decide (c.1 ≠ 0)).map (·.1)
def stp1 (xs : List Int) : List Int := if xs.getLast? = some 32 then xs.dropLast else xs
def strip : Nat → List Int → List Int
  | 0, xs => xs
  | n + 1, xs => strip n (stp1 xs)
theorem stp1_len (xs : List Int) : (stp1 xs).length ≤ xs.length ∧ xs.length ≤ (stp1 xs).length + 1 := by unfold stp1; split <;> simp <;> omega
theorem strip_fix : ∀ (n : Nat) (xs : List Int), xs.getLast? ≠ some 32 → strip n xs = xs
  | 0, _, _ => rfl
  | n + 1, xs, h => by rw [strip, stp1, if_neg h]; exact strip_fix n xs h
theorem strip_more : ∀ (n m : Nat) (xs : List Int), xs.length ≤ n → strip (n + m) xs = strip n xs
  | 0, m, xs, h => by
    have : xs = [] := List.eq_nil_of_length_eq_zero (by omega)
    subst this
    rw [strip_fix _ _ (by simp), strip_fix _ _ (by simp)]
  | n + 1, m, xs, h => by
    have e : n + 1 + m = (n + m) + 1 := by omega
    rw [e, strip, strip]
    by_cases q : xs.getLast? = some 32
    · refine strip_more n m _ ?_
      unfold stp1; rw [if_pos q]; simp; omega
    · have e2 : stp1 xs = xs := by unfold stp1; rw [if_neg q]
      rw [e2, strip_fix _ _ q, strip_fix _ _ q]
theorem atI_last (xs : List Int) (h : xs ≠ []) : L2.atI (xs.map D.int) (-1) = xs.getLast?.map D.int := by
  have hl : 0 < xs.length := List.length_pos_iff.mpr h
  rw [at_map, at_neg (by omega) (by omega), List.getLast?_eq_getElem?]
  congr 2
  omega
theorem wh_strip (M : Mem) : ∀ (n : Nat) (xs : List Int), xs.length < n → xs.length < 10000 → whK [false, true, false, false] T_line_text_1 L_line_text_1 n [none, some (.loc M.length), none, none] (M ++ [.lst (xs.map .int)]) =
    some (.nx, [none, some (.loc M.length), none, none], M ++ [.lst ((strip xs.length xs).map .int)])
  | 0, xs, h, _ => by omega
  | n + 1, xs, h, hl => by
    unfold whK
    by_cases q : xs.getLast? = some 32
    · have hne : xs ≠ [] := fun e => by subst e; simp at q
      have hpos : 0 < xs.length := List.length_pos_iff.mpr hne
      have hat := atI_last xs hne
      rw [q] at hat
      have hb : xs.isEmpty = false := by cases xs with | nil => exact absurd rfl hne | cons a b => rfl
      have ht : T_line_text_1 [none, some (.loc M.length), none, none] (M ++ [.lst (xs.map .int)]) = some (true, M ++ [.lst (xs.map .int)]) := by
        unfold T_line_text_1
        simp -implicitDefEqProofs [hat, hb]
      have hp : (xs.map D.int)[xs.length - 1]? = some (.int 32) := by
        rw [List.getElem?_map, ← List.getLast?_eq_getElem?, q]; rfl
      have hL : L_line_text_1 [none, some (.loc M.length), none, none] (M ++ [.lst (xs.map .int)]) = some (.nx, [none, some (.loc M.length), none, none], M ++ [.lst (xs.dropLast.map .int)]) := by
        unfold L_line_text_1
        simp -implicitDefEqProofs [-List.getElem?_map, hp]
      rw [ht]
      simp only [Option.bind_some, if_true]
      rw [hL]
      simp only [Option.bind_some]
      have hd : xs.dropLast.length = xs.length - 1 := by simp
      have e1 : stp1 xs = xs.dropLast := by unfold stp1; rw [if_pos q]
      have e2 : xs.length = (xs.length - 1) + 1 := by omega
      have ih := wh_strip M n xs.dropLast (by omega) (by omega)
      simp -implicitDefEqProofs [-List.map_dropLast]
      rw [ih, hd]
      conv => rhs; rw [e2, strip, e1]
    · have ht : T_line_text_1 [none, some (.loc M.length), none, none] (M ++ [.lst (xs.map .int)]) = some (false, M ++ [.lst (xs.map .int)]) := by
        unfold T_line_text_1
        cases xs with
        | nil => simp -implicitDefEqProofs []
        | cons a r =>
          have hat := atI_last (a :: r) (by simp)
          cases hg : (a :: r).getLast? with
          | none => simp at hg
          | some z =>
            rw [hg] at hat q
            have hz : z ≠ 32 := fun e => q (by rw [e])
            rw [List.map_cons] at hat
            simp -implicitDefEqProofs [hat, hz]
      rw [ht, strip_fix _ _ q]
      rfl
theorem txt_fm (l : List Cell) : l.filterMap (fun c => if (!decide (c.1 = 0)) = true then some (D.int c.1) else none) = (txt l).map .int := by
  rw [fm_ite (p := fun c : Cell => !decide (c.1 = 0)) (h := fun c => D.int c.1)]
  unfold txt
  rw [List.map_map]
  congr 1
  congr 1
  funext c
  by_cases h : c.1 = 0 <;> simp [h]
theorem txt_len (l : List Cell) : (txt l).length ≤ l.length := by unfold txt; rw [List.length_map]; exact List.length_filter_le _ _
theorem lineText_eq (l : List Cell) (hl : l.length ≤ 1000) (M : Mem) : F_line_text [encL l] M = some (.new ((strip (txt l).length (txt l)).map .int), M) := by
  have q : ∀ x : Option D, Q_line_text_1 [some (encL l), x, none, none] M = some (.new ((txt l).map .int), M) := fun x => by
    rw [← txt_fm]
    unfold Q_line_text_1
    refine cLc_ty (gk := none) encC _ l ?_ (fun k e => by cases e) (by omega) (fun c hc acc => ?_) (fun c _ y e => ?_)
    · unfold encL; simp -implicitDefEqProofs []
    · by_cases h : c.1 = 0 <;> simp -implicitDefEqProofs [encC, h]
    · split at e
      · cases e; rfl
      · cases e
  have hl2 := txt_len l
  have w := wh_strip M 100000 (txt l) (by omega) (by omega)
  unfold F_line_text B_line_text
  rw [mkFnK_eq]
  simp -implicitDefEqProofs [q, w]
theorem scrText_eq (s : Scr) (r c : Nat) (h : OkS s r c) (M : Mem) : F_screen_text [encS s] M = some (.new (s.lines.map fun l => .lst ((strip (txt l).length (txt l)).map .int)), M) := by
  have q : Q_screen_text_1 [some (encS s), none] M = some (.new (s.lines.map fun l => .lst ((strip (txt l).length (txt l)).map .int)), M) := by
    rw [← fm_map]
    unfold Q_screen_text_1
    refine cLc_ty (gk := none) encL _ s.lines ?_ (fun k e => by cases e) (by have := h.rows; have := h.r2; omega) (fun l hl acc => ?_) (fun l _ y e => ?_)
    · unfold encS encLs; simp -implicitDefEqProofs []
    · have e := fun M => lineText_eq l (by have := (h.ln l hl).2; have := h.c2; omega) M
      simp -implicitDefEqProofs [e]
    · cases e; rw [nl_lst]; exact nls_map (fun _ => rfl) _
  unfold F_screen_text B_screen_text
  rw [mkFnK_eq]
  simp -implicitDefEqProofs [q]
theorem stp_ds {kl : List Bool} {ds ds' : List D} {g : Gf} {body : Sf} : stpK kl none ds g body = stpK kl none ds' g body := by
  funext d ρ M
  unfold stpK
  simp only [guard_none]
theorem strip_fold : ∀ (ks : List Nat) (xs : List Int), ks.foldl (fun xs _ => stp1 xs) xs = strip ks.length xs
  | [], _ => rfl
  | k :: ks, xs => by rw [List.foldl_cons, strip_fold ks]; rfl
end K03

namespace K03
open PySem PySem.Spec PyProof.Rows L2 CI
/-! the law's lines and screens -/
def glyphN (d : Int) : Int := if d % 7 = 0 then 32 else if d % 7 = 1 then 192 + d / 7 % 64 else if d % 7 = 2 then 160 + d / 7 % 32 else 33 + d / 7 % 94
theorem glyphN_ok (d : Int) : isGl (glyphN d) := by unfold isGl glyphN; split <;> (try split) <;> (try split) <;> omega
theorem glyph_eq (d : Int) (M : Mem) : F__law_glyph [.int d] M = some (.val (.int (glyphN d)), M) := by
  unfold F__law_glyph B__law_glyph glyphN
  rw [mkFnK_eq]
  by_cases h0 : d % 7 = 0 <;> by_cases h1 : d % 7 = 1 <;> by_cases h2 : d % 7 = 2 <;> simp -implicitDefEqProofs [h0, h1, h2]
theorem dsAt (ds : List Int) (j : Nat) (h : j < ds.length) : L2.atI (ds.map D.int) (j : Int) = some (.int (ds.getD j 0)) := by
  rw [at_map, at_nat (by omega)]
  simp [h]
def lnF (ds : List Int) (cols : Nat) (cs : List Cell) (k : Nat) : List Cell :=
  if cs.length < cols ∧ glyphN (ds.getD (2 * k) 0) < 192 then cs ++ [(glyphN (ds.getD (2 * k) 0), if glyphN (ds.getD (2 * k) 0) = 32 ∧ ds.getD (2 * k) 0 % 2 = 0 then [] else styleN (ds.getD (2 * k + 1) 0))]
  else if cs.length + 1 < cols then cs ++ [(glyphN (ds.getD (2 * k) 0), styleN (ds.getD (2 * k + 1) 0)), (0, styleN (ds.getD (2 * k + 1) 0))]
  else if cs.length < cols then cs ++ [bl] else cs
def lnN (ds : List Int) (cols : Nat) : List Cell := (List.range cols).foldl (lnF ds cols) []
theorem lnF_ok (ds : List Int) (cols : Nat) (cs : List Cell) (k : Nat) (h : OkL cs) (hl : cs.length ≤ cols) : OkL (lnF ds cols cs k) ∧ (lnF ds cols cs k).length ≤ cols ∧ min cols (cs.length + 1) ≤ (lnF ds cols cs k).length := by
  have hg := glyphN_ok (ds.getD (2 * k) 0)
  have hs := styleN_ok (ds.getD (2 * k + 1) 0)
  unfold isGl at hg
  unfold lnF
  split
  · rename_i hc
    refine ⟨h.app (.nar (by omega) (by split; exact okSt_nil; exact hs) .nil), by simp; omega, by simp; omega⟩
  · rename_i hc
    split
    · have : 192 ≤ glyphN (ds.getD (2 * k) 0) := by omega
      exact ⟨h.app (.wid this hs .nil), by simp; omega, by simp; omega⟩
    · split
      · exact ⟨h.app (okL_bl .nil), by simp; omega, by simp; omega⟩
      · exact ⟨h, hl, by omega⟩
theorem lnN_fold (ds : List Int) (cols : Nat) : ∀ (xs : List Nat) (cs : List Cell), OkL cs → cs.length ≤ cols → OkL (xs.foldl (lnF ds cols) cs) ∧ (xs.foldl (lnF ds cols) cs).length ≤ cols ∧ min cols (cs.length + xs.length) ≤ (xs.foldl (lnF ds cols) cs).length
  | [], cs, h, hl => ⟨h, hl, by simp; omega⟩
  | x :: xs, cs, h, hl => by
    obtain ⟨h1, h2, h3⟩ := lnF_ok ds cols cs x h hl
    obtain ⟨h4, h5, h6⟩ := lnN_fold ds cols xs _ h1 h2
    exact ⟨h4, h5, by rw [List.foldl_cons, List.length_cons]; omega⟩
theorem lnN_ok (ds : List Int) (cols : Nat) : OkL (lnN ds cols) ∧ (lnN ds cols).length = cols := by
  obtain ⟨h1, h2, h3⟩ := lnN_fold ds cols (List.range cols) [] .nil (Nat.zero_le _)
  simp at h3
  unfold lnN
  exact ⟨h1, by omega⟩
theorem line_eq (ds : List Int) (cols : Nat) (hd : ds.length = 2 * cols) (hc : cols ≤ 1000) (M : Mem) : F__law_line [.lst (ds.map .int), .int cols] M = some (.val (encL (lnN ds cols)), M) := by
  have lp := loop_fold (step := stpK [true, true, true, false, false, false] none (rgD 0 cols) (gNm 3) L__law_line_1) (fun i : Nat => D.int (0 + i))
    (fun _ : List Cell => [some (.lst (ds.map .int)), some (.int cols), some (.loc M.length), none, none, none]) (fun cs => M ++ [.lst (cs.map encC)]) (lnF ds cols) (fun xs cs => OkL cs ∧ cs.length ≤ cols ∧ ∀ x ∈ xs, x < cols) (fun k xs cs h => by
      obtain ⟨h1, h2, h3⟩ := h
      have hk := h3 k List.mem_cons_self
      have ok := lnF_ok ds cols cs k h1 h2
      refine ⟨⟨.nx, rfl, ?_⟩, ok.1, ok.2.1, fun x hx => h3 x (List.mem_cons_of_mem _ hx)⟩
      have d1 : L2.atI (ds.map D.int) (2 * (k : Int)) = some (.int (ds.getD (2 * k) 0)) := dsAt ds (2 * k) (by omega)
      have d2 : L2.atI (ds.map D.int) (2 * (k : Int) + 1) = some (.int (ds.getD (2 * k + 1) 0)) := dsAt ds (2 * k + 1) (by omega)
      have s1 : cs.length < 16777216 := by omega
      have s2 : cs.length + 1 < 16777216 := by omega
      unfold lnF
      generalize ds.getD (2 * k) 0 = a at *
      generalize ds.getD (2 * k + 1) 0 = b at *
      have ge := fun M => glyph_eq a M
      have se := fun M => sty_eq b M
      generalize styleN b = st at *
      generalize glyphN a = g at *
      by_cases c1 : cs.length < cols
      · by_cases c2 : g < 192
        · have e1 : (cs.length : Int) < cols := by omega
          by_cases c3 : g = 32
          · by_cases c4 : a % 2 = 0
            · subst c3; simp -implicitDefEqProofs [L__law_line_1, d1, d2, ge, se, c1, c4, s1, e1, encC]
            · subst c3; simp -implicitDefEqProofs [L__law_line_1, d1, d2, ge, se, c1, c4, s1, e1, encC]
          · simp -implicitDefEqProofs [L__law_line_1, d1, d2, ge, se, c1, c2, c3, s1, e1, encC]
        · by_cases c3 : cs.length + 1 < cols
          · have e1 : (cs.length : Int) < cols := by omega
            have e2 : (cs.length : Int) + 1 < cols := by omega
            simp -implicitDefEqProofs [L__law_line_1, d1, d2, ge, se, c1, c2, c3, s1, s2, e1, e2, encC]
          · have e1 : (cs.length : Int) < cols := by omega
            have e2 : ¬ (cs.length : Int) + 1 < cols := by omega
            simp -implicitDefEqProofs [L__law_line_1, d1, d2, ge, se, c1, c2, c3, s1, s2, e1, e2, encC, bl]
      · have e1 : ¬ (cs.length : Int) < cols := by omega
        have c3 : ¬ cs.length + 1 < cols := by omega
        have e2 : ¬ (cs.length : Int) + 1 < cols := by omega
        simp -implicitDefEqProofs [L__law_line_1, d1, d2, ge, se, c1, c3, e1, e2]) (List.range cols) [] ⟨.nil, Nat.zero_le _, fun x hx => List.mem_range.mp hx⟩
  have hrg : rgB (cols : Int) = true := rgB_nat (by omega)
  have lp2 : loopF (stpK [true, true, true, false, false, false] none (rgD 0 cols) (gNm 3) L__law_line_1) (rgD 0 cols) [some (.lst (ds.map .int)), some (.int cols), some (.loc M.length), none, none, none] (M ++ [.lst []]) =
    some (.nx, [some (.lst (ds.map .int)), some (.int cols), some (.loc M.length), none, none, none], M ++ [.lst ((lnN ds cols).map encC)]) := lp
  unfold F__law_line B__law_line encL
  rw [mkFnK_eq]
  simp -implicitDefEqProofs [hrg, lp2]
theorem size_okN (cell : Int) : ∃ r c : Nat, (1 ≤ r ∧ r ≤ 12) ∧ (2 ≤ c ∧ c ≤ 40) ∧ ∀ M, F__law_size [.int cell] M = some (.val (.tup [.int (r : Int), .int (c : Int)]), M) := by
  obtain ⟨r, c, hr, hc, h⟩ := size_ok cell
  refine ⟨r.toNat, c.toNat, by omega, by omega, fun M => ?_⟩
  have e1 : ((r.toNat : Nat) : Int) = r := by omega
  have e2 : ((c.toNat : Nat) : Int) = c := by omega
  rw [e1, e2]
  exact h M
theorem sm64_small {i : Int} (h0 : 0 ≤ i) (h1 : i < 100000) : sm64 i = true := sm64_of (by omega) (by omega)
theorem screen_ok (cell : Int) : ∃ (s : Scr) (r c : Nat), OkS s r c ∧ ∀ M, F__law_screen [.int cell] M = some (.val (encS s), M) := by
  obtain ⟨r, c, hr, hc, hsz⟩ := size_okN cell
  obtain ⟨n, hn⟩ : ∃ n : Nat, n = 12 + 2 * r * c := ⟨_, rfl⟩
  have hrc : r * c ≤ 12 * 40 := Nat.mul_le_mul hr.2 hc.2
  have hrc2 : 2 * r * c = 2 * (r * c) := by rw [Nat.mul_assoc]
  obtain ⟨hl, hb⟩ := drw_ok cell n
  have hd : ∀ M, F__law_draws [.int cell, .int (12 + 2 * (r : Int) * (c : Int))] M = some (.new ((drw cell n).map .int), M) := fun M => by
    have := draws_eq cell n (by omega) M
    rw [← this, hn]
    simp
  generalize drw cell n = ds at *
  have a2 : L2.atI (ds.map D.int) 2 = some (.int (ds.getD 2 0)) := dsAt ds 2 (by omega)
  have a3 : L2.atI (ds.map D.int) 3 = some (.int (ds.getD 3 0)) := dsAt ds 3 (by omega)
  have b2 := hb _ (List.getElem_mem (show 2 < ds.length by omega))
  have e2 : ds.getD 2 0 = ds[2]'(by omega) := by simp [show 2 < ds.length by omega]
  rw [← e2] at b2
  have a4 : ∀ j : Nat, j < 8 → L2.atI (ds.map D.int) (4 + (j : Int)) = some (.int (ds.getD (4 + j) 0)) := fun j hj => by
    have := dsAt ds (4 + j) (by omega)
    simpa using this
  generalize hd2 : ds.getD 2 0 = d2 at *
  generalize hd3 : ds.getD 3 0 = d3 at *
  -- the lines
  have hmul : ∀ i : Nat, i < r → i * c + c ≤ r * c := fun i hi => by
    have := Nat.mul_le_mul_right c (show i + 1 ≤ r by omega)
    rw [Nat.add_mul, Nat.one_mul] at this
    exact this
  have sr : sm64 (r : Int) = true := sm64_small (by omega) (by omega)
  have sc : sm64 (c : Int) = true := sm64_small (by omega) (by omega)
  have lnq : ∀ i : Nat, i < r → ∀ M, F__law_line [.lst ((cutL ds (some (12 + 2 * (i : Int) * (c : Int))) (some (12 + 2 * ((i : Int) + 1) * (c : Int)))).map .int), .int c] M = some (.val (encL (lnN ((ds.take (12 + 2 * (i + 1) * c)).drop (12 + 2 * i * c)) c)), M) := fun i hi M => by
    have e1 : (12 + 2 * (i : Int) * (c : Int)) = ((12 + 2 * i * c : Nat) : Int) := by simp
    have e2 : (12 + 2 * ((i : Int) + 1) * (c : Int)) = ((12 + 2 * (i + 1) * c : Nat) : Int) := by simp
    rw [e1, e2, cutL_mid (by omega) (by omega)]
    rw [Int.toNat_natCast, Int.toNat_natCast]
    refine line_eq _ _ ?_ (by omega) M
    have h1 := hmul i hi
    have h2 : 2 * i * c = 2 * (i * c) := by rw [Nat.mul_assoc]
    have h3 : 2 * (i + 1) * c = 2 * (i * c) + 2 * c := by rw [Nat.mul_add, Nat.add_mul, Nat.mul_assoc, Nat.mul_one]
    rw [List.length_drop, List.length_take]
    omega
  have lp := fun (M : Mem) => loop_fold (step := stpK [false, true, true, false, false, false, true, true, false] none (rgD 0 r) (gNm 3) L__law_screen_1) (fun i : Nat => D.int (0 + i))
    (fun _ : List (List Cell) => [none, some (.lst (ds.map .int)), some (.loc M.length), none, none, none, some (.int r), some (.int c), none]) (fun ls => M ++ [.lst (ls.map encL)])
    (fun ls i => ls ++ [lnN ((ds.take (12 + 2 * (i + 1) * c)).drop (12 + 2 * i * c)) c]) (fun xs ls => ls.length + xs.length < 10000 ∧ ∀ x ∈ xs, x < r) (fun i xs ls h => by
      have hi := h.2 i List.mem_cons_self
      have hl2 := h.1
      simp at hl2
      refine ⟨⟨.nx, rfl, ?_⟩, by simp; omega, fun x hx => h.2 x (List.mem_cons_of_mem _ hx)⟩
      have q := lnq i hi
      have s1 : ls.length < 16777216 := by omega
      have s2 : sm64 (i : Int) = true := sm64_small (by omega) (by omega)
      have s3 : sm64 ((i : Int) + 1) = true := sm64_small (by omega) (by omega)
      simp -implicitDefEqProofs [L__law_screen_1, q, s1, sc, s2, s3, nl_encL]) (List.range r) [] ⟨by simp; omega, fun x hx => List.mem_range.mp hx⟩
  have fold : ∀ (f : Nat → List Cell) (n : Nat), (List.range n).foldl (fun ls i => ls ++ [f i]) [] = (List.range n).map f := fun f n => by
    induction n with
    | zero => rfl
    | succ n ih => rw [List.range_succ, List.foldl_append, ih, List.map_append]; rfl
  simp only [fold] at lp
  obtain ⟨ls, hls⟩ : ∃ ls, ls = (List.range r).map fun i => lnN ((ds.take (12 + 2 * (i + 1) * c)).drop (12 + 2 * i * c)) c := ⟨_, rfl⟩
  rw [← hls] at lp
  have hrg : rgB (r : Int) = true := rgB_nat (by omega)
  have lp2 : ∀ M : Mem, loopF (stpK [false, true, true, false, false, false, true, true, false] none (rgD 0 r) (gNm 3) L__law_screen_1) (rgD 0 r) [none, some (.lst (ds.map .int)), some (.loc M.length), none, none, none, some (.int r), some (.int c), none] (M ++ [.lst []]) =
    some (.nx, [none, some (.lst (ds.map .int)), some (.loc M.length), none, none, none, some (.int r), some (.int c), none], M ++ [.lst (ls.map encL)]) := lp
  -- the title
  obtain ⟨t, ht⟩ : ∃ t : List Int, t = (List.range (d3 % 9).toNat).map fun j => glyphN (ds.getD (4 + j) 0) := ⟨_, rfl⟩
  have tq : ∀ (M : Mem) (x2 x3 x4 x5 x6 x7 x8 : Option D), Q__law_screen_1 [none, some (.lst (ds.map .int)), x2, x3, x4, x5, x6, x7, x8] M = some (.new (t.map .int), M) := fun M x2 x3 x4 x5 x6 x7 x8 => by
    rw [ht, List.map_map]
    have hj : rgB (d3 % 9) = true := by
      have : d3 % 9 = (((d3 % 9).toNat : Nat) : Int) := by omega
      rw [this]
      exact rgB_nat (by omega)
    unfold Q__law_screen_1
    refine (cLc_ty (gk := none) (fun i : Nat => D.int (0 + i)) (fun j : Nat => some (D.int (glyphN (ds.getD (4 + j) 0)))) (List.range (d3 % 9).toNat) ?_ (fun k e => by cases e) (by simp; omega) (fun j hjm acc => ?_) (fun l _ y e => by cases e; rfl)).trans (by rw [fm_map]; rfl)
    · simp -implicitDefEqProofs [a3, hj, rgD_map]
    · have hj2 : j < 8 := by have := List.mem_range.mp hjm; omega
      have := a4 j hj2
      have ge := fun M => glyph_eq (ds.getD (4 + j) 0) M
      simp -implicitDefEqProofs [-List.getD_eq_getElem?_getD, this, ge]
  have htg : ∀ g ∈ t, isGl g := fun g hg => by
    rw [ht] at hg
    obtain ⟨j, _, rfl⟩ := List.mem_map.mp hg
    exact glyphN_ok _
  have htl : t.length < 9 := by rw [ht]; simp; omega
  have hlen : ls.length = r := by rw [hls]; simp
  have hlok : ∀ l ∈ ls, OkL l ∧ l.length = c := fun l hl => by
    rw [hls] at hl
    obtain ⟨i, _, rfl⟩ := List.mem_map.mp hl
    exact lnN_ok _ _
  clear lp
  obtain ⟨t2, h2⟩ : ∃ t2 : List Int, t2 = if d3 % 50 = 49 then (List.replicate 5 t).flatten else t := ⟨_, rfl⟩
  have ht2g : ∀ g ∈ t2, isGl g := fun g hg => by
    rw [h2] at hg
    split at hg
    · obtain ⟨l, h1, h3⟩ := List.mem_flatten.mp hg
      rw [(List.mem_replicate.mp h1).2] at h3
      exact htg g h3
    · exact htg g hg
  have hcur1 : (((d2 % (r : Int)).toNat : Nat) : Int) = d2 % (r : Int) := Int.toNat_of_nonneg (Int.emod_nonneg _ (by omega))
  have hcur2 : (((d2 / 12 % (c : Int)).toNat : Nat) : Int) = d2 / 12 % (c : Int) := Int.toNat_of_nonneg (Int.emod_nonneg _ (by omega))
  have hcur3 : d2 % (r : Int) < r := Int.emod_lt_of_pos _ (by omega)
  have hcur4 : d2 / 12 % (c : Int) < c := Int.emod_lt_of_pos _ (by omega)
  refine ⟨⟨ls, (d2 % (r : Int)).toNat, (d2 / 12 % (c : Int)).toNat, decide (d3 / 9 % 2 = 0), t2.take 40⟩, r, c, ⟨hlen, hr.1, hr.2, hc.1, hc.2, hlok, by show (d2 % (r : Int)).toNat < r; omega, by show (d2 / 12 % (c : Int)).toNat < c; omega, by simp; omega, fun g hg => ht2g g (List.mem_of_mem_take hg)⟩, fun M => ?_⟩
  have tk : ∀ xs : List Int, cutL xs none (some 40) = xs.take 40 := fun xs => cutL_hi (by omega)
  have p1 : 0 < r := by omega
  have p2 : 0 < c := by omega
  have p3 : t.length ≤ 1000 := by omega
  unfold F__law_screen B__law_screen
  rw [mkFnK_eq]
  by_cases h5 : d3 % 50 = 49
  · rw [if_pos h5] at h2
    have rep : t.map D.int ++ (t.map D.int ++ (t.map D.int ++ (t.map D.int ++ t.map D.int))) = t2.map D.int := by rw [h2]; simp
    simp -implicitDefEqProofs [hsz, hd, sr, sc, hrg, lp2, tq, a2, a3, h5, p1, p2, p3, rep, encS, encLs, hcur1, hcur2, tk, nl_encL]
  · rw [if_neg h5] at h2
    subst h2
    simp -implicitDefEqProofs [hsz, hd, sr, sc, hrg, lp2, tq, a2, a3, h5, p1, p2, p3, encS, encLs, hcur1, hcur2, tk, nl_encL]
end K03

namespace K05
open PySem PySem.Spec PyProof.Rows L2 CI
noncomputable def L__law_draws_1 : Sf :=
    (sIf (toB (cBin oGt (cVar 3) (cInt (0))))
    (sCons (sExpr (cBM "list" oAppend (cVar 2) (aCons (cBin oMod (cCB oInt (aCons (cVar 3) aNil)) (cInt (1000))) aNil)))
    (sSet 3 (cBin oDiv (cVar 3) (cInt (1000)))))
    sNil)
noncomputable def L__law_draws_2 : Sf :=
    (sCons (sSet 4 (cBin oMod (cCB oInt (aCons (cBin oAdd (cBin oAdd (cBin oMulA (cVar 4) (cInt (48271))) (cBin oMulA (cVar 5) (cInt (69621)))) (cInt (7))) aNil)) (cInt (2147483647))))
    (sIf (toB (cBin oLt (cCB oLen (aCons (cVar 2) aNil)) (cVar 1)))
    (sExpr (cBM "list" oAppend (cVar 2) (aCons (cBin oMod (cCB oInt (aCons (cBin oMod (cCB oInt (aCons (cBin oAdd (cBin oMulA (cVar 4) (cInt (69621))) (cInt (5))) aNil)) (cInt (2147483629))) aNil)) (cInt (1000))) aNil)))
    sNil))
noncomputable def B__law_draws : Sf :=
    (sCons (sSetM 2 (cLst aNil))
    (sCons (sSet 3 (cCB oInt (aCons (cVar 0) aNil)))
    (sCons (sIf (toB (cBin oGe (cVar 3) (cBin oPow (cInt (10)) (cInt (18)))))
    (sForK [true, true, true, true, false, false] (iRg1 (cVar 1)) (gNm 5) L__law_draws_1)
    sNil)
    (sCons (sSet 4 (cBin oMod (cCB oInt (aCons (cBin oAdd (cBin oMulA (cCB oInt (aCons (cVar 0) aNil)) (cInt (48271))) (cInt (11))) aNil)) (cInt (2147483647))))
    (sCons (sForK [false, true, true, false, true, false] (iRg1 (cVar 1)) (gNm 5) L__law_draws_2)
    (sRet (cVar 2)))))))
noncomputable def F__law_draws : Fn := mkFnK 2 6 B__law_draws
noncomputable def B__law_number : Sf :=
    (sCons (sIf (toB (cBin oEq (cBin oMod (cCB oInt (aCons (cVar 0) aNil)) (cInt (7))) (cInt (0))))
    (sRet cNon)
    sNil)
    (sRet (cBin oIx (cLst (aCons (cBin oMod (cCB oInt (aCons (cVar 1) aNil)) (cInt (10))) (aCons (cCB oInt (aCons (cVar 1) aNil)) (aCons (cBin oAdd (cBin oMulA (cCB oInt (aCons (cVar 0) aNil)) (cInt (1000))) (cCB oInt (aCons (cVar 1) aNil))) (aCons (cInt (9999)) (aCons (cInt (10000)) aNil)))))) (cBin oMod (cBin oDiv (cCB oInt (aCons (cVar 0) aNil)) (cInt (7))) (cInt (5))))))
noncomputable def F__law_number : Fn := mkFnK 2 2 B__law_number
noncomputable def Q__law_digits_1 : Ef :=
    (cLc (iSt (cCB oStr (aCons (cCB oInt (aCons (cVar 0) aNil)) aNil))) [1] (gNm 1) tYesF (cBin oAdd (cInt (48)) (cCB oIntS (aCons (cVar 1) aNil))))
noncomputable def B__law_digits : Sf :=
    (sRet Q__law_digits_1)
noncomputable def F__law_digits : Fn := mkFnK 1 2 B__law_digits
noncomputable def L__law_joined_1 : Sf :=
    (sCons (sIf (toB (cBin oGt (cVar 2) (cInt (0))))
    (sExpr (cBM "list" oAppend (cVar 1) (aCons (cInt (59)) aNil)))
    sNil)
    (sIf (toB (cBin (oIs true) (cVar 3) cNon))
    (sSetM 1 (cBin oAdd (cVar 1) (cCall F__law_digits (aCons (cVar 3) aNil))))
    sNil))
noncomputable def B__law_joined : Sf :=
    (sCons (sSetM 1 (cLst aNil))
    (sCons (sForK [false, true, false, false] (iEnT (cVar 0)) (gTp 2 (gsCons (gNm 2) (gsCons (gNm 3) gsNil))) L__law_joined_1)
    (sRet (cVar 1))))
noncomputable def F__law_joined : Fn := mkFnK 1 4 B__law_joined
noncomputable def Q__law_written_1 : Ef :=
    (cLc (iRg1 (cVar 2)) [8] (gNm 8) tYesF (cCall F__law_number (aCons (cBin oIx (cVar 1) (cBin oAdd (cInt (2)) (cBin oMulA (cInt (2)) (cVar 8)))) (aCons (cBin oIx (cVar 1) (cBin oAdd (cInt (3)) (cBin oMulA (cInt (2)) (cVar 8)))) aNil))))
noncomputable def L__law_written_1 : Sf :=
    (sCons (sSet 12 (cBin oMod (cBin oIx (cVar 1) (cBin oAdd (cInt (47)) (cVar 8))) (cBin oAdd (cCB oLen (aCons (cVar 5) aNil)) (cInt (1)))))
    (sCons (sSet 9 (cBin oIx (cLst (aCons (cInt (8)) (aCons (cInt (0)) (aCons (cInt (13)) (aCons (cInt (127)) (aCons (cInt (10)) (aCons (cInt (31)) aNil))))))) (cBin oMod (cBin oDiv (cBin oIx (cVar 1) (cBin oAdd (cInt (47)) (cVar 8))) (cInt (50))) (cInt (6)))))
    (sSet 5 (cBin oAdd (cBin oAdd (cSl (cVar 5) sNone (sSome (cVar 12))) (cLst (aCons (cVar 9) aNil))) (cSl (cVar 5) (sSome (cVar 12)) sNone)))))
noncomputable def L__law_written_2 : Sf :=
    (sIf (toB (cBin oLt (cVar 9) (cInt (32))))
    (sExpr (cBM "list" oAppend (cVar 7) (aCons (cTup (aCons (cStr "control") (aCons (cVar 9) aNil))) aNil)))
    sNil)
noncomputable def Q__law_written_2 : Ef :=
    (cLc (iSeq (cSl (cVar 3) sNone (sSome (cInt (16))))) [13] (gNm 13) tYesF (cIf (toB (cBin (oIs false) (cVar 13) cNon)) (cVar 13) (cCB oMin2 (aCons (cInt (9999)) (aCons (cVar 13) aNil)))))
noncomputable def B__law_written : Sf :=
    (sCons (sSet 1 (cCall F__law_draws (aCons (cVar 0) (aCons (cInt (52)) aNil))))
    (sCons (sSet 2 (cIf (toB (cBin oGt (cBin oMod (cBin oIx (cVar 1) (cInt (0))) (cInt (5))) (cInt (0)))) (cBin oMod (cBin oIx (cVar 1) (cInt (0))) (cInt (4))) (cBin oMod (cBin oIx (cVar 1) (cInt (0))) (cInt (21)))))
    (sCons (sSet 3 Q__law_written_1)
    (sCons (sSet 4 (cBin oEq (cBin oMod (cBin oIx (cVar 1) (cInt (1))) (cInt (3))) (cInt (0))))
    (sCons (sSet 5 (cBin oAdd (cIf (toTr (cVar 4)) (cLst (aCons (cInt (63)) aNil)) (cLst aNil)) (cCall F__law_joined (aCons (cVar 3) aNil))))
    (sCons (sIf (kAnd (toB (cBin oEq (cVar 2) (cInt (1)))) (toB (cBin (oIs false) (cBin oIx (cVar 3) (cInt (0))) cNon)))
    (sSet 3 (cLst aNil))
    sNil)
    (sCons (sSet 6 (cBin oEq (cBin oMod (cBin oIx (cVar 1) (cInt (1))) (cInt (8))) (cInt (7))))
    (sCons (sIf (toTr (cVar 6))
    (sCons (sSet 12 (cBin oMod (cBin oIx (cVar 1) (cInt (44))) (cBin oAdd (cCB oLen (aCons (cVar 5) aNil)) (cInt (1)))))
    (sSet 5 (cBin oAdd (cBin oAdd (cSl (cVar 5) sNone (sSome (cVar 12))) (cLst (aCons (cBin oIx (cLst (aCons (cInt (58)) (aCons (cInt (32)) (aCons (cInt (130)) (aCons (cInt (47)) (aCons (cInt (255)) aNil)))))) (cBin oMod (cBin oIx (cVar 1) (cInt (45))) (cInt (5)))) aNil))) (cSl (cVar 5) (sSome (cVar 12)) sNone))))
    sNil)
    (sCons (sSetM 7 (cLst aNil))
    (sCons (sForK [false, true, false, true, true, true, true, true, false, false, false, false, false, false] (iRg1 (cBin oMod (cBin oIx (cVar 1) (cInt (46))) (cInt (4)))) (gNm 8) L__law_written_1)
    (sCons (sForK [false, true, false, true, true, true, true, true, false, false, false, false, false, false] (iSeq (cVar 5)) (gNm 9) L__law_written_2)
    (sCons (sSet 10 (cBin oAdd (cInt (64)) (cBin oMod (cBin oIx (cVar 1) (cInt (51))) (cInt (63)))))
    (sCons (sSet 11 (cIf (toTr (cVar 6)) (cVar 7) (cBin oAdd (cVar 7) (cLst (aCons (cTup (aCons (cStr "sequence") (aCons (cVar 4) (aCons (cCB oTuple (aCons Q__law_written_2 aNil)) (aCons (cVar 10) aNil))))) aNil)))))
    (sRet (cTup (aCons (cBin oAdd (cBin oAdd (cLst (aCons (cInt (27)) (aCons (cInt (91)) aNil))) (cVar 5)) (cLst (aCons (cVar 10) aNil))) (aCons (cVar 11) aNil)))))))))))))))))
noncomputable def F__law_written : Fn := mkFnK 1 14 B__law_written
noncomputable def B_scan_end : Sf :=
    (sCons (sSet 2 (cIf (toB (cBin oEq (cBin oIx (cVar 0) (cInt (0))) (cStr "invalid"))) (cInt (64)) (cInt (48))))
    (sCons (sIf (toB (cChain oLe oLe (cVar 2) (cVar 1) (cInt (126))))
    (sRet (cTup (aCons (cVal (.tup [(.str "ground")])) (aCons cNon aNil))))
    sNil)
    (sRet (cTup (aCons (cVar 0) (aCons cNon aNil))))))
noncomputable def F_scan_end : Fn := mkFnK 2 3 B_scan_end
noncomputable def B_scan_ground : Sf :=
    (sCons (sIf (toB (cChain oLe oLe (cInt (127)) (cVar 0) (cInt (159))))
    (sRet (cTup (aCons (cVal (.tup [(.str "ground")])) (aCons cNon aNil))))
    sNil)
    (sRet (cTup (aCons (cVal (.tup [(.str "ground")])) (aCons (cTup (aCons (cStr "print") (aCons (cVar 0) aNil))) aNil)))))
noncomputable def F_scan_ground : Fn := mkFnK 1 1 B_scan_ground
noncomputable def B_scan_escape : Sf :=
    (sCons (sIf (toB (cBin oEq (cVar 0) (cInt (91))))
    (sRet (cTup (aCons (cTup (aCons (cStr "sequence") (aCons (cBl false) (aCons (cTup aNil) (aCons (cBl true) aNil))))) (aCons cNon aNil))))
    sNil)
    (sCons (sIf (toB (cBin oEq (cVar 0) (cInt (93))))
    (sRet (cTup (aCons (cTup (aCons (cStr "command") (aCons (cTup aNil) (aCons (cBl false) aNil)))) (aCons cNon aNil))))
    sNil)
    (sCons (sIf (toB (cChain oLe oLe (cInt (32)) (cVar 0) (cInt (47))))
    (sRet (cTup (aCons (cVal (.tup [(.str "between")])) (aCons cNon aNil))))
    sNil)
    (sRet (cTup (aCons (cVal (.tup [(.str "ground")])) (aCons (cTup (aCons (cStr "escape") (aCons (cVar 0) aNil))) aNil)))))))
noncomputable def F_scan_escape : Fn := mkFnK 1 1 B_scan_escape
noncomputable def B_with_next : Sf :=
    (sCons (sIf (kNot (toTr (cVar 0)))
    (sRet (cTup (aCons cNon (aCons cNon aNil))))
    sNil)
    (sCons (sIf (toB (cBin oGt (cCB oLen (aCons (cVar 0) aNil)) (cVal (.int (16)))))
    (sRet (cVar 0))
    sNil)
    (sRet (cBin oAdd (cVar 0) (cTup (aCons cNon aNil))))))
noncomputable def F_with_next : Fn := mkFnK 1 1 B_with_next
noncomputable def B_with_digit : Sf :=
    (sCons (sIf (kNot (toTr (cVar 0)))
    (sRet (cTup (aCons (cVar 1) aNil)))
    sNil)
    (sCons (sIf (toB (cBin oGt (cCB oLen (aCons (cVar 0) aNil)) (cVal (.int (16)))))
    (sRet (cVar 0))
    sNil)
    (sCons (sSet 2 (cBin oIx (cVar 0) (cNeg (cInt (1)))))
    (sCons (sIf (toB (cBin (oIs false) (cVar 2) cNon))
    (sSet 2 (cInt (0)))
    sNil)
    (sRet (cBin oAdd (cSl (cVar 0) sNone (sSome (cNeg (cInt (1))))) (cTup (aCons (cCB oMin2 (aCons (cVal (.int (9999))) (aCons (cBin oAdd (cBin oMulA (cVar 2) (cInt (10))) (cVar 1)) aNil))) aNil))))))))
noncomputable def F_with_digit : Fn := mkFnK 2 3 B_with_digit
noncomputable def B_scan_sequence : Sf :=
    (sCons (sAsg (gTp 4 (gsCons (gNm 2) (gsCons (gNm 3) (gsCons (gNm 4) (gsCons (gNm 5) gsNil))))) (cVar 0))
    (sCons (sIf (toB (cChain oLe oLe (cInt (64)) (cVar 1) (cInt (126))))
    (sRet (cTup (aCons (cVal (.tup [(.str "ground")])) (aCons (cTup (aCons (cStr "sequence") (aCons (cVar 3) (aCons (cSl (cVar 4) sNone (sSome (cVal (.int (16))))) (aCons (cVar 1) aNil))))) aNil))))
    sNil)
    (sCons (sIf (toB (cBin oEq (cVar 1) (cInt (127))))
    (sRet (cTup (aCons (cVar 0) (aCons cNon aNil))))
    sNil)
    (sCons (sIf (kAnd (toB (cBin oEq (cVar 1) (cInt (63)))) (toTr (cVar 5)))
    (sRet (cTup (aCons (cTup (aCons (cStr "sequence") (aCons (cBl true) (aCons (cVar 4) (aCons (cBl false) aNil))))) (aCons cNon aNil))))
    sNil)
    (sCons (sIf (toB (cBin oEq (cVar 1) (cInt (59))))
    (sRet (cTup (aCons (cTup (aCons (cStr "sequence") (aCons (cVar 3) (aCons (cCall F_with_next (aCons (cVar 4) aNil)) (aCons (cBl false) aNil))))) (aCons cNon aNil))))
    sNil)
    (sCons (sIf (toB (cChain oLe oLe (cInt (48)) (cVar 1) (cInt (57))))
    (sRet (cTup (aCons (cTup (aCons (cStr "sequence") (aCons (cVar 3) (aCons (cCall F_with_digit (aCons (cVar 4) (aCons (cBin oSub (cVar 1) (cInt (48))) aNil))) (aCons (cBl false) aNil))))) (aCons cNon aNil))))
    sNil)
    (sRet (cTup (aCons (cVal (.tup [(.str "invalid")])) (aCons cNon aNil))))))))))
noncomputable def F_scan_sequence : Fn := mkFnK 2 6 B_scan_sequence
noncomputable def B_scan (R_scan : Fn) (R_scan_command : Fn) : Sf :=
    (sCons (sIf (toB (cBin oEq (cBin oIx (cVar 0) (cInt (0))) (cStr "command")))
    (sRet (cCall (R_scan_command) (aCons (cVar 0) (aCons (cVar 1) aNil))))
    sNil)
    (sCons (sIf (kOr (toB (cBin oEq (cVar 1) (cInt (24)))) (toB (cBin oEq (cVar 1) (cInt (26)))))
    (sRet (cTup (aCons (cVal (.tup [(.str "ground")])) (aCons cNon aNil))))
    sNil)
    (sCons (sIf (toB (cBin oEq (cVar 1) (cInt (27))))
    (sRet (cTup (aCons (cVal (.tup [(.str "escape")])) (aCons cNon aNil))))
    sNil)
    (sCons (sIf (toB (cBin oLt (cVar 1) (cInt (32))))
    (sRet (cTup (aCons (cVar 0) (aCons (cTup (aCons (cStr "control") (aCons (cVar 1) aNil))) aNil))))
    sNil)
    (sCons (sIf (toB (cBin oEq (cBin oIx (cVar 0) (cInt (0))) (cStr "ground")))
    (sRet (cCall F_scan_ground (aCons (cVar 1) aNil)))
    sNil)
    (sCons (sIf (toB (cBin oEq (cBin oIx (cVar 0) (cInt (0))) (cStr "escape")))
    (sRet (cCall F_scan_escape (aCons (cVar 1) aNil)))
    sNil)
    (sCons (sIf (toB (cBin oEq (cBin oIx (cVar 0) (cInt (0))) (cStr "sequence")))
    (sRet (cCall F_scan_sequence (aCons (cVar 0) (aCons (cVar 1) aNil))))
    sNil)
    (sRet (cCall F_scan_end (aCons (cVar 0) (aCons (cVar 1) aNil)))))))))))
noncomputable def B_scan_command (R_scan : Fn) (R_scan_command : Fn) : Sf :=
    (sCons (sAsg (gTp 3 (gsCons (gNm 2) (gsCons (gNm 3) (gsCons (gNm 4) gsNil)))) (cVar 0))
    (sCons (sIf (toTr (cVar 4))
    (sCons (sIf (toB (cBin oEq (cVar 1) (cInt (92))))
    (sRet (cTup (aCons (cVal (.tup [(.str "ground")])) (aCons (cTup (aCons (cStr "command") (aCons (cVar 3) aNil))) aNil))))
    sNil)
    (sRet (cCall (R_scan) (aCons (cVal (.tup [(.str "escape")])) (aCons (cVar 1) aNil)))))
    sNil)
    (sCons (sIf (kOr (toB (cBin oEq (cVar 1) (cInt (24)))) (toB (cBin oEq (cVar 1) (cInt (26)))))
    (sRet (cTup (aCons (cVal (.tup [(.str "ground")])) (aCons cNon aNil))))
    sNil)
    (sCons (sIf (toB (cBin oEq (cVar 1) (cInt (7))))
    (sRet (cTup (aCons (cVal (.tup [(.str "ground")])) (aCons (cTup (aCons (cStr "command") (aCons (cVar 3) aNil))) aNil))))
    sNil)
    (sCons (sIf (toB (cBin oEq (cVar 1) (cInt (27))))
    (sRet (cTup (aCons (cTup (aCons (cStr "command") (aCons (cVar 3) (aCons (cBl true) aNil)))) (aCons cNon aNil))))
    sNil)
    (sCons (sIf (kOr (toB (cBin oLt (cVar 1) (cInt (32)))) (kOr (toB (cChain oLe oLe (cInt (127)) (cVar 1) (cInt (159)))) (toB (cBin oGe (cCB oLen (aCons (cVar 3) aNil)) (cVal (.int (42)))))))
    (sRet (cTup (aCons (cVar 0) (aCons cNon aNil))))
    sNil)
    (sRet (cTup (aCons (cTup (aCons (cStr "command") (aCons (cBin oAdd (cVar 3) (cTup (aCons (cVar 1) aNil))) (aCons (cBl false) aNil)))) (aCons cNon aNil))))))))))
mutual
noncomputable def F_scan : Nat → Fn
  | 0 => fun _ _ => none
  | n + 1 => mkFnK 2 2 (B_scan (F_scan n) (F_scan_command n))
noncomputable def F_scan_command : Nat → Fn
  | 0 => fun _ _ => none
  | n + 1 => mkFnK 2 5 (B_scan_command (F_scan n) (F_scan_command n))
end
theorem F_scan_s (n : Nat) : F_scan (n + 1) = mkFnK 2 2 (B_scan (F_scan n) (F_scan_command n)) := by rw [F_scan]
theorem F_scan_command_s (n : Nat) : F_scan_command (n + 1) = mkFnK 2 5 (B_scan_command (F_scan n) (F_scan_command n)) := by rw [F_scan_command]
noncomputable def L_law_1 : Sf :=
    (sCons (sAsg (gTp 2 (gsCons (gNm 2) (gsCons (gNm 7) gsNil))) (cCall (F_scan 8) (aCons (cVar 2) (aCons (cVar 4) aNil))))
    (sIf (toB (cBin (oIs true) (cVar 7) cNon))
    (sExpr (cBM "list" oAppend (cVar 3) (aCons (cVar 7) aNil)))
    sNil))
noncomputable def L_law_2 : Sf :=
    (sCons (sAsg (gTp 2 (gsCons (gNm 5) (gsCons (gNm 6) gsNil))) (cCall F__law_written (aCons (cVar 1) aNil)))
    (sCons (sSet 2 (cTup (aCons (cStr "ground") aNil)))
    (sCons (sSetM 3 (cLst aNil))
    (sCons (sForK [false, false, true, true, false, false, true, false] (iSeq (cVar 5)) (gNm 4) L_law_1)
    (sIf (kOr (toB (cBin oNe (cVar 3) (cVar 6))) (toB (cBin oNe (cVar 2) (cTup (aCons (cStr "ground") aNil)))))
    (sRet (cBl false))
    sNil)))))
noncomputable def B_law : Sf :=
    (sCons (sForK [false, false, false, false, false, false, false, false] (iSeq (cVar 0)) (gNm 1) L_law_2)
    (sRet (cBl true)))
noncomputable def F_law : Fn := mkFnK 1 8 B_law
end K05
namespace K05
open PySem PySem.Spec PyProof.Rows L2 CI
/-! the scanner, typed -/
inductive Sk where
  | ground | escape | between | invalid
  | seq (p : Bool) (ns : List (Option Int)) (f : Bool)
  | cmd (t : List Int) (e : Bool)
inductive Ev where
  | control (c : Int) | print (c : Int) | escape (c : Int)
  | seq (p : Bool) (ns : List (Option Int)) (c : Int)
  | cmd (t : List Int)
def encN : Option Int → D
  | none => .non
  | some i => .int i
def Sk.d : Sk → D
  | .ground => .tup [.str "ground"]
  | .escape => .tup [.str "escape"]
  | .between => .tup [.str "between"]
  | .invalid => .tup [.str "invalid"]
  | .seq p ns f => .tup [.str "sequence", .bl p, .tup (ns.map encN), .bl f]
  | .cmd t e => .tup [.str "command", .tup (t.map .int), .bl e]
def Ev.d : Ev → D
  | .control c => .tup [.str "control", .int c]
  | .print c => .tup [.str "print", .int c]
  | .escape c => .tup [.str "escape", .int c]
  | .seq p ns c => .tup [.str "sequence", .bl p, .tup (ns.map encN), .int c]
  | .cmd t => .tup [.str "command", .tup (t.map .int)]
def evD : Option Ev → D
  | none => .non
  | some e => e.d
def lastI (ns : List (Option Int)) : Int := (ns.getLast?.getD none).getD 0
def digN (ns : List (Option Int)) (k : Int) : List (Option Int) := if ns = [] then [some k] else if 16 < ns.length then ns else ns.dropLast ++ [some (min 9999 (lastI ns * 10 + k))]
def nxtN (ns : List (Option Int)) : List (Option Int) := if ns = [] then [none, none] else if 16 < ns.length then ns else ns ++ [none]
def spS (p : Bool) (ns : List (Option Int)) (f : Bool) (c : Int) : Sk × Option Ev :=
  if 64 ≤ c ∧ c ≤ 126 then (.ground, some (.seq p (ns.take 16) c)) else if c = 127 then (.seq p ns f, none) else if c = 63 ∧ f = true then (.seq true ns false, none)
  else if c = 59 then (.seq p (nxtN ns) false, none) else if 48 ≤ c ∧ c ≤ 57 then (.seq p (digN ns (c - 48)) false, none) else (.invalid, none)
def spP : Sk → Int → Sk × Option Ev
  | .ground, c => if 127 ≤ c ∧ c ≤ 159 then (.ground, none) else (.ground, some (.print c))
  | .escape, c => if c = 91 then (.seq false [] true, none) else if c = 93 then (.cmd [] false, none) else if 32 ≤ c ∧ c ≤ 47 then (.between, none) else (.ground, some (.escape c))
  | .between, c => if 48 ≤ c ∧ c ≤ 126 then (.ground, none) else (.between, none)
  | .invalid, c => if 64 ≤ c ∧ c ≤ 126 then (.ground, none) else (.invalid, none)
  | .seq p ns f, c => spS p ns f c
  | .cmd t e, c => (.cmd t e, none)
def sp0 (s : Sk) (c : Int) : Sk × Option Ev := if c = 24 ∨ c = 26 then (.ground, none) else if c = 27 then (.escape, none) else if c < 32 then (s, some (.control c)) else spP s c
def spec : Sk → Int → Sk × Option Ev
  | .cmd t e, c => if e = true then (if c = 92 then (.ground, some (.cmd t)) else sp0 .escape c) else if c = 24 ∨ c = 26 then (.ground, none) else if c = 7 then (.ground, some (.cmd t))
    else if c = 27 then (.cmd t true, none) else if c < 32 ∨ (127 ≤ c ∧ c ≤ 159) ∨ 42 ≤ t.length then (.cmd t e, none) else (.cmd (t ++ [c]) false, none)
  | .ground, c => sp0 .ground c
  | .escape, c => sp0 .escape c
  | .between, c => sp0 .between c
  | .invalid, c => sp0 .invalid c
  | .seq p ns f, c => sp0 (.seq p ns f) c
def resD (r : Sk × Option Ev) : D := .tup [r.1.d, evD r.2]
def OkSk : Sk → Prop
  | .seq _ ns _ => ns.length ≤ 100
  | .cmd t _ => t.length ≤ 100
  | _ => True
theorem next_eq (ns : List (Option Int)) (hl : ns.length ≤ 100) (M : Mem) : F_with_next [.tup (ns.map encN)] M = some (.val (.tup ((nxtN ns).map encN)), M) := by
  unfold F_with_next B_with_next nxtN
  rw [mkFnK_eq]
  by_cases h : ns = []
  · subst h; simp -implicitDefEqProofs [encN]
  · by_cases h2 : 16 < ns.length
    · have h3 : (16 : Int) < ns.length := by omega
      simp -implicitDefEqProofs [h, h2, h3]
    · have h3 : ¬ (16 : Int) < ns.length := by omega
      have h4 : ns.length ≤ 16777215 := by omega
      simp -implicitDefEqProofs [h, h2, h3, h4, encN]
theorem nl_encN {n : Nat} (x : Option Int) : nl n (encN x) = true := by cases x <;> rfl
theorem at_last (ns : List (Option Int)) (h : ns ≠ []) : L2.atI (ns.map encN) (-1) = some (encN (ns.getLast?.getD none)) := by
  have hl : 0 < ns.length := List.length_pos_iff.mpr h
  rw [at_map, at_neg (by omega) (by omega), List.getLast?_eq_getElem?]
  have e : (-1 + (ns.length : Int)).toNat = ns.length - 1 := by omega
  rw [e, List.getElem?_eq_getElem (by omega)]
  rfl
theorem digit_eq (ns : List (Option Int)) (k : Int) (hl : ns.length ≤ 100) (M : Mem) : F_with_digit [.tup (ns.map encN), .int k] M = some (.val (.tup ((digN ns k).map encN)), M) := by
  unfold F_with_digit B_with_digit digN
  rw [mkFnK_eq]
  by_cases h : ns = []
  · subst h; simp -implicitDefEqProofs [encN]
  · by_cases h2 : 16 < ns.length
    · have h3 : (16 : Int) < ns.length := by omega
      simp -implicitDefEqProofs [h, h2, h3]
    · have h3 : ¬ (16 : Int) < ns.length := by omega
      have al := at_last ns h
      unfold lastI
      have cb := cutL_but (xs := ns)
      cases hx : ns.getLast?.getD none with
      | none => rw [hx] at al; simp -implicitDefEqProofs [h, h2, h3, al, encN, cb]; exact fun q => absurd q (by omega)
      | some v => rw [hx] at al; simp -implicitDefEqProofs [h, h2, h3, al, encN, cb]; exact fun q => absurd q (by omega)
theorem ground_eq (c : Int) (M : Mem) : F_scan_ground [.int c] M = some (.val (resD (spP .ground c)), M) := by
  unfold F_scan_ground B_scan_ground spP resD
  rw [mkFnK_eq]
  by_cases h1 : 127 ≤ c
  · by_cases h2 : c ≤ 159
    · simp -implicitDefEqProofs [h1, h2, Sk.d, evD]
    · simp -implicitDefEqProofs [h1, h2, Sk.d, evD, Ev.d]
  · simp -implicitDefEqProofs [h1, Sk.d, evD, Ev.d]
theorem escape_eq (c : Int) (M : Mem) : F_scan_escape [.int c] M = some (.val (resD (spP .escape c)), M) := by
  unfold F_scan_escape B_scan_escape spP resD
  rw [mkFnK_eq]
  by_cases h1 : c = 91
  · subst h1; simp -implicitDefEqProofs [Sk.d, evD]
  · by_cases h2 : c = 93
    · subst h2; simp -implicitDefEqProofs [Sk.d, evD]
    · by_cases h3 : 32 ≤ c
      · by_cases h4 : c ≤ 47
        · simp -implicitDefEqProofs [h1, h2, h3, h4, Sk.d, evD]
        · simp -implicitDefEqProofs [h1, h2, h3, h4, Sk.d, evD, Ev.d]
      · simp -implicitDefEqProofs [h1, h2, h3, Sk.d, evD, Ev.d]
theorem between_eq (c : Int) (M : Mem) : F_scan_end [.tup [.str "between"], .int c] M = some (.val (resD (spP .between c)), M) := by
  unfold F_scan_end B_scan_end spP resD
  rw [mkFnK_eq]
  by_cases h1 : 48 ≤ c
  · by_cases h2 : c ≤ 126
    · simp -implicitDefEqProofs +decide [h1, h2, Sk.d, evD]
    · simp -implicitDefEqProofs +decide [h1, h2, Sk.d, evD, Ev.d]
  · simp -implicitDefEqProofs +decide [h1, Sk.d, evD, Ev.d]
theorem invalid_eq (c : Int) (M : Mem) : F_scan_end [.tup [.str "invalid"], .int c] M = some (.val (resD (spP .invalid c)), M) := by
  unfold F_scan_end B_scan_end spP resD
  rw [mkFnK_eq]
  by_cases h1 : 64 ≤ c
  · by_cases h2 : c ≤ 126
    · simp -implicitDefEqProofs +decide [h1, h2, Sk.d, evD]
    · simp -implicitDefEqProofs +decide [h1, h2, Sk.d, evD, Ev.d]
  · simp -implicitDefEqProofs +decide [h1, Sk.d, evD, Ev.d]
theorem seq_eq (p : Bool) (ns : List (Option Int)) (f : Bool) (hl : ns.length ≤ 100) (c : Int) (M : Mem) : F_scan_sequence [(Sk.seq p ns f).d, .int c] M = some (.val (resD (spS p ns f c)), M) := by
  have n1 := fun M => next_eq ns hl M
  have d1 := fun M => digit_eq ns (c - 48) hl M
  have tk : cutL ns none (some 16) = ns.take 16 := cutL_hi (by decide)
  unfold F_scan_sequence B_scan_sequence resD Sk.d spS
  rw [mkFnK_eq]
  by_cases a1 : 64 ≤ c ∧ c ≤ 126
  · rw [if_pos a1]
    simp -implicitDefEqProofs [a1.1, a1.2, evD, Ev.d, tk, nl_encN]
  · rw [if_neg a1]
    have a2 : 64 ≤ c → ¬ c ≤ 126 := fun h q => a1 ⟨h, q⟩
    by_cases b1 : c = 127
    · subst b1; simp -implicitDefEqProofs [evD, nl_encN]
    · rw [if_neg b1]
      have a3 : ¬ (64 ≤ c ∧ c ≤ 126) := a1
      by_cases b2 : c = 63 ∧ f = true
      · rw [if_pos b2]
        obtain ⟨rfl, rfl⟩ := b2
        simp -implicitDefEqProofs [evD, nl_encN]
      · rw [if_neg b2]
        by_cases b3 : c = 59
        · subst b3; simp -implicitDefEqProofs [n1, evD, nl_encN]
        · rw [if_neg b3]
          by_cases q64 : 64 ≤ c
          · have q1 := a2 q64
            have q2 : ¬ (48 ≤ c ∧ c ≤ 57) := by omega
            have q3 : ¬ c ≤ 57 := by omega
            have q4 : ¬ c = 63 := by omega
            have q5 : 48 ≤ c := by omega
            rw [if_neg q2]
            simp -implicitDefEqProofs [q64, q1, b1, q4, b3, q5, q3, evD]
          · by_cases b4 : 48 ≤ c ∧ c ≤ 57
            · have q4 : ¬ c = 63 := by omega
              rw [if_pos b4]
              simp -implicitDefEqProofs [q64, b1, q4, b3, b4.1, b4.2, d1, evD, nl_encN]
            · rw [if_neg b4]
              by_cases b5 : 48 ≤ c
              · have q3 : ¬ c ≤ 57 := fun q => b4 ⟨b5, q⟩
                by_cases b6 : c = 63
                · have b7 : f = false := by cases f with
                    | true => exact absurd ⟨b6, rfl⟩ b2
                    | false => rfl
                  subst b6 b7
                  simp -implicitDefEqProofs [evD]
                · simp -implicitDefEqProofs [q64, b1, b6, b3, b5, q3, evD]
              · have q4 : ¬ c = 63 := by omega
                simp -implicitDefEqProofs [q64, b1, q4, b3, b5, evD]
def wd : Sk → Str
  | .ground => "ground" | .escape => "escape" | .between => "between" | .invalid => "invalid" | .seq _ _ _ => "sequence" | .cmd _ _ => "command"
theorem ix_wd (s : Sk) (M : Mem) : oIx s.d (.int 0) M = some (.val (.str (wd s))) := by cases s <;> rfl
theorem nl_sk {n : Nat} (s : Sk) : nl n s.d = true := by
  cases s <;> simp [Sk.d, nl_encN]
theorem scan0_eq (s : Sk) (hs : OkSk s) (hc : wd s ≠ "command") (c : Int) (n : Nat) (M : Mem) : F_scan (n + 1) [s.d, .int c] M = some (.val (resD (sp0 s c)), M) := by
  have ix := fun M => ix_wd s M
  have g := fun M => ground_eq c M
  have e := fun M => escape_eq c M
  have b := fun M => between_eq c M
  have i := fun M => invalid_eq c M
  rw [F_scan_s]
  unfold B_scan sp0
  rw [mkFnK_eq]
  have h0 : (wd s = "command") = False := eq_false hc
  have dG : Sk.ground.d = .tup [.str "ground"] := rfl
  have dE : Sk.escape.d = .tup [.str "escape"] := rfl
  by_cases a1 : c = 24
  · subst a1
    simp -implicitDefEqProofs [ix, h0, resD, evD, dG, dE]
  · by_cases a2 : c = 26
    · subst a2
      simp -implicitDefEqProofs [ix, h0, resD, evD, dG, dE]
    · by_cases a3 : c = 27
      · subst a3
        simp -implicitDefEqProofs [ix, h0, resD, evD, dG, dE]
      · by_cases a4 : c < 32
        · simp -implicitDefEqProofs [ix, h0, a1, a2, a3, a4, resD, evD, Ev.d, nl_sk]
        · cases s with
          | ground => simp -implicitDefEqProofs +decide [ix, a1, a2, a3, a4, wd, g]
          | escape => simp -implicitDefEqProofs +decide [ix, a1, a2, a3, a4, wd, e]
          | between => 
            unfold Sk.d at *
            simp -implicitDefEqProofs +decide [ix, a1, a2, a3, a4, wd, b]
          | invalid =>
            unfold Sk.d at *
            simp -implicitDefEqProofs +decide [ix, a1, a2, a3, a4, wd, i]
          | seq p ns f =>
            have q := fun M => seq_eq p ns f hs c M
            simp -implicitDefEqProofs +decide [ix, a1, a2, a3, a4, wd, q, spP]
          | cmd t e => exact absurd rfl hc
theorem scan_eq (s : Sk) (hs : OkSk s) (c : Int) (M : Mem) : F_scan 8 [s.d, .int c] M = some (.val (resD (spec s c)), M) := by
  by_cases hc : wd s = "command"
  · cases s with
    | cmd t e =>
      have ix := fun M => ix_wd (.cmd t e) M
      have q := fun M => scan0_eq .escape trivial (by decide) c 5 M
      have ht : t.length ≤ 100 := hs
      have ht2 : t.length ≤ 16777215 := by omega
      unfold wd at ix
      have key : ∀ M, F_scan_command 7 [(Sk.cmd t e).d, .int c] M = some (.val (resD (spec (.cmd t e) c)), M) := fun M => by
        rw [F_scan_command_s]
        unfold B_scan_command spec
        rw [mkFnK_eq]
        cases e with
        | true =>
          by_cases b : c = 92
          · subst b
            simp -implicitDefEqProofs [Sk.d, resD, evD, Ev.d]
          · have e1 : Sk.escape.d = .tup [.str "escape"] := rfl
            rw [e1] at q
            simp -implicitDefEqProofs [Sk.d, b, q]
        | false =>
          by_cases a1 : c = 24
          · subst a1; simp -implicitDefEqProofs [resD, evD, Sk.d]
          · by_cases a2 : c = 26
            · subst a2; simp -implicitDefEqProofs [resD, evD, Sk.d]
            · by_cases a3 : c = 7
              · subst a3; simp -implicitDefEqProofs [resD, evD, Sk.d, Ev.d]
              · by_cases a4 : c = 27
                · subst a4; simp -implicitDefEqProofs [resD, evD, Sk.d]
                · by_cases a5 : c < 32
                  · simp -implicitDefEqProofs [a1, a2, a3, a4, a5, resD, evD, Sk.d]
                  · by_cases a6 : 127 ≤ c ∧ c ≤ 159
                    · simp -implicitDefEqProofs [a1, a2, a3, a4, a5, a6.1, a6.2, resD, evD, Sk.d]
                    · by_cases a7 : 127 ≤ c
                      · have a8 : ¬ c ≤ 159 := fun q => a6 ⟨a7, q⟩
                        by_cases a9 : 42 ≤ t.length
                        · have a10 : (42 : Int) ≤ t.length := by omega
                          simp -implicitDefEqProofs [a1, a2, a3, a4, a5, a7, a8, a9, a10, resD, evD, Sk.d]
                        · have a10 : ¬ (42 : Int) ≤ t.length := by omega
                          simp -implicitDefEqProofs [a1, a2, a3, a4, a5, a7, a8, a9, a10, ht2, resD, evD, Sk.d]
                      · by_cases a9 : 42 ≤ t.length
                        · have a10 : (42 : Int) ≤ t.length := by omega
                          simp -implicitDefEqProofs [a1, a2, a3, a4, a5, a7, a9, a10, resD, evD, Sk.d]
                        · have a10 : ¬ (42 : Int) ≤ t.length := by omega
                          simp -implicitDefEqProofs [a1, a2, a3, a4, a5, a7, a9, a10, ht2, resD, evD, Sk.d]
      rw [F_scan_s]
      unfold B_scan
      rw [mkFnK_eq]
      simp -implicitDefEqProofs [ix, key]
    | seq p ns f => exact absurd (show ("sequence" : Str) = "command" from hc) (by decide)
    | _ => exact absurd hc (by unfold wd; decide)
  · rw [scan0_eq s hs hc c 7 M]
    cases s with
    | cmd t e => exact absurd rfl hc
    | _ => rfl
end K05

namespace K05
open PySem PySem.Spec PyProof.Rows L2 CI
def dgT (m : Nat) : List Int := (digs m).map fun d => ((48 + d : Nat) : Int)
theorem digs_len {m : Nat} (h : m < 10000000) : (digs m).length ≤ 7 := by
  unfold digs
  rw [List.length_map]
  exact PyProof.Rows.digits10_le (by decide) h
theorem digits_eq (m : Nat) (h : m < 10000000) (M : Mem) : F__law_digits [.int (m : Nat)] M = some (.new ((dgT m).map .int), M) := by
  have lg : (((m : Nat) : Int)).natAbs.log2 < 1920 := by
    show m.log2 < 1920
    by_cases z : m = 0
    · rw [z]; decide
    · exact (Nat.log2_lt z).mpr (Nat.lt_trans h (by decide))
  have os : ∀ M, oStr [.int (m : Nat)] M = some (.val (.str (Str.ofString (toString ((m : Nat) : Int))))) := fun M => by
    rw [oStr_int, if_pos lg]
  have q : ∀ M, Q__law_digits_1 [some (.int (m : Nat)), none] M = some (.new ((dgT m).map .int), M) := fun M => by
    have e : (dgT m).map D.int = (digs m).filterMap fun d => some (D.int ((48 + d : Nat) : Int)) := by
      unfold dgT; rw [List.map_map, ← List.filterMap_eq_map]; rfl
    rw [e]
    have cn := chD_num m
    unfold Q__law_digits_1
    refine cLc_ty (gk := none) (fun d : Nat => D.str ⟨#[48 + d]⟩) _ (digs m) ?_ (fun k e => by cases e) (by have := digs_len h; omega) (fun d hd acc => ?_) (fun d _ y e => ?_)
    · rw [← cn]
      simp -implicitDefEqProofs [-oStr_int, os]
    · have oi := oIntS_dig d (digs_lt hd)
      simp -implicitDefEqProofs [oi]
    · cases e; rfl
  unfold F__law_digits B__law_digits
  rw [mkFnK_eq]
  simp -implicitDefEqProofs [q]
def opD (x : Option Nat) : D := encN (x.map Int.ofNat)
def txN : Option Nat → List Int
  | none => []
  | some m => dgT m
/-- the numbers, joined -/
def jn : Nat → List (Option Nat) → List Int
  | _, [] => []
  | k, x :: xs => (if k = 0 then [] else [59]) ++ (txN x ++ jn (k + 1) xs)
theorem txN_len {x : Option Nat} (h : ∀ m, x = some m → m < 10000000) : (txN x).length ≤ 7 := by
  cases x with
  | none => exact Nat.zero_le _
  | some m => unfold txN dgT; rw [List.length_map]; exact digs_len (h m rfl)
theorem stp_ds {kl : List Bool} {ds ds' : List D} {g : Gf} {body : Sf} : stpK kl none ds g body = stpK kl none ds' g body := by
  funext d ρ M
  unfold stpK
  simp only [guard_none]
theorem dsAt (ds : List Int) (j : Nat) (h : j < ds.length) : L2.atI (ds.map D.int) (j : Int) = some (.int (ds.getD j 0)) := by
  rw [at_map, at_nat (by omega)]
  simp [h]
theorem tidy_no {kl : List Bool} {M Me : Mem} {ρ : Slots} (h : nlS M.length (keepD kl ρ) = false) : tidy kl M ρ Me = (keepD kl ρ, Me) := by
  unfold tidy; rw [if_neg (by rw [h]; simp)]
theorem oAdd_le (M : Mem) (xs ys : List D) (h : xs.length + ys.length ≤ 16777216) : oAdd (.loc M.length) (.lst ys) (M ++ [.lst xs]) = some (.new (xs ++ ys)) := by
  have e : asW (M ++ [.lst xs]) (.loc M.length) = some xs := by
    show (match (M ++ [O.lst xs])[M.length]? with | some (.lst ds) => some ds | _ => none) = some xs
    rw [get_end]
  have e2 : asW (M ++ [.lst xs]) (.lst ys) = some ys := rfl
  show (match asW (M ++ [.lst xs]) (.loc M.length), asW (M ++ [.lst xs]) (.lst ys) with | some as, some bs => if as.length + bs.length ≤ sizeLine then some (Rz.new (as ++ bs)) else none | _, _ => none) = _
  rw [e, e2]
  simp [h]
theorem join_step (M1 : Mem) (T : List Int) (k : Nat) (x : Option Nat) (hx : ∀ m, x = some m → m < 10000000) (hT : T.length < 100000) : ∃ G,
    stpK [false, true, false, false] none [] (gTp 2 (gsCons (gNm 2) (gsCons (gNm 3) gsNil))) L__law_joined_1 (.tup [.int k, opD x]) [none, some (.loc M1.length), none, none] (M1 ++ [.lst (T.map .int)]) =
      some (.nx, [none, some (.loc (M1 ++ G).length), none, none], M1 ++ G ++ [.lst ((T ++ ((if k = 0 then [] else [59]) ++ txN x)).map .int)]) := by
  have t1 : T.length < 16777216 := by omega
  cases x with
  | none =>
    refine ⟨[], ?_⟩
    by_cases z : k = 0
    · subst z; simp -implicitDefEqProofs [L__law_joined_1, opD, encN, txN]
    · have z2 : 0 < k := by omega
      simp -implicitDefEqProofs [L__law_joined_1, opD, encN, txN, z, z2, t1]
  | some m =>
    have dg := fun M => digits_eq m (hx m rfl) M
    have lx := txN_len hx
    have lx : (dgT m).length ≤ 7 := lx
    by_cases z : k = 0
    · refine ⟨[.lst (T.map .int)], ?_⟩
      have t2 : T.length + (dgT m).length ≤ 16777216 := by omega
      subst z
      simp -implicitDefEqProofs [L__law_joined_1, opD, encN, txN, dg, t2, oAdd_le, tidy_no]
    · refine ⟨[.lst ((T ++ [59]).map .int)], ?_⟩
      have z2 : 0 < k := by omega
      have t2 : T.length + 1 + (dgT m).length ≤ 16777216 := by omega
      simp -implicitDefEqProofs [L__law_joined_1, opD, encN, txN, z, z2, t1, dg, t2, oAdd_le, tidy_no]
theorem joined_eq (ns : List (Option Nat)) (hn : ∀ x ∈ ns, ∀ m, x = some m → m < 10000000) (hl : ns.length ≤ 1000) (M : Mem) :
    F__law_joined [.lst (ns.map opD)] M = some (.new ((jn 0 ns).map .int), M) := by
  obtain ⟨ρ', M', e, j, rest, T, G, h1, h2, _, _, rfl, rfl⟩ := loop_inv (step := stpK [false, true, false, false] none (enD (ns.map opD)) (gTp 2 (gsCons (gNm 2) (gsCons (gNm 3) gsNil))) L__law_joined_1)
    (fun ds ρ M' => ∃ (j : Nat) (rest : List (Option Nat)) (T : List Int) (G : Mem), ds = (rest.zipIdx j).map (fun p => D.tup [.int ((p.2 : Nat) : Int), opD p.1]) ∧ T ++ jn j rest = jn 0 ns ∧ (∀ x ∈ rest, ∀ m, x = some m → m < 10000000) ∧ T.length + 8 * rest.length ≤ 8000 ∧
      ρ = [none, some (.loc (M ++ G).length), none, none] ∧ M' = M ++ G ++ [.lst (T.map .int)]) (by
      rintro d ds ρ M' ⟨j, rest, T, G, h1, h2, h3, h4, rfl, rfl⟩
      cases rest with
      | nil => exact absurd h1 (by simp)
      | cons x xs =>
        rw [List.zipIdx_cons, List.map_cons] at h1
        obtain ⟨rfl, rfl⟩ := List.cons.inj h1
        simp only [List.length_cons] at h4
        have hx := h3 x List.mem_cons_self
        obtain ⟨G', e⟩ := join_step (M ++ G) T j x hx (by omega)
        have lx := txN_len hx
        rw [stp_ds (ds' := [])]
        refine ⟨.nx, _, _, e, .inl rfl, j + 1, xs, T ++ ((if j = 0 then [] else [59]) ++ txN x), G ++ G', rfl, ?_, fun y hy => h3 y (List.mem_cons_of_mem _ hy), ?_, by simp, by simp⟩
        · rw [← h2]
          show T ++ _ ++ jn (j + 1) xs = T ++ ((if j = 0 then [] else [59]) ++ (txN x ++ jn (j + 1) xs))
          simp only [List.append_assoc]
        · rw [List.length_append, List.length_append]
          split <;> simp only [List.length_nil, List.length_cons] <;> omega) (enD (ns.map opD)) [none, some (.loc (M ++ []).length), none, none] (M ++ [] ++ [.lst []])
    ⟨0, ns, [], [], enD_map, rfl, hn, by simp; omega, rfl, rfl⟩
  have hr : rest = [] := by
    cases rest with
    | nil => rfl
    | cons x xs => rw [List.zipIdx_cons, List.map_cons] at h1; cases h1
  subst hr
  rw [show jn j [] = [] from rfl, List.append_nil] at h2
  subst h2
  have fin : finK M (.val (.loc (M.length + G.length))) (M ++ (G ++ [.lst ((jn 0 ns).map .int)])) = (.new ((jn 0 ns).map .int), M) := by
    refine finK_appL ?_ nls_ints
    simp
  rw [List.append_nil] at e
  rw [List.length_append, List.append_assoc] at e
  unfold F__law_joined B__law_joined
  rw [mkFnK_eq]
  simp -implicitDefEqProofs [e, fin]
end K05

/-! lines, cut and joined: by marks and by cutting -/
namespace K03
open PySem PySem.Spec PyProof.Rows L2 CI
abbrev Tri := Int × List Int × Int
def mkA : Nat → List Cell → List Tri
  | _, [] => []
  | k, c :: r => (c.1, c.2, if c.1 = 0 then (k : Int) else if 192 ≤ c.1 then (k : Int) + 1 else 0) :: mkA (k + 1) r
def isW (p : Option Tri) (x : Tri) (n : Option Tri) : Bool :=
  if x.1 = 0 then (match p with | some y => decide (192 ≤ y.1 ∧ y.2.2 = x.2.2) | none => false)
  else if 192 ≤ x.1 then decide (n = some (0, x.2.1, x.2.2)) else decide (x.2.2 = 0)
def whA : Option Tri → List Tri → Option Tri → List Cell
  | _, [], _ => []
  | p, x :: xs, n => (if isW p x (xs.head?.or n) = true then (x.1, x.2.1) else bl) :: whA (some x) xs n
theorem whA_app : ∀ (xs ys : List Tri) (p n : Option Tri), whA p (xs ++ ys) n = whA p xs (ys.head?.or n) ++ whA (xs.getLast?.or p) ys n
  | [], ys, p, n => by simp [whA]
  | x :: xs, ys, p, n => by
    rw [List.cons_append, whA, whA, whA_app xs ys]
    have e1 : ((xs ++ ys).head?.or n) = (xs.head?.or (ys.head?.or n)) := by cases xs <;> simp
    have e2 : xs.getLast?.or (some x) = (x :: xs).getLast?.or p := by
      cases xs with
      | nil => simp
      | cons a b =>
        cases hg : (a :: b).getLast? with
        | none => simp at hg
        | some z => simp only [List.getLast?_cons_cons, hg, Option.or_some]; simp
    rw [e1, e2]; rfl
theorem mkA_len : ∀ (l : List Cell) (k : Nat), (mkA k l).length = l.length
  | [], _ => rfl
  | c :: r, k => by rw [mkA, List.length_cons, List.length_cons, mkA_len r]
theorem mkA_app : ∀ (a b : List Cell) (k : Nat), mkA k (a ++ b) = mkA k a ++ mkA (k + a.length) b
  | [], b, k => by simp [mkA]
  | c :: a, b, k => by
    rw [List.cons_append, mkA, mkA, mkA_app a b, List.cons_append, List.length_cons]
    congr 3; omega
theorem mkA_take (l : List Cell) (a : Nat) : (mkA 0 l).take a = mkA 0 (l.take a) := by
  have := mkA_app (l.take a) (l.drop a) 0
  rw [List.take_append_drop] at this
  rw [this, List.take_append]
  by_cases h : a ≤ l.length
  · have e : (mkA 0 (l.take a)).length = a := by rw [mkA_len]; simp; omega
    rw [List.take_of_length_le (by omega), e, Nat.sub_self, List.take_zero, List.append_nil]
  · have e : l.drop a = [] := List.drop_of_length_le (by omega)
    rw [e]
    rw [List.take_of_length_le (by rw [mkA_len]; simp; omega)]
    simp [mkA]
theorem mkA_drop (l : List Cell) (a : Nat) (h : a ≤ l.length) : (mkA 0 l).drop a = mkA a (l.drop a) := by
  have := mkA_app (l.take a) (l.drop a) 0
  rw [List.take_append_drop] at this
  have e : (mkA 0 (l.take a)).length = a := by rw [mkA_len]; simp; omega
  rw [this, List.drop_append, List.drop_of_length_le (by omega), e, Nat.sub_self, List.drop_zero, List.nil_append]
  congr 1
  simp; omega
/-- what is whole by itself stays -/
theorem whA_ok {l : List Cell} (h : OkL l) : ∀ (k : Nat) (p n : Option Tri), whA p (mkA k l) n = l := by
  induction h with
  | nil => intro k p n; rfl
  | @nar c s r hc hs _ ih =>
    intro k p n
    rw [mkA, whA, ih]
    have h1 : ¬ c = 0 := by omega
    have h2 : ¬ 192 ≤ c := by omega
    simp [isW, h1, h2]
  | @wid c s r hc hs _ ih =>
    intro k p n
    rw [mkA, mkA, whA, whA, ih]
    have h1 : ¬ c = 0 := by omega
    simp [isW, h1, hc]
def clF (p : List Cell) : List Cell := match p with
  | c :: r => if c.1 = 0 then bl :: r else c :: r
  | [] => []
/-- a piece of a line: half a wide character at its ends, whole in between -/
structure Pc (p : List Cell) (fr core bk : List Cell) : Prop where
  eq : p = fr ++ core ++ bk
  f : fr = [] ∨ ∃ s, fr = [(0, s)]
  c : OkL core
  b : bk = [] ∨ ∃ c s, 192 ≤ c ∧ bk = [(c, s)]
def blk (l : List Cell) : List Cell := l.map fun _ => bl
theorem whA_pc {p fr core bk : List Cell} (h : Pc p fr core bk) (k : Nat) (pr nx : Option Tri) (h1 : fr ≠ [] → ∀ y, pr = some y → ¬ (192 ≤ y.1 ∧ y.2.2 = (k : Int)))
    (h2 : ∀ s, nx ≠ some (0, s, (k : Int) + p.length)) : whA pr (mkA k p) nx = blk fr ++ core ++ blk bk := by
  have hl : p.length = fr.length + core.length + bk.length := by rw [h.eq]; simp; omega
  rw [hl] at h2
  rw [h.eq, mkA_app, mkA_app, whA_app, whA_app, whA_ok h.c]
  congr 1
  · congr 1
    rcases h.f with e | ⟨s, e⟩
    · subst e; rfl
    · subst e
      rw [mkA, mkA, whA, whA]
      have : isW pr (0, s, (k : Int)) ((List.head? ([] : List Tri)).or ((mkA (k + [((0, s) : Cell)].length) core).head?.or ((mkA (k + ([((0, s) : Cell)] ++ core).length) bk).head?.or nx))) = false := by
        unfold isW
        rw [if_pos rfl]
        cases pr with
        | none => rfl
        | some y => simp only; exact decide_eq_false (h1 (by simp) y rfl)
      simp only [if_true]
      rw [this]; rfl
  · rcases h.b with e | ⟨c, s, hc, e⟩
    · subst e; rfl
    · subst e
      rw [mkA, mkA, whA, whA]
      have h0 : ¬ c = 0 := by omega
      simp only [h0, if_false, hc, if_true]
      rw [if_neg]
      · rfl
      · unfold isW
        simp only [h0, if_false, hc, if_true, List.head?_nil, Option.none_or]
        intro q
        refine h2 s ?_
        rw [of_decide_eq_true q]
        congr 3
        simp; omega
theorem blk_len (l : List Cell) : (blk l).length = l.length := by unfold blk; simp
theorem pc_ok {p fr core bk : List Cell} (h : Pc p fr core bk) : OkL (blk fr ++ core ++ blk bk) := by
  have e1 : OkL (blk fr) := by rcases h.f with e | ⟨s, e⟩ <;> subst e; exact .nil; exact okL_bl .nil
  have e2 : OkL (blk bk) := by rcases h.b with e | ⟨c, s, _, e⟩ <;> subst e; exact .nil; exact okL_bl .nil
  exact (e1.app h.c).app e2
/-- pieces of a line -/
theorem pc_take {l : List Cell} (h : OkL l) (a : Nat) : ∃ core bk, Pc (l.take a) [] core bk ∧ (cutAt l a).take a = core ++ blk bk := by
  by_cases h0 : ∃ c, l[a]? = some c ∧ c.1 = 0
  · obtain ⟨c, hc, hc0⟩ := h0
    rcases h.at_ a c hc with ⟨_, i, d, rfl, h2, h3, _⟩ | ⟨e, _⟩
    · refine ⟨l.take i, [d], ⟨?_, .inl rfl, (h.cut i fun c' hc' => by rw [h2] at hc'; cases hc'; omega).1, .inr ⟨d.1, d.2, h3, rfl⟩⟩, ?_⟩
      · obtain ⟨hi, e⟩ := List.getElem?_eq_some_iff.mp h2
        rw [List.nil_append, List.take_succ_eq_append_getElem hi, e]
      · unfold cutAt
        rw [hc]
        simp only [hc0, if_true]
        have hi : i < l.length := (List.getElem?_eq_some_iff.mp h2).1
        rw [Nat.add_sub_cancel, List.take_append]
        have e : (l.take i).length = i := by simp; omega
        rw [e, List.take_of_length_le (by omega)]
        have : i + 1 - i = 1 := by omega
        rw [this]; rfl
    · exact absurd hc0 e
  · have hn : ∀ c, l[a]? = some c → c.1 ≠ 0 := fun c hc e => h0 ⟨c, hc, e⟩
    refine ⟨l.take a, [], ⟨by simp, .inl rfl, (h.cut a hn).1, .inl rfl⟩, ?_⟩
    unfold cutAt
    cases hc : l[a]? with
    | none => simp [blk]
    | some c => simp [hn c hc, blk]
theorem pc_drop {l : List Cell} (h : OkL l) (b : Nat) : ∃ fr core, Pc (l.drop b) fr core [] ∧ (cutAt l b).drop b = blk fr ++ core := by
  by_cases h0 : ∃ c, l[b]? = some c ∧ c.1 = 0
  · obtain ⟨c, hc, hc0⟩ := h0
    obtain ⟨hi, e⟩ := List.getElem?_eq_some_iff.mp hc
    have hn : ∀ c', l[b + 1]? = some c' → c'.1 ≠ 0 := fun c' hc' e' => by
      rcases h.at_ _ c' hc' with ⟨_, i', d', q, q2, q3, _⟩ | ⟨e2, _⟩
      · have : i' = b := by omega
        subst this
        rw [hc] at q2; cases q2; omega
      · exact e2 e'
    have hb : 1 ≤ b := by
      rcases h.at_ b c hc with ⟨_, i, d, e, _⟩ | ⟨e, _⟩
      · omega
      · exact absurd hc0 e
    refine ⟨[c], l.drop (b + 1), ⟨?_, .inr ⟨c.2, ?_⟩, (h.cut (b + 1) hn).2, .inl rfl⟩, ?_⟩
    · rw [List.drop_eq_getElem_cons hi, e]; simp
    · rw [← hc0]
    · unfold cutAt
      rw [hc]
      simp only [hc0, if_true]
      rw [List.drop_append]
      have e2 : (l.take (b - 1)).length = b - 1 := by simp; omega
      rw [e2, List.drop_of_length_le (by omega)]
      have : b - (b - 1) = 1 := by omega
      rw [this]; rfl
  · have hn : ∀ c, l[b]? = some c → c.1 ≠ 0 := fun c hc e => h0 ⟨c, hc, e⟩
    refine ⟨[], l.drop b, ⟨by simp, .inl rfl, (h.cut b hn).2, .inl rfl⟩, ?_⟩
    unfold cutAt
    cases hc : l[b]? with
    | none => simp [blk]
    | some c => simp [hn c hc, blk]
/-- two cuts -/
theorem cut2_take {l : List Cell} (h : OkL l) (a b : Nat) (hab : a < b) : (cutAt (cutAt l a) b).take a = (cutAt l a).take a := by
  obtain ⟨h1, _⟩ := cutAt_ok l a h
  generalize cutAt l a = l1 at *
  unfold cutAt
  cases hc : l1[b]? with
  | none => rfl
  | some c =>
    simp only
    split
    · rw [List.take_append_of_le_length (by have := (List.getElem?_eq_some_iff.mp hc).1; simp; omega), List.take_take]
      congr 1; omega
    · rfl
theorem cut_get {l : List Cell} (h : OkL l) (a j : Nat) (hj : a < j) : (cutAt l a)[j]? = l[j]? := by
  unfold cutAt
  cases hc : l[a]? with
  | none => rfl
  | some c =>
    simp only
    split
    · rename_i h0
      have ha := (List.getElem?_eq_some_iff.mp hc).1
      have hb : 1 ≤ a := by
        rcases h.at_ a c hc with ⟨_, i, d, e, _⟩ | ⟨e, _⟩
        · omega
        · exact absurd h0 e
      rw [List.getElem?_append_right (by simp; omega)]
      have e2 : (l.take (a - 1)).length = a - 1 := by simp; omega
      rw [e2]
      have : j - (a - 1) = (j - (a + 1)) + 2 := by omega
      rw [this, List.getElem?_cons_succ, List.getElem?_cons_succ, List.getElem?_drop]
      congr 1; omega
    · rfl
theorem cut2_drop {l : List Cell} (h : OkL l) (a b : Nat) (hab : a < b) : (cutAt (cutAt l a) b).drop b = (cutAt l b).drop b := by
  have hg : ∀ j, a < j → (cutAt l a)[j]? = l[j]? := fun j hj => cut_get h a j hj
  refine List.ext_getElem? fun i => ?_
  rw [List.getElem?_drop, List.getElem?_drop]
  obtain ⟨h1, _⟩ := cutAt_ok l a h
  have hb := hg b hab
  have hln := cutAt_len l a h
  generalize cutAt l a = l1 at *
  unfold cutAt
  rw [hb]
  cases hc : l[b]? with
  | none => exact hg _ (by omega)
  | some c =>
    simp only
    split
    · have hbl := (List.getElem?_eq_some_iff.mp hc).1
      rw [List.getElem?_append_right (by simp; omega), List.getElem?_append_right (by simp; omega)]
      have e1 : (l1.take (b - 1)).length = b - 1 := by simp; omega
      have e2 : (l.take (b - 1)).length = b - 1 := by simp; omega
      rw [e1, e2]
      have : b + i - (b - 1) = i + 1 := by omega
      rw [this]
      cases i with
      | zero => rfl
      | succ i =>
        rw [List.getElem?_cons_succ, List.getElem?_cons_succ, List.getElem?_cons_succ, List.getElem?_cons_succ, List.getElem?_drop, List.getElem?_drop]
        exact hg _ (by omega)
    · exact hg _ (by omega)
theorem okL_head {y : List Cell} (h : OkL y) : ∀ c, y[0]? = some c → c.1 ≠ 0 := fun c hc e => by
  rcases h.at_ 0 c hc with ⟨_, i, d, q, _⟩ | ⟨q, _⟩
  · omega
  · exact q e
theorem cut_app {y : List Cell} (h : OkL y) (x : List Cell) (d : Nat) : cutAt (x ++ y) (x.length + d) = x ++ cutAt y d := by
  unfold cutAt
  rw [List.getElem?_append_right (by omega)]
  have e : x.length + d - x.length = d := by omega
  rw [e]
  cases hc : y[d]? with
  | none => rfl
  | some c =>
    simp only
    split
    · rename_i h0
      have hd : 1 ≤ d := by
        rcases Nat.eq_zero_or_pos d with q | q
        · subst q; exact absurd h0 (okL_head h c hc)
        · exact q
      rw [List.take_append, List.take_of_length_le (by omega), List.drop_append, List.drop_of_length_le (by omega)]
      have e1 : x.length + d - 1 - x.length = d - 1 := by omega
      have e2 : x.length + d + 1 - x.length = d + 1 := by omega
      rw [e1, e2]; simp
    · rfl
theorem pc_mid {l : List Cell} (h : OkL l) (a b : Nat) (hab : a < b) (hb : b ≤ l.length) : ∃ fr core bk, Pc ((l.take b).drop a) fr core bk ∧ ((cutAt (cutAt l a) b).take b).drop a = blk fr ++ core ++ blk bk := by
  obtain ⟨fr, c1, p1, q1⟩ := pc_drop h a
  have hl1 := cutAt_len l a h
  have ok2 : OkL (blk fr ++ c1) := by have := pc_ok p1; simpa [blk] using this
  have hf : (blk fr).length ≤ 1 := by
    rw [blk_len]
    rcases p1.f with e | ⟨s, e⟩ <;> subst e <;> simp
  obtain ⟨c3, bk, p3, q3⟩ := pc_take p1.c (b - a - (blk fr).length)
  have e1 : l.drop a = fr ++ c1 := by have := p1.eq; simpa using this
  have e2 : cutAt (cutAt l a) b = (cutAt l a).take a ++ cutAt (blk fr ++ c1) (b - a) := by
    have e3 : cutAt l a = (cutAt l a).take a ++ (blk fr ++ c1) := by rw [← q1, List.take_append_drop]
    have e4 : ((cutAt l a).take a).length = a := by simp; omega
    have := cut_app ok2 ((cutAt l a).take a) (b - a)
    rw [e4, ← e3] at this
    rw [← this]
    congr 1; omega
  have e5 : cutAt (blk fr ++ c1) (b - a) = blk fr ++ cutAt c1 (b - a - (blk fr).length) := by
    rw [← cut_app p1.c]
    congr 1; omega
  refine ⟨fr, c3, bk, ⟨?_, p1.f, p3.c, p3.b⟩, ?_⟩
  · rw [List.drop_take, e1, List.take_append, List.take_of_length_le (by rw [blk_len] at hf; omega)]
    have := p3.eq
    rw [blk_len] at this
    rw [this]; simp
  · rw [List.drop_take, e2, List.drop_append]
    have e4 : ((cutAt l a).take a).length = a := by simp; omega
    rw [List.drop_of_length_le (by omega), e4, Nat.sub_self, List.drop_zero, List.nil_append, e5, List.take_append, List.take_of_length_le (by omega), q3]
    simp
theorem cut_fix {l : List Cell} {a : Nat} (h : ∀ c, l[a]? = some c → c.1 ≠ 0) : cutAt l a = l := by
  unfold cutAt
  cases hc : l[a]? with
  | none => rfl
  | some c => simp only [h c hc, if_false]
theorem encL_sl (l : List Cell) (lo hi : Option Int) (M : Mem) : oSl lo hi (encL l) M = some (.val (encL (cutL l lo hi))) := by unfold encL; rw [oSl_tup, cutD_map]
theorem encL_add (x y : List Cell) (M : Mem) (h : x.length + y.length ≤ 16777216) : oAdd (encL x) (encL y) M = some (.val (encL (x ++ y))) := by
  unfold encL; rw [oAdd_tup, if_pos (by rw [line_le]; simpa using h), List.map_append]
theorem encL_len (l : List Cell) (M : Mem) : oLen [encL l] M = some (.val (.int l.length)) := by unfold encL; rw [oLen_tup, List.length_map]
theorem encL_ix (l : List Cell) (k : Nat) (h : k < l.length) (M : Mem) : oIx (encL l) (.int k) M = some (.val (encC l[k])) := by
  unfold encL; rw [oIx_tup, at_map, at_nat (by omega)]; simp [h]
end K03

namespace K01
open PySem PySem.Spec PyProof.Rows L2 CI
noncomputable def B__law_glyph : Sf :=
    (sCons (sIf (toB (cBin oEq (cBin oMod (cCB oInt (aCons (cVar 0) aNil)) (cInt (7))) (cInt (0))))
    (sRet (cInt (32)))
    sNil)
    (sCons (sIf (toB (cBin oEq (cBin oMod (cCB oInt (aCons (cVar 0) aNil)) (cInt (7))) (cInt (1))))
    (sRet (cBin oAdd (cInt (192)) (cBin oMod (cBin oDiv (cCB oInt (aCons (cVar 0) aNil)) (cInt (7))) (cInt (64)))))
    sNil)
    (sCons (sIf (toB (cBin oEq (cBin oMod (cCB oInt (aCons (cVar 0) aNil)) (cInt (7))) (cInt (2))))
    (sRet (cBin oAdd (cInt (160)) (cBin oMod (cBin oDiv (cCB oInt (aCons (cVar 0) aNil)) (cInt (7))) (cInt (32)))))
    sNil)
    (sRet (cBin oAdd (cInt (33)) (cBin oMod (cBin oDiv (cCB oInt (aCons (cVar 0) aNil)) (cInt (7))) (cInt (94))))))))
noncomputable def F__law_glyph : Fn := mkFnK 1 1 B__law_glyph
noncomputable def L__law_style_1 : Sf :=
    (sIf (toB (cBin oEq (cBin oMod (cBin oDiv (cCB oInt (aCons (cVar 0) aNil)) (cVar 3)) (cInt (2))) (cInt (1))))
    (sExpr (cBM "list" oAppend (cVar 1) (aCons (cVar 2) aNil)))
    sNil)
noncomputable def B__law_style : Sf :=
    (sCons (sSetM 1 (cLst aNil))
    (sCons (sIf (toB (cBin oGt (cBin oMod (cCB oInt (aCons (cVar 0) aNil)) (cInt (3))) (cInt (0))))
    (sCons (sForK [true, true, false, false] (iSeq (cTup (aCons (cTup (aCons (cInt (1)) (aCons (cInt (3)) aNil))) (aCons (cTup (aCons (cInt (4)) (aCons (cInt (6)) aNil))) (aCons (cTup (aCons (cInt (7)) (aCons (cInt (12)) aNil))) aNil))))) (gTp 2 (gsCons (gNm 2) (gsCons (gNm 3) gsNil))) L__law_style_1)
    (sCons (sIf (toB (cBin oGt (cBin oMod (cBin oDiv (cCB oInt (aCons (cVar 0) aNil)) (cInt (24))) (cInt (3))) (cInt (0))))
    (sExpr (cBM "list" oAppend (cVar 1) (aCons (cBin oAdd (cInt (30)) (cBin oMod (cBin oDiv (cCB oInt (aCons (cVar 0) aNil)) (cInt (72))) (cInt (8)))) aNil)))
    sNil)
    (sIf (toB (cBin oEq (cBin oMod (cBin oDiv (cCB oInt (aCons (cVar 0) aNil)) (cInt (24))) (cInt (3))) (cInt (2))))
    (sExpr (cBM "list" oAppend (cVar 1) (aCons (cBin oAdd (cInt (40)) (cBin oMod (cBin oDiv (cCB oInt (aCons (cVar 0) aNil)) (cInt (216))) (cInt (8)))) aNil)))
    sNil)))
    sNil)
    (sRet (cCB oTuple (aCons (cVar 1) aNil)))))
noncomputable def F__law_style : Fn := mkFnK 1 4 B__law_style
noncomputable def L__law_line_1 : Sf :=
    (sCons (sSet 4 (cCall F__law_glyph (aCons (cBin oIx (cVar 0) (cBin oMulA (cInt (2)) (cVar 3))) aNil)))
    (sCons (sSet 5 (cCall F__law_style (aCons (cBin oIx (cVar 0) (cBin oAdd (cBin oMulA (cInt (2)) (cVar 3)) (cInt (1)))) aNil)))
    (sIf (kAnd (toB (cBin oLt (cCB oLen (aCons (cVar 2) aNil)) (cVar 1))) (toB (cBin oLt (cVar 4) (cInt (192)))))
    (sExpr (cBM "list" oAppend (cVar 2) (aCons (cTup (aCons (cVar 4) (aCons (cIf (kAnd (toB (cBin oEq (cVar 4) (cInt (32)))) (toB (cBin oEq (cBin oMod (cCB oInt (aCons (cBin oIx (cVar 0) (cBin oMulA (cInt (2)) (cVar 3))) aNil)) (cInt (2))) (cInt (0))))) (cTup aNil) (cVar 5)) aNil))) aNil)))
    (sIf (toB (cBin oLt (cBin oAdd (cCB oLen (aCons (cVar 2) aNil)) (cInt (1))) (cVar 1)))
    (sCons (sExpr (cBM "list" oAppend (cVar 2) (aCons (cTup (aCons (cVar 4) (aCons (cVar 5) aNil))) aNil)))
    (sExpr (cBM "list" oAppend (cVar 2) (aCons (cTup (aCons (cInt (0)) (aCons (cVar 5) aNil))) aNil))))
    (sIf (toB (cBin oLt (cCB oLen (aCons (cVar 2) aNil)) (cVar 1)))
    (sExpr (cBM "list" oAppend (cVar 2) (aCons (cTup (aCons (cInt (32)) (aCons (cTup aNil) aNil))) aNil)))
    sNil)))))
noncomputable def B__law_line : Sf :=
    (sCons (sSetM 2 (cLst aNil))
    (sCons (sForK [true, true, true, false, false, false] (iRg1 (cVar 1)) (gNm 3) L__law_line_1)
    (sRet (cCB oTuple (aCons (cVar 2) aNil)))))
noncomputable def F__law_line : Fn := mkFnK 2 6 B__law_line
noncomputable def L__law_draws_1 : Sf :=
    (sIf (toB (cBin oGt (cVar 3) (cInt (0))))
    (sCons (sExpr (cBM "list" oAppend (cVar 2) (aCons (cBin oMod (cCB oInt (aCons (cVar 3) aNil)) (cInt (1000))) aNil)))
    (sSet 3 (cBin oDiv (cVar 3) (cInt (1000)))))
    sNil)
noncomputable def L__law_draws_2 : Sf :=
    (sCons (sSet 4 (cBin oMod (cCB oInt (aCons (cBin oAdd (cBin oAdd (cBin oMulA (cVar 4) (cInt (48271))) (cBin oMulA (cVar 5) (cInt (69621)))) (cInt (7))) aNil)) (cInt (2147483647))))
    (sIf (toB (cBin oLt (cCB oLen (aCons (cVar 2) aNil)) (cVar 1)))
    (sExpr (cBM "list" oAppend (cVar 2) (aCons (cBin oMod (cCB oInt (aCons (cBin oMod (cCB oInt (aCons (cBin oAdd (cBin oMulA (cVar 4) (cInt (69621))) (cInt (5))) aNil)) (cInt (2147483629))) aNil)) (cInt (1000))) aNil)))
    sNil))
noncomputable def B__law_draws : Sf :=
    (sCons (sSetM 2 (cLst aNil))
    (sCons (sSet 3 (cCB oInt (aCons (cVar 0) aNil)))
    (sCons (sIf (toB (cBin oGe (cVar 3) (cBin oPow (cInt (10)) (cInt (18)))))
    (sForK [true, true, true, true, false, false] (iRg1 (cVar 1)) (gNm 5) L__law_draws_1)
    sNil)
    (sCons (sSet 4 (cBin oMod (cCB oInt (aCons (cBin oAdd (cBin oMulA (cCB oInt (aCons (cVar 0) aNil)) (cInt (48271))) (cInt (11))) aNil)) (cInt (2147483647))))
    (sCons (sForK [false, true, true, false, true, false] (iRg1 (cVar 1)) (gNm 5) L__law_draws_2)
    (sRet (cVar 2)))))))
noncomputable def F__law_draws : Fn := mkFnK 2 6 B__law_draws
noncomputable def B__law_size : Sf :=
    (sCons (sSet 1 (cCall F__law_draws (aCons (cVar 0) (aCons (cInt (2)) aNil))))
    (sCons (sSet 2 (cBin oAdd (cInt (1)) (cBin oMod (cCB oInt (aCons (cBin oIx (cVar 1) (cInt (0))) aNil)) (cInt (4)))))
    (sCons (sSet 3 (cBin oAdd (cInt (2)) (cBin oMod (cCB oInt (aCons (cBin oIx (cVar 1) (cInt (1))) aNil)) (cInt (8)))))
    (sCons (sIf (toB (cBin oEq (cBin oMod (cCB oInt (aCons (cBin oIx (cVar 1) (cInt (0))) aNil)) (cInt (100))) (cInt (99))))
    (sSet 2 (cInt (12)))
    sNil)
    (sCons (sIf (toB (cBin oEq (cBin oMod (cCB oInt (aCons (cBin oIx (cVar 1) (cInt (1))) aNil)) (cInt (100))) (cInt (99))))
    (sSet 3 (cInt (40)))
    sNil)
    (sRet (cTup (aCons (cVar 2) (aCons (cVar 3) aNil)))))))))
noncomputable def F__law_size : Fn := mkFnK 1 4 B__law_size
noncomputable def L__law_marked_1 : Sf :=
    (sCons (sSet 4 (cIf (toB (cBin oGe (cBin oIx (cVar 3) (cInt (0))) (cInt (192)))) (cBin oAdd (cVar 2) (cInt (1))) (cInt (0))))
    (sCons (sIf (toB (cBin oEq (cBin oIx (cVar 3) (cInt (0))) (cInt (0))))
    (sSet 4 (cVar 2))
    sNil)
    (sExpr (cBM "list" oAppend (cVar 1) (aCons (cTup (aCons (cBin oIx (cVar 3) (cInt (0))) (aCons (cBin oIx (cVar 3) (cInt (1))) (aCons (cVar 4) aNil)))) aNil)))))
noncomputable def B__law_marked : Sf :=
    (sCons (sSetM 1 (cLst aNil))
    (sCons (sForK [false, true, false, false, false] (iEnT (cVar 0)) (gTp 2 (gsCons (gNm 2) (gsCons (gNm 3) gsNil))) L__law_marked_1)
    (sRet (cVar 1))))
noncomputable def F__law_marked : Fn := mkFnK 1 5 B__law_marked
noncomputable def B_cut_at : Sf :=
    (sCons (sIf (kAnd (toB (cBin oLt (cVar 1) (cCB oLen (aCons (cVar 0) aNil)))) (toB (cBin oEq (cBin oIx (cBin oIx (cVar 0) (cVar 1)) (cInt (0))) (cInt (0)))))
    (sRet (cBin oAdd (cBin oAdd (cSl (cVar 0) sNone (sSome (cBin oSub (cVar 1) (cInt (1))))) (cTup (aCons (cVal (.tup [(.int (32)), (.tup [])])) (aCons (cVal (.tup [(.int (32)), (.tup [])])) aNil)))) (cSl (cVar 0) (sSome (cBin oAdd (cVar 1) (cInt (1)))) sNone)))
    sNil)
    (sRet (cVar 0)))
noncomputable def F_cut_at : Fn := mkFnK 2 2 B_cut_at
noncomputable def B_kind_of : Sf :=
    (sCons (sIf (kOr (toB (cBin oLt (cVar 0) (cInt (32)))) (toB (cChain oLe oLe (cInt (127)) (cVar 0) (cInt (159)))))
    (sRet (cStr "control"))
    sNil)
    (sCons (sIf (toB (cBin oGe (cVar 0) (cInt (192))))
    (sRet (cStr "wide"))
    sNil)
    (sRet (cStr "narrow"))))
noncomputable def F_kind_of : Fn := mkFnK 1 1 B_kind_of
noncomputable def B_width_of : Sf :=
    (sCons (sSet 1 (cCall F_kind_of (aCons (cVar 0) aNil)))
    (sCons (sIf (toB (cBin oEq (cVar 1) (cStr "control")))
    (sRet (cInt (0)))
    sNil)
    (sCons (sIf (toB (cBin oEq (cVar 1) (cStr "wide")))
    (sRet (cInt (2)))
    sNil)
    (sRet (cInt (1))))))
noncomputable def F_width_of : Fn := mkFnK 1 2 B_width_of
noncomputable def B_put : Sf :=
    (sCons (sSet 4 (cTup (aCons (cTup (aCons (cVar 2) (aCons (cVar 3) aNil))) aNil)))
    (sCons (sIf (toB (cBin oEq (cCall F_width_of (aCons (cVar 2) aNil)) (cInt (2))))
    (sSet 4 (cBin oAdd (cVar 4) (cTup (aCons (cTup (aCons (cInt (0)) (aCons (cVar 3) aNil))) aNil))))
    sNil)
    (sCons (sSet 0 (cCall F_cut_at (aCons (cCall F_cut_at (aCons (cVar 0) (aCons (cVar 1) aNil))) (aCons (cBin oAdd (cVar 1) (cCB oLen (aCons (cVar 4) aNil))) aNil))))
    (sRet (cBin oAdd (cBin oAdd (cSl (cVar 0) sNone (sSome (cVar 1))) (cVar 4)) (cSl (cVar 0) (sSome (cBin oAdd (cVar 1) (cCB oLen (aCons (cVar 4) aNil)))) sNone))))))
noncomputable def F_put : Fn := mkFnK 4 5 B_put
noncomputable def L__law_whole_1 : Sf :=
    (sCons (sSet 4 (cBin oEq (cBin oIx (cVar 3) (cInt (2))) (cInt (0))))
    (sCons (sIf (toB (cBin oGe (cBin oIx (cVar 3) (cInt (0))) (cInt (192))))
    (sSet 4 (cAnd (cBin oLt (cBin oAdd (cVar 2) (cInt (1))) (cCB oLen (aCons (cVar 0) aNil))) (cBin oEq (cBin oIx (cVar 0) (cBin oAdd (cVar 2) (cInt (1)))) (cTup (aCons (cInt (0)) (aCons (cBin oIx (cVar 3) (cInt (1))) (aCons (cBin oIx (cVar 3) (cInt (2))) aNil)))))))
    sNil)
    (sCons (sIf (toB (cBin oEq (cBin oIx (cVar 3) (cInt (0))) (cInt (0))))
    (sSet 4 (cAnd (cBin oGt (cVar 2) (cInt (0))) (cAnd (cBin oGe (cBin oIx (cBin oIx (cVar 0) (cBin oSub (cVar 2) (cInt (1)))) (cInt (0))) (cInt (192))) (cBin oEq (cBin oIx (cBin oIx (cVar 0) (cBin oSub (cVar 2) (cInt (1)))) (cInt (2))) (cBin oIx (cVar 3) (cInt (2)))))))
    sNil)
    (sExpr (cBM "list" oAppend (cVar 1) (aCons (cIf (toTr (cVar 4)) (cSl (cVar 3) sNone (sSome (cInt (2)))) (cTup (aCons (cInt (32)) (aCons (cTup aNil) aNil)))) aNil))))))
noncomputable def B__law_whole : Sf :=
    (sCons (sSetM 1 (cLst aNil))
    (sCons (sForK [true, true, false, false, false] (iEnT (cVar 0)) (gTp 2 (gsCons (gNm 2) (gsCons (gNm 3) gsNil))) L__law_whole_1)
    (sRet (cCB oTuple (aCons (cVar 1) aNil)))))
noncomputable def F__law_whole : Fn := mkFnK 1 5 B__law_whole
noncomputable def B_blank_line : Sf :=
    (sRet (cBin oMulA (cTup (aCons (cVal (.tup [(.int (32)), (.tup [])])) aNil)) (cVar 0)))
noncomputable def F_blank_line : Fn := mkFnK 1 1 B_blank_line
noncomputable def B_erased : Sf :=
    (sCons (sIf (toB (cBin oLe (cVar 2) (cVar 1)))
    (sRet (cVar 0))
    sNil)
    (sCons (sSet 0 (cCall F_cut_at (aCons (cCall F_cut_at (aCons (cVar 0) (aCons (cVar 1) aNil))) (aCons (cVar 2) aNil))))
    (sRet (cBin oAdd (cBin oAdd (cSl (cVar 0) sNone (sSome (cVar 1))) (cCall F_blank_line (aCons (cBin oSub (cVar 2) (cVar 1)) aNil))) (cSl (cVar 0) (sSome (cVar 2)) sNone)))))
noncomputable def F_erased : Fn := mkFnK 3 3 B_erased
noncomputable def B_inserted : Sf :=
    (sCons (sSet 2 (cCB oMin2 (aCons (cVar 2) (aCons (cBin oSub (cCB oLen (aCons (cVar 0) aNil)) (cVar 1)) aNil))))
    (sCons (sIf (toB (cBin oLe (cVar 2) (cInt (0))))
    (sRet (cVar 0))
    sNil)
    (sCons (sSet 0 (cCall F_cut_at (aCons (cCall F_cut_at (aCons (cVar 0) (aCons (cVar 1) aNil))) (aCons (cBin oSub (cCB oLen (aCons (cVar 0) aNil)) (cVar 2)) aNil))))
    (sRet (cBin oAdd (cBin oAdd (cSl (cVar 0) sNone (sSome (cVar 1))) (cCall F_blank_line (aCons (cVar 2) aNil))) (cSl (cVar 0) (sSome (cVar 1)) (sSome (cBin oSub (cCB oLen (aCons (cVar 0) aNil)) (cVar 2)))))))))
noncomputable def F_inserted : Fn := mkFnK 3 3 B_inserted
noncomputable def B_deleted : Sf :=
    (sCons (sSet 2 (cCB oMin2 (aCons (cVar 2) (aCons (cBin oSub (cCB oLen (aCons (cVar 0) aNil)) (cVar 1)) aNil))))
    (sCons (sIf (toB (cBin oLe (cVar 2) (cInt (0))))
    (sRet (cVar 0))
    sNil)
    (sCons (sSet 0 (cCall F_cut_at (aCons (cCall F_cut_at (aCons (cVar 0) (aCons (cVar 1) aNil))) (aCons (cBin oAdd (cVar 1) (cVar 2)) aNil))))
    (sRet (cBin oAdd (cBin oAdd (cSl (cVar 0) sNone (sSome (cVar 1))) (cSl (cVar 0) (sSome (cBin oAdd (cVar 1) (cVar 2))) sNone)) (cCall F_blank_line (aCons (cVar 2) aNil)))))))
noncomputable def F_deleted : Fn := mkFnK 3 3 B_deleted
noncomputable def B_fitted : Sf :=
    (sCons (sIf (toB (cBin oGe (cVar 1) (cCB oLen (aCons (cVar 0) aNil))))
    (sRet (cBin oAdd (cVar 0) (cCall F_blank_line (aCons (cBin oSub (cVar 1) (cCB oLen (aCons (cVar 0) aNil))) aNil))))
    sNil)
    (sRet (cSl (cCall F_cut_at (aCons (cVar 0) (aCons (cVar 1) aNil))) sNone (sSome (cVar 1)))))
noncomputable def F_fitted : Fn := mkFnK 2 2 B_fitted
noncomputable def B__law_changed : Sf :=
    (sCons (sSet 2 (cCB oLen (aCons (cVar 0) aNil)))
    (sCons (sSet 3 (cCall F__law_marked (aCons (cVar 0) aNil)))
    (sCons (sSet 4 (cBin oMod (cBin oIx (cVar 1) (cInt (1))) (cVar 2)))
    (sCons (sSet 5 (cBin oMod (cBin oIx (cVar 1) (cInt (2))) (cBin oAdd (cVar 2) (cInt (3)))))
    (sCons (sSet 6 (cBin oMulA (cLst (aCons (cTup (aCons (cInt (32)) (aCons (cTup aNil) (aCons (cInt (0)) aNil)))) aNil)) (cVar 2)))
    (sCons (sSet 7 (cCall F__law_glyph (aCons (cBin oIx (cVar 1) (cInt (3))) aNil)))
    (sCons (sSet 8 (cCall F__law_style (aCons (cBin oIx (cVar 1) (cInt (4))) aNil)))
    (sCons (sSet 9 (cBin oMod (cBin oIx (cVar 1) (cInt (0))) (cInt (6))))
    (sCons (sIf (kAnd (toB (cBin oEq (cVar 9) (cInt (0)))) (kOr (toB (cBin oLt (cVar 7) (cInt (192)))) (toB (cBin oLt (cBin oAdd (cVar 4) (cInt (1))) (cVar 2)))))
    (sCons (sSet 13 (cIf (toB (cBin oLt (cVar 7) (cInt (192)))) (cLst (aCons (cTup (aCons (cVar 7) (aCons (cVar 8) (aCons (cInt (0)) aNil)))) aNil)) (cLst (aCons (cTup (aCons (cVar 7) (aCons (cVar 8) (aCons (cBin oAdd (cVar 2) (cInt (1))) aNil)))) (aCons (cTup (aCons (cInt (0)) (aCons (cVar 8) (aCons (cBin oAdd (cVar 2) (cInt (1))) aNil)))) aNil)))))
    (sRet (cTup (aCons (cCall F_put (aCons (cVar 0) (aCons (cVar 4) (aCons (cVar 7) (aCons (cVar 8) aNil))))) (aCons (cCall F__law_whole (aCons (cBin oAdd (cBin oAdd (cSl (cVar 3) sNone (sSome (cVar 4))) (cVar 13)) (cSl (cVar 3) (sSome (cBin oAdd (cVar 4) (cCB oLen (aCons (cVar 13) aNil)))) sNone)) aNil)) aNil)))))
    sNil)
    (sCons (sSet 10 (cCB oMin2 (aCons (cVar 2) (aCons (cVar 5) aNil))))
    (sCons (sIf (kAnd (toB (cBin oEq (cVar 9) (cInt (1)))) (toB (cBin oGt (cVar 10) (cVar 4))))
    (sRet (cTup (aCons (cCall F_erased (aCons (cVar 0) (aCons (cVar 4) (aCons (cVar 10) aNil)))) (aCons (cCall F__law_whole (aCons (cBin oAdd (cBin oAdd (cSl (cVar 3) sNone (sSome (cVar 4))) (cSl (cVar 6) sNone (sSome (cBin oSub (cVar 10) (cVar 4))))) (cSl (cVar 3) (sSome (cVar 10)) sNone)) aNil)) aNil))))
    sNil)
    (sCons (sIf (toB (cBin oEq (cVar 9) (cInt (1))))
    (sRet (cTup (aCons (cCall F_erased (aCons (cVar 0) (aCons (cVar 4) (aCons (cVar 10) aNil)))) (aCons (cVar 0) aNil))))
    sNil)
    (sCons (sSet 11 (cCB oMin2 (aCons (cVar 5) (aCons (cBin oSub (cVar 2) (cVar 4)) aNil))))
    (sCons (sIf (toB (cBin oEq (cVar 9) (cInt (2))))
    (sRet (cTup (aCons (cCall F_inserted (aCons (cVar 0) (aCons (cVar 4) (aCons (cVar 5) aNil)))) (aCons (cCall F__law_whole (aCons (cSl (cBin oAdd (cBin oAdd (cSl (cVar 3) sNone (sSome (cVar 4))) (cSl (cVar 6) sNone (sSome (cVar 11)))) (cSl (cVar 3) (sSome (cVar 4)) sNone)) sNone (sSome (cVar 2))) aNil)) aNil))))
    sNil)
    (sCons (sIf (toB (cBin oEq (cVar 9) (cInt (3))))
    (sRet (cTup (aCons (cCall F_deleted (aCons (cVar 0) (aCons (cVar 4) (aCons (cVar 5) aNil)))) (aCons (cCall F__law_whole (aCons (cBin oAdd (cBin oAdd (cSl (cVar 3) sNone (sSome (cVar 4))) (cSl (cVar 3) (sSome (cBin oAdd (cVar 4) (cVar 11))) sNone)) (cSl (cVar 6) sNone (sSome (cVar 11)))) aNil)) aNil))))
    sNil)
    (sCons (sIf (toB (cBin oEq (cVar 9) (cInt (4))))
    (sCons (sSet 14 (cBin oAdd (cInt (2)) (cBin oMod (cBin oIx (cVar 1) (cInt (5))) (cInt (9)))))
    (sRet (cTup (aCons (cCall F_fitted (aCons (cVar 0) (aCons (cVar 14) aNil))) (aCons (cCall F__law_whole (aCons (cSl (cBin oAdd (cVar 3) (cBin oMulA (cLst (aCons (cTup (aCons (cInt (32)) (aCons (cTup aNil) (aCons (cInt (0)) aNil)))) aNil)) (cVar 14))) sNone (sSome (cVar 14))) aNil)) aNil)))))
    sNil)
    (sCons (sSetM 12 (cCB oList (aCons (cVar 0) aNil)))
    (sCons (sIf (toB (cBin oEq (cBin oIx (cBin oIx (cVar 0) (cVar 4)) (cInt (0))) (cInt (0))))
    (sCons (sAsg (gIx (cVar 12) (cBin oSub (cVar 4) (cInt (1)))) (cTup (aCons (cInt (32)) (aCons (cTup aNil) aNil))))
    (sAsg (gIx (cVar 12) (cVar 4)) (cTup (aCons (cInt (32)) (aCons (cTup aNil) aNil)))))
    sNil)
    (sRet (cTup (aCons (cCall F_cut_at (aCons (cVar 0) (aCons (cVar 4) aNil))) (aCons (cCB oTuple (aCons (cVar 12) aNil)) aNil))))))))))))))))))))))
noncomputable def F__law_changed : Fn := mkFnK 2 15 B__law_changed
noncomputable def Q_line_text_1 : Ef :=
    (cLc (iSeq (cVar 0)) [2, 3] (gTp 2 (gsCons (gNm 2) (gsCons (gNm 3) gsNil))) (toB (cBin oNe (cVar 2) (cInt (0)))) (cVar 2))
noncomputable def L_line_text_1 : Sf :=
    (sExpr (cBM "list" oPop (cVar 1) aNil))
noncomputable def T_line_text_1 : Tf :=
    (kAnd (toTr (cVar 1)) (toB (cBin oEq (cBin oIx (cVar 1) (cNeg (cInt (1)))) (cInt (32)))))
noncomputable def B_line_text : Sf :=
    (sCons (sSetM 1 Q_line_text_1)
    (sCons (sWhileK [false, true, false, false] 100000 T_line_text_1 L_line_text_1)
    (sRet (cVar 1))))
noncomputable def F_line_text : Fn := mkFnK 1 4 B_line_text
noncomputable def B__law_cell : Sf :=
    (sCons (sIf (toB (cBin oLt (cVar 1) (cCB oLen (aCons (cVar 0) aNil))))
    (sRet (cCB oInt (aCons (cBin oIx (cVar 0) (cVar 1)) aNil)))
    sNil)
    (sRet (cInt (0))))
noncomputable def F__law_cell : Fn := mkFnK 2 2 B__law_cell
noncomputable def B_kind_of_number : Sf :=
    (sCons (sIf (toB (cBin oEq (cVar 0) (cInt (1))))
    (sRet (cStr "bold"))
    sNil)
    (sCons (sIf (toB (cBin oEq (cVar 0) (cInt (4))))
    (sRet (cStr "underlined"))
    sNil)
    (sCons (sIf (toB (cBin oEq (cVar 0) (cInt (7))))
    (sRet (cStr "inverse"))
    sNil)
    (sCons (sIf (toB (cChain oLe oLe (cInt (30)) (cVar 0) (cInt (37))))
    (sRet (cStr "foreground"))
    sNil)
    (sCons (sIf (toB (cChain oLe oLe (cInt (40)) (cVar 0) (cInt (47))))
    (sRet (cStr "background"))
    sNil)
    (sRet (cStr "")))))))
noncomputable def F_kind_of_number : Fn := mkFnK 1 1 B_kind_of_number
noncomputable def L_is_style_1 : Sf :=
    (sCons (sSet 4 (cCall F_kind_of_number (aCons (cVar 3) aNil)))
    (sCons (sIf (kOr (toB (cBin oEq (cVar 4) (cStr ""))) (kOr (toB (cBin (oIn false) (cVar 4) (cVar 1))) (toB (cBin oLe (cVar 3) (cVar 2)))))
    (sRet (cBl false))
    sNil)
    (sCons (sExpr (cBM "list" oAppend (cVar 1) (aCons (cVar 4) aNil)))
    (sSet 2 (cVar 3)))))
noncomputable def B_is_style : Sf :=
    (sCons (sSetM 1 (cLst aNil))
    (sCons (sSet 2 (cInt (0)))
    (sCons (sForK [false, true, true, false, false] (iSeq (cVar 0)) (gNm 3) L_is_style_1)
    (sRet (cBl true)))))
noncomputable def F_is_style : Fn := mkFnK 1 5 B_is_style
noncomputable def L_is_line_1 : Sf :=
    (sCons (sIf (kNot (toTr (cCall F_is_style (aCons (cVar 3) aNil))))
    (sRet (cBl false))
    sNil)
    (sIf (toB (cBin (oIs true) (cVar 1) cNon))
    (sCons (sIf (kOr (toB (cBin oNe (cVar 2) (cInt (0)))) (toB (cBin oNe (cVar 3) (cVar 1))))
    (sRet (cBl false))
    sNil)
    (sSet 1 cNon))
    (sIf (kOr (toB (cBin oEq (cVar 2) (cInt (0)))) (toB (cBin oEq (cCall F_kind_of (aCons (cVar 2) aNil)) (cStr "control"))))
    (sRet (cBl false))
    (sIf (toB (cBin oEq (cCall F_kind_of (aCons (cVar 2) aNil)) (cStr "wide")))
    (sSet 1 (cVar 3))
    sNil))))
noncomputable def B_is_line : Sf :=
    (sCons (sSet 1 cNon)
    (sCons (sForK [false, true, false, false] (iSeq (cVar 0)) (gTp 2 (gsCons (gNm 2) (gsCons (gNm 3) gsNil))) L_is_line_1)
    (sRet (cBin (oIs false) (cVar 1) cNon))))
noncomputable def F_is_line : Fn := mkFnK 1 4 B_is_line
noncomputable def L_law_1 : Sf :=
    (sCons (sSet 6 (cCB oTuple (aCons (cVar 2) aNil)))
    (sCons (sAsg (gTp 2 (gsCons (gNm 7) (gsCons (gNm 8) gsNil))) (cCall F__law_changed (aCons (cVar 2) (aCons (cCall F__law_draws (aCons (cVar 3) (aCons (cInt (6)) aNil))) aNil))))
    (sCons (sIf (kOr (toB (cBin oNe (cVar 7) (cVar 8))) (kOr (kNot (toTr (cIsI "tuple" (cVar 7)))) (kOr (toB (cBin oNe (cVar 2) (cVar 6))) (kNot (toTr (cCall F_is_line (aCons (cVar 7) aNil)))))))
    (sRet (cBl false))
    sNil)
    (sSet 2 (cVar 7)))))
noncomputable def Q_law_1 : Ef :=
    (cLc (iSeq (cVar 2)) [3] (gNm 3) (toB (cBin oNe (cBin oIx (cVar 3) (cInt (0))) (cInt (0)))) (cBin oIx (cVar 3) (cInt (0))))
noncomputable def L_law_2 : Sf :=
    (sIf (toB (cBin oEq (cBin oIx (cVar 4) (cNeg (cInt (1)))) (cInt (32))))
    (sSet 4 (cSl (cVar 4) sNone (sSome (cNeg (cInt (1))))))
    sNil)
noncomputable def B_law : Sf :=
    (sCons (sSet 1 (cBin oIx (cCall F__law_size (aCons (cCall F__law_cell (aCons (cVar 0) (aCons (cInt (0)) aNil))) aNil)) (cInt (1))))
    (sCons (sSet 2 (cCall F__law_line (aCons (cCall F__law_draws (aCons (cCall F__law_cell (aCons (cVar 0) (aCons (cInt (1)) aNil))) (aCons (cBin oMulA (cInt (2)) (cVar 1)) aNil))) (aCons (cVar 1) aNil))))
    (sCons (sIf (kOr (toB (cBin oNe (cCall F_blank_line (aCons (cVar 1) aNil)) (cBin oMulA (cTup (aCons (cTup (aCons (cInt (32)) (aCons (cTup aNil) aNil))) aNil)) (cVar 1)))) (toB (cBin oNe (cCall F_cut_at (aCons (cVar 2) (aCons (cVar 1) aNil))) (cVar 2))))
    (sRet (cBl false))
    sNil)
    (sCons (sForK [false, false, true, false, false, false, false, false, false] (iSeq (cSl (cVar 0) (sSome (cInt (2))) sNone)) (gNm 3) L_law_1)
    (sCons (sSet 4 Q_law_1)
    (sCons (sForK [false, false, true, false, true, false, false, false, false] (iRg1 (cCB oLen (aCons (cVar 4) aNil))) (gNm 5) L_law_2)
    (sRet (cBin oEq (cCall F_line_text (aCons (cVar 2) aNil)) (cVar 4)))))))))
noncomputable def F_law : Fn := mkFnK 1 9 B_law
end K01
namespace K01
open PySem PySem.Spec PyProof.Rows L2 CI
open K03 (Cell encC encL bl OkL OkSt Tri mkA isW whA cutAt encC_mk nl_encL nl_encC isGl)
theorem e_cell : F__law_cell = K03.F__law_cell := rfl
theorem e_draws : F__law_draws = K03.F__law_draws := rfl
theorem e_size : F__law_size = K03.F__law_size := rfl
theorem e_glyph : F__law_glyph = K03.F__law_glyph := rfl
theorem e_style : F__law_style = K03.F__law_style := rfl
theorem e_line : F__law_line = K03.F__law_line := rfl
theorem e_cut : F_cut_at = K03.F_cut_at := rfl
theorem e_blank : F_blank_line = K03.F_blank_line := rfl
theorem e_fit : F_fitted = K03.F_fitted := rfl
theorem e_kind : F_kind_of = K03.F_kind_of := rfl
theorem e_isline : F_is_line = K03.F_is_line := rfl
theorem e_text : F_line_text = K03.F_line_text := rfl
def wid (c : Int) : Nat := if 192 ≤ c then 2 else 1
theorem width_eq (c : Int) (h : isGl c) (M : Mem) : F_width_of [.int c] M = some (.val (.int (wid c)), M) := by
  have k := fun M => K03.kindC_eq c M
  rw [← e_kind] at k
  unfold F_width_of B_width_of wid
  unfold isGl at h
  rw [mkFnK_eq]
  by_cases h1 : 192 ≤ c
  · have e : K03.kindC c = "wide" := by unfold K03.kindC; rw [if_neg (by omega), if_pos h1]
    rw [e] at k
    simp +decide -implicitDefEqProofs [k, h1]
  · have e : K03.kindC c = "narrow" := by unfold K03.kindC; rw [if_neg (by omega), if_neg h1]
    rw [e] at k
    simp +decide -implicitDefEqProofs [k, h1]
def newC (c : Int) (st : List Int) : List Cell := if 192 ≤ c then [(c, st), (0, st)] else [(c, st)]
theorem newC_len (c : Int) (st : List Int) : (newC c st).length = wid c := by unfold newC wid; split <;> rfl
def putN (l : List Cell) (a : Nat) (c : Int) (st : List Int) : List Cell := (cutAt l a).take a ++ newC c st ++ (cutAt l (a + wid c)).drop (a + wid c)
theorem put_eq (l : List Cell) (a : Nat) (c : Int) (st : List Int) (h : OkL l) (hl : l.length ≤ 1000) (ha : a + wid c ≤ l.length) (hc : isGl c) (M : Mem) :
    F_put [encL l, .int a, .int c, .tup (st.map .int)] M = some (.val (encL (putN l a c st)), M) := by
  have w := fun M => width_eq c hc M
  have c1 := fun M => K03.cut_eq l a h hl M
  have l1 := K03.cutAt_len l a h
  have c2 := fun M => K03.cut_eq (cutAt l a) (a + wid c) (K03.cutAt_ok l a h).1 (by omega) M
  rw [← e_cut] at c1 c2
  have hw : 0 < wid c := by unfold wid; split <;> omega
  have t := K03.cut2_take h a (a + wid c) (by omega)
  have d := K03.cut2_drop h a (a + wid c) (by omega)
  have l2 := K03.cutAt_len (cutAt l a) (a + wid c) (K03.cutAt_ok l a h).1
  unfold putN
  rw [← t, ← d]
  generalize cutAt (cutAt l a) (a + wid c) = l3 at *
  have e1 : ∀ xs : List Cell, cutL xs none (some (a : Int)) = xs.take a := fun xs => by rw [cutL_hi (by omega)]; rfl
  unfold F_put B_put newC
  unfold wid at *
  rw [mkFnK_eq]
  have hm : min a l3.length + 1 ≤ 16777216 := by omega
  by_cases h1 : 192 ≤ c
  · simp only [h1, if_true] at *
    have e2 : ∀ xs : List Cell, cutL xs (some ((a : Int) + 2)) none = xs.drop (a + 2) := fun xs => by rw [cutL_lo (by omega)]; rfl
    have e3 : ((a : Int) + 2) = ((a + 2 : Nat) : Int) := by omega
    have c2' : ∀ M, F_cut_at [encL (cutAt l a), .int ((a : Int) + 2)] M = some (.val (encL l3), M) := fun M => by rw [e3]; exact c2 M
    have hm2 : min a l3.length + 2 ≤ 16777216 := by omega
    have hm3 : min a l3.length + 2 + (l3.length - (a + 2)) ≤ 16777216 := by omega
    simp -implicitDefEqProofs [w, c1, c2', h1]
    unfold encL
    simp -implicitDefEqProofs [e1, e2, hm, hm2, hm3, encC]
  · simp only [h1, if_false] at *
    have e2 : ∀ xs : List Cell, cutL xs (some ((a : Int) + 1)) none = xs.drop (a + 1) := fun xs => by rw [cutL_lo (by omega)]; rfl
    have e3 : ((a : Int) + 1) = ((a + 1 : Nat) : Int) := by omega
    have c2' : ∀ M, F_cut_at [encL (cutAt l a), .int ((a : Int) + 1)] M = some (.val (encL l3), M) := fun M => by rw [e3]; exact c2 M
    have hm3 : min a l3.length + 1 + (l3.length - (a + 1)) ≤ 16777216 := by omega
    simp -implicitDefEqProofs [w, c1, c2', h1]
    unfold encL
    simp -implicitDefEqProofs [e1, e2, hm, hm3, encC]
end K01

namespace K01
open PySem PySem.Spec PyProof.Rows L2 CI
open K03 (Cell encC encL bl OkL OkSt Tri mkA isW whA cutAt encC_mk nl_encL nl_encC isGl)
def erN (l : List Cell) (a b : Nat) : List Cell := if b ≤ a then l else (cutAt l a).take a ++ List.replicate (b - a) bl ++ (cutAt l b).drop b
theorem er_eq (l : List Cell) (a b : Nat) (h : OkL l) (hl : l.length ≤ 1000) (hb : b ≤ l.length) (M : Mem) :
    F_erased [encL l, .int a, .int b] M = some (.val (encL (erN l a b)), M) := by
  unfold erN F_erased B_erased
  rw [mkFnK_eq]
  by_cases hab : b ≤ a
  · simp -implicitDefEqProofs [hab]
  · have c1 := fun M => K03.cut_eq l a h hl M
    have l1 := K03.cutAt_len l a h
    have c2 := fun M => K03.cut_eq (cutAt l a) b (K03.cutAt_ok l a h).1 (by omega) M
    rw [← e_cut] at c1 c2
    have t := K03.cut2_take h a b (by omega)
    have d := K03.cut2_drop h a b (by omega)
    have l2 := K03.cutAt_len (cutAt l a) b (K03.cutAt_ok l a h).1
    rw [← t, ← d]
    generalize cutAt (cutAt l a) b = l3 at *
    have bq := fun M => K03.blank_eq ((b : Int) - a) (by omega) (by omega) M
    rw [← e_blank] at bq
    have hn : ((b : Int) - a).toNat = b - a := by omega
    rw [hn] at bq
    have e1 : ∀ xs : List Cell, cutL xs none (some (a : Int)) = xs.take a := fun xs => by rw [cutL_hi (by omega)]; rfl
    have e2 : ∀ xs : List Cell, cutL xs (some (b : Int)) none = xs.drop b := fun xs => by rw [cutL_lo (by omega)]; rfl
    have a1 := fun M => K03.encL_add (l3.take a) (List.replicate (b - a) bl) M (by simp; omega)
    have a2 := fun M => K03.encL_add (l3.take a ++ List.replicate (b - a) bl) (l3.drop b) M (by simp; omega)
    simp -implicitDefEqProofs [hab, c1, c2, bq, K03.encL_sl, e1, e2, a1, a2]
def inN (l : List Cell) (a m : Nat) : List Cell := if min m (l.length - a) = 0 then l else
  (cutAt l a).take a ++ List.replicate (min m (l.length - a)) bl ++ ((cutAt (cutAt l a) (l.length - min m (l.length - a))).take (l.length - min m (l.length - a))).drop a
theorem in_eq (l : List Cell) (a m : Nat) (h : OkL l) (hl : l.length ≤ 1000) (ha : a ≤ l.length) (M : Mem) :
    F_inserted [encL l, .int a, .int m] M = some (.val (encL (inN l a m)), M) := by
  unfold inN F_inserted B_inserted
  rw [mkFnK_eq]
  obtain ⟨k, hk⟩ : ∃ k, k = min m (l.length - a) := ⟨_, rfl⟩
  have E0 : ∀ M, oLen [encL l] M = some (.val (.int l.length)) := fun M => by unfold encL; rw [oLen_tup, List.length_map]
  have hmin : min (m : Int) ((l.length : Int) - a) = (k : Int) := by omega
  rw [← hk]
  by_cases hk0 : k = 0
  · have hk1 : (k : Int) = 0 := by omega
    simp -implicitDefEqProofs [E0, hmin, hk0]
  · have c1 := fun M => K03.cut_eq l a h hl M
    have l1 := K03.cutAt_len l a h
    have ok1 := (K03.cutAt_ok l a h).1
    have c2 := fun M => K03.cut_eq (cutAt l a) (l.length - k) ok1 (by omega) M
    have l2 := K03.cutAt_len (cutAt l a) (l.length - k) ok1
    rw [← e_cut] at c1 c2
    have hle : a ≤ l.length - k := by omega
    have t : (cutAt l a).take a = (cutAt (cutAt l a) (l.length - k)).take a := by
      by_cases q : a < l.length - k
      · exact (K03.cut2_take h a _ q).symm
      · have q2 : l.length - k = a := by omega
        rw [q2]
        have := (K03.cutAt_ok l a h).2
        have e : cutAt (cutAt l a) a = cutAt l a := K03.cut_fix this
        rw [e]
    rw [t]
    generalize cutAt (cutAt l a) (l.length - k) = l3 at *
    have bq := fun M => K03.blank_eq (k : Int) (by omega) (by omega) M
    rw [← e_blank] at bq
    have hn : ((k : Int)).toNat = k := by omega
    rw [hn] at bq
    have hpos : ¬ (k : Int) ≤ 0 := by omega
    have e3 : (l.length : Int) - k = ((l.length - k : Nat) : Int) := by omega
    have e1 : ∀ xs : List Cell, cutL xs none (some (a : Int)) = xs.take a := fun xs => by rw [cutL_hi (by omega)]; rfl
    have e2 : ∀ xs : List Cell, cutL xs (some (a : Int)) (some ((l.length - k : Nat) : Int)) = (xs.take (l.length - k)).drop a := fun xs => by rw [cutL_mid (by omega) (by omega)]; rfl
    have E1 : ∀ M, oLen [encL (cutAt l a)] M = some (.val (.int l.length)) := fun M => by unfold encL; rw [oLen_tup, List.length_map, l1]
    have E2 : ∀ M, oLen [encL l3] M = some (.val (.int l.length)) := fun M => by unfold encL; rw [oLen_tup, List.length_map, l2, l1]
    have E3 : ∀ M, oSl none (some (a : Int)) (encL l3) M = some (.val (encL (l3.take a))) := fun M => by unfold encL; rw [oSl_tup, cutD_map, e1]
    have E4 : ∀ M, oSl (some (a : Int)) (some ((l.length - k : Nat) : Int)) (encL l3) M = some (.val (encL ((l3.take (l.length - k)).drop a))) := fun M => by unfold encL; rw [oSl_tup, cutD_map, e2]
    have A1 : ∀ (x y : List Cell) M, x.length + y.length ≤ 16777216 → oAdd (encL x) (encL y) M = some (.val (encL (x ++ y))) := fun x y M hh => by
      unfold encL; rw [oAdd_tup, if_pos (by rw [line_le]; simpa using hh), List.map_append]
    have a1 := fun M => A1 (l3.take a) (List.replicate k bl) M (by simp; omega)
    have a2 := fun M => A1 (l3.take a ++ List.replicate k bl) ((l3.take (l.length - k)).drop a) M (by simp; omega)
    simp -implicitDefEqProofs [E0, hmin, hk0, hpos, c1, E1, e3, c2, bq, E2, E3, E4, a1, a2]
def deN (l : List Cell) (a m : Nat) : List Cell := if min m (l.length - a) = 0 then l else
  (cutAt l a).take a ++ (cutAt l (a + min m (l.length - a))).drop (a + min m (l.length - a)) ++ List.replicate (min m (l.length - a)) bl
theorem de_eq (l : List Cell) (a m : Nat) (h : OkL l) (hl : l.length ≤ 1000) (ha : a ≤ l.length) (M : Mem) :
    F_deleted [encL l, .int a, .int m] M = some (.val (encL (deN l a m)), M) := by
  unfold deN F_deleted B_deleted
  rw [mkFnK_eq]
  obtain ⟨k, hk⟩ : ∃ k, k = min m (l.length - a) := ⟨_, rfl⟩
  have E0 : ∀ M, oLen [encL l] M = some (.val (.int l.length)) := fun M => by unfold encL; rw [oLen_tup, List.length_map]
  have hmin : min (m : Int) ((l.length : Int) - a) = (k : Int) := by omega
  rw [← hk]
  by_cases hk0 : k = 0
  · have hk1 : (k : Int) = 0 := by omega
    simp -implicitDefEqProofs [E0, hmin, hk0]
  · have c1 := fun M => K03.cut_eq l a h hl M
    have l1 := K03.cutAt_len l a h
    have ok1 := (K03.cutAt_ok l a h).1
    have c2 := fun M => K03.cut_eq (cutAt l a) (a + k) ok1 (by omega) M
    have l2 := K03.cutAt_len (cutAt l a) (a + k) ok1
    rw [← e_cut] at c1 c2
    have t := K03.cut2_take h a (a + k) (by omega)
    have d := K03.cut2_drop h a (a + k) (by omega)
    rw [← t, ← d]
    generalize cutAt (cutAt l a) (a + k) = l3 at *
    have bq := fun M => K03.blank_eq (k : Int) (by omega) (by omega) M
    rw [← e_blank] at bq
    have hn : ((k : Int)).toNat = k := by omega
    rw [hn] at bq
    have hpos : ¬ (k : Int) ≤ 0 := by omega
    have e3 : (a : Int) + k = ((a + k : Nat) : Int) := by omega
    have e1 : ∀ xs : List Cell, cutL xs none (some (a : Int)) = xs.take a := fun xs => by rw [cutL_hi (by omega)]; rfl
    have e2 : ∀ xs : List Cell, cutL xs (some ((a + k : Nat) : Int)) none = xs.drop (a + k) := fun xs => by rw [cutL_lo (by omega)]; rfl
    have E3 : ∀ M, oSl none (some (a : Int)) (encL l3) M = some (.val (encL (l3.take a))) := fun M => by unfold encL; rw [oSl_tup, cutD_map, e1]
    have E4 : ∀ M, oSl (some ((a + k : Nat) : Int)) none (encL l3) M = some (.val (encL (l3.drop (a + k)))) := fun M => by unfold encL; rw [oSl_tup, cutD_map, e2]
    have A1 : ∀ (x y : List Cell) M, x.length + y.length ≤ 16777216 → oAdd (encL x) (encL y) M = some (.val (encL (x ++ y))) := fun x y M hh => by
      unfold encL; rw [oAdd_tup, if_pos (by rw [line_le]; simpa using hh), List.map_append]
    have a1 := fun M => A1 (l3.take a) (l3.drop (a + k)) M (by simp; omega)
    have a2 := fun M => A1 (l3.take a ++ l3.drop (a + k)) (List.replicate k bl) M (by simp; omega)
    have c2' : ∀ M, F_cut_at [encL (cutAt l a), .int ((a : Int) + k)] M = some (.val (encL l3), M) := fun M => by rw [e3]; exact c2 M
    have E4' : ∀ M, oSl (some ((a : Int) + k)) none (encL l3) M = some (.val (encL (l3.drop (a + k)))) := fun M => by rw [e3]; exact E4 M
    simp -implicitDefEqProofs [E0, hmin, hk0, hpos, c1, c2', bq, E3, E4', a1, a2]
/-! marks -/
def encT (t : Tri) : D := .tup [.int t.1, .tup (t.2.1.map .int), .int t.2.2]
theorem nl_encT {n : Nat} {t : Tri} : nl n (encT t) = true := by unfold encT; simp
theorem mark_fold : ∀ (l : List Cell) (k : Nat) (acc : List Tri), (l.zipIdx k).foldl (fun acc p => acc ++ [((p.1.1, p.1.2, if p.1.1 = 0 then (p.2 : Int) else if 192 ≤ p.1.1 then (p.2 : Int) + 1 else 0) : Tri)]) acc = acc ++ mkA k l
  | [], k, acc => by simp [mkA]
  | c :: l, k, acc => by rw [List.zipIdx_cons, List.foldl_cons, mark_fold l]; simp [mkA]
theorem marked_eq (l : List Cell) (hl : l.length ≤ 1000) (M : Mem) : F__law_marked [encL l] M = some (.new ((mkA 0 l).map encT), M) := by
  have lp := loop_fold (step := stpK [false, true, false, false, false] none (enD (l.map encC)) (gTp 2 (gsCons (gNm 2) (gsCons (gNm 3) gsNil))) L__law_marked_1) (fun p : Cell × Nat => D.tup [.int ((p.2 : Nat) : Int), encC p.1])
    (fun _ : List Tri => [none, some (.loc M.length), none, none, none]) (fun ts => M ++ [.lst (ts.map encT)]) (fun acc p => acc ++ [((p.1.1, p.1.2, if p.1.1 = 0 then (p.2 : Int) else if 192 ≤ p.1.1 then (p.2 : Int) + 1 else 0) : Tri)])
    (fun xs ts => ts.length + xs.length ≤ 1000) (fun p xs ts hI => by
      obtain ⟨⟨c, st⟩, k⟩ := p
      simp at hI
      refine ⟨⟨.nx, rfl, ?_⟩, by simp; omega⟩
      have s1 : ts.length < 16777216 := by omega
      by_cases h0 : c = 0
      · subst h0
        simp -implicitDefEqProofs [L__law_marked_1, encC, encT, s1, nl_encT]
      · by_cases h1 : 192 ≤ c <;> simp -implicitDefEqProofs [L__law_marked_1, encC, encT, s1, nl_encT, h0, h1]) (l.zipIdx 0) [] (by simpa using hl)
  rw [mark_fold, ← enD_map] at lp
  unfold F__law_marked B__law_marked
  rw [mkFnK_eq]
  simp -implicitDefEqProofs [] at lp
  unfold encL
  simp -implicitDefEqProofs [lp, nl_encT]
end K01

namespace K01
open PySem PySem.Spec PyProof.Rows L2 CI
open K03 (Cell encC encL bl OkL OkSt Tri mkA isW whA cutAt encC_mk nl_encL nl_encC isGl)
theorem plS_encT (t : Tri) : plS 3 (encT t) = true := by
  unfold encT
  rw [plS_tup]
  simp only [List.all_cons, List.all_nil, plS_int, plS_tup, plS_ints, Bool.and_true]
theorem oEq_T (y : Tri) (s : List Int) (m : Int) (M : Mem) : oEq (encT y) (.tup [.int 0, .tup (s.map .int), .int m]) M = some (.val (.bl (decide (y = (0, s, m))))) := by
  have e : D.tup [.int 0, .tup (s.map .int), .int m] = encT (0, s, m) := rfl
  rw [e, oEq_deq (n := 3) (m := 3) (by decide) (by decide) (plS_encT _) (plS_encT _)]
  congr 3
  obtain ⟨a, b, c⟩ := y
  unfold encT
  simp only [deq_tup, deqs_cons, deq_int, deqs_ints, deqs_nil, Bool.and_true]
  by_cases h1 : a = 0 <;> by_cases h2 : b = s <;> by_cases h3 : c = m <;> simp [h1, h2, h3]
def whF (ts : List Tri) (acc : List Cell) (p : Tri × Nat) : List Cell :=
  acc ++ [if isW (if p.2 = 0 then none else ts[p.2 - 1]?) p.1 ts[p.2 + 1]? = true then (p.1.1, p.1.2.1) else bl]
theorem wh_fold (ts : List Tri) : ∀ (xs pre : List Tri) (acc : List Cell), ts = pre ++ xs → (xs.zipIdx pre.length).foldl (whF ts) acc = acc ++ whA pre.getLast? xs none
  | [], pre, acc, _ => by simp [whA]
  | x :: xs, pre, acc, h => by
    have h2 : ts = (pre ++ [x]) ++ xs := by rw [h]; simp
    rw [List.zipIdx_cons, List.foldl_cons]
    have ih := wh_fold ts xs (pre ++ [x]) (whF ts acc (x, pre.length)) h2
    rw [List.length_append, List.length_singleton] at ih
    rw [ih, whA]
    have e1 : (if pre.length = 0 then none else ts[pre.length - 1]?) = pre.getLast? := by
      cases pre with
      | nil => rfl
      | cons a b =>
        rw [if_neg (by simp), h, List.getElem?_append_left (by simp), List.getLast?_eq_getElem?]
    have e2 : ts[pre.length + 1]? = xs.head?.or none := by
      rw [h, List.getElem?_append_right (by omega)]
      have : pre.length + 1 - pre.length = 1 := by omega
      rw [this]
      cases xs <;> simp
    have e3 : (pre ++ [x]).getLast? = some x := by simp
    unfold whF
    rw [e1, e2, e3]
    simp
theorem whole_eq (ts : List Tri) (hl : ts.length ≤ 2000) (M : Mem) : F__law_whole [.lst (ts.map encT)] M = some (.val (encL (whA none ts none)), M) := by
  have S0 : ∀ n, nls n (ts.map encT) = true := fun n => nls_map (fun _ => nl_encT) _
  have lp := loop_fold (step := stpK [true, true, false, false, false] none (enD (ts.map encT)) (gTp 2 (gsCons (gNm 2) (gsCons (gNm 3) gsNil))) L__law_whole_1) (fun p : Tri × Nat => D.tup [.int ((p.2 : Nat) : Int), encT p.1])
    (fun _ : List Cell => [some (.lst (ts.map encT)), some (.loc M.length), none, none, none]) (fun cs => M ++ [.lst (cs.map encC)]) (whF ts)
    (fun xs cs => cs.length + xs.length ≤ 2000 ∧ ∀ p ∈ xs, p.2 < ts.length) (fun p xs cs hI => by
      obtain ⟨⟨c, st, m⟩, k⟩ := p
      have hk := hI.2 _ List.mem_cons_self
      have h1 := hI.1
      simp at h1 hk
      refine ⟨⟨.nx, rfl, ?_⟩, by simp [whF]; omega, fun q hq => hI.2 q (List.mem_cons_of_mem _ hq)⟩
      have s1 : cs.length < 16777216 := by omega
      have L0 : ∀ M, oLen [.lst (ts.map encT)] M = some (.val (.int ts.length)) := fun M => by rw [oLen_lst, List.length_map]
      have X2 : ∀ x y z : D, CI.cutD [x, y, z] none (some 2) = [x, y] := fun _ _ _ => rfl
      have E0 : ∀ (t : Tri) M, oIx (encT t) (.int 0) M = some (.val (.int t.1)) := fun _ _ => rfl
      have E1 : ∀ (t : Tri) M, oIx (encT t) (.int 1) M = some (.val (.tup (t.2.1.map .int))) := fun _ _ => rfl
      have E2 : ∀ (t : Tri) M, oIx (encT t) (.int 2) M = some (.val (.int t.2.2)) := fun _ _ => rfl
      have E3 : ∀ (t : Tri) M, oSl none (some 2) (encT t) M = some (.val (encC (t.1, t.2.1))) := fun _ _ => rfl
      unfold whF isW
      simp only
      by_cases h0 : c = 0
      · subst h0
        by_cases hk0 : k = 0
        · subst hk0
          simp -implicitDefEqProofs [L__law_whole_1, E0, E1, E2, E3, s1, S0, nl_encC, bl, encC]
        · obtain ⟨k, rfl⟩ : ∃ j, k = j + 1 := ⟨k - 1, by omega⟩
          have hkl : k < ts.length := by omega
          obtain ⟨y, hy⟩ : ∃ y, ts[k]? = some y := ⟨_, List.getElem?_eq_getElem hkl⟩
          obtain ⟨yc, ys, ym⟩ := y
          have e1 : ((k : Int) + 1 - 1) = k := by omega
          have Y0 : ∀ M, oIx (.lst (ts.map encT)) (.int k) M = some (.val (encT (yc, ys, ym))) := fun M => by rw [oIx_lst, at_map, at_nat (by omega), Int.toNat_natCast, hy]; rfl
          have p0 : (0 : Int) < (k : Int) + 1 := by omega
          by_cases q1 : 192 ≤ yc <;> by_cases q2 : ym = m <;>
            simp -implicitDefEqProofs [-oIx_lst, L__law_whole_1, E0, E1, E2, E3, s1, S0, nl_encC, bl, e1, Y0, p0, hy, q1, q2, encC]
      · by_cases h1 : 192 ≤ c
        · by_cases hk2 : k + 1 < ts.length
          · obtain ⟨y, hy⟩ : ∃ y, ts[k + 1]? = some y := ⟨_, List.getElem?_eq_getElem hk2⟩
            have Y0 : ∀ M, oIx (.lst (ts.map encT)) (.int ((k : Int) + 1)) M = some (.val (encT y)) := fun M => by
              have e : (k : Int) + 1 = ((k + 1 : Nat) : Int) := by omega
              rw [oIx_lst, at_map, at_nat (by omega), e, Int.toNat_natCast, hy]; rfl
            have hk3 : (k : Int) + 1 < ts.length := by omega
            have EQ := oEq_T
            by_cases q : y = (0, st, m) <;>
              simp -implicitDefEqProofs [-oIx_lst, L__law_whole_1, E0, E1, E2, E3, s1, S0, nl_encC, bl, L0, hk3, Y0, EQ, h0, h1, hy, q, encC]
          · have hk3 : ¬ (k : Int) + 1 < ts.length := by omega
            have hn : ts[k + 1]? = none := List.getElem?_eq_none (by omega)
            simp -implicitDefEqProofs [L__law_whole_1, E0, E1, E2, E3, s1, S0, nl_encC, bl, L0, hk3, h0, h1, hn, encC]
        · by_cases q : m = 0 <;> simp -implicitDefEqProofs [L__law_whole_1, E0, E1, E2, E3, s1, S0, nl_encC, bl, h0, h1, q, encC]) (ts.zipIdx 0) [] ⟨by simpa using hl, fun p hp => by
        have := List.mem_zipIdx hp
        omega⟩
  have fo := wh_fold ts ts [] [] rfl
  simp only [List.length_nil, List.nil_append, List.getLast?_nil] at fo
  rw [fo, ← enD_map] at lp
  unfold F__law_whole B__law_whole
  rw [mkFnK_eq]
  simp -implicitDefEqProofs [] at lp
  unfold encL
  simp -implicitDefEqProofs [lp]
end K01

namespace K21
open PySem PySem.Spec PyProof.Rows L2 CI
noncomputable def L__law_draws_1 : Sf :=
    (sIf (toB (cBin oGt (cVar 3) (cInt (0))))
    (sCons (sExpr (cBM "list" oAppend (cVar 2) (aCons (cBin oMod (cCB oInt (aCons (cVar 3) aNil)) (cInt (1000))) aNil)))
    (sSet 3 (cBin oDiv (cVar 3) (cInt (1000)))))
    sNil)
noncomputable def L__law_draws_2 : Sf :=
    (sCons (sSet 4 (cBin oMod (cCB oInt (aCons (cBin oAdd (cBin oAdd (cBin oMulA (cVar 4) (cInt (48271))) (cBin oMulA (cVar 5) (cInt (69621)))) (cInt (7))) aNil)) (cInt (2147483647))))
    (sIf (toB (cBin oLt (cCB oLen (aCons (cVar 2) aNil)) (cVar 1)))
    (sExpr (cBM "list" oAppend (cVar 2) (aCons (cBin oMod (cCB oInt (aCons (cBin oMod (cCB oInt (aCons (cBin oAdd (cBin oMulA (cVar 4) (cInt (69621))) (cInt (5))) aNil)) (cInt (2147483629))) aNil)) (cInt (1000))) aNil)))
    sNil))
noncomputable def B__law_draws : Sf :=
    (sCons (sSetM 2 (cLst aNil))
    (sCons (sSet 3 (cCB oInt (aCons (cVar 0) aNil)))
    (sCons (sIf (toB (cBin oGe (cVar 3) (cBin oPow (cInt (10)) (cInt (18)))))
    (sForK [true, true, true, true, false, false] (iRg1 (cVar 1)) (gNm 5) L__law_draws_1)
    sNil)
    (sCons (sSet 4 (cBin oMod (cCB oInt (aCons (cBin oAdd (cBin oMulA (cCB oInt (aCons (cVar 0) aNil)) (cInt (48271))) (cInt (11))) aNil)) (cInt (2147483647))))
    (sCons (sForK [false, true, true, false, true, false] (iRg1 (cVar 1)) (gNm 5) L__law_draws_2)
    (sRet (cVar 2)))))))
noncomputable def F__law_draws : Fn := mkFnK 2 6 B__law_draws
noncomputable def B__law_size : Sf :=
    (sCons (sSet 1 (cCall F__law_draws (aCons (cVar 0) (aCons (cInt (2)) aNil))))
    (sCons (sSet 2 (cBin oAdd (cInt (1)) (cBin oMod (cCB oInt (aCons (cBin oIx (cVar 1) (cInt (0))) aNil)) (cInt (4)))))
    (sCons (sSet 3 (cBin oAdd (cInt (2)) (cBin oMod (cCB oInt (aCons (cBin oIx (cVar 1) (cInt (1))) aNil)) (cInt (8)))))
    (sCons (sIf (toB (cBin oEq (cBin oMod (cCB oInt (aCons (cBin oIx (cVar 1) (cInt (0))) aNil)) (cInt (100))) (cInt (99))))
    (sSet 2 (cInt (12)))
    sNil)
    (sCons (sIf (toB (cBin oEq (cBin oMod (cCB oInt (aCons (cBin oIx (cVar 1) (cInt (1))) aNil)) (cInt (100))) (cInt (99))))
    (sSet 3 (cInt (40)))
    sNil)
    (sRet (cTup (aCons (cVar 2) (aCons (cVar 3) aNil)))))))))
noncomputable def F__law_size : Fn := mkFnK 1 4 B__law_size
noncomputable def B__law_glyph : Sf :=
    (sCons (sIf (toB (cBin oEq (cBin oMod (cCB oInt (aCons (cVar 0) aNil)) (cInt (7))) (cInt (0))))
    (sRet (cInt (32)))
    sNil)
    (sCons (sIf (toB (cBin oEq (cBin oMod (cCB oInt (aCons (cVar 0) aNil)) (cInt (7))) (cInt (1))))
    (sRet (cBin oAdd (cInt (192)) (cBin oMod (cBin oDiv (cCB oInt (aCons (cVar 0) aNil)) (cInt (7))) (cInt (64)))))
    sNil)
    (sCons (sIf (toB (cBin oEq (cBin oMod (cCB oInt (aCons (cVar 0) aNil)) (cInt (7))) (cInt (2))))
    (sRet (cBin oAdd (cInt (160)) (cBin oMod (cBin oDiv (cCB oInt (aCons (cVar 0) aNil)) (cInt (7))) (cInt (32)))))
    sNil)
    (sRet (cBin oAdd (cInt (33)) (cBin oMod (cBin oDiv (cCB oInt (aCons (cVar 0) aNil)) (cInt (7))) (cInt (94))))))))
noncomputable def F__law_glyph : Fn := mkFnK 1 1 B__law_glyph
noncomputable def L__law_style_1 : Sf :=
    (sIf (toB (cBin oEq (cBin oMod (cBin oDiv (cCB oInt (aCons (cVar 0) aNil)) (cVar 3)) (cInt (2))) (cInt (1))))
    (sExpr (cBM "list" oAppend (cVar 1) (aCons (cVar 2) aNil)))
    sNil)
noncomputable def B__law_style : Sf :=
    (sCons (sSetM 1 (cLst aNil))
    (sCons (sIf (toB (cBin oGt (cBin oMod (cCB oInt (aCons (cVar 0) aNil)) (cInt (3))) (cInt (0))))
    (sCons (sForK [true, true, false, false] (iSeq (cTup (aCons (cTup (aCons (cInt (1)) (aCons (cInt (3)) aNil))) (aCons (cTup (aCons (cInt (4)) (aCons (cInt (6)) aNil))) (aCons (cTup (aCons (cInt (7)) (aCons (cInt (12)) aNil))) aNil))))) (gTp 2 (gsCons (gNm 2) (gsCons (gNm 3) gsNil))) L__law_style_1)
    (sCons (sIf (toB (cBin oGt (cBin oMod (cBin oDiv (cCB oInt (aCons (cVar 0) aNil)) (cInt (24))) (cInt (3))) (cInt (0))))
    (sExpr (cBM "list" oAppend (cVar 1) (aCons (cBin oAdd (cInt (30)) (cBin oMod (cBin oDiv (cCB oInt (aCons (cVar 0) aNil)) (cInt (72))) (cInt (8)))) aNil)))
    sNil)
    (sIf (toB (cBin oEq (cBin oMod (cBin oDiv (cCB oInt (aCons (cVar 0) aNil)) (cInt (24))) (cInt (3))) (cInt (2))))
    (sExpr (cBM "list" oAppend (cVar 1) (aCons (cBin oAdd (cInt (40)) (cBin oMod (cBin oDiv (cCB oInt (aCons (cVar 0) aNil)) (cInt (216))) (cInt (8)))) aNil)))
    sNil)))
    sNil)
    (sRet (cCB oTuple (aCons (cVar 1) aNil)))))
noncomputable def F__law_style : Fn := mkFnK 1 4 B__law_style
noncomputable def L__law_line_1 : Sf :=
    (sCons (sSet 4 (cCall F__law_glyph (aCons (cBin oIx (cVar 0) (cBin oMulA (cInt (2)) (cVar 3))) aNil)))
    (sCons (sSet 5 (cCall F__law_style (aCons (cBin oIx (cVar 0) (cBin oAdd (cBin oMulA (cInt (2)) (cVar 3)) (cInt (1)))) aNil)))
    (sIf (kAnd (toB (cBin oLt (cCB oLen (aCons (cVar 2) aNil)) (cVar 1))) (toB (cBin oLt (cVar 4) (cInt (192)))))
    (sExpr (cBM "list" oAppend (cVar 2) (aCons (cTup (aCons (cVar 4) (aCons (cIf (kAnd (toB (cBin oEq (cVar 4) (cInt (32)))) (toB (cBin oEq (cBin oMod (cCB oInt (aCons (cBin oIx (cVar 0) (cBin oMulA (cInt (2)) (cVar 3))) aNil)) (cInt (2))) (cInt (0))))) (cTup aNil) (cVar 5)) aNil))) aNil)))
    (sIf (toB (cBin oLt (cBin oAdd (cCB oLen (aCons (cVar 2) aNil)) (cInt (1))) (cVar 1)))
    (sCons (sExpr (cBM "list" oAppend (cVar 2) (aCons (cTup (aCons (cVar 4) (aCons (cVar 5) aNil))) aNil)))
    (sExpr (cBM "list" oAppend (cVar 2) (aCons (cTup (aCons (cInt (0)) (aCons (cVar 5) aNil))) aNil))))
    (sIf (toB (cBin oLt (cCB oLen (aCons (cVar 2) aNil)) (cVar 1)))
    (sExpr (cBM "list" oAppend (cVar 2) (aCons (cTup (aCons (cInt (32)) (aCons (cTup aNil) aNil))) aNil)))
    sNil)))))
noncomputable def B__law_line : Sf :=
    (sCons (sSetM 2 (cLst aNil))
    (sCons (sForK [true, true, true, false, false, false] (iRg1 (cVar 1)) (gNm 3) L__law_line_1)
    (sRet (cCB oTuple (aCons (cVar 2) aNil)))))
noncomputable def F__law_line : Fn := mkFnK 2 6 B__law_line
noncomputable def L__law_screen_1 : Sf :=
    (sExpr (cBM "list" oAppend (cVar 2) (aCons (cCall F__law_line (aCons (cSl (cVar 1) (sSome (cBin oAdd (cInt (12)) (cBin oMulA (cBin oMulA (cInt (2)) (cVar 3)) (cVar 7)))) (sSome (cBin oAdd (cInt (12)) (cBin oMulA (cBin oMulA (cInt (2)) (cBin oAdd (cVar 3) (cInt (1)))) (cVar 7))))) (aCons (cVar 7) aNil))) aNil)))
noncomputable def Q__law_screen_1 : Ef :=
    (cLc (iRg1 (cBin oMod (cCB oInt (aCons (cBin oIx (cVar 1) (cInt (3))) aNil)) (cInt (9)))) [8] (gNm 8) tYesF (cCall F__law_glyph (aCons (cBin oIx (cVar 1) (cBin oAdd (cInt (4)) (cVar 8))) aNil)))
noncomputable def B__law_screen : Sf :=
    (sCons (sAsg (gTp 2 (gsCons (gNm 6) (gsCons (gNm 7) gsNil))) (cCall F__law_size (aCons (cVar 0) aNil)))
    (sCons (sSet 1 (cCall F__law_draws (aCons (cVar 0) (aCons (cBin oAdd (cInt (12)) (cBin oMulA (cBin oMulA (cInt (2)) (cVar 6)) (cVar 7))) aNil))))
    (sCons (sSetM 2 (cLst aNil))
    (sCons (sForK [false, true, true, false, false, false, true, true, false] (iRg1 (cVar 6)) (gNm 3) L__law_screen_1)
    (sCons (sSet 4 (cCB oTuple (aCons Q__law_screen_1 aNil)))
    (sCons (sIf (toB (cBin oEq (cBin oMod (cCB oInt (aCons (cBin oIx (cVar 1) (cInt (3))) aNil)) (cInt (50))) (cInt (49))))
    (sSet 4 (cBin oMulA (cVar 4) (cInt (5))))
    sNil)
    (sCons (sSet 5 (cTup (aCons (cBin oMod (cCB oInt (aCons (cBin oIx (cVar 1) (cInt (2))) aNil)) (cVar 6)) (aCons (cBin oMod (cBin oDiv (cCB oInt (aCons (cBin oIx (cVar 1) (cInt (2))) aNil)) (cInt (12))) (cVar 7)) aNil))))
    (sRet (cTup (aCons (cCB oTuple (aCons (cVar 2) aNil)) (aCons (cVar 5) (aCons (cBin oEq (cBin oMod (cBin oDiv (cCB oInt (aCons (cBin oIx (cVar 1) (cInt (3))) aNil)) (cInt (9))) (cInt (2))) (cInt (0))) (aCons (cSl (cVar 4) sNone (sSome (cInt (40)))) aNil)))))))))))))
noncomputable def F__law_screen : Fn := mkFnK 1 9 B__law_screen
noncomputable def B__law_cell : Sf :=
    (sCons (sIf (toB (cBin oLt (cVar 1) (cCB oLen (aCons (cVar 0) aNil))))
    (sRet (cCB oInt (aCons (cBin oIx (cVar 0) (cVar 1)) aNil)))
    sNil)
    (sRet (cInt (0))))
noncomputable def F__law_cell : Fn := mkFnK 2 2 B__law_cell
noncomputable def L__law_marked_1 : Sf :=
    (sCons (sSet 4 (cIf (toB (cBin oGe (cBin oIx (cVar 3) (cInt (0))) (cInt (192)))) (cBin oAdd (cVar 2) (cInt (1))) (cInt (0))))
    (sCons (sIf (toB (cBin oEq (cBin oIx (cVar 3) (cInt (0))) (cInt (0))))
    (sSet 4 (cVar 2))
    sNil)
    (sExpr (cBM "list" oAppend (cVar 1) (aCons (cTup (aCons (cBin oIx (cVar 3) (cInt (0))) (aCons (cBin oIx (cVar 3) (cInt (1))) (aCons (cVar 4) aNil)))) aNil)))))
noncomputable def B__law_marked : Sf :=
    (sCons (sSetM 1 (cLst aNil))
    (sCons (sForK [false, true, false, false, false] (iEnT (cVar 0)) (gTp 2 (gsCons (gNm 2) (gsCons (gNm 3) gsNil))) L__law_marked_1)
    (sRet (cVar 1))))
noncomputable def F__law_marked : Fn := mkFnK 1 5 B__law_marked
noncomputable def L__law_whole_1 : Sf :=
    (sCons (sSet 4 (cBin oEq (cBin oIx (cVar 3) (cInt (2))) (cInt (0))))
    (sCons (sIf (toB (cBin oGe (cBin oIx (cVar 3) (cInt (0))) (cInt (192))))
    (sSet 4 (cAnd (cBin oLt (cBin oAdd (cVar 2) (cInt (1))) (cCB oLen (aCons (cVar 0) aNil))) (cBin oEq (cBin oIx (cVar 0) (cBin oAdd (cVar 2) (cInt (1)))) (cTup (aCons (cInt (0)) (aCons (cBin oIx (cVar 3) (cInt (1))) (aCons (cBin oIx (cVar 3) (cInt (2))) aNil)))))))
    sNil)
    (sCons (sIf (toB (cBin oEq (cBin oIx (cVar 3) (cInt (0))) (cInt (0))))
    (sSet 4 (cAnd (cBin oGt (cVar 2) (cInt (0))) (cAnd (cBin oGe (cBin oIx (cBin oIx (cVar 0) (cBin oSub (cVar 2) (cInt (1)))) (cInt (0))) (cInt (192))) (cBin oEq (cBin oIx (cBin oIx (cVar 0) (cBin oSub (cVar 2) (cInt (1)))) (cInt (2))) (cBin oIx (cVar 3) (cInt (2)))))))
    sNil)
    (sExpr (cBM "list" oAppend (cVar 1) (aCons (cIf (toTr (cVar 4)) (cSl (cVar 3) sNone (sSome (cInt (2)))) (cTup (aCons (cInt (32)) (aCons (cTup aNil) aNil)))) aNil))))))
noncomputable def B__law_whole : Sf :=
    (sCons (sSetM 1 (cLst aNil))
    (sCons (sForK [true, true, false, false, false] (iEnT (cVar 0)) (gTp 2 (gsCons (gNm 2) (gsCons (gNm 3) gsNil))) L__law_whole_1)
    (sRet (cCB oTuple (aCons (cVar 1) aNil)))))
noncomputable def F__law_whole : Fn := mkFnK 1 5 B__law_whole
noncomputable def L__law_changed_1 : Sf :=
    (sCons (sSet 9 (cBin oMod (cBin oIx (cVar 1) (cBin oAdd (cInt (2)) (cBin oMulA (cInt (2)) (cVar 4)))) (cCB oLen (aCons (cVar 3) aNil))))
    (sAsg (gIx (cVar 3) (cVar 9)) (cTup (aCons (cBin oAdd (cInt (32)) (cBin oMod (cBin oIx (cVar 1) (cBin oAdd (cInt (3)) (cBin oMulA (cInt (2)) (cVar 4)))) (cInt (95)))) (aCons (cCall F__law_style (aCons (cBin oIx (cVar 1) (cBin oAdd (cInt (3)) (cBin oMulA (cInt (2)) (cVar 4)))) aNil)) (aCons (cInt (0)) aNil))))))
noncomputable def B__law_changed : Sf :=
    (sCons (sAsg (gTp 4 (gsCons (gNm 5) (gsCons (gNm 6) (gsCons (gNm 7) (gsCons (gNm 8) gsNil))))) (cVar 0))
    (sCons (sSet 2 (cBin oMod (cBin oIx (cVar 1) (cInt (0))) (cCB oLen (aCons (cVar 5) aNil))))
    (sCons (sSetM 3 (cCall F__law_marked (aCons (cBin oIx (cVar 5) (cVar 2)) aNil)))
    (sCons (sForK [false, true, true, true, false, true, true, true, true, false] (iRg1 (cBin oMod (cBin oIx (cVar 1) (cInt (1))) (cInt (4)))) (gNm 4) L__law_changed_1)
    (sCons (sIf (toB (cBin oEq (cBin oMod (cBin oIx (cVar 1) (cInt (10))) (cInt (4))) (cInt (0))))
    (sCons (sSetM 3 (cSl (cVar 3) sNone (sSome (cBin oMod (cBin oIx (cVar 1) (cInt (11))) (cCB oLen (aCons (cVar 3) aNil))))))
    (sSetM 3 (cBin oAdd (cVar 3) (cBin oMulA (cLst (aCons (cTup (aCons (cInt (32)) (aCons (cTup aNil) (aCons (cInt (0)) aNil)))) aNil)) (cBin oSub (cCB oLen (aCons (cBin oIx (cVar 5) (cVar 2)) aNil)) (cCB oLen (aCons (cVar 3) aNil)))))))
    sNil)
    (sCons (sIf (toB (cBin oEq (cBin oMod (cBin oIx (cVar 1) (cInt (12))) (cInt (3))) (cInt (0))))
    (sSet 6 (cTup (aCons (cBin oMod (cBin oIx (cVar 1) (cInt (13))) (cCB oLen (aCons (cVar 5) aNil))) (aCons (cBin oMod (cBin oIx (cVar 1) (cInt (14))) (cCB oLen (aCons (cBin oIx (cVar 5) (cInt (0))) aNil))) aNil))))
    sNil)
    (sCons (sIf (toB (cBin oEq (cBin oMod (cBin oIx (cVar 1) (cInt (12))) (cInt (5))) (cInt (0))))
    (sSet 8 (cIf (toB (cBin oLt (cCB oLen (aCons (cVar 8) aNil)) (cInt (40)))) (cBin oAdd (cVar 8) (cTup (aCons (cInt (65)) aNil))) (cTup aNil)))
    sNil)
    (sCons (sSet 5 (cBin oAdd (cBin oAdd (cSl (cVar 5) sNone (sSome (cVar 2))) (cTup (aCons (cLend F__law_whole (aCons (cVar 3) aNil)) aNil))) (cSl (cVar 5) (sSome (cBin oAdd (cVar 2) (cInt (1)))) sNone)))
    (sRet (cTup (aCons (cVar 5) (aCons (cVar 6) (aCons (cIf (toB (cBin oGt (cBin oMod (cBin oIx (cVar 1) (cInt (15))) (cInt (4))) (cInt (0)))) (cVar 7) (cNot (cVar 7))) (aCons (cVar 8) aNil))))))))))))))
noncomputable def F__law_changed : Fn := mkFnK 2 10 B__law_changed
noncomputable def Q_differing_columns_1 : Ef :=
    (cLc (iRg1 (cCB oLen (aCons (cVar 1) aNil))) [5] (gNm 5) (toB (cBin oNe (cBin oIx (cVar 0) (cVar 5)) (cBin oIx (cVar 1) (cVar 5)))) (cVar 5))
noncomputable def B_differing_columns : Sf :=
    (sCons (sSet 2 Q_differing_columns_1)
    (sCons (sSet 3 (cBin oIx (cVar 2) (cInt (0))))
    (sCons (sSet 4 (cBin oIx (cVar 2) (cNeg (cInt (1)))))
    (sCons (sIf (toB (cBin oEq (cBin oIx (cBin oIx (cVar 1) (cVar 3)) (cInt (0))) (cInt (0))))
    (sSet 3 (cBin oSub (cVar 3) (cInt (1))))
    sNil)
    (sCons (sIf (kAnd (toB (cBin oLt (cBin oAdd (cVar 4) (cInt (1))) (cCB oLen (aCons (cVar 1) aNil)))) (toB (cBin oEq (cBin oIx (cBin oIx (cVar 1) (cBin oAdd (cVar 4) (cInt (1)))) (cInt (0))) (cInt (0)))))
    (sSet 4 (cBin oAdd (cVar 4) (cInt (1))))
    sNil)
    (sRet (cTup (aCons (cVar 3) (aCons (cVar 4) aNil)))))))))
noncomputable def F_differing_columns : Fn := mkFnK 2 6 B_differing_columns
noncomputable def L_end_of_1 : Sf :=
    (sSet 1 (cBin oSub (cVar 1) (cInt (1))))
noncomputable def T_end_of_1 : Tf :=
    (kAnd (toB (cBin oGt (cVar 1) (cInt (0)))) (toB (cBin oEq (cBin oIx (cVar 0) (cBin oSub (cVar 1) (cInt (1)))) (cVal (.tup [(.int (32)), (.tup [])])))))
noncomputable def B_end_of : Sf :=
    (sCons (sSet 1 (cCB oLen (aCons (cVar 0) aNil)))
    (sCons (sWhileK [true, true] 100000 T_end_of_1 L_end_of_1)
    (sRet (cVar 1))))
noncomputable def F_end_of : Fn := mkFnK 1 2 B_end_of
noncomputable def Q_digits_1 : Ef :=
    (cLc (iSt (cCB oStr (aCons (cVar 0) aNil))) [1] (gNm 1) tYesF (cCB oOrd (aCons (cVar 1) aNil)))
noncomputable def B_digits : Sf :=
    (sRet Q_digits_1)
noncomputable def F_digits : Fn := mkFnK 1 2 B_digits
noncomputable def L_sequence_1 : Sf :=
    (sCons (sIf (toB (cBin oGt (cVar 3) (cInt (0))))
    (sExpr (cBM "list" oAppend (cVar 2) (aCons (cInt (59)) aNil)))
    sNil)
    (sSetM 2 (cBin oAdd (cVar 2) (cCall F_digits (aCons (cVar 4) aNil)))))
noncomputable def B_sequence : Sf :=
    (sCons (sSetM 2 (cLst (aCons (cInt (27)) (aCons (cInt (91)) aNil))))
    (sCons (sForK [false, true, true, false, false] (iEnT (cVar 0)) (gTp 2 (gsCons (gNm 3) (gsCons (gNm 4) gsNil))) L_sequence_1)
    (sRet (cBin oAdd (cVar 2) (cLst (aCons (cVar 1) aNil))))))
noncomputable def F_sequence : Fn := mkFnK 2 5 B_sequence
noncomputable def L_style_text_1 : Sf :=
    (sSet 1 (cBin oAdd (cBin oAdd (cVar 1) (cLst (aCons (cInt (59)) aNil))) (cCall F_digits (aCons (cVar 2) aNil))))
noncomputable def B_style_text : Sf :=
    (sCons (sSet 1 (cCall F_digits (aCons (cInt (0)) aNil)))
    (sCons (sForK [false, true, false] (iSeq (cVar 0)) (gNm 2) L_style_text_1)
    (sRet (cVar 1))))
noncomputable def F_style_text : Fn := mkFnK 1 3 B_style_text
noncomputable def B_style_sequence : Sf :=
    (sRet (cBin oAdd (cBin oAdd (cLst (aCons (cInt (27)) (aCons (cInt (91)) aNil))) (cCall F_style_text (aCons (cVar 0) aNil))) (cLst (aCons (cInt (109)) aNil))))
noncomputable def F_style_sequence : Fn := mkFnK 1 1 B_style_sequence
noncomputable def L_line_difference_1 : Sf :=
    (sIf (toB (cBin oNe (cVar 8) (cInt (0))))
    (sCons (sIf (toB (cBin oNe (cVar 9) (cVar 3)))
    (sCons (sSetM 5 (cBin oAdd (cVar 5) (cCall F_style_sequence (aCons (cVar 9) aNil))))
    (sSet 3 (cVar 9)))
    sNil)
    (sExpr (cBM "list" oAppend (cVar 5) (aCons (cVar 8) aNil))))
    sNil)
noncomputable def B_line_difference : Sf :=
    (sCons (sAsg (gTp 2 (gsCons (gNm 6) (gsCons (gNm 7) gsNil))) (cCall F_differing_columns (aCons (cVar 0) (aCons (cVar 1) aNil))))
    (sCons (sSet 4 (cCall F_end_of (aCons (cVar 1) aNil)))
    (sCons (sSetM 5 (cCall F_sequence (aCons (cLst (aCons (cBin oAdd (cVar 2) (cInt (1))) (aCons (cBin oAdd (cVar 6) (cInt (1))) aNil))) (aCons (cInt (72)) aNil))))
    (sCons (sForK [false, false, false, true, true, true, false, true, false, false] (iSeq (cSl (cVar 1) (sSome (cVar 6)) (sSome (cCB oMin2 (aCons (cBin oAdd (cVar 7) (cInt (1))) (aCons (cVar 4) aNil)))))) (gTp 2 (gsCons (gNm 8) (gsCons (gNm 9) gsNil))) L_line_difference_1)
    (sCons (sIf (toB (cBin oGe (cVar 7) (cVar 4)))
    (sSetM 5 (cBin oAdd (cVar 5) (cCall F_sequence (aCons (cLst aNil) (aCons (cInt (75)) aNil)))))
    sNil)
    (sRet (cTup (aCons (cVar 5) (aCons (cVar 3) aNil)))))))))
noncomputable def F_line_difference : Fn := mkFnK 4 10 B_line_difference
noncomputable def L_lines_difference_1 : Sf :=
    (sIf (toB (cBin oNe (cBin oIx (cVar 0) (cVar 4)) (cBin oIx (cVar 1) (cVar 4))))
    (sCons (sAsg (gTp 2 (gsCons (gNm 5) (gsCons (gNm 3) gsNil))) (cCall F_line_difference (aCons (cBin oIx (cVar 0) (cVar 4)) (aCons (cBin oIx (cVar 1) (cVar 4)) (aCons (cVar 4) (aCons (cVar 3) aNil))))))
    (sSet 2 (cBin oAdd (cVar 2) (cVar 5))))
    sNil)
noncomputable def B_lines_difference : Sf :=
    (sCons (sSet 2 (cLst aNil))
    (sCons (sSet 3 (cTup aNil))
    (sCons (sForK [true, true, true, true, false, false] (iRg1 (cCB oLen (aCons (cVar 1) aNil))) (gNm 4) L_lines_difference_1)
    (sCons (sIf (toB (cBin oNe (cVar 3) (cTup aNil)))
    (sSet 2 (cBin oAdd (cVar 2) (cCall F_style_sequence (aCons (cTup aNil) aNil))))
    sNil)
    (sRet (cVar 2))))))
noncomputable def F_lines_difference : Fn := mkFnK 2 6 B_lines_difference
noncomputable def B_cut_at : Sf :=
    (sCons (sIf (kAnd (toB (cBin oLt (cVar 1) (cCB oLen (aCons (cVar 0) aNil)))) (toB (cBin oEq (cBin oIx (cBin oIx (cVar 0) (cVar 1)) (cInt (0))) (cInt (0)))))
    (sRet (cBin oAdd (cBin oAdd (cSl (cVar 0) sNone (sSome (cBin oSub (cVar 1) (cInt (1))))) (cTup (aCons (cVal (.tup [(.int (32)), (.tup [])])) (aCons (cVal (.tup [(.int (32)), (.tup [])])) aNil)))) (cSl (cVar 0) (sSome (cBin oAdd (cVar 1) (cInt (1)))) sNone)))
    sNil)
    (sRet (cVar 0)))
noncomputable def F_cut_at : Fn := mkFnK 2 2 B_cut_at
noncomputable def B_blank_line : Sf :=
    (sRet (cBin oMulA (cTup (aCons (cVal (.tup [(.int (32)), (.tup [])])) aNil)) (cVar 0)))
noncomputable def F_blank_line : Fn := mkFnK 1 1 B_blank_line
noncomputable def B_fitted : Sf :=
    (sCons (sIf (toB (cBin oGe (cVar 1) (cCB oLen (aCons (cVar 0) aNil))))
    (sRet (cBin oAdd (cVar 0) (cCall F_blank_line (aCons (cBin oSub (cVar 1) (cCB oLen (aCons (cVar 0) aNil))) aNil))))
    sNil)
    (sRet (cSl (cCall F_cut_at (aCons (cVar 0) (aCons (cVar 1) aNil))) sNone (sSome (cVar 1)))))
noncomputable def F_fitted : Fn := mkFnK 2 2 B_fitted
noncomputable def Q_fitted_lines_1 : Ef :=
    (cLc (iSeq (cSl (cVar 0) sNone (sSome (cVar 1)))) [4] (gNm 4) tYesF (cCall F_fitted (aCons (cVar 4) (aCons (cVar 2) aNil))))
noncomputable def B_fitted_lines : Sf :=
    (sCons (sSet 3 Q_fitted_lines_1)
    (sRet (cBin oAdd (cCB oTuple (aCons (cVar 3) aNil)) (cBin oMulA (cTup (aCons (cCall F_blank_line (aCons (cVar 2) aNil)) aNil)) (cBin oSub (cVar 1) (cCB oLen (aCons (cVar 3) aNil)))))))
noncomputable def F_fitted_lines : Fn := mkFnK 3 5 B_fitted_lines
noncomputable def B_resized : Sf :=
    (sCons (sAsg (gTp 4 (gsCons (gNm 4) (gsCons (gNm 5) (gsCons (gNm 6) (gsCons (gNm 7) gsNil))))) (cVar 0))
    (sCons (sSet 3 (cTup (aCons (cCB oMin2 (aCons (cBin oIx (cVar 5) (cInt (0))) (aCons (cBin oSub (cVar 1) (cInt (1))) aNil))) (aCons (cCB oMin2 (aCons (cBin oIx (cVar 5) (cInt (1))) (aCons (cBin oSub (cVar 2) (cInt (1))) aNil))) aNil))))
    (sRet (cTup (aCons (cCall F_fitted_lines (aCons (cVar 4) (aCons (cVar 1) (aCons (cVar 2) aNil)))) (aCons (cVar 3) (aCons (cVar 6) (aCons (cVar 7) aNil))))))))
noncomputable def F_resized : Fn := mkFnK 3 8 B_resized
noncomputable def Q_codes_1 : Ef :=
    (cLc (iSt (cVar 0)) [1] (gNm 1) tYesF (cCB oOrd (aCons (cVar 1) aNil)))
noncomputable def B_codes : Sf :=
    (sRet Q_codes_1)
noncomputable def F_codes : Fn := mkFnK 1 2 B_codes
noncomputable def B_difference : Sf :=
    (sCons (sSet 2 (cLst aNil))
    (sCons (sSet 3 (cCB oLen (aCons (cBin oIx (cVar 1) (cInt (0))) aNil)))
    (sCons (sSet 4 (cCB oLen (aCons (cBin oIx (cBin oIx (cVar 1) (cInt (0))) (cInt (0))) aNil)))
    (sCons (sIf (kOr (toB (cBin oNe (cCB oLen (aCons (cBin oIx (cVar 0) (cInt (0))) aNil)) (cVar 3))) (toB (cBin oNe (cCB oLen (aCons (cBin oIx (cBin oIx (cVar 0) (cInt (0))) (cInt (0))) aNil)) (cVar 4))))
    (sCons (sSet 2 (cCall F_sequence (aCons (cLst (aCons (cInt (8)) (aCons (cVar 3) (aCons (cVar 4) aNil)))) (aCons (cInt (116)) aNil))))
    (sSet 0 (cCall F_resized (aCons (cVar 0) (aCons (cVar 3) (aCons (cVar 4) aNil))))))
    sNil)
    (sCons (sSet 5 (cCall F_lines_difference (aCons (cBin oIx (cVar 0) (cInt (0))) (aCons (cBin oIx (cVar 1) (cInt (0))) aNil))))
    (sCons (sIf (toB (cBin oNe (cBin oIx (cVar 0) (cInt (3))) (cBin oIx (cVar 1) (cInt (3)))))
    (sSet 5 (cBin oAdd (cBin oAdd (cBin oAdd (cBin oAdd (cVar 5) (cLst (aCons (cInt (27)) aNil))) (cCall F_codes (aCons (cStr "]2;") aNil))) (cCB oList (aCons (cBin oIx (cVar 1) (cInt (3))) aNil))) (cLst (aCons (cInt (7)) aNil))))
    sNil)
    (sCons (sIf (toB (cBin oNe (cBin oIx (cVar 0) (cInt (2))) (cBin oIx (cVar 1) (cInt (2)))))
    (sSet 5 (cBin oAdd (cBin oAdd (cBin oAdd (cVar 5) (cLst (aCons (cInt (27)) aNil))) (cCall F_codes (aCons (cStr "[?25") aNil))) (cLst (aCons (cIf (toTr (cBin oIx (cVar 1) (cInt (2)))) (cInt (104)) (cInt (108))) aNil))))
    sNil)
    (sCons (sIf (kOr (toTr (cVar 5)) (toB (cBin oNe (cBin oIx (cVar 0) (cInt (1))) (cBin oIx (cVar 1) (cInt (1))))))
    (sSet 5 (cBin oAdd (cVar 5) (cCall F_sequence (aCons (cLst (aCons (cBin oAdd (cBin oIx (cBin oIx (cVar 1) (cInt (1))) (cInt (0))) (cInt (1))) (aCons (cBin oAdd (cBin oIx (cBin oIx (cVar 1) (cInt (1))) (cInt (1))) (cInt (1))) aNil))) (aCons (cInt (72)) aNil)))))
    sNil)
    (sRet (cBin oAdd (cVar 2) (cVar 5)))))))))))
noncomputable def F_difference : Fn := mkFnK 2 6 B_difference
noncomputable def Q__law_digits_1 : Ef :=
    (cLc (iSt (cCB oStr (aCons (cCB oInt (aCons (cVar 0) aNil)) aNil))) [1] (gNm 1) tYesF (cBin oAdd (cInt (48)) (cCB oIntS (aCons (cVar 1) aNil))))
noncomputable def B__law_digits : Sf :=
    (sRet Q__law_digits_1)
noncomputable def F__law_digits : Fn := mkFnK 1 2 B__law_digits
noncomputable def L__law_joined_1 : Sf :=
    (sCons (sIf (toB (cBin oGt (cVar 2) (cInt (0))))
    (sExpr (cBM "list" oAppend (cVar 1) (aCons (cInt (59)) aNil)))
    sNil)
    (sIf (toB (cBin (oIs true) (cVar 3) cNon))
    (sSetM 1 (cBin oAdd (cVar 1) (cCall F__law_digits (aCons (cVar 3) aNil))))
    sNil))
noncomputable def B__law_joined : Sf :=
    (sCons (sSetM 1 (cLst aNil))
    (sCons (sForK [false, true, false, false] (iEnT (cVar 0)) (gTp 2 (gsCons (gNm 2) (gsCons (gNm 3) gsNil))) L__law_joined_1)
    (sRet (cVar 1))))
noncomputable def F__law_joined : Fn := mkFnK 1 4 B__law_joined
noncomputable def B__law_styled : Sf :=
    (sRet (cBin oAdd (cBin oAdd (cLst (aCons (cInt (27)) (aCons (cInt (91)) aNil))) (cCall F__law_joined (aCons (cBin oAdd (cLst (aCons (cInt (0)) aNil)) (cCB oList (aCons (cVar 0) aNil))) aNil))) (cLst (aCons (cInt (109)) aNil))))
noncomputable def F__law_styled : Fn := mkFnK 1 1 B__law_styled
noncomputable def Q__law_line_text_1 : Ef :=
    (cLc (iRg1 (cVar 4)) [11] (gNm 11) (toB (cBin oNe (cBin oIx (cVar 0) (cVar 11)) (cBin oIx (cVar 1) (cVar 11)))) (cVar 11))
noncomputable def Q__law_line_text_2 : Ef :=
    (cLc (iRg1 (cVar 4)) [11] (gNm 11) (toB (cBin oNe (cBin oIx (cVar 1) (cVar 11)) (cTup (aCons (cInt (32)) (aCons (cTup aNil) aNil))))) (cVar 11))
noncomputable def L__law_line_text_1 : Sf :=
    (sIf (kAnd (toB (cBin oLt (cVar 11) (cVar 9))) (toB (cBin oGt (cBin oIx (cBin oIx (cVar 1) (cVar 11)) (cInt (0))) (cInt (0)))))
    (sCons (sIf (toB (cBin oNe (cBin oIx (cBin oIx (cVar 1) (cVar 11)) (cInt (1))) (cVar 3)))
    (sCons (sSetM 10 (cBin oAdd (cVar 10) (cIf (toTr (cBin oIx (cBin oIx (cVar 1) (cVar 11)) (cInt (1)))) (cCall F__law_styled (aCons (cBin oIx (cBin oIx (cVar 1) (cVar 11)) (cInt (1))) aNil)) (cLst (aCons (cInt (27)) (aCons (cInt (91)) (aCons (cInt (48)) (aCons (cInt (109)) aNil))))))))
    (sSet 3 (cBin oIx (cBin oIx (cVar 1) (cVar 11)) (cInt (1)))))
    sNil)
    (sExpr (cBM "list" oAppend (cVar 10) (aCons (cBin oIx (cBin oIx (cVar 1) (cVar 11)) (cInt (0))) aNil))))
    sNil)
noncomputable def B__law_line_text : Sf :=
    (sCons (sSet 4 (cCB oLen (aCons (cVar 1) aNil)))
    (sCons (sSet 5 Q__law_line_text_1)
    (sCons (sSet 6 (cIf (toB (cBin oEq (cBin oIx (cBin oIx (cVar 1) (cBin oIx (cVar 5) (cInt (0)))) (cInt (0))) (cInt (0)))) (cBin oSub (cBin oIx (cVar 5) (cInt (0))) (cInt (1))) (cBin oIx (cVar 5) (cInt (0)))))
    (sCons (sSet 7 (cBin oIx (cVar 5) (cNeg (cInt (1)))))
    (sCons (sIf (kAnd (toB (cBin oLt (cBin oAdd (cVar 7) (cInt (1))) (cVar 4))) (toB (cBin oEq (cBin oIx (cBin oIx (cVar 1) (cBin oAdd (cVar 7) (cInt (1)))) (cInt (0))) (cInt (0)))))
    (sSet 7 (cBin oAdd (cVar 7) (cInt (1))))
    sNil)
    (sCons (sSet 8 Q__law_line_text_2)
    (sCons (sSet 9 (cIf (toTr (cVar 8)) (cBin oAdd (cBin oIx (cVar 8) (cNeg (cInt (1)))) (cInt (1))) (cInt (0))))
    (sCons (sSetM 10 (cBin oAdd (cBin oAdd (cLst (aCons (cInt (27)) (aCons (cInt (91)) aNil))) (cCall F__law_joined (aCons (cLst (aCons (cBin oAdd (cVar 2) (cInt (1))) (aCons (cBin oAdd (cVar 6) (cInt (1))) aNil))) aNil))) (cLst (aCons (cInt (72)) aNil))))
    (sCons (sForK [false, true, false, true, false, false, false, true, false, true, true, false] (iRg2 (cVar 6) (cBin oAdd (cVar 7) (cInt (1)))) (gNm 11) L__law_line_text_1)
    (sRet (cTup (aCons (cBin oAdd (cVar 10) (cIf (toB (cBin oGe (cVar 7) (cVar 9))) (cLst (aCons (cInt (27)) (aCons (cInt (91)) (aCons (cInt (75)) aNil)))) (cLst aNil))) (aCons (cVar 3) aNil)))))))))))))
noncomputable def F__law_line_text : Fn := mkFnK 4 12 B__law_line_text
noncomputable def L__law_due_1 : Sf :=
    (sIf (toB (cBin oNe (cBin oIx (cBin oIx (cVar 0) (cInt (0))) (cVar 7)) (cBin oIx (cBin oIx (cVar 1) (cInt (0))) (cVar 7))))
    (sCons (sAsg (gTp 2 (gsCons (gNm 8) (gsCons (gNm 6) gsNil))) (cCall F__law_line_text (aCons (cBin oIx (cBin oIx (cVar 0) (cInt (0))) (cVar 7)) (aCons (cBin oIx (cBin oIx (cVar 1) (cInt (0))) (cVar 7)) (aCons (cVar 7) (aCons (cVar 6) aNil))))))
    (sSet 5 (cBin oAdd (cVar 5) (cVar 8))))
    sNil)
noncomputable def B__law_due : Sf :=
    (sCons (sSet 2 (cLst aNil))
    (sCons (sSet 3 (cCB oLen (aCons (cBin oIx (cVar 1) (cInt (0))) aNil)))
    (sCons (sSet 4 (cCB oLen (aCons (cBin oIx (cBin oIx (cVar 1) (cInt (0))) (cInt (0))) aNil)))
    (sCons (sIf (toB (cBin oNe (cTup (aCons (cCB oLen (aCons (cBin oIx (cVar 0) (cInt (0))) aNil)) (aCons (cCB oLen (aCons (cBin oIx (cBin oIx (cVar 0) (cInt (0))) (cInt (0))) aNil)) aNil))) (cTup (aCons (cVar 3) (aCons (cVar 4) aNil)))))
    (sCons (sSet 2 (cBin oAdd (cBin oAdd (cLst (aCons (cInt (27)) (aCons (cInt (91)) aNil))) (cCall F__law_joined (aCons (cLst (aCons (cInt (8)) (aCons (cVar 3) (aCons (cVar 4) aNil)))) aNil))) (cLst (aCons (cInt (116)) aNil))))
    (sSet 0 (cCall F_resized (aCons (cVar 0) (aCons (cVar 3) (aCons (cVar 4) aNil))))))
    sNil)
    (sCons (sSet 5 (cLst aNil))
    (sCons (sSet 6 (cTup aNil))
    (sCons (sForK [true, true, true, false, false, true, true, false, false] (iRg1 (cVar 3)) (gNm 7) L__law_due_1)
    (sCons (sIf (toTr (cVar 6))
    (sSet 5 (cBin oAdd (cVar 5) (cLst (aCons (cInt (27)) (aCons (cInt (91)) (aCons (cInt (48)) (aCons (cInt (109)) aNil)))))))
    sNil)
    (sCons (sIf (toB (cBin oNe (cBin oIx (cVar 0) (cInt (3))) (cBin oIx (cVar 1) (cInt (3)))))
    (sSet 5 (cBin oAdd (cBin oAdd (cBin oAdd (cVar 5) (cLst (aCons (cInt (27)) (aCons (cInt (93)) (aCons (cInt (50)) (aCons (cInt (59)) aNil)))))) (cCB oList (aCons (cBin oIx (cVar 1) (cInt (3))) aNil))) (cLst (aCons (cInt (7)) aNil))))
    sNil)
    (sCons (sIf (toB (cBin oNe (cBin oIx (cVar 0) (cInt (2))) (cBin oIx (cVar 1) (cInt (2)))))
    (sSet 5 (cBin oAdd (cVar 5) (cLst (aCons (cInt (27)) (aCons (cInt (91)) (aCons (cInt (63)) (aCons (cInt (50)) (aCons (cInt (53)) (aCons (cIf (toTr (cBin oIx (cVar 1) (cInt (2)))) (cInt (104)) (cInt (108))) aNil)))))))))
    sNil)
    (sCons (sIf (kOr (toTr (cVar 5)) (toB (cBin oNe (cBin oIx (cVar 0) (cInt (1))) (cBin oIx (cVar 1) (cInt (1))))))
    (sSet 5 (cBin oAdd (cBin oAdd (cBin oAdd (cVar 5) (cLst (aCons (cInt (27)) (aCons (cInt (91)) aNil)))) (cCall F__law_joined (aCons (cLst (aCons (cBin oAdd (cBin oIx (cBin oIx (cVar 1) (cInt (1))) (cInt (0))) (cInt (1))) (aCons (cBin oAdd (cBin oIx (cBin oIx (cVar 1) (cInt (1))) (cInt (1))) (cInt (1))) aNil))) aNil))) (cLst (aCons (cInt (72)) aNil))))
    sNil)
    (sRet (cBin oAdd (cVar 2) (cVar 5))))))))))))))
noncomputable def F__law_due : Fn := mkFnK 2 9 B__law_due
noncomputable def L_law_1 : Sf :=
    (sCons (sSet 3 (cCall F__law_draws (aCons (cVar 2) (aCons (cInt (17)) aNil))))
    (sCons (sSet 4 (cIf (toB (cBin oEq (cBin oMod (cBin oIx (cVar 3) (cInt (16))) (cInt (3))) (cInt (0)))) (cCall F__law_screen (aCons (cVar 2) aNil)) (cCall F__law_changed (aCons (cVar 1) (aCons (cVar 3) aNil)))))
    (sCons (sIf (toB (cBin oNe (cCall F_difference (aCons (cVar 1) (aCons (cVar 4) aNil))) (cCall F__law_due (aCons (cVar 1) (aCons (cVar 4) aNil)))))
    (sRet (cBl false))
    sNil)
    (sSet 1 (cVar 4)))))
noncomputable def B_law : Sf :=
    (sCons (sSet 1 (cCall F__law_screen (aCons (cCall F__law_cell (aCons (cVar 0) (aCons (cInt (0)) aNil))) aNil)))
    (sCons (sForK [false, true, false, false, false] (iSeq (cSl (cVar 0) (sSome (cInt (1))) sNone)) (gNm 2) L_law_1)
    (sRet (cBl true))))
noncomputable def F_law : Fn := mkFnK 1 5 B_law
end K21
namespace K21
open PySem PySem.Spec PyProof.Rows L2 CI
open K03 (Cell encC encL bl OkL OkSt encC_mk nl_encL nl_encC isGl kindN encLs Scr encS OkS)
theorem e_cell : F__law_cell = K03.F__law_cell := rfl
theorem e_draws : F__law_draws = K03.F__law_draws := rfl
theorem e_screen : F__law_screen = K03.F__law_screen := rfl
theorem e_lstyle : F__law_style = K03.F__law_style := rfl
theorem e_resized : F_resized = K03.F_resized := rfl
theorem e_joined : F__law_joined = K05.F__law_joined := rfl
/-! digits -/
def dgI (i : Int) : List Int := K05.dgT i.toNat
theorem dgI_len {i : Int} (h : i < 10000000) : (dgI i).length ≤ 7 := by
  unfold dgI K05.dgT
  rw [List.length_map]
  exact K05.digs_len (by omega)
theorem digits_eq (i : Int) (h0 : 0 ≤ i) (h : i < 10000000) (M : Mem) : F_digits [.int i] M = some (.new ((dgI i).map .int), M) := by
  obtain ⟨m, rfl⟩ : ∃ m : Nat, i = (m : Int) := ⟨i.toNat, by omega⟩
  have h : m < 10000000 := by omega
  have lg : (((m : Nat) : Int)).natAbs.log2 < 1920 := by
    show m.log2 < 1920
    by_cases z : m = 0
    · rw [z]; decide
    · exact (Nat.log2_lt z).mpr (Nat.lt_trans h (by decide))
  have os : ∀ M, oStr [.int (m : Nat)] M = some (.val (.str (Str.ofString (toString ((m : Nat) : Int))))) := fun M => by
    rw [oStr_int, if_pos lg]
  have q : ∀ M, Q_digits_1 [some (.int (m : Nat)), none] M = some (.new ((dgI (m : Int)).map .int), M) := fun M => by
    have e : (dgI (m : Int)).map D.int = (digs m).filterMap fun d => some (D.int ((48 + d : Nat) : Int)) := by
      unfold dgI K05.dgT; rw [List.map_map, ← List.filterMap_eq_map]; rfl
    rw [e]
    have cn := chD_num m
    unfold Q_digits_1
    refine cLc_ty (gk := none) (fun d : Nat => D.str ⟨#[48 + d]⟩) _ (digs m) ?_ (fun k e => by cases e) (by have := K05.digs_len h; omega) (fun d hd acc => ?_) (fun d _ y e => ?_)
    · rw [← cn]
      simp -implicitDefEqProofs [-oStr_int, os]
    · have oo : ∀ M, oOrd [.str ⟨#[48 + d]⟩] M = some (.val (.int ((48 + d : Nat) : Int))) := fun M => rfl
      simp -implicitDefEqProofs [oo]
    · cases e; rfl
  unfold F_digits B_digits
  rw [mkFnK_eq]
  simp -implicitDefEqProofs [q]
/-- numbers, joined by semicolons -/
def jnI (k : Nat) (ns : List Int) : List Int := K05.jn k (ns.map fun i => some i.toNat)
theorem jnI_n (k : Nat) : jnI k [] = [] := rfl
theorem jnI_c (k : Nat) (n : Int) (ns : List Int) : jnI k (n :: ns) = (if k = 0 then [] else [59]) ++ (dgI n ++ jnI (k + 1) ns) := rfl
def OkN (ns : List Int) : Prop := ∀ n ∈ ns, 0 ≤ n ∧ n < 10000000
theorem jnI_len : ∀ (ns : List Int) (k : Nat), OkN ns → (jnI k ns).length ≤ 8 * ns.length
  | [], _, _ => by rw [jnI_n]; simp
  | n :: ns, k, h => by
    have h1 := dgI_len (h n List.mem_cons_self).2
    have h2 := jnI_len ns (k + 1) (fun y hy => h y (List.mem_cons_of_mem _ hy))
    rw [jnI_c, List.length_append, List.length_append, List.length_cons]
    split <;> simp only [List.length_nil, List.length_cons] <;> omega
theorem joined_eq (ns : List Int) (h : OkN ns) (hl : ns.length ≤ 1000) (M : Mem) : F__law_joined [.lst (ns.map .int)] M = some (.new ((jnI 0 ns).map .int), M) := by
  have e : ns.map D.int = (ns.map fun i => some i.toNat).map K05.opD := by
    rw [List.map_map]
    apply List.map_congr_left
    intro i hi
    have := (h i hi).1
    show D.int i = D.int (Int.ofNat i.toNat)
    congr 1
    rw [Int.ofNat_eq_natCast]; omega
  rw [e, e_joined]
  exact K05.joined_eq _ (fun x hx m e => by
    obtain ⟨i, hi, rfl⟩ := List.mem_map.mp hx
    cases e
    have := (h i hi).2; have := (h i hi).1; omega) (by rw [List.length_map]; exact hl) M
/-! sequences -/
def seqT (ns : List Int) (c : Int) : List Int := ([27, 91] ++ jnI 0 ns) ++ [c]
def styT (st : List Int) : List Int := ([27, 91] ++ jnI 0 (0 :: st)) ++ [109]
theorem jn_fold : ∀ (ns : List Int) (k : Nat) (T : List Int), ((ns.zipIdx k).foldl (fun (a : Unit × List Int) p => ((), a.2 ++ ((if p.2 = 0 then [] else [59]) ++ dgI p.1))) ((), T)).2 = T ++ jnI k ns
  | [], _, T => by rw [jnI_n]; simp
  | n :: ns, k, T => by
    rw [List.zipIdx_cons, List.foldl_cons, jn_fold ns (k + 1), jnI_c]
    simp
theorem sequence_eq (ns : List Int) (c : Int) (h : OkN ns) (hl : ns.length ≤ 100) (M : Mem) : F_sequence [.lst (ns.map .int), .int c] M = some (.new ((seqT ns c).map .int), M) := by
  obtain ⟨G, lp⟩ := loop_acc (step := stpK [false, true, true, false, false] none (enD (ns.map D.int)) (gTp 2 (gsCons (gNm 3) (gsCons (gNm 4) gsNil))) L_sequence_1) (fun p : Int × Nat => D.tup [.int ((p.2 : Nat) : Int), .int p.1]) D.int
    (fun k (_ : Unit) => [none, some (.int c), some (.loc k), none, none]) (fun (a : Unit × List Int) p => ((), a.2 ++ ((if p.2 = 0 then [] else [59]) ++ dgI p.1))) (fun xs a => (∀ p ∈ xs, 0 ≤ p.1 ∧ p.1 < 10000000) ∧ a.2.length + 8 * xs.length ≤ 1000) (fun p xs s T M1 hI => by
      obtain ⟨n, k⟩ := p
      obtain ⟨h1, h2⟩ := hI
      have hn := h1 (n, k) List.mem_cons_self
      simp only [List.length_cons] at h2 hn
      have dg := fun M => digits_eq n hn.1 hn.2 M
      have ld := dgI_len hn.2
      have t1 : T.length < 16777216 := by omega
      refine ⟨?_, fun q hq => h1 q (List.mem_cons_of_mem _ hq), by simp only [List.length_append]; split <;> simp only [List.length_nil, List.length_cons] <;> omega⟩
      by_cases z : k = 0
      · refine ⟨[.lst (T.map .int)], .nx, .inl rfl, ?_⟩
        have t2 : T.length + (dgI n).length ≤ 16777216 := by omega
        subst z
        simp -implicitDefEqProofs [L_sequence_1, dg, t2, oAdd_end, tidy_out]
      · refine ⟨[.lst ((T ++ [59]).map .int)], .nx, .inl rfl, ?_⟩
        have z2 : 0 < k := by omega
        have t2 : T.length + 1 + (dgI n).length ≤ 16777216 := by omega
        simp -implicitDefEqProofs [L_sequence_1, z, z2, t1, dg, t2, oAdd_end, tidy_out]) (ns.zipIdx 0) () [27, 91] M ⟨fun p hp => by
        have := List.mem_zipIdx hp
        obtain ⟨_, _, e⟩ := this
        rw [e]; exact h _ (List.getElem_mem _), by simp; omega⟩
  rw [← enD_map, jn_fold] at lp
  have lj := jnI_len ns 0 h
  have l2 : (jnI 0 ns).length + 1 + 1 ≤ 16777215 := by omega
  have l3 : (jnI 0 ns).length + 1 + 1 + 1 ≤ 16777216 := by omega
  have E : ([27, 91] ++ jnI 0 ns).map D.int ++ [.int c] = (seqT ns c).map .int := by unfold seqT; simp
  have ad : ∀ M1 : Mem, oAdd (.loc M1.length) (.lst [.int c]) (M1 ++ [.lst (([27, 91] ++ jnI 0 ns).map .int)]) = some (.new ((seqT ns c).map .int)) := fun M1 => by
    rw [oAdd_end _ _ _ (by simp; omega), E]
  have ad2 := ad (M ++ G)
  rw [List.length_append] at ad2 lp
  rw [List.append_assoc] at ad2 lp
  generalize [27, 91] ++ jnI 0 ns = W at lp ad2
  unfold F_sequence B_sequence
  rw [mkFnK_eq]
  simp only [List.map_cons, List.map_nil] at lp
  simp -implicitDefEqProofs [lp, ad2]
/-! styles -/
theorem jnI_app : ∀ (a : List Int) (k : Nat) (n : Int), 0 < k ∨ a ≠ [] → jnI k (a ++ [n]) = jnI k a ++ ([59] ++ dgI n)
  | [], k, n, h => by
    have : ¬ k = 0 := by rcases h with h | h <;> first | omega | exact absurd rfl h
    rw [List.nil_append, jnI_c, jnI_n, jnI_n, if_neg this]; simp
  | x :: a, k, n, _ => by
    rw [List.cons_append, jnI_c, jnI_c, jnI_app a (k + 1) n (.inl (by omega))]
    simp
theorem styText_eq (st : List Int) (h : OkN st) (hl : st.length ≤ 100) (M : Mem) : F_style_text [.tup (st.map .int)] M = some (.val (.lst ((jnI 0 (0 :: st)).map .int)), M) := by
  have d0 := fun M => digits_eq 0 (by decide) (by decide) M
  have lp := loop_fold (step := stpK [false, true, false] none (st.map D.int) (gNm 2) L_style_text_1) D.int (fun pre : List Int => [none, some (.lst ((jnI 0 (0 :: pre)).map .int)), none]) (fun _ => M) (fun pre n => pre ++ [n])
    (fun xs pre => OkN xs ∧ OkN pre ∧ pre.length + xs.length ≤ 100) (fun n xs pre hI => by
      obtain ⟨h1, h2, h3⟩ := hI
      simp only [List.length_cons] at h3
      have hn := h1 n List.mem_cons_self
      have dg := fun M => digits_eq n hn.1 hn.2 M
      have ld := dgI_len hn.2
      have lj := jnI_len (0 :: pre) 0 (fun y hy => by
        rcases List.mem_cons.mp hy with rfl | q
        · exact ⟨by decide, by decide⟩
        · exact h2 y q)
      simp only [List.length_cons] at lj
      have ja := jnI_app (0 :: pre) 0 n (.inr (by simp))
      rw [List.cons_append] at ja
      refine ⟨⟨.nx, rfl, ?_⟩, fun y hy => h1 y (List.mem_cons_of_mem _ hy), fun y hy => ?_, by simp; omega⟩
      · generalize jnI 0 (0 :: pre) = J at *
        have A1 : ∀ M, oAdd (.lst (J.map .int)) (.lst [.int 59]) M = some (.new ((J ++ [59]).map .int)) := fun M => by
          rw [oAdd_lst, if_pos (by simp [sizeLine]; omega)]; simp
        have A2 : ∀ M, oAdd (.lst ((J ++ [59]).map .int)) (.lst ((dgI n).map .int)) M = some (.new ((J ++ ([59] ++ dgI n)).map .int)) := fun M => by
          rw [oAdd_lst, if_pos (by simp [sizeLine]; omega)]; simp
        rw [ja]
        generalize J ++ ([59] ++ dgI n) = J2 at *
        generalize J ++ [59] = J1 at *
        simp -implicitDefEqProofs [-oAdd_lst, L_style_text_1, dg, A1, A2]
      · rcases List.mem_append.mp hy with q | q
        · exact h2 y q
        · rw [List.mem_singleton.mp q]; exact hn) st [] ⟨h, fun _ hy => (nomatch hy), by simpa using hl⟩
  have fold : ∀ (xs pre : List Int), xs.foldl (fun pre n => pre ++ [n]) pre = pre ++ xs := fun xs => by
    induction xs with
    | nil => intro pre; simp
    | cons x xs ih => intro pre; rw [List.foldl_cons, ih]; simp
  rw [fold, List.nil_append] at lp
  have j0 : jnI 0 [0] = dgI 0 := by rw [jnI_c, jnI_n]; simp
  rw [j0] at lp
  unfold F_style_text B_style_text
  rw [mkFnK_eq]
  simp -implicitDefEqProofs [d0, lp]
theorem okN_cons {n : Int} {ns : List Int} (h1 : 0 ≤ n ∧ n < 10000000) (h : OkN ns) : OkN (n :: ns) := fun y hy => by
  rcases List.mem_cons.mp hy with rfl | q
  · exact h1
  · exact h y q
theorem styT_len {st : List Int} (h : OkN st) (hl : st.length ≤ 100) : (styT st).length ≤ 11 + 8 * st.length := by
  have lj := jnI_len (0 :: st) 0 (okN_cons ⟨by decide, by decide⟩ h)
  unfold styT
  simp only [List.length_append, List.length_cons, List.length_nil] at *
  omega
theorem styleSeq_eq (st : List Int) (h : OkN st) (hl : st.length ≤ 100) (M : Mem) : F_style_sequence [.tup (st.map .int)] M = some (.new ((styT st).map .int), M) := by
  have te := fun M => styText_eq st h hl M
  have lj := jnI_len (0 :: st) 0 (okN_cons ⟨by decide, by decide⟩ h)
  simp only [List.length_cons] at lj
  have A1 : ∀ M, oAdd (.lst [.int 27, .int 91]) (.lst ((jnI 0 (0 :: st)).map .int)) M = some (.new (([27, 91] ++ jnI 0 (0 :: st)).map .int)) := fun M => by
    rw [oAdd_lst, if_pos (by simp [sizeLine]; omega)]; simp
  have A2 : ∀ M, oAdd (.lst (([27, 91] ++ jnI 0 (0 :: st)).map .int)) (.lst [.int 109]) M = some (.new ((styT st).map .int)) := fun M => by
    rw [oAdd_lst, if_pos (by simp [sizeLine]; omega)]; unfold styT; simp
  generalize [27, 91] ++ jnI 0 (0 :: st) = J at *
  unfold F_style_sequence B_style_sequence
  rw [mkFnK_eq]
  simp -implicitDefEqProofs [-oAdd_lst, te, A1, A2]
theorem kindN_le {n : Int} (h : kindN n ≠ "") : n ≤ 47 := by
  by_cases q : n ≤ 47
  · exact q
  · exfalso; apply h
    unfold kindN
    rw [if_neg (by omega), if_neg (by omega), if_neg (by omega), if_neg (by omega), if_neg (by omega)]
theorem okN_st {st : List Int} (h : OkSt st) : OkN st := fun n hn => by
  have := h.2.1 n hn
  have := kindN_le this.1
  omega
/-- the characters of a word -/
theorem codes_eq (a : Str) (ns : List Int) (h : chD a = ns.map fun n => D.str ⟨#[n.toNat]⟩) (h0 : ∀ n ∈ ns, 0 ≤ n) (hl : ns.length ≤ 1000) (M : Mem) : F_codes [.str a] M = some (.new (ns.map .int), M) := by
  have q : ∀ M, Q_codes_1 [some (.str a), none] M = some (.new (ns.map .int), M) := fun M => by
    have e : ns.map D.int = ns.filterMap fun n => some (D.int n) := (List.filterMap_eq_map (f := D.int) ▸ rfl)
    rw [e]
    unfold Q_codes_1
    refine cLc_ty (gk := none) (fun n : Int => D.str ⟨#[n.toNat]⟩) _ ns ?_ (fun k e => by cases e) (by omega) (fun n hn acc => ?_) (fun d _ y e => ?_)
    · rw [← h]; simp -implicitDefEqProofs
    · have oo : ∀ M, oOrd [.str ⟨#[n.toNat]⟩] M = some (.val (.int (n.toNat : Int))) := fun M => rfl
      have e2 : (n.toNat : Int) = n := by have := h0 n hn; omega
      simp -implicitDefEqProofs [oo, e2]
    · cases e; rfl
  unfold F_codes B_codes
  rw [mkFnK_eq]
  simp -implicitDefEqProofs [q]
theorem codes1 (M : Mem) : F_codes [.str "]2;"] M = some (.new [.int 93, .int 50, .int 59], M) := codes_eq "]2;" [93, 50, 59] (by rfl) (by decide) (by decide) M
theorem codes2 (M : Mem) : F_codes [.str "[?25"] M = some (.new [.int 91, .int 63, .int 50, .int 53], M) := codes_eq "[?25" [91, 63, 50, 53] (by rfl) (by decide) (by decide) M
end K21

namespace K21
open PySem PySem.Spec PyProof.Rows L2 CI
open K03 (Cell encC encL bl OkL OkSt encC_mk nl_encL nl_encC isGl kindN encLs Scr encS OkS)
theorem deq_encC (a b : Cell) : deq (encC a) (encC b) = decide (a = b) := by
  obtain ⟨a1, a2⟩ := a; obtain ⟨b1, b2⟩ := b
  unfold encC
  simp
theorem oNe_C (a b : Cell) (M : Mem) : oNe (encC a) (encC b) M = some (.val (.bl (!decide (a = b)))) := by
  rw [oNe_deq (n := 3) (m := 3) (by decide) (by decide) (K03.plS_encC a) (K03.plS_encC b), deq_encC]
theorem oEq_C (a b : Cell) (M : Mem) : oEq (encC a) (encC b) M = some (.val (.bl (decide (a = b)))) := by
  rw [oEq_deq (n := 3) (m := 3) (by decide) (by decide) (K03.plS_encC a) (K03.plS_encC b), deq_encC]
theorem deq_encL (a b : List Cell) : deq (encL a) (encL b) = decide (a = b) := by
  unfold encL; rw [deq_tup]; exact deqs_map deq_encC a b
theorem oNe_L (a b : List Cell) (M : Mem) : oNe (encL a) (encL b) M = some (.val (.bl (!decide (a = b)))) := by
  rw [oNe_deq (n := 4) (m := 4) (by decide) (by decide) (K03.plS_encL a) (K03.plS_encL b), deq_encL]
theorem encL_len (l : List Cell) (M : Mem) : oLen [encL l] M = some (.val (.int l.length)) := by unfold encL; rw [oLen_tup, List.length_map]
theorem encL_sl (l : List Cell) (lo hi : Option Int) (M : Mem) : oSl lo hi (encL l) M = some (.val (encL (cutL l lo hi))) := by unfold encL; rw [oSl_tup, cutD_map]
/-- the cell at a place (blank beyond the end) -/
def at_ (l : List Cell) (k : Nat) : Cell := l.getD k bl
theorem encL_ix (l : List Cell) (k : Nat) (h : k < l.length) (M : Mem) : oIx (encL l) (.int (k : Int)) M = some (.val (encC (at_ l k))) := by
  unfold encL at_
  rw [oIx_tup, at_map, at_nat (by omega)]
  simp [h]
theorem encC_0 (c : Cell) (M : Mem) : oIx (encC c) (.int 0) M = some (.val (.int c.1)) := rfl
theorem encC_1 (c : Cell) (M : Mem) : oIx (encC c) (.int 1) M = some (.val (.tup (c.2.map .int))) := rfl
/-! the columns that differ -/
def dcs (old new : List Cell) : List Nat := (List.range new.length).filter fun k => !decide (at_ old k = at_ new k)
def dcF (old new : List Cell) : Nat := (dcs old new).headD 0
def dcL (old new : List Cell) : Nat := (dcs old new).getLastD 0
def dFst (old new : List Cell) : Nat := if (at_ new (dcF old new)).1 = 0 then dcF old new - 1 else dcF old new
def dLst (old new : List Cell) : Nat := if dcL old new + 1 < new.length ∧ (at_ new (dcL old new + 1)).1 = 0 then dcL old new + 1 else dcL old new
theorem dcs_lt {old new : List Cell} {k : Nat} (h : k ∈ dcs old new) : k < new.length := by
  unfold dcs at h
  exact List.mem_range.mp (List.mem_filter.mp h).1
theorem dcs_ne {old new : List Cell} (hl : old.length = new.length) (h : old ≠ new) : dcs old new ≠ [] := by
  intro e
  apply h
  apply List.ext_getElem hl
  intro k h1 h2
  have : k ∉ dcs old new := by rw [e]; simp
  unfold dcs at this
  rw [List.mem_filter] at this
  have q : at_ old k = at_ new k := by
    by_cases z : at_ old k = at_ new k
    · exact z
    · exact absurd ⟨List.mem_range.mpr h2, by simp [z]⟩ this
  unfold at_ at q
  simpa [h1, h2] using q
theorem fm_filter {α : Type} (p : α → Bool) (e : α → D) (xs : List α) : (xs.filter p).map e = xs.filterMap fun x => if p x = true then some (e x) else none := by
  induction xs with
  | nil => rfl
  | cons x xs ih =>
    by_cases h : p x = true
    · rw [List.filter_cons_of_pos h, List.map_cons, List.filterMap_cons, if_pos h, ih]
    · rw [List.filter_cons_of_neg h, List.filterMap_cons, if_neg h, ih]
theorem qdiff_eq (old new : List Cell) (hl : old.length = new.length) (hn : new.length ≤ 1000) (x2 x3 x4 x5 : Option D) (M : Mem) :
    Q_differing_columns_1 [some (encL old), some (encL new), x2, x3, x4, x5] M = some (.new ((dcs old new).map fun (k : Nat) => D.int (k : Int)), M) := by
  unfold dcs
  rw [fm_filter]
  have hrg : rgB (new.length : Int) = true := rgB_nat (by omega)
  have el := fun M => encL_len new M
  unfold Q_differing_columns_1
  refine cLc_ty (gk := none) (fun i : Nat => D.int (0 + (i : Int))) _ (List.range new.length) ?_ (fun k e => by cases e) (by simp; omega) (fun i hi acc => ?_) (fun i _ y e => ?_)
  · simp -implicitDefEqProofs [el, hrg, rgD]
  · have hi2 := List.mem_range.mp hi
    have e1 := fun M => encL_ix old i (by omega) M
    have e2 := fun M => encL_ix new i hi2 M
    have ne := fun (a b : Cell) M => oNe_C a b M
    by_cases z : at_ old i = at_ new i
    · simp -implicitDefEqProofs [e1, e2, ne, z]
    · simp -implicitDefEqProofs [e1, e2, ne, z]
  · split at e
    · cases e; rfl
    · cases e
theorem dc_eq (old new : List Cell) (hl : old.length = new.length) (hn : new.length ≤ 1000) (hne : old ≠ new) (h0 : (at_ new 0).1 ≠ 0) (M : Mem) :
    F_differing_columns [encL old, encL new] M = some (.val (.tup [.int (dFst old new : Int), .int (dLst old new : Int)]), M) := by
  have q := fun x2 x3 x4 x5 M => qdiff_eq old new hl hn x2 x3 x4 x5 M
  have hd := dcs_ne hl hne
  have i0 : ∀ M, oIx (.lst ((dcs old new).map fun (k : Nat) => D.int (k : Int))) (.int 0) M = some (.val (.int (dcF old new : Int))) := fun M => by
    rw [oIx_lst, at_map, at_nat (by omega)]
    unfold dcF
    cases hq : dcs old new with
    | nil => exact absurd hq hd
    | cons a b => rfl
  have i1 : ∀ M, oIx (.lst ((dcs old new).map fun (k : Nat) => D.int (k : Int))) (.int (-1)) M = some (.val (.int (dcL old new : Int))) := fun M => by
    have hp : 0 < (dcs old new).length := List.length_pos_iff.mpr hd
    rw [oIx_lst, at_map, at_neg (by omega) (by omega)]
    unfold dcL
    have e : (-1 + ((dcs old new).length : Int)).toNat = (dcs old new).length - 1 := by omega
    rw [e, List.getLastD_eq_getLast?, List.getLast?_eq_getElem?]
    rw [List.getElem?_eq_getElem (by omega)]; rfl
  have lF : dcF old new < new.length := by
    cases hq : dcs old new with
    | nil => exact absurd hq hd
    | cons a b => unfold dcF; rw [hq]; exact dcs_lt (old := old) (by rw [hq]; exact List.mem_cons_self)
  have lL : dcL old new < new.length := by
    unfold dcL
    rw [List.getLastD_eq_getLast?, List.getLast?_eq_some_getLast hd]
    exact dcs_lt (List.getLast_mem hd)
  have a0 := fun M => encL_ix new (dcF old new) lF M
  have el := fun M => encL_len new M
  unfold dFst dLst
  generalize (dcs old new).map (fun (k : Nat) => D.int (k : Int)) = cs at *
  generalize dcF old new = f at *
  generalize dcL old new = l at *
  unfold F_differing_columns B_differing_columns
  rw [mkFnK_eq]
  have key : ∀ M, (if (at_ new f).1 = 0 then (f : Int) - 1 else f) = ((if (at_ new f).1 = 0 then f - 1 else f : Nat) : Int) := fun M => by
    split
    · have : f ≠ 0 := by rintro rfl; exact h0 (by assumption)
      omega
    · rfl
  by_cases z : (at_ new f).1 = 0
  · have f1 : (f : Int) - 1 = ((f - 1 : Nat) : Int) := by
      have : f ≠ 0 := by rintro rfl; exact h0 z
      omega
    by_cases y : l + 1 < new.length
    · have y2 : (l : Int) + 1 < new.length := by omega
      have a1 : ∀ M, oIx (encL new) (.int ((l : Int) + 1)) M = some (.val (encC (at_ new (l + 1)))) := fun M => by
        have := encL_ix new (l + 1) y M
        rwa [show ((l + 1 : Nat) : Int) = (l : Int) + 1 from by omega] at this
      by_cases x : (at_ new (l + 1)).1 = 0
      · simp -implicitDefEqProofs [-oIx_lst, q, i0, i1, a0, encC_0, z, el, y, y2, a1, x, f1]
      · simp -implicitDefEqProofs [-oIx_lst, q, i0, i1, a0, encC_0, z, el, y, y2, a1, x, f1]
    · have y2 : ¬ (l : Int) + 1 < new.length := by omega
      simp -implicitDefEqProofs [-oIx_lst, q, i0, i1, a0, encC_0, z, el, y, y2, f1]
  · by_cases y : l + 1 < new.length
    · have y2 : (l : Int) + 1 < new.length := by omega
      have a1 : ∀ M, oIx (encL new) (.int ((l : Int) + 1)) M = some (.val (encC (at_ new (l + 1)))) := fun M => by
        have := encL_ix new (l + 1) y M
        rwa [show ((l + 1 : Nat) : Int) = (l : Int) + 1 from by omega] at this
      by_cases x : (at_ new (l + 1)).1 = 0
      · simp -implicitDefEqProofs [-oIx_lst, q, i0, i1, a0, encC_0, z, el, y, y2, a1, x]
      · simp -implicitDefEqProofs [-oIx_lst, q, i0, i1, a0, encC_0, z, el, y, y2, a1, x]
    · have y2 : ¬ (l : Int) + 1 < new.length := by omega
      simp -implicitDefEqProofs [-oIx_lst, q, i0, i1, a0, encC_0, z, el, y, y2]
end K21

namespace K21
open PySem PySem.Spec PyProof.Rows L2 CI
open K03 (Cell encC encL bl OkL OkSt encC_mk nl_encL nl_encC isGl kindN encLs Scr encS OkS)
/-! the end of a line -/
def endN (l : List Cell) : Nat → Nat
  | 0 => 0
  | n + 1 => if at_ l n = bl then endN l n else n + 1
theorem endN_le (l : List Cell) : ∀ n, endN l n ≤ n
  | 0 => Nat.le_refl _
  | n + 1 => by
    unfold endN
    split
    · have := endN_le l n; omega
    · omega
theorem end_wh (l : List Cell) (M : Mem) : ∀ (n j : Nat), j ≤ l.length → j < n → whK [true, true] T_end_of_1 L_end_of_1 n [some (encL l), some (.int (j : Int))] M = some (.nx, [some (encL l), some (.int (endN l j : Int))], M)
  | 0, j, _, h => by omega
  | n + 1, 0, hl, h => by
    refine whK_stop ?_
    simp -implicitDefEqProofs [T_end_of_1]
  | n + 1, j + 1, hl, h => by
    have ih := end_wh l M n j (by omega) (by omega)
    have e1 : ((j + 1 : Nat) : Int) - 1 = (j : Int) := by omega
    have e0 : (0 : Int) < ((j + 1 : Nat) : Int) := by omega
    have e2 := fun M => encL_ix l j (by omega) M
    have eb : D.tup [.int 32, .tup []] = encC bl := rfl
    have oe := fun (a b : Cell) M => oEq_C a b M
    by_cases z : at_ l j = bl
    · rw [show endN l (j + 1) = endN l j from by rw [endN, if_pos z]]
      generalize ((j + 1 : Nat) : Int) = jj at *
      rw [whK_go (M' := M) (ρ2 := [some (encL l), some (.int (j : Int))]) (M2 := M) (by simp -implicitDefEqProofs [T_end_of_1, e1, e0, e2, eb, oe, z]) (by simp -implicitDefEqProofs [L_end_of_1, e1])]
      simp -implicitDefEqProofs [nl_encL, ih]
    · rw [show endN l (j + 1) = j + 1 from by rw [endN, if_neg z]]
      generalize ((j + 1 : Nat) : Int) = jj at *
      refine whK_stop ?_
      simp -implicitDefEqProofs [T_end_of_1, e1, e0, e2, eb, oe, z]
theorem end_eq (l : List Cell) (hl : l.length ≤ 1000) (M : Mem) : F_end_of [encL l] M = some (.val (.int (endN l l.length : Int)), M) := by
  have w := end_wh l M 100000 l.length (Nat.le_refl _) (by omega)
  have el := fun M => encL_len l M
  unfold F_end_of B_end_of
  rw [mkFnK_eq]
  simp -implicitDefEqProofs [el, w]
end K21

namespace K21
open PySem PySem.Spec PyProof.Rows L2 CI
open K03 (Cell encC encL bl OkL OkSt encC_mk nl_encL nl_encC isGl kindN encLs Scr encS OkS)
/-! the text of a line -/
def lnStep (a : List Int × List Int) (c : Cell) : List Int × List Int := if c.1 = 0 then a else (c.2, (if c.2 = a.1 then a.2 else a.2 ++ styT c.2) ++ [c.1])
def segOf (new : List Cell) (a b : Nat) : List Cell := (new.take b).drop a
def lineR (old new : List Cell) (row : Nat) (st : List Int) : List Int × List Int :=
  (segOf new (dFst old new) (min (dLst old new + 1) (endN new new.length))).foldl lnStep (st, seqT [(row : Int) + 1, (dFst old new : Int) + 1] 72)
def lineT (old new : List Cell) (row : Nat) (st : List Int) : List Int × List Int :=
  ((lineR old new row st).1, (lineR old new row st).2 ++ if endN new new.length ≤ dLst old new then seqT [] 75 else [])
def OkC (l : List Cell) : Prop := ∀ c ∈ l, OkN c.2 ∧ c.2.length ≤ 100
theorem okL_c {l : List Cell} (h : OkL l) : OkC l := fun c hc => ⟨okN_st (h.sty c hc), (h.sty c hc).2.2⟩
theorem lnStep_len (a : List Int × List Int) (c : Cell) (h : OkN c.2 ∧ c.2.length ≤ 100) : (lnStep a c).2.length ≤ a.2.length + 900 := by
  have := styT_len h.1 h.2
  unfold lnStep
  split
  · omega
  · simp only [List.length_append, List.length_singleton]
    split
    · omega
    · rw [List.length_append]; omega
theorem lnFold_len : ∀ (cs : List Cell) (a : List Int × List Int), OkC cs → (cs.foldl lnStep a).2.length ≤ a.2.length + 900 * cs.length
  | [], a, _ => by simp
  | c :: cs, a, h => by
    have h1 := lnStep_len a c (h c List.mem_cons_self)
    have h2 := lnFold_len cs (lnStep a c) (fun x hx => h x (List.mem_cons_of_mem _ hx))
    rw [List.foldl_cons, List.length_cons]; omega
theorem lnFold_st : ∀ (cs : List Cell) (a : List Int × List Int), OkC cs → (OkN a.1 ∧ a.1.length ≤ 100) → OkN (cs.foldl lnStep a).1 ∧ (cs.foldl lnStep a).1.length ≤ 100
  | [], a, _, h => h
  | c :: cs, a, h, ha => by
    rw [List.foldl_cons]
    refine lnFold_st cs _ (fun x hx => h x (List.mem_cons_of_mem _ hx)) ?_
    unfold lnStep
    split
    · exact ha
    · exact h c List.mem_cons_self
theorem segOf_ok {new : List Cell} (h : OkC new) (a b : Nat) : OkC (segOf new a b) := fun c hc => h c (List.mem_of_mem_take (List.mem_of_mem_drop hc))
theorem segOf_len (new : List Cell) (a b : Nat) : (segOf new a b).length ≤ new.length := by unfold segOf; rw [List.length_drop, List.length_take]; omega
theorem seqT_len (ns : List Int) (c : Int) (h : OkN ns) : (seqT ns c).length ≤ 8 * ns.length + 3 := by
  have := jnI_len ns 0 h
  unfold seqT
  simp only [List.length_append, List.length_cons, List.length_nil]; omega
abbrev kLD : List Bool := [false, false, false, true, true, true, false, true, false, false]
theorem line_step (c : Cell) (h : OkN c.2 ∧ c.2.length ≤ 100) (st T : List Int) (hT : T.length ≤ 1000000) (e l : Int) (M1 : Mem) : ∃ G,
    stpK kLD none [] (gTp 2 (gsCons (gNm 8) (gsCons (gNm 9) gsNil))) L_line_difference_1 (encC c) [none, none, none, some (.tup (st.map .int)), some (.int e), some (.loc M1.length), none, some (.int l), none, none] (M1 ++ [.lst (T.map .int)]) =
      some (.nx, [none, none, none, some (.tup ((lnStep (st, T) c).1.map .int)), some (.int e), some (.loc (M1 ++ G).length), none, some (.int l), none, none], M1 ++ G ++ [.lst ((lnStep (st, T) c).2.map .int)]) := by
  have ec : encC c = .tup [.int c.1, .tup (c.2.map .int)] := rfl
  rw [ec]
  unfold lnStep
  by_cases z : c.1 = 0
  · refine ⟨[], ?_⟩
    simp -implicitDefEqProofs [L_line_difference_1, z]
  · by_cases y : c.2 = st
    · refine ⟨[], ?_⟩
      have t1 : T.length < 16777216 := by omega
      simp -implicitDefEqProofs [L_line_difference_1, z, y, t1, oNe_ints]
    · have ss := fun M => styleSeq_eq c.2 h.1 h.2 M
      have ls := styT_len h.1 h.2
      refine ⟨[.lst (T.map .int)], ?_⟩
      have t1 : T.length + (styT c.2).length ≤ 16777216 := by omega
      have t2 : T.length + (styT c.2).length < 16777216 := by omega
      simp -implicitDefEqProofs [L_line_difference_1, z, y, t1, t2, ss, oNe_ints, oAdd_end, tidy_out]
theorem nlD_loc {n k : Nat} {d : D} (h : n ≤ k) : nl n (.tup [.loc k, d]) = false := by
  have : ¬ k < n := by omega
  simp [this]
theorem lineDiff_eq (old new : List Cell) (hl : old.length = new.length) (hn : new.length ≤ 100) (hne : old ≠ new) (h0 : (at_ new 0).1 ≠ 0) (hc : OkC new) (row : Nat) (hr : row ≤ 100) (st : List Int) (M : Mem) : ∃ G,
    F_line_difference [encL old, encL new, .int (row : Int), .tup (st.map .int)] M = some (.val (.tup [.loc (M ++ G).length, .tup ((lineT old new row st).1.map .int)]), M ++ G ++ [.lst ((lineT old new row st).2.map .int)]) := by
  have dc := fun M => dc_eq old new hl (by omega) hne h0 M
  have ee := fun M => end_eq new (by omega) M
  have hd := dcs_ne hl hne
  have lL : dcL old new < new.length := by
    unfold dcL
    rw [List.getLastD_eq_getLast?, List.getLast?_eq_some_getLast hd]
    exact dcs_lt (List.getLast_mem hd)
  have lF : dcF old new < new.length := by
    cases hq : dcs old new with
    | nil => exact absurd hq hd
    | cons a b => unfold dcF; rw [hq]; exact dcs_lt (old := old) (by rw [hq]; exact List.mem_cons_self)
  have lF2 : dFst old new < new.length := by unfold dFst; split <;> omega
  have lL2 : dLst old new < new.length := by unfold dLst; split <;> omega
  have le := endN_le new new.length
  unfold lineT lineR
  generalize dFst old new = f at *
  generalize dLst old new = l at *
  generalize endN new new.length = e at *
  have okF : OkN [(row : Int) + 1, (f : Int) + 1] := okN_cons ⟨by omega, by omega⟩ (okN_cons ⟨by omega, by omega⟩ fun _ h => (nomatch h))
  have s1 := fun M => sequence_eq [(row : Int) + 1, (f : Int) + 1] 72 okF (by simp) M
  have s2 := fun M => sequence_eq [] 75 (fun _ h => (nomatch h)) (by simp) M
  have l1 := seqT_len _ 72 okF
  have l2 := seqT_len [] 75 (fun _ h => (nomatch h))
  simp only [List.length_cons, List.length_nil] at l1 l2
  simp only [List.map_cons, List.map_nil] at s1 s2
  generalize seqT [(row : Int) + 1, (f : Int) + 1] 72 = T0 at *
  generalize seqT [] 75 = T9 at *
  have hsl : cutL new (some (f : Int)) (some (min ((l : Int) + 1) (e : Int))) = segOf new f (min (l + 1) e) := by
    rw [cutL_mid (by omega) (by omega)]
    unfold segOf
    congr 1
    congr 1
    omega
  have ok2 := segOf_ok hc f (min (l + 1) e)
  have ln2 := segOf_len new f (min (l + 1) e)
  generalize segOf new f (min (l + 1) e) = cs at *
  obtain ⟨G, lp⟩ := loop_acc (step := stpK kLD none (cs.map encC) (gTp 2 (gsCons (gNm 8) (gsCons (gNm 9) gsNil))) L_line_difference_1) encC D.int
    (fun k (st : List Int) => [none, none, none, some (.tup (st.map .int)), some (.int (e : Int)), some (.loc k), none, some (.int (l : Int)), none, none]) lnStep (fun xs a => OkC xs ∧ a.2.length + 900 * xs.length ≤ 100000) (fun c xs st T M1 hI => by
      have hc1 := hI.1 c List.mem_cons_self
      have h2 := hI.2
      simp only [List.length_cons] at h2
      obtain ⟨G, q⟩ := line_step c hc1 st T (by omega) (e : Int) (l : Int) M1
      have := lnStep_len (st, T) c hc1
      simp only at this
      exact ⟨⟨G, .nx, .inl rfl, by rw [stpK_ds (ds' := [])]; exact q⟩, fun x hx => hI.1 x (List.mem_cons_of_mem _ hx), by omega⟩) cs st T0 M ⟨ok2, by show T0.length + 900 * cs.length ≤ 100000; omega⟩
  have lr := lnFold_len cs (st, T0) ok2
  generalize cs.foldl lnStep (st, T0) = r at *
  obtain ⟨r1, r2⟩ := r
  simp only at lp lr ⊢
  have asC : ∀ M, asS M (encL cs) = some (cs.map encC) := fun _ => rfl
  have gk : gkOf (encL cs) = none := rfl
  have sl := fun lo hi M => encL_sl new lo hi M
  by_cases q : e ≤ l
  · have q2 : (e : Int) ≤ l := by omega
    refine ⟨G ++ [.lst (r2.map .int)], ?_⟩
    rw [if_pos q]
    have A1 : ∀ M1 : Mem, oAdd (.loc M1.length) (.lst (T9.map .int)) (M1 ++ [.lst (r2.map .int)]) = some (.new ((r2 ++ T9).map .int)) := fun M1 => by
      rw [oAdd_end _ _ _ (by simp; omega), List.map_append]
    have A2 := A1 (M ++ G)
    generalize r2 ++ T9 = r9 at *
    have fo := fun Me => finK_out (M := M) (Me := Me) (ds := [.loc (M.length + (G.length + 1)), .tup (r1.map .int)]) (nlD_loc (by omega))
    rw [List.length_append] at lp A2
    unfold F_line_difference B_line_difference
    rw [mkFnK_eq]
    simp only [List.append_assoc, List.cons_append, List.nil_append, List.length_append, List.length_cons, List.length_nil] at lp A2 ⊢
    simp -implicitDefEqProofs [dc, ee, s1, s2, sl, hsl, asC, gk, lp, q2, A2, fo]
  · have q2 : ¬ (e : Int) ≤ l := by omega
    refine ⟨G, ?_⟩
    rw [if_neg q, List.append_nil]
    have fo := fun Me => finK_out (M := M) (Me := Me) (ds := [.loc (M.length + G.length), .tup (r1.map .int)]) (nlD_loc (by omega))
    rw [List.length_append] at lp ⊢
    rw [List.append_assoc] at lp ⊢
    unfold F_line_difference B_line_difference
    rw [mkFnK_eq]
    simp -implicitDefEqProofs [dc, ee, s1, s2, sl, hsl, asC, gk, lp, q2, fo]
theorem oAdd_endR (M : Mem) (xs ys : List D) (h : xs.length + ys.length ≤ 16777216) : oAdd (.lst xs) (.loc M.length) (M ++ [.lst ys]) = some (.new (xs ++ ys)) := by
  have e : asW (M ++ [.lst ys]) (.loc M.length) = some ys := by
    show (match (M ++ [O.lst ys])[M.length]? with | some (.lst ds) => some ds | _ => none) = some ys
    rw [get_end]
  have e2 : asW (M ++ [.lst ys]) (.lst xs) = some xs := rfl
  show (match asW (M ++ [.lst ys]) (.lst xs), asW (M ++ [.lst ys]) (.loc M.length) with | some as, some bs => if as.length + bs.length ≤ sizeLine then some (Rz.new (as ++ bs)) else none | _, _ => none) = _
  rw [e, e2]
  simp [h]
theorem lineT_len (old new : List Cell) (row : Nat) (st : List Int) (hn : new.length ≤ 100) (hr : row ≤ 100) (hc : OkC new) (hf : dFst old new < 1000) : (lineT old new row st).2.length ≤ 100000 := by
  have ok2 := segOf_ok hc (dFst old new) (min (dLst old new + 1) (endN new new.length))
  have ln2 := segOf_len new (dFst old new) (min (dLst old new + 1) (endN new new.length))
  have lr := lnFold_len _ (st, seqT [(row : Int) + 1, (dFst old new : Int) + 1] 72) ok2
  have okF : OkN [(row : Int) + 1, (dFst old new : Int) + 1] := okN_cons ⟨by omega, by omega⟩ (okN_cons ⟨by omega, by omega⟩ fun _ h => (nomatch h))
  have l1 := seqT_len _ 72 okF
  have l2 := seqT_len [] 75 (fun _ h => (nomatch h))
  simp only [List.length_cons, List.length_nil] at l1 l2
  unfold lineT lineR
  simp only [List.length_append]
  simp only at lr
  split
  · omega
  · simp only [List.length_nil]; omega
theorem lineT_st (old new : List Cell) (row : Nat) (st : List Int) (hc : OkC new) (hs : OkN st ∧ st.length ≤ 100) : OkN (lineT old new row st).1 ∧ (lineT old new row st).1.length ≤ 100 := by
  unfold lineT lineR
  exact lnFold_st _ _ (segOf_ok hc _ _) hs
theorem dFst_lt {old new : List Cell} (hl : old.length = new.length) (hne : old ≠ new) : dFst old new < new.length := by
  have hd := dcs_ne hl hne
  have lF : dcF old new < new.length := by
    cases hq : dcs old new with
    | nil => exact absurd hq hd
    | cons a b => unfold dcF; rw [hq]; exact dcs_lt (old := old) (by rw [hq]; exact List.mem_cons_self)
  unfold dFst; split <;> omega
/-! all lines -/
def lnsStep (old new : List (List Cell)) (a : List Int × List Int) (k : Nat) : List Int × List Int :=
  if old.getD k [] = new.getD k [] then a else ((lineT (old.getD k []) (new.getD k []) k a.1).1, a.2 ++ (lineT (old.getD k []) (new.getD k []) k a.1).2)
def linesT (old new : List (List Cell)) : List Int :=
  ((List.range new.length).foldl (lnsStep old new) ([], [])).2 ++ if ((List.range new.length).foldl (lnsStep old new) ([], [])).1 = [] then [] else styT []
/-- lines that are lines of so many cells -/
def OkLs (ls : List (List Cell)) (c : Nat) : Prop := ∀ l ∈ ls, OkL l ∧ l.length = c
theorem at0 {l : List Cell} (h : OkL l) (hl : 0 < l.length) : (at_ l 0).1 ≠ 0 := by
  cases h with
  | nil => simp at hl
  | nar q _ _ => unfold at_; simp; omega
  | wid q _ _ => unfold at_; simp; omega
theorem encLs_ix (ls : List (List Cell)) (k : Nat) (h : k < ls.length) (M : Mem) : oIx (encLs ls) (.int (k : Int)) M = some (.val (encL (ls.getD k []))) := by
  unfold encLs
  rw [oIx_tup, at_map, at_nat (by omega)]
  simp [h]
theorem encLs_len (ls : List (List Cell)) (M : Mem) : oLen [encLs ls] M = some (.val (.int ls.length)) := by unfold encLs; rw [oLen_tup, List.length_map]
theorem nl_encLs {n : Nat} (ls : List (List Cell)) : nl n (encLs ls) = true := by unfold encLs; simp [nl_encL]
theorem getD_mem {ls : List (List Cell)} {k : Nat} (h : k < ls.length) : ls.getD k [] ∈ ls := by
  rw [List.getD_eq_getElem?_getD, List.getElem?_eq_getElem h]; exact List.getElem_mem _
structure PLs (old new : List (List Cell)) (c : Nat) : Prop where
  o : OkLs old c
  n : OkLs new c
  len : old.length = new.length
  r : new.length ≤ 12
  c2 : 2 ≤ c
  c4 : c ≤ 40
abbrev kLs : List Bool := [true, true, true, true, false, false]
theorem lns_step (old new : List (List Cell)) (c : Nat) (h : PLs old new c) (k : Nat) (hk : k < new.length) (st T : List Int) (hs : OkN st ∧ st.length ≤ 100) (hT : T.length ≤ 100000 * k) (M : Mem) :
    stpK kLs none [] (gNm 4) L_lines_difference_1 (.int (0 + (k : Int))) [some (encLs old), some (encLs new), some (.lst (T.map .int)), some (.tup (st.map .int)), none, none] M =
      some (.nx, [some (encLs old), some (encLs new), some (.lst ((lnsStep old new (st, T) k).2.map .int)), some (.tup ((lnsStep old new (st, T) k).1.map .int)), none, none], M) := by
  have o1 := fun M => encLs_ix old k (by rw [h.len]; exact hk) M
  have n1 := fun M => encLs_ix new k hk M
  have ho := h.o _ (getD_mem (ls := old) (k := k) (by rw [h.len]; exact hk))
  have hn := h.n _ (getD_mem (ls := new) (k := k) hk)
  have ne := fun (a b : List Cell) M => oNe_L a b M
  have hr := h.r
  have hc2 := h.c2
  have hc4 := h.c4
  unfold lnsStep
  generalize old.getD k [] = a at *
  generalize new.getD k [] = b at *
  by_cases q : a = b
  · simp -implicitDefEqProofs [L_lines_difference_1, o1, n1, ne, q, nl_encLs]
  · obtain ⟨G, le⟩ := lineDiff_eq a b (by omega) (by omega) q (at0 hn.1 (by omega)) (okL_c hn.1) k (by omega) st M
    have ll := lineT_len a b k st (by omega) (by omega) (okL_c hn.1) (by have := dFst_lt (by omega : a.length = b.length) q; omega)
    generalize lineT a b k st = r at *
    obtain ⟨r1, r2⟩ := r
    simp only at le ll
    have A1 : ∀ M1 : Mem, oAdd (.lst (T.map .int)) (.loc M1.length) (M1 ++ [.lst (r2.map .int)]) = some (.new ((T ++ r2).map .int)) := fun M1 => by
      rw [oAdd_endR _ _ _ (by simp; omega), List.map_append]
    have A2 := A1 (M ++ G)
    rw [List.length_append] at le A2
    rw [List.append_assoc] at le A2
    rw [if_neg q]
    simp only
    generalize T ++ r2 = W at A2 ⊢
    simp -implicitDefEqProofs [L_lines_difference_1, o1, n1, ne, q, nl_encLs, le, A2]
theorem lns_fold (old new : List (List Cell)) (c : Nat) (h : PLs old new c) : ∀ (n : Nat), n ≤ new.length → (OkN ((List.range n).foldl (lnsStep old new) ([], [])).1 ∧ ((List.range n).foldl (lnsStep old new) ([], [])).1.length ≤ 100) ∧ ((List.range n).foldl (lnsStep old new) ([], [])).2.length ≤ 100000 * n
  | 0, _ => ⟨⟨fun _ h => (nomatch h), by simp⟩, by simp⟩
  | n + 1, hn => by
    obtain ⟨h1, h2⟩ := lns_fold old new c h n (by omega)
    rw [List.range_succ, List.foldl_append, List.foldl_cons, List.foldl_nil]
    generalize (List.range n).foldl (lnsStep old new) ([], []) = a at *
    have hc2 := h.c2
    have hc4 := h.c4
    have hr := h.r
    have ho := h.o _ (getD_mem (ls := old) (k := n) (by rw [h.len]; omega))
    have hb := h.n _ (getD_mem (ls := new) (k := n) (by omega))
    unfold lnsStep
    split
    · exact ⟨h1, by omega⟩
    · rename_i q
      refine ⟨lineT_st _ _ _ _ (okL_c hb.1) h1, ?_⟩
      have ll := lineT_len (old.getD n []) (new.getD n []) n a.1 (by omega) (by omega) (okL_c hb.1) (by have := dFst_lt (by omega) q; omega)
      rw [List.length_append]
      omega
theorem linesDiff_eq (old new : List (List Cell)) (c : Nat) (h : PLs old new c) (M : Mem) : F_lines_difference [encLs old, encLs new] M = some (.val (.lst ((linesT old new).map .int)), M) := by
  have key : ∀ n, n ≤ new.length → loopF (stpK kLs none [] (gNm 4) L_lines_difference_1) ((List.range n).map fun k : Nat => D.int (0 + (k : Int))) [some (encLs old), some (encLs new), some (.lst []), some (.tup []), none, none] M =
      some (.nx, [some (encLs old), some (encLs new), some (.lst (((List.range n).foldl (lnsStep old new) ([], [])).2.map .int)), some (.tup (((List.range n).foldl (lnsStep old new) ([], [])).1.map .int)), none, none], M) := fun n hn => by
    have lp := loop_fold (step := stpK kLs none [] (gNm 4) L_lines_difference_1) (fun k : Nat => D.int (0 + (k : Int))) (fun a : List Int × List Int => [some (encLs old), some (encLs new), some (.lst (a.2.map .int)), some (.tup (a.1.map .int)), none, none]) (fun _ => M)
      (lnsStep old new) (fun xs a => ∃ j, xs = (List.range n).drop j ∧ j ≤ n ∧ a = (List.range j).foldl (lnsStep old new) ([], [])) (fun x xs a hI => by
        obtain ⟨j, e, hj, rfl⟩ := hI
        have jn : j < n := by
          by_cases z : j < n
          · exact z
          · rw [List.drop_eq_nil_of_le (by simp; omega)] at e; cases e
        have ex : x = j ∧ xs = (List.range n).drop (j + 1) := by
          rw [List.drop_eq_getElem_cons (by simpa using jn)] at e
          obtain ⟨e1, e2⟩ := List.cons.inj e
          exact ⟨by rw [e1]; simp, e2⟩
        obtain ⟨rfl, rfl⟩ := ex
        have f := lns_fold old new c h x (by omega)
        refine ⟨⟨.nx, rfl, ?_⟩, x + 1, rfl, by omega, by rw [List.range_succ, List.foldl_append]; rfl⟩
        generalize (List.range x).foldl (lnsStep old new) ([], []) = a at *
        exact lns_step old new c h x (by omega) a.1 a.2 f.1 f.2 M) (List.range n) ([], []) ⟨0, by simp, by omega, rfl⟩
    exact lp
  have k2 := key new.length (Nat.le_refl _)
  have hrg : rgB (new.length : Int) = true := rgB_nat (by have := h.r; omega)
  have rge : rgD 0 new.length = (List.range new.length).map fun k : Nat => D.int (0 + (k : Int)) := by unfold rgD; simp
  rw [← rge, stpK_ds (ds' := rgD 0 new.length)] at k2
  have el := fun M => encLs_len new M
  have f := lns_fold old new c h new.length (Nat.le_refl _)
  have hr := h.r
  have ss := fun M => styleSeq_eq [] (fun _ h => (nomatch h)) (by simp) M
  have ls := styT_len (st := []) (fun _ h => (nomatch h)) (by simp)
  simp only [List.map_nil, List.length_nil] at ss ls
  unfold linesT
  generalize (List.range new.length).foldl (lnsStep old new) ([], []) = a at *
  obtain ⟨a1, a2⟩ := a
  simp only at f k2 ⊢
  have A1 : ∀ M, oAdd (.lst (a2.map .int)) (.lst ((styT []).map .int)) M = some (.new ((a2 ++ styT []).map .int)) := fun M => by
    rw [oAdd_lst, if_pos (by simp [sizeLine]; omega), List.map_append]
  have ne : ∀ M, oNe (.tup (a1.map .int)) (.tup []) M = some (.val (.bl (!decide (a1 = [])))) := fun M => oNe_ints (b := [])
  unfold F_lines_difference B_lines_difference
  rw [mkFnK_eq]
  by_cases z : a1 = []
  · rw [if_pos z, List.append_nil]
    subst z
    have ne0 : ∀ M, oNe (.tup []) (.tup []) M = some (.val (.bl false)) := fun M => oNe_ints (a := []) (b := [])
    simp -implicitDefEqProofs [el, hrg, k2, ne0]
  · rw [if_neg z]
    generalize a2 ++ styT [] = W at *
    simp -implicitDefEqProofs [-oAdd_lst, el, hrg, k2, ne, z, ss, A1]
end K21

namespace K21
open PySem PySem.Spec PyProof.Rows L2 CI
open K03 (Cell encC encL bl OkL OkSt encC_mk nl_encL nl_encC isGl kindN encLs Scr encS OkS)
noncomputable def dTtl : Sf := (sIf (toB (cBin oNe (cBin oIx (cVar 0) (cInt (3))) (cBin oIx (cVar 1) (cInt (3))))) (sSet 5 (cBin oAdd (cBin oAdd (cBin oAdd (cBin oAdd (cVar 5) (cLst (aCons (cInt (27)) aNil))) (cCall F_codes (aCons (cStr "]2;") aNil))) (cCB oList (aCons (cBin oIx (cVar 1) (cInt (3))) aNil))) (cLst (aCons (cInt (7)) aNil)))) sNil)
noncomputable def dVis : Sf := (sIf (toB (cBin oNe (cBin oIx (cVar 0) (cInt (2))) (cBin oIx (cVar 1) (cInt (2))))) (sSet 5 (cBin oAdd (cBin oAdd (cBin oAdd (cVar 5) (cLst (aCons (cInt (27)) aNil))) (cCall F_codes (aCons (cStr "[?25") aNil))) (cLst (aCons (cIf (toTr (cBin oIx (cVar 1) (cInt (2)))) (cInt (104)) (cInt (108))) aNil)))) sNil)
noncomputable def dCur : Sf := (sIf (kOr (toTr (cVar 5)) (toB (cBin oNe (cBin oIx (cVar 0) (cInt (1))) (cBin oIx (cVar 1) (cInt (1)))))) (sSet 5 (cBin oAdd (cVar 5) (cCall F_sequence (aCons (cLst (aCons (cBin oAdd (cBin oIx (cBin oIx (cVar 1) (cInt (1))) (cInt (0))) (cInt (1))) (aCons (cBin oAdd (cBin oIx (cBin oIx (cVar 1) (cInt (1))) (cInt (1))) (cInt (1))) aNil))) (aCons (cInt (72)) aNil))))) sNil)
noncomputable def restF : Sf := sCons (sSet 5 (cCall F_lines_difference (aCons (cBin oIx (cVar 0) (cInt (0))) (aCons (cBin oIx (cVar 1) (cInt (0))) aNil)))) (sCons dTtl (sCons dVis (sCons dCur (sRet (cBin oAdd (cVar 2) (cVar 5))))))
theorem B_diff : B_difference = (sCons (sSet 2 (cLst aNil)) (sCons (sSet 3 (cCB oLen (aCons (cBin oIx (cVar 1) (cInt (0))) aNil))) (sCons (sSet 4 (cCB oLen (aCons (cBin oIx (cBin oIx (cVar 1) (cInt (0))) (cInt (0))) aNil))) (sCons (sIf (kOr (toB (cBin oNe (cCB oLen (aCons (cBin oIx (cVar 0) (cInt (0))) aNil)) (cVar 3))) (toB (cBin oNe (cCB oLen (aCons (cBin oIx (cBin oIx (cVar 0) (cInt (0))) (cInt (0))) aNil)) (cVar 4)))) (sCons (sSet 2 (cCall F_sequence (aCons (cLst (aCons (cInt (8)) (aCons (cVar 3) (aCons (cVar 4) aNil)))) (aCons (cInt (116)) aNil)))) (sSet 0 (cCall F_resized (aCons (cVar 0) (aCons (cVar 3) (aCons (cVar 4) aNil)))))) sNil) restF)))) := rfl
def r1T (old new : Scr) (R : List Int) : List Int := if old.title = new.title then R else ((R ++ [27, 93, 50, 59]) ++ new.title) ++ [7]
def r2T (old new : Scr) (R : List Int) : List Int := if old.vis = new.vis then R else R ++ [27, 91, 63, 50, 53, if new.vis then 104 else 108]
def r3T (old new : Scr) (R : List Int) : List Int := if R = [] ∧ old.row = new.row ∧ old.col = new.col then R else R ++ seqT [(new.row : Int) + 1, (new.col : Int) + 1] 72
def restT (old new : Scr) : List Int := r3T old new (r2T old new (r1T old new (linesT old.lines new.lines)))
theorem S0 (s : Scr) (M : Mem) : oIx (encS s) (.int 0) M = some (.val (encLs s.lines)) := by unfold encS; rw [oIx_tup, atI_0]; rfl
theorem S1 (s : Scr) (M : Mem) : oIx (encS s) (.int 1) M = some (.val (.tup [.int s.row, .int s.col])) := rfl
theorem S2 (s : Scr) (M : Mem) : oIx (encS s) (.int 2) M = some (.val (.bl s.vis)) := rfl
theorem S3 (s : Scr) (M : Mem) : oIx (encS s) (.int 3) M = some (.val (.tup (s.title.map .int))) := rfl
theorem ttl_eq (old new : Scr) (R : List Int) (hR : R.length ≤ 10000000) (ht : new.title.length ≤ 1000) (x2 x3 x4 : Option D) (M : Mem) : dTtl [some (encS old), some (encS new), x2, x3, x4, some (.lst (R.map .int))] M =
    some (.nx, [some (encS old), some (encS new), x2, x3, x4, some (.lst ((r1T old new R).map .int))], M) := by
  have c1 := fun M => codes1 M
  have ne := fun (a b : List Int) M => @oNe_ints a b M
  have s3 := fun (s : Scr) M => S3 s M
  unfold dTtl r1T
  by_cases q : old.title = new.title
  · rw [if_pos q]
    simp -implicitDefEqProofs [s3, ne, q]
  · rw [if_neg q]
    have A1 : ∀ M, oAdd (.lst (R.map .int)) (.lst [.int 27]) M = some (.new ((R ++ [27]).map .int)) := fun M => by
      rw [oAdd_lst, if_pos (by simp [sizeLine]; omega)]; simp
    have A2 : ∀ M, oAdd (.lst ((R ++ [27]).map .int)) (.lst [.int 93, .int 50, .int 59]) M = some (.new ((R ++ [27, 93, 50, 59]).map .int)) := fun M => by
      rw [oAdd_lst, if_pos (by simp [sizeLine]; omega)]; simp
    have A3 : ∀ M, oAdd (.lst ((R ++ [27, 93, 50, 59]).map .int)) (.lst (new.title.map .int)) M = some (.new (((R ++ [27, 93, 50, 59]) ++ new.title).map .int)) := fun M => by
      rw [oAdd_lst, if_pos (by simp [sizeLine]; omega)]; simp
    have A4 : ∀ M, oAdd (.lst (((R ++ [27, 93, 50, 59]) ++ new.title).map .int)) (.lst [.int 7]) M = some (.new ((((R ++ [27, 93, 50, 59]) ++ new.title) ++ [7]).map .int)) := fun M => by
      rw [oAdd_lst, if_pos (by simp [sizeLine]; omega)]; simp
    generalize (((R ++ [27, 93, 50, 59]) ++ new.title) ++ [7]) = W4 at *
    generalize ((R ++ [27, 93, 50, 59]) ++ new.title) = W3 at *
    generalize R ++ [27, 93, 50, 59] = W2 at *
    generalize R ++ [27] = W1 at *
    have T : ∀ (t : List Int) M, oList [.tup (t.map .int)] M = some (.new (t.map .int)) := fun _ _ => rfl
    simp -implicitDefEqProofs [-oAdd_lst, s3, ne, q, c1, A1, A2, A3, A4, T]
theorem vis_eq (old new : Scr) (R : List Int) (hR : R.length ≤ 10000000) (x2 x3 x4 : Option D) (M : Mem) : dVis [some (encS old), some (encS new), x2, x3, x4, some (.lst (R.map .int))] M =
    some (.nx, [some (encS old), some (encS new), x2, x3, x4, some (.lst ((r2T old new R).map .int))], M) := by
  have c1 := fun M => codes2 M
  have ne : ∀ (a b : Bool) M, oNe (.bl a) (.bl b) M = some (.val (.bl (!decide (a = b)))) := fun _ _ _ => rfl
  have s2 := fun (s : Scr) M => S2 s M
  unfold dVis r2T
  by_cases q : old.vis = new.vis
  · rw [if_pos q]
    simp -implicitDefEqProofs [s2, ne, q]
  · rw [if_neg q]
    have A1 : ∀ M, oAdd (.lst (R.map .int)) (.lst [.int 27]) M = some (.new ((R ++ [27]).map .int)) := fun M => by
      rw [oAdd_lst, if_pos (by simp [sizeLine]; omega)]; simp
    have A2 : ∀ M, oAdd (.lst ((R ++ [27]).map .int)) (.lst [.int 91, .int 63, .int 50, .int 53]) M = some (.new ((R ++ [27, 91, 63, 50, 53]).map .int)) := fun M => by
      rw [oAdd_lst, if_pos (by simp [sizeLine]; omega)]; simp
    have A3 : ∀ (x : Int) M, oAdd (.lst ((R ++ [27, 91, 63, 50, 53]).map .int)) (.lst [.int x]) M = some (.new ((R ++ [27, 91, 63, 50, 53, x]).map .int)) := fun x M => by
      rw [oAdd_lst, if_pos (by simp [sizeLine]; omega)]; simp
    obtain ⟨W3, hW3⟩ : ∃ W3 : Int → List Int, W3 = fun x => R ++ [27, 91, 63, 50, 53, x] := ⟨_, rfl⟩
    have A3' : ∀ (x : Int) M, oAdd (.lst ((R ++ [27, 91, 63, 50, 53]).map .int)) (.lst [.int x]) M = some (.new ((W3 x).map .int)) := fun x M => by rw [A3, hW3]
    have eW : ∀ x, R ++ [27, 91, 63, 50, 53, x] = W3 x := fun x => by rw [hW3]
    rw [eW]
    clear A3 hW3 eW
    generalize R ++ [27, 91, 63, 50, 53] = W2 at *
    generalize R ++ [27] = W1 at *
    cases hv : new.vis <;> simp -implicitDefEqProofs [-oAdd_lst, s2, ne, q, hv, c1, A1, A2, A3']
    all_goals simp_all
theorem cur_eq (old new : Scr) (R : List Int) (hR : R.length ≤ 10000000) (hr : new.row ≤ 100) (hc : new.col ≤ 100) (x2 x3 x4 : Option D) (M : Mem) : dCur [some (encS old), some (encS new), x2, x3, x4, some (.lst (R.map .int))] M =
    some (.nx, [some (encS old), some (encS new), x2, x3, x4, some (.lst ((r3T old new R).map .int))], M) := by
  obtain ⟨same, hs⟩ : ∃ b : Bool, b = (decide (old.row = new.row) && decide (old.col = new.col)) := ⟨_, rfl⟩
  have ne : ∀ M, oNe (.tup [.int old.row, .int old.col]) (.tup [.int new.row, .int new.col]) M = some (.val (.bl (!same))) := fun M => by
    rw [oNe_deq (n := 2) (m := 2) (by decide) (by decide) rfl rfl, hs]
    simp [Int.ofNat_inj]
  have so := fun M => S1 old M
  have sn := fun M => S1 new M
  have n0 : ∀ M, oIx (.tup [.int new.row, .int new.col]) (.int 0) M = some (.val (.int new.row)) := fun _ => rfl
  have n1 : ∀ M, oIx (.tup [.int new.row, .int new.col]) (.int 1) M = some (.val (.int new.col)) := fun _ => rfl
  generalize D.tup [.int old.row, .int old.col] = cO at *
  generalize D.tup [.int new.row, .int new.col] = cN at *
  have okF : OkN [(new.row : Int) + 1, (new.col : Int) + 1] := okN_cons ⟨by omega, by omega⟩ (okN_cons ⟨by omega, by omega⟩ fun _ h => (nomatch h))
  have sq := fun M => sequence_eq [(new.row : Int) + 1, (new.col : Int) + 1] 72 okF (by simp) M
  have l1 := seqT_len _ 72 okF
  simp only [List.length_cons, List.length_nil, List.map_cons, List.map_nil] at sq l1
  have cond : (R = [] ∧ old.row = new.row ∧ old.col = new.col) ↔ (R = [] ∧ same = true) := by rw [hs]; simp
  unfold r3T
  generalize seqT [(new.row : Int) + 1, (new.col : Int) + 1] 72 = T9 at *
  have A1 : ∀ M, oAdd (.lst (R.map .int)) (.lst (T9.map .int)) M = some (.new ((R ++ T9).map .int)) := fun M => by
    rw [oAdd_lst, if_pos (by simp [sizeLine]; omega)]; simp
  have tr : ∀ M, trD M (.lst (R.map .int)) = some (!decide (R = [])) := fun M => by cases R <;> simp
  by_cases q0 : R = []
  · rw [decide_eq_true q0] at tr
    cases same with
    | true =>
      rw [if_pos (cond.mpr ⟨q0, rfl⟩)]
      generalize R.map D.int = RD at *
      unfold dCur
      simp -implicitDefEqProofs [-oAdd_lst, so, sn, ne, tr]
    | false =>
      rw [if_neg (fun q => by have := (cond.mp q).2; cases this)]
      generalize R.map D.int = RD at *
      generalize R ++ T9 = W at *
      unfold dCur
      simp -implicitDefEqProofs [-oAdd_lst, so, sn, ne, tr, n0, n1, sq, A1]
  · rw [decide_eq_false q0] at tr
    rw [if_neg (fun q => q0 q.1)]
    generalize R.map D.int = RD at *
    generalize R ++ T9 = W at *
    unfold dCur
    simp -implicitDefEqProofs [-oAdd_lst, so, sn, ne, tr, n0, n1, sq, A1]
end K21

namespace K21
open PySem PySem.Spec PyProof.Rows L2 CI
open K03 (Cell encC encL bl OkL OkSt encC_mk nl_encL nl_encC isGl kindN encLs Scr encS OkS rsz)
theorem pls_of {old new : Scr} {r c : Nat} (ho : OkS old r c) (hn : OkS new r c) : PLs old.lines new.lines c where
  o := ho.ln
  n := hn.ln
  len := by rw [ho.rows, hn.rows]
  r := by rw [hn.rows]; exact hn.r2
  c2 := hn.c1
  c4 := hn.c2
theorem linesT_len {old new : Scr} {r c : Nat} (ho : OkS old r c) (hn : OkS new r c) : (linesT old.lines new.lines).length ≤ 1300000 := by
  have f := (lns_fold _ _ c (pls_of ho hn) new.lines.length (Nat.le_refl _)).2
  have ls := styT_len (st := []) (fun _ h => (nomatch h)) (by simp)
  have h1 := hn.rows
  have h2 := hn.r2
  simp only [List.length_nil] at ls
  have f2 : 100000 * new.lines.length ≤ 1200000 := by rw [h1]; omega
  unfold linesT
  rw [List.length_append]
  split
  · simp only [List.length_nil]; omega
  · omega
theorem r1_len (old new : Scr) (R : List Int) (h : new.title.length ≤ 40) : (r1T old new R).length ≤ R.length + 45 := by
  unfold r1T; split
  · omega
  · simp only [List.length_append, List.length_cons, List.length_nil]; omega
theorem r2_len (old new : Scr) (R : List Int) : (r2T old new R).length ≤ R.length + 6 := by
  unfold r2T; split
  · omega
  · simp only [List.length_append, List.length_cons, List.length_nil]; omega
theorem r3_len (old new : Scr) (R : List Int) (hr : new.row ≤ 100) (hc : new.col ≤ 100) : (r3T old new R).length ≤ R.length + 19 := by
  have okF : OkN [(new.row : Int) + 1, (new.col : Int) + 1] := okN_cons ⟨by omega, by omega⟩ (okN_cons ⟨by omega, by omega⟩ fun _ h => (nomatch h))
  have l1 := seqT_len _ 72 okF
  simp only [List.length_cons, List.length_nil] at l1
  unfold r3T; split
  · omega
  · rw [List.length_append]; omega
theorem rest_eq (old new : Scr) (r c : Nat) (ho : OkS old r c) (hn : OkS new r c) (T0 : List Int) (h0 : T0.length ≤ 1000) (x3 x4 x5 : Option D) (M : Mem) : ∃ ρ,
    restF [some (encS old), some (encS new), some (.lst (T0.map .int)), x3, x4, x5] M = some (.rt (.new ((T0 ++ restT old new).map .int)), ρ, M) := by
  have ld := fun M => linesDiff_eq old.lines new.lines c (pls_of ho hn) M
  have ll := linesT_len ho hn
  have hr : new.row ≤ 100 := by have := hn.row; have := hn.r2; omega
  have hc : new.col ≤ 100 := by have := hn.col; have := hn.c2; omega
  have ht := hn.tl
  have so := fun M => S0 old M
  have sn := fun M => S0 new M
  unfold restT
  generalize linesT old.lines new.lines = R at *
  have e1 := fun x2 x3 x4 M => ttl_eq old new R (by omega) (by omega) x2 x3 x4 M
  have l1 := r1_len old new R ht
  generalize r1T old new R = R1 at *
  have e2 := fun x2 x3 x4 M => vis_eq old new R1 (by omega) x2 x3 x4 M
  have l2 := r2_len old new R1
  generalize r2T old new R1 = R2 at *
  have e3 := fun x2 x3 x4 M => cur_eq old new R2 (by omega) hr hc x2 x3 x4 M
  have l3 := r3_len old new R2 hr hc
  generalize r3T old new R2 = R3 at *
  have A1 : ∀ M, oAdd (.lst (T0.map .int)) (.lst (R3.map .int)) M = some (.new ((T0 ++ R3).map .int)) := fun M => by
    rw [oAdd_lst, if_pos (by simp [sizeLine]; omega), List.map_append]
  generalize T0 ++ R3 = W at *
  unfold restF
  exact ⟨_, by simp -implicitDefEqProofs [-oAdd_lst, so, sn, ld, e1, e2, e3, A1]; rfl⟩
/-- the difference of two screens, a text -/
def diffT (old new : Scr) : List Int :=
  if old.lines.length = new.lines.length ∧ (old.lines.getD 0 []).length = (new.lines.getD 0 []).length then restT old new
  else seqT [8, new.lines.length, (new.lines.getD 0 []).length] 116 ++ restT (rsz old new.lines.length (new.lines.getD 0 []).length) new
theorem okS_w {s : Scr} {r c : Nat} (h : OkS s r c) : (s.lines.getD 0 []).length = c := (h.ln _ (getD_mem (by rw [h.rows]; exact h.r1))).2
theorem difference_eq (old new : Scr) (r0 c0 r c : Nat) (ho : OkS old r0 c0) (hn : OkS new r c) (M : Mem) : F_difference [encS old, encS new] M = some (.new ((diffT old new).map .int), M) := by
  have wo := okS_w ho
  have wn := okS_w hn
  have ro := ho.rows
  have rn := hn.rows
  have so := fun M => S0 old M
  have sn := fun M => S0 new M
  have lo := fun M => encLs_len old.lines M
  have ln := fun M => encLs_len new.lines M
  have io : ∀ M, oIx (encLs old.lines) (.int 0) M = some (.val (encL (old.lines.getD 0 []))) := fun M => encLs_ix old.lines 0 (by rw [ro]; exact ho.r1) M
  have in_ : ∀ M, oIx (encLs new.lines) (.int 0) M = some (.val (encL (new.lines.getD 0 []))) := fun M => encLs_ix new.lines 0 (by rw [rn]; exact hn.r1) M
  have eo := fun M => encL_len (old.lines.getD 0 []) M
  have en := fun M => encL_len (new.lines.getD 0 []) M
  rw [wo] at eo
  rw [wn] at en
  rw [ro] at lo
  rw [rn] at ln
  unfold diffT
  rw [wo, wn, ro, rn]
  generalize old.lines.getD 0 [] = lo0 at *
  generalize new.lines.getD 0 [] = ln0 at *
  have hr := hn.r1
  have hr2 := hn.r2
  have hc := hn.c1
  have hc2 := hn.c2
  unfold F_difference
  rw [B_diff, mkFnK_eq]
  by_cases q : r0 = r ∧ c0 = c
  · obtain ⟨rfl, rfl⟩ := q
    rw [if_pos (And.intro rfl rfl)]
    obtain ⟨ρ, re⟩ := rest_eq old new r0 c0 ho hn [] (by simp) (some (.int (r0 : Int))) (some (.int (c0 : Int))) none M
    rw [List.nil_append] at re
    simp only [List.map_nil] at re
    simp -implicitDefEqProofs [so, sn, lo, ln, io, in_, eo, en, re]
  · rw [if_neg q]
    have okF : OkN [8, (r : Int), (c : Int)] := okN_cons ⟨by omega, by omega⟩ (okN_cons ⟨by omega, by omega⟩ (okN_cons ⟨by omega, by omega⟩ fun _ h => (nomatch h)))
    have sq := fun M => sequence_eq [8, (r : Int), (c : Int)] 116 okF (by simp) M
    have l1 := seqT_len _ 116 okF
    simp only [List.length_cons, List.length_nil, List.map_cons, List.map_nil] at sq l1
    have rz := fun M => K03.rsz_eq old r c r0 c0 ho ⟨hr, hr2⟩ ⟨hc, hc2⟩ M
    rw [← e_resized] at rz
    have ok2 := K03.rsz_ok old r c r0 c0 ho ⟨hr, hr2⟩ ⟨hc, hc2⟩
    obtain ⟨ρ, re⟩ := rest_eq (rsz old r c) new r c ok2 hn (seqT [8, (r : Int), (c : Int)] 116) (by omega) (some (.int (r : Int))) (some (.int (c : Int))) none M
    generalize seqT [8, (r : Int), (c : Int)] 116 = T0 at *
    generalize T0 ++ restT (rsz old r c) new = W at *
    by_cases q1 : r0 = r
    · have q2 : ¬ c0 = c := fun z => q ⟨q1, z⟩
      have q3 : ¬ (c0 : Int) = c := by omega
      have q4 : (r0 : Int) = r := by omega
      simp -implicitDefEqProofs [so, sn, lo, ln, io, in_, eo, en, re, q3, q4, sq, rz]
    · have q3 : ¬ (r0 : Int) = r := by omega
      simp -implicitDefEqProofs [so, sn, lo, ln, io, in_, eo, en, re, q3, sq, rz]
end K21

namespace K21
open PySem PySem.Spec PyProof.Rows L2 CI
open K03 (Cell encC encL bl OkL OkSt encC_mk nl_encL nl_encC isGl kindN encLs Scr encS OkS rsz)
theorem dgI0 : dgI 0 = [48] := by decide
theorem styT0 : styT [] = [27, 91, 48, 109] := by
  unfold styT; rw [jnI_c, jnI_n, dgI0]; rfl
theorem seq75 : seqT [] 75 = [27, 91, 75] := rfl
theorem lawStyled_eq (st : List Int) (h : OkN st) (hl : st.length ≤ 100) (M : Mem) : F__law_styled [.tup (st.map .int)] M = some (.new ((styT st).map .int), M) := by
  have je := fun M => joined_eq (0 :: st) (okN_cons ⟨by decide, by decide⟩ h) (by simp; omega) M
  have lj := jnI_len (0 :: st) 0 (okN_cons ⟨by decide, by decide⟩ h)
  simp only [List.length_cons, List.map_cons] at lj je
  have A0 : ∀ M, oAdd (.lst [.int 0]) (.lst (st.map .int)) M = some (.new (D.int 0 :: st.map .int)) := fun M => by
    rw [oAdd_lst, if_pos (by simp [sizeLine]; omega)]; simp
  have A1 : ∀ M, oAdd (.lst [.int 27, .int 91]) (.lst ((jnI 0 (0 :: st)).map .int)) M = some (.new (([27, 91] ++ jnI 0 (0 :: st)).map .int)) := fun M => by
    rw [oAdd_lst, if_pos (by simp [sizeLine]; omega)]; simp
  have A2 : ∀ M, oAdd (.lst (([27, 91] ++ jnI 0 (0 :: st)).map .int)) (.lst [.int 109]) M = some (.new ((styT st).map .int)) := fun M => by
    rw [oAdd_lst, if_pos (by simp [sizeLine]; omega)]; unfold styT; simp
  generalize [27, 91] ++ jnI 0 (0 :: st) = J at *
  have T : ∀ (t : List Int) M, oList [.tup (t.map .int)] M = some (.new (t.map .int)) := fun _ _ => rfl
  unfold F__law_styled B__law_styled
  rw [mkFnK_eq]
  simp -implicitDefEqProofs [-oAdd_lst, je, A0, A1, A2, T]
/-! the law's columns -/
theorem qlaw1_eq (old new : List Cell) (hl : old.length = new.length) (hn : new.length ≤ 1000) (x2 x3 x5 x6 x7 x8 x9 x10 x11 : Option D) (M : Mem) :
    Q__law_line_text_1 [some (encL old), some (encL new), x2, x3, some (.int (new.length : Int)), x5, x6, x7, x8, x9, x10, x11] M = some (.new ((dcs old new).map fun (k : Nat) => D.int (k : Int)), M) := by
  unfold dcs
  rw [fm_filter]
  have hrg : rgB (new.length : Int) = true := rgB_nat (by omega)
  unfold Q__law_line_text_1
  refine cLc_ty (gk := none) (fun i : Nat => D.int (0 + (i : Int))) _ (List.range new.length) ?_ (fun k e => by cases e) (by simp; omega) (fun i hi acc => ?_) (fun i _ y e => ?_)
  · simp -implicitDefEqProofs [hrg, rgD]
  · have hi2 := List.mem_range.mp hi
    have e1 := fun M => encL_ix old i (by omega) M
    have e2 := fun M => encL_ix new i hi2 M
    have ne := fun (a b : Cell) M => oNe_C a b M
    by_cases z : at_ old i = at_ new i
    · simp -implicitDefEqProofs [e1, e2, ne, z]
    · simp -implicitDefEqProofs [e1, e2, ne, z]
  · split at e
    · cases e; rfl
    · cases e
def fil (new : List Cell) (n : Nat) : List Nat := (List.range n).filter fun k => !decide (at_ new k = bl)
theorem qlaw2_eq (new : List Cell) (hn : new.length ≤ 1000) (x0 x2 x3 x5 x6 x7 x8 x9 x10 x11 : Option D) (M : Mem) :
    Q__law_line_text_2 [x0, some (encL new), x2, x3, some (.int (new.length : Int)), x5, x6, x7, x8, x9, x10, x11] M = some (.new ((fil new new.length).map fun (k : Nat) => D.int (k : Int)), M) := by
  unfold fil
  rw [fm_filter]
  have hrg : rgB (new.length : Int) = true := rgB_nat (by omega)
  have eb : D.tup [.int 32, .tup []] = encC bl := rfl
  unfold Q__law_line_text_2
  refine cLc_ty (gk := none) (fun i : Nat => D.int (0 + (i : Int))) _ (List.range new.length) ?_ (fun k e => by cases e) (by simp; omega) (fun i hi acc => ?_) (fun i _ y e => ?_)
  · simp -implicitDefEqProofs [hrg, rgD]
  · have hi2 := List.mem_range.mp hi
    have e2 := fun M => encL_ix new i hi2 M
    have ne := fun (a b : Cell) M => oNe_C a b M
    by_cases z : at_ new i = bl
    · simp -implicitDefEqProofs [e2, ne, z, eb]
    · simp -implicitDefEqProofs [e2, ne, z, eb]
  · split at e
    · cases e; rfl
    · cases e
theorem fil_end (new : List Cell) : ∀ n, endN new n = match (fil new n).getLast? with | some k => k + 1 | none => 0
  | 0 => rfl
  | n + 1 => by
    have e : fil new (n + 1) = fil new n ++ if at_ new n = bl then [] else [n] := by
      unfold fil
      rw [List.range_succ, List.filter_append]
      congr 1
      by_cases z : at_ new n = bl <;> simp [z]
    rw [endN, e]
    by_cases z : at_ new n = bl
    · rw [if_pos z, if_pos z, List.append_nil]; exact fil_end new n
    · rw [if_neg z, if_neg z, List.getLast?_append]; rfl
/-! the law's walk over the cells -/
def lawStep (new : List Cell) (f e : Nat) (a : List Int × List Int) (j : Nat) : List Int × List Int := if f + j < e then lnStep a (at_ new (f + j)) else a
theorem lawFold (new : List Cell) (f e : Nat) (a : List Int × List Int) : ∀ n, (List.range n).foldl (lawStep new f e) a = ((List.range (min n (e - f))).map fun j => at_ new (f + j)).foldl lnStep a
  | 0 => by simp
  | n + 1 => by
    rw [List.range_succ, List.foldl_append, lawFold new f e a n, List.foldl_cons, List.foldl_nil]
    unfold lawStep
    by_cases q : f + n < e
    · rw [if_pos q, show min (n + 1) (e - f) = n + 1 from by omega, show min n (e - f) = n from by omega, List.range_succ, List.map_append, List.foldl_append]; rfl
    · rw [if_neg q, show min (n + 1) (e - f) = min n (e - f) from by omega]
theorem seg_range (new : List Cell) (f b : Nat) (hb : b ≤ new.length) : segOf new f b = (List.range (b - f)).map fun j => at_ new (f + j) := by
  apply List.ext_getElem?
  intro i
  unfold segOf at_
  by_cases h : i < b - f
  · have h1 : f + i < b := by omega
    have h2 : f + i < new.length := by omega
    simp [List.getElem?_take, h, h1, h2]
  · rw [List.getElem?_eq_none (by simp; omega), List.getElem?_eq_none (by simp; omega)]
abbrev kT : List Bool := [false, true, false, true, false, false, false, true, false, true, true, false]
theorem lt_step (new : List Cell) (hc : OkC new) (h0 : ∀ c ∈ new, 0 ≤ c.1) (f e : Nat) (l : Int) (j : Nat) (hj : f + j < new.length) (st T : List Int) (hT : T.length ≤ 1000000) (M1 : Mem) : ∃ G,
    stpK kT none [] (gNm 11) L__law_line_text_1 (.int ((f : Int) + (j : Int))) [none, some (encL new), none, some (.tup (st.map .int)), none, none, none, some (.int l), none, some (.int (e : Int)), some (.loc M1.length), none] (M1 ++ [.lst (T.map .int)]) =
      some (.nx, [none, some (encL new), none, some (.tup ((lawStep new f e (st, T) j).1.map .int)), none, none, none, some (.int l), none, some (.int (e : Int)), some (.loc (M1 ++ G).length), none], M1 ++ G ++ [.lst ((lawStep new f e (st, T) j).2.map .int)]) := by
  have ej : (f : Int) + (j : Int) = ((f + j : Nat) : Int) := by omega
  rw [ej]
  have ix := fun M => encL_ix new (f + j) hj M
  have mem : at_ new (f + j) ∈ new := by unfold at_; rw [List.getD_eq_getElem?_getD, List.getElem?_eq_getElem hj]; exact List.getElem_mem _
  have hcc := hc _ mem
  have hc0 := h0 _ mem
  have cnd : (f + j < e) ↔ (((f + j : Nat) : Int) < (e : Int)) := by omega
  unfold lawStep
  generalize at_ new (f + j) = c at *
  generalize hk : ((f + j : Nat) : Int) = k at *
  have i0 := fun M => encC_0 c M
  have i1 := fun M => encC_1 c M
  unfold lnStep
  by_cases q : k < (e : Int)
  · rw [if_pos (cnd.mpr q)]
    by_cases z : c.1 = 0
    · refine ⟨[], ?_⟩
      have z2 : ¬ 0 < c.1 := by omega
      rw [if_pos z]
      simp -implicitDefEqProofs [L__law_line_text_1, ix, i0, q, z2, nl_encL]
    · have z2 : 0 < c.1 := by omega
      rw [if_neg z]
      by_cases y : c.2 = st
      · refine ⟨[], ?_⟩
        have t1 : T.length < 16777216 := by omega
        simp -implicitDefEqProofs [L__law_line_text_1, ix, i0, i1, q, z2, y, t1, oNe_ints, nl_encL]
      · have ss := fun M => lawStyled_eq c.2 hcc.1 hcc.2 M
        have ls := styT_len hcc.1 hcc.2
        refine ⟨[.lst (T.map .int)], ?_⟩
        have t1 : T.length + (styT c.2).length ≤ 16777216 := by omega
        have t2 : T.length + (styT c.2).length < 16777216 := by omega
        have tr : ∀ M, trD M (.tup (c.2.map .int)) = some (!decide (c.2 = [])) := fun M => by cases c.2 <;> simp
        by_cases w : c.2 = []
        · rw [w] at t1 t2 y tr i1
          have A : oAdd (.loc M1.length) (.lst [.int 27, .int 91, .int 48, .int 109]) (M1 ++ [.lst (T.map .int)]) = some (.new ((T ++ styT []).map .int)) := by
            rw [styT0, oAdd_end _ _ _ (by simp; omega), List.map_append]; rfl
          have y2 : ¬ st = [] := fun z => y z.symm
          have ny : ∀ M, oNe (.tup []) (.tup (st.map .int)) M = some (.val (.bl true)) := fun M => by
            have := @oNe_ints [] st M
            rw [decide_eq_false y] at this; exact this
          simp only [List.map_nil, decide_true, Bool.not_true] at i1 tr
          rw [w, if_neg y]
          generalize styT [] = S at *
          simp -implicitDefEqProofs [L__law_line_text_1, ix, i0, i1, q, z2, y, t1, t2, ny, tr, A, tidy_out, nl_encL]
        · rw [decide_eq_false w] at tr
          generalize styT c.2 = S at *
          simp -implicitDefEqProofs [L__law_line_text_1, ix, i0, i1, q, z2, y, t1, t2, ss, oNe_ints, tr, oAdd_end, tidy_out, nl_encL]
  · rw [if_neg (fun z => q (cnd.mp z))]
    refine ⟨[], ?_⟩
    simp -implicitDefEqProofs [L__law_line_text_1, ix, i0, q, nl_encL]
end K21

namespace K21
open PySem PySem.Spec PyProof.Rows L2 CI
open K03 (Cell encC encL bl OkL OkSt encC_mk nl_encL nl_encC isGl kindN encLs Scr encS OkS rsz)
theorem fil_lt {new : List Cell} {n k : Nat} (h : k ∈ fil new n) : k < n := by
  unfold fil at h
  exact List.mem_range.mp (List.mem_filter.mp h).1
noncomputable def w6 : Sf := (sSet 6 (cIf (toB (cBin oEq (cBin oIx (cBin oIx (cVar 1) (cBin oIx (cVar 5) (cInt (0)))) (cInt (0))) (cInt (0)))) (cBin oSub (cBin oIx (cVar 5) (cInt (0))) (cInt (1))) (cBin oIx (cVar 5) (cInt (0)))))
noncomputable def w7 : Sf := (sIf (kAnd (toB (cBin oLt (cBin oAdd (cVar 7) (cInt (1))) (cVar 4))) (toB (cBin oEq (cBin oIx (cBin oIx (cVar 1) (cBin oAdd (cVar 7) (cInt (1)))) (cInt (0))) (cInt (0))))) (sSet 7 (cBin oAdd (cVar 7) (cInt (1)))) sNil)
noncomputable def w9 : Sf := (sSet 9 (cIf (toTr (cVar 8)) (cBin oAdd (cBin oIx (cVar 8) (cNeg (cInt (1)))) (cInt (1))) (cInt (0))))
noncomputable def wR : Sf := (sRet (cTup (aCons (cBin oAdd (cVar 10) (cIf (toB (cBin oGe (cVar 7) (cVar 9))) (cLst (aCons (cInt (27)) (aCons (cInt (91)) (aCons (cInt (75)) aNil)))) (cLst aNil))) (aCons (cVar 3) aNil))))
theorem B_lt : B__law_line_text = (sCons (sSet 4 (cCB oLen (aCons (cVar 1) aNil))) (sCons (sSet 5 Q__law_line_text_1) (sCons w6 (sCons (sSet 7 (cBin oIx (cVar 5) (cNeg (cInt (1))))) (sCons w7 (sCons (sSet 8 Q__law_line_text_2) (sCons w9 (sCons (sSetM 10 (cBin oAdd (cBin oAdd (cLst (aCons (cInt (27)) (aCons (cInt (91)) aNil))) (cCall F__law_joined (aCons (cLst (aCons (cBin oAdd (cVar 2) (cInt (1))) (aCons (cBin oAdd (cVar 6) (cInt (1))) aNil))) aNil))) (cLst (aCons (cInt (72)) aNil)))) (sCons (sForK [false, true, false, true, false, false, false, true, false, true, true, false] (iRg2 (cVar 6) (cBin oAdd (cVar 7) (cInt (1)))) (gNm 11) L__law_line_text_1) wR))))))))) := rfl
theorem w6_eq (new : List Cell) (DC : D) (fc f : Nat) (i0 : ∀ M, oIx DC (.int 0) M = some (.val (.int (fc : Int)))) (a0 : ∀ M, oIx (encL new) (.int (fc : Int)) M = some (.val (encC (at_ new fc)))) (f1 : (at_ new fc).1 = 0 → (fc : Int) - 1 = (f : Int)) (f2 : ¬ (at_ new fc).1 = 0 → fc = f) (x0 x2 x3 x4 x6 x7 x8 x9 x10 x11 : Option D) (M : Mem) :
    w6 [x0, some (encL new), x2, x3, x4, some DC, x6, x7, x8, x9, x10, x11] M = some (.nx, [x0, some (encL new), x2, x3, x4, some DC, some (.int (f : Int)), x7, x8, x9, x10, x11], M) := by
  have i2 := fun M => encC_0 (at_ new fc) M
  unfold w6
  by_cases z : (at_ new fc).1 = 0
  · have f1 := f1 z
    generalize at_ new fc = c at *
    simp -implicitDefEqProofs [i0, a0, i2, z, f1]
  · have f2 := f2 z
    subst f2
    generalize at_ new fc = c at *
    simp -implicitDefEqProofs [i0, a0, i2, z]
theorem w7_eq (new : List Cell) (lc l : Nat) (g1 : l = if lc + 1 < new.length ∧ (at_ new (lc + 1)).1 = 0 then lc + 1 else lc) (x0 x2 x3 x5 x6 x8 x9 x10 x11 : Option D) (M : Mem) :
    w7 [x0, some (encL new), x2, x3, some (.int (new.length : Int)), x5, x6, some (.int (lc : Int)), x8, x9, x10, x11] M = some (.nx, [x0, some (encL new), x2, x3, some (.int (new.length : Int)), x5, x6, some (.int (l : Int)), x8, x9, x10, x11], M) := by
  unfold w7
  by_cases y : lc + 1 < new.length
  · have y2 : (lc : Int) + 1 < new.length := by omega
    have a1 : ∀ M, oIx (encL new) (.int ((lc : Int) + 1)) M = some (.val (encC (at_ new (lc + 1)))) := fun M => by
      have := encL_ix new (lc + 1) y M
      rwa [show ((lc + 1 : Nat) : Int) = (lc : Int) + 1 from by omega] at this
    by_cases x : (at_ new (lc + 1)).1 = 0
    · rw [if_pos ⟨y, x⟩] at g1
      have e : (l : Int) = (lc : Int) + 1 := by omega
      rw [e]
      generalize at_ new (lc + 1) = c at *
      simp -implicitDefEqProofs [a1, encC_0, x, y2]
    · rw [if_neg (fun q => x q.2)] at g1
      rw [g1]
      generalize at_ new (lc + 1) = c at *
      simp -implicitDefEqProofs [a1, encC_0, x, y2]
  · have y2 : ¬ (lc : Int) + 1 < new.length := by omega
    rw [if_neg (fun q => y q.1)] at g1
    rw [g1]
    simp -implicitDefEqProofs [y2]
theorem w9_eq (FD : D) (tr : Bool) (e : Nat) (t1 : ∀ M, trD M FD = some tr) (t2 : tr = true → ∃ z : Int, (∀ M, oIx FD (.int (-1)) M = some (.val (.int z))) ∧ z + 1 = (e : Int)) (t3 : tr = false → e = 0) (x0 x1 x2 x3 x4 x5 x6 x7 x9 x10 x11 : Option D) (M : Mem) :
    w9 [x0, x1, x2, x3, x4, x5, x6, x7, some FD, x9, x10, x11] M = some (.nx, [x0, x1, x2, x3, x4, x5, x6, x7, some FD, some (.int (e : Int)), x10, x11], M) := by
  unfold w9
  cases tr with
  | true =>
    obtain ⟨z, t2, t4⟩ := t2 rfl
    rw [← t4]
    simp -implicitDefEqProofs [t1, t2]
  | false =>
    have t3 := t3 rfl
    subst t3
    simp -implicitDefEqProofs [t1]
theorem wR_eq (r1 r2 : List Int) (l e : Nat) (hr : r2.length ≤ 10000000) (x0 x1 x2 x4 x5 x6 x8 x11 : Option D) (M1 : Mem) : ∃ ρ,
    wR [x0, x1, x2, some (.tup (r1.map .int)), x4, x5, x6, some (.int (l : Int)), x8, some (.int (e : Int)), some (.loc M1.length), x11] (M1 ++ [.lst (r2.map .int)]) =
      some (.rt (.val (.tup [.lst ((r2 ++ if e ≤ l then [27, 91, 75] else []).map .int), .tup (r1.map .int)])), ρ, M1 ++ [.lst (r2.map .int)]) := by
  have A1 : ∀ (X : List Int), X.length ≤ 3 → oAdd (.loc M1.length) (.lst (X.map .int)) (M1 ++ [.lst (r2.map .int)]) = some (.new ((r2 ++ X).map .int)) := fun X hX => by
    rw [oAdd_end _ _ _ (by simp; omega), List.map_append]
  have A2 := A1 [27, 91, 75] (by simp)
  have A3 := A1 [] (by simp)
  unfold wR
  by_cases q : e ≤ l
  · have q2 : (e : Int) ≤ l := by omega
    rw [if_pos q]
    simp only [List.map_cons, List.map_nil] at A2
    generalize r2 ++ [27, 91, 75] = W at *
    exact ⟨_, by simp -implicitDefEqProofs [q2, A2]; rfl⟩
  · have q2 : ¬ (e : Int) ≤ l := by omega
    rw [if_neg q]
    simp only [List.map_nil] at A3
    generalize r2 ++ [] = W at *
    exact ⟨_, by simp -implicitDefEqProofs [q2, A3]; rfl⟩
theorem lawLine_eq (old new : List Cell) (hl : old.length = new.length) (hn : new.length ≤ 100) (hne : old ≠ new) (h0 : (at_ new 0).1 ≠ 0) (hc : OkC new) (hg : ∀ c ∈ new, 0 ≤ c.1) (row : Nat) (hr : row ≤ 100) (st : List Int) (M : Mem) :
    F__law_line_text [encL old, encL new, .int (row : Int), .tup (st.map .int)] M = some (.val (.tup [.lst ((lineT old new row st).2.map .int), .tup ((lineT old new row st).1.map .int)]), M) := by
  have q1 := fun x2 x3 x5 x6 x7 x8 x9 x10 x11 M => qlaw1_eq old new hl (by omega) x2 x3 x5 x6 x7 x8 x9 x10 x11 M
  have q2 := fun x0 x2 x3 x5 x6 x7 x8 x9 x10 x11 M => qlaw2_eq new (by omega) x0 x2 x3 x5 x6 x7 x8 x9 x10 x11 M
  have hd := dcs_ne hl hne
  have i0 : ∀ M, oIx (.lst ((dcs old new).map fun (k : Nat) => D.int (k : Int))) (.int 0) M = some (.val (.int (dcF old new : Int))) := fun M => by
    rw [oIx_lst, at_map, at_nat (by omega)]
    unfold dcF
    cases hq : dcs old new with
    | nil => exact absurd hq hd
    | cons a b => rfl
  have i1 : ∀ M, oIx (.lst ((dcs old new).map fun (k : Nat) => D.int (k : Int))) (.int (-1)) M = some (.val (.int (dcL old new : Int))) := fun M => by
    have hp : 0 < (dcs old new).length := List.length_pos_iff.mpr hd
    rw [oIx_lst, at_map, at_neg (by omega) (by omega)]
    unfold dcL
    have e : (-1 + ((dcs old new).length : Int)).toNat = (dcs old new).length - 1 := by omega
    rw [e, List.getLastD_eq_getLast?, List.getLast?_eq_getElem?]
    rw [List.getElem?_eq_getElem (by omega)]; rfl
  have lL : dcL old new < new.length := by
    unfold dcL
    rw [List.getLastD_eq_getLast?, List.getLast?_eq_some_getLast hd]
    exact dcs_lt (List.getLast_mem hd)
  have lF2 := dFst_lt hl hne
  have lF : dcF old new < new.length := by
    cases hq : dcs old new with
    | nil => exact absurd hq hd
    | cons a b => unfold dcF; rw [hq]; exact dcs_lt (old := old) (by rw [hq]; exact List.mem_cons_self)
  have lL2 : dLst old new < new.length := by unfold dLst; split <;> omega
  have a0 := fun M => encL_ix new (dcF old new) lF M
  have el := fun M => encL_len new M
  have le := endN_le new new.length
  -- the end
  have iE : ∃ tr : Bool, (∀ M, trD M (.lst ((fil new new.length).map fun (k : Nat) => D.int (k : Int))) = some tr) ∧
      (tr = true → ∃ z : Int, (∀ M, oIx (.lst ((fil new new.length).map fun (k : Nat) => D.int (k : Int))) (.int (-1)) M = some (.val (.int z))) ∧ z + 1 = (endN new new.length : Int)) ∧ (tr = false → endN new new.length = 0) := by
    rw [fil_end new new.length]
    by_cases w : fil new new.length = []
    · exact ⟨false, (fun M => by rw [w]; simp), (fun h => nomatch h), (fun _ => by rw [w]; rfl)⟩
    · refine ⟨true, ?_, fun _ => ?_, fun h => nomatch h⟩
      · intro M
        cases hq : fil new new.length with
        | nil => exact absurd hq w
        | cons a b => simp
      have hp : 0 < (fil new new.length).length := List.length_pos_iff.mpr w
      refine ⟨((fil new new.length).getLast w : Nat), fun M => ?_, ?_⟩
      · rw [oIx_lst, at_map, at_neg (by omega) (by omega)]
        have e : (-1 + ((fil new new.length).length : Int)).toNat = (fil new new.length).length - 1 := by omega
        rw [e, List.getLast_eq_getElem, List.getElem?_eq_getElem (by omega)]; rfl
      · rw [List.getLast?_eq_some_getLast w]; simp
  obtain ⟨tr, t1, t2, t3⟩ := iE
  -- the columns
  have f1 : (at_ new (dcF old new)).1 = 0 → (dcF old new : Int) - 1 = (dFst old new : Int) := fun z => by
    have : dcF old new ≠ 0 := by intro y; rw [y] at z; exact h0 z
    unfold dFst; rw [if_pos z]; omega
  have f2 : ¬ (at_ new (dcF old new)).1 = 0 → dcF old new = dFst old new := fun z => by unfold dFst; rw [if_neg z]
  have okF : OkN [(row : Int) + 1, (dFst old new : Int) + 1] := okN_cons ⟨by omega, by omega⟩ (okN_cons ⟨by omega, by omega⟩ fun _ h => (nomatch h))
  have je := fun M => joined_eq [(row : Int) + 1, (dFst old new : Int) + 1] okF (by simp) M
  have lj := jnI_len [(row : Int) + 1, (dFst old new : Int) + 1] 0 okF
  simp only [List.length_cons, List.length_nil, List.map_cons, List.map_nil] at je lj
  have B1 : ∀ M, oAdd (.lst [.int 27, .int 91]) (.lst ((jnI 0 [(row : Int) + 1, (dFst old new : Int) + 1]).map .int)) M = some (.new (([27, 91] ++ jnI 0 [(row : Int) + 1, (dFst old new : Int) + 1]).map .int)) := fun M => by
    rw [oAdd_lst, if_pos (by simp [sizeLine]; omega)]; simp
  have B2 : ∀ M, oAdd (.lst (([27, 91] ++ jnI 0 [(row : Int) + 1, (dFst old new : Int) + 1]).map .int)) (.lst [.int 72]) M = some (.new ((seqT [(row : Int) + 1, (dFst old new : Int) + 1] 72).map .int)) := fun M => by
    rw [oAdd_lst, if_pos (by simp [sizeLine]; omega)]; unfold seqT; simp
  have l1 := seqT_len _ 72 okF
  simp only [List.length_cons, List.length_nil] at l1
  have g1 : dLst old new = if dcL old new + 1 < new.length ∧ (at_ new (dcL old new + 1)).1 = 0 then dcL old new + 1 else dcL old new := rfl
  have ok2 := segOf_ok hc (dFst old new) (min (dLst old new + 1) (endN new new.length))
  have sg := seg_range new (dFst old new) (min (dLst old new + 1) (endN new new.length)) (by omega)
  unfold lineT lineR
  rw [seq75, sg]
  rw [sg] at ok2
  generalize [27, 91] ++ jnI 0 [(row : Int) + 1, (dFst old new : Int) + 1] = J2 at *
  generalize jnI 0 [(row : Int) + 1, (dFst old new : Int) + 1] = J1 at *
  generalize seqT [(row : Int) + 1, (dFst old new : Int) + 1] 72 = T0 at *
  generalize (dcs old new).map (fun (k : Nat) => D.int (k : Int)) = DC at *
  generalize (fil new new.length).map (fun (k : Nat) => D.int (k : Int)) = FD at *
  generalize dFst old new = f at *
  generalize dLst old new = l at *
  generalize dcF old new = fc at *
  generalize dcL old new = lc at *
  generalize endN new new.length = e at *
  have lp := fun (n : Nat) (hn2 : f + n ≤ new.length) => loop_acc (step := stpK kT none [] (gNm 11) L__law_line_text_1) (fun j : Nat => D.int ((f : Int) + (j : Int))) D.int
    (fun k (st : List Int) => [none, some (encL new), none, some (.tup (st.map .int)), none, none, none, some (.int (l : Int)), none, some (.int (e : Int)), some (.loc k), none]) (lawStep new f e) (fun xs a => (∀ j ∈ xs, f + j < new.length) ∧ a.2.length + 900 * xs.length ≤ 100000) (fun j xs st T M1 hI => by
      have hj := hI.1 j List.mem_cons_self
      have h2 : T.length + 900 * (xs.length + 1) ≤ 100000 := hI.2
      obtain ⟨G, q⟩ := lt_step new hc hg f e (l : Int) j hj st T (by omega) M1
      refine ⟨⟨G, .nx, .inl rfl, q⟩, fun x hx => hI.1 x (List.mem_cons_of_mem _ hx), ?_⟩
      have mem : at_ new (f + j) ∈ new := by unfold at_; rw [List.getD_eq_getElem?_getD, List.getElem?_eq_getElem hj]; exact List.getElem_mem _
      have := lnStep_len (st, T) _ (hc _ mem)
      unfold lawStep
      split
      · have this : (lnStep (st, T) (at_ new (f + j))).2.length ≤ T.length + 900 := this
        omega
      · show T.length + 900 * xs.length ≤ 100000
        omega) (List.range n) st T0 M ⟨fun j hj => by have := List.mem_range.mp hj; omega, by show T0.length + 900 * (List.range n).length ≤ 100000; rw [List.length_range]; omega⟩
  obtain ⟨G, lp⟩ := lp (l + 1 - f) (by omega)
  have hmin : min (l + 1 - f) (e - f) = min (l + 1) e - f := by omega
  rw [lawFold, hmin] at lp
  have lr := lnFold_len _ (st, T0) ok2
  have ls : ((List.range (min (l + 1) e - f)).map fun j => at_ new (f + j)).length ≤ 1000 := by simp; omega
  generalize ((List.range (min (l + 1) e - f)).map fun j => at_ new (f + j)).foldl lnStep (st, T0) = r at *
  obtain ⟨r1, r2⟩ := r
  have lr : r2.length ≤ T0.length + 900 * _ := lr
  have rge : rgD (f : Int) (l + 1 - f) = (List.range (l + 1 - f)).map fun j : Nat => D.int ((f : Int) + (j : Int)) := rfl
  rw [← rge, stpK_ds (ds' := rgD (f : Int) (l + 1 - f))] at lp
  have tn : ((l : Int) + 1 - (f : Int)).toNat = l + 1 - f := by omega
  have h1 : rgB (f : Int) = true := rgB_nat (by omega)
  have h2 : rgB ((l : Int) + 1) = true := by
    have := rgB_nat (n := l + 1) (by omega)
    rwa [show ((l + 1 : Nat) : Int) = (l : Int) + 1 from by omega] at this
  simp only at lp ⊢
  have e6 := fun x0 x2 x3 x4 x6 x7 x8 x9 x10 x11 M => w6_eq new (.lst DC) fc f i0 a0 f1 f2 x0 x2 x3 x4 x6 x7 x8 x9 x10 x11 M
  have e7 := fun x0 x2 x3 x5 x6 x8 x9 x10 x11 M => w7_eq new lc l g1 x0 x2 x3 x5 x6 x8 x9 x10 x11 M
  have e9 := fun x0 x1 x2 x3 x4 x5 x6 x7 x9 x10 x11 M => w9_eq (.lst FD) tr e t1 t2 t3 x0 x1 x2 x3 x4 x5 x6 x7 x9 x10 x11 M
  obtain ⟨ρ, eR⟩ := wR_eq r1 r2 l e (by omega) none (some (encL new)) none none none none none none (M ++ G)
  generalize r2 ++ (if e ≤ l then [27, 91, 75] else []) = W at *
  rw [List.length_append] at lp eR
  rw [List.append_assoc] at lp eR
  unfold F__law_line_text
  rw [B_lt, mkFnK_eq]
  simp -implicitDefEqProofs [-oIx_lst, -oAdd_lst, el, q1, e6, i1, e7, q2, e9, je, B1, B2, h1, h2, tn, lp, eR]
end K21

namespace K21
open PySem PySem.Spec PyProof.Rows L2 CI
open K03 (Cell encC encL bl OkL OkSt encC_mk nl_encL nl_encC isGl kindN encLs Scr encS OkS rsz nl_encS)
noncomputable def uSty : Sf := (sIf (toTr (cVar 6)) (sSet 5 (cBin oAdd (cVar 5) (cLst (aCons (cInt (27)) (aCons (cInt (91)) (aCons (cInt (48)) (aCons (cInt (109)) aNil))))))) sNil)
noncomputable def uTtl : Sf := (sIf (toB (cBin oNe (cBin oIx (cVar 0) (cInt (3))) (cBin oIx (cVar 1) (cInt (3))))) (sSet 5 (cBin oAdd (cBin oAdd (cBin oAdd (cVar 5) (cLst (aCons (cInt (27)) (aCons (cInt (93)) (aCons (cInt (50)) (aCons (cInt (59)) aNil)))))) (cCB oList (aCons (cBin oIx (cVar 1) (cInt (3))) aNil))) (cLst (aCons (cInt (7)) aNil)))) sNil)
noncomputable def uVis : Sf := (sIf (toB (cBin oNe (cBin oIx (cVar 0) (cInt (2))) (cBin oIx (cVar 1) (cInt (2))))) (sSet 5 (cBin oAdd (cVar 5) (cLst (aCons (cInt (27)) (aCons (cInt (91)) (aCons (cInt (63)) (aCons (cInt (50)) (aCons (cInt (53)) (aCons (cIf (toTr (cBin oIx (cVar 1) (cInt (2)))) (cInt (104)) (cInt (108))) aNil))))))))) sNil)
noncomputable def uCur : Sf := (sIf (kOr (toTr (cVar 5)) (toB (cBin oNe (cBin oIx (cVar 0) (cInt (1))) (cBin oIx (cVar 1) (cInt (1)))))) (sSet 5 (cBin oAdd (cBin oAdd (cBin oAdd (cVar 5) (cLst (aCons (cInt (27)) (aCons (cInt (91)) aNil)))) (cCall F__law_joined (aCons (cLst (aCons (cBin oAdd (cBin oIx (cBin oIx (cVar 1) (cInt (1))) (cInt (0))) (cInt (1))) (aCons (cBin oAdd (cBin oIx (cBin oIx (cVar 1) (cInt (1))) (cInt (1))) (cInt (1))) aNil))) aNil))) (cLst (aCons (cInt (72)) aNil)))) sNil)
noncomputable def uRest : Sf := (sCons (sSet 5 (cLst aNil)) (sCons (sSet 6 (cTup aNil)) (sCons (sForK [true, true, true, false, false, true, true, false, false] (iRg1 (cVar 3)) (gNm 7) L__law_due_1) (sCons uSty (sCons uTtl (sCons uVis (sCons uCur (sRet (cBin oAdd (cVar 2) (cVar 5))))))))))
theorem B_due : B__law_due = (sCons (sSet 2 (cLst aNil)) (sCons (sSet 3 (cCB oLen (aCons (cBin oIx (cVar 1) (cInt (0))) aNil))) (sCons (sSet 4 (cCB oLen (aCons (cBin oIx (cBin oIx (cVar 1) (cInt (0))) (cInt (0))) aNil))) (sCons (sIf (toB (cBin oNe (cTup (aCons (cCB oLen (aCons (cBin oIx (cVar 0) (cInt (0))) aNil)) (aCons (cCB oLen (aCons (cBin oIx (cBin oIx (cVar 0) (cInt (0))) (cInt (0))) aNil)) aNil))) (cTup (aCons (cVar 3) (aCons (cVar 4) aNil))))) (sCons (sSet 2 (cBin oAdd (cBin oAdd (cLst (aCons (cInt (27)) (aCons (cInt (91)) aNil))) (cCall F__law_joined (aCons (cLst (aCons (cInt (8)) (aCons (cVar 3) (aCons (cVar 4) aNil)))) aNil))) (cLst (aCons (cInt (116)) aNil)))) (sSet 0 (cCall F_resized (aCons (cVar 0) (aCons (cVar 3) (aCons (cVar 4) aNil)))))) sNil) uRest)))) := rfl
theorem uttl_eq (old new : Scr) (R : List Int) (hR : R.length ≤ 10000000) (ht : new.title.length ≤ 1000) (x2 x3 x4 x6 x7 x8 : Option D) (M : Mem) : uTtl [some (encS old), some (encS new), x2, x3, x4, some (.lst (R.map .int)), x6, x7, x8] M =
    some (.nx, [some (encS old), some (encS new), x2, x3, x4, some (.lst ((r1T old new R).map .int)), x6, x7, x8], M) := by
  have ne := fun (a b : List Int) M => @oNe_ints a b M
  have s3 := fun (s : Scr) M => S3 s M
  unfold uTtl r1T
  by_cases q : old.title = new.title
  · rw [if_pos q]
    simp -implicitDefEqProofs [s3, ne, q]
  · rw [if_neg q]
    have A2 : ∀ M, oAdd (.lst (R.map .int)) (.lst [.int 27, .int 93, .int 50, .int 59]) M = some (.new ((R ++ [27, 93, 50, 59]).map .int)) := fun M => by
      rw [oAdd_lst, if_pos (by simp [sizeLine]; omega)]; simp
    have A3 : ∀ M, oAdd (.lst ((R ++ [27, 93, 50, 59]).map .int)) (.lst (new.title.map .int)) M = some (.new (((R ++ [27, 93, 50, 59]) ++ new.title).map .int)) := fun M => by
      rw [oAdd_lst, if_pos (by simp [sizeLine]; omega)]; simp
    have A4 : ∀ M, oAdd (.lst (((R ++ [27, 93, 50, 59]) ++ new.title).map .int)) (.lst [.int 7]) M = some (.new ((((R ++ [27, 93, 50, 59]) ++ new.title) ++ [7]).map .int)) := fun M => by
      rw [oAdd_lst, if_pos (by simp [sizeLine]; omega)]; simp
    generalize (((R ++ [27, 93, 50, 59]) ++ new.title) ++ [7]) = W4 at *
    generalize ((R ++ [27, 93, 50, 59]) ++ new.title) = W3 at *
    generalize R ++ [27, 93, 50, 59] = W2 at *
    have T : ∀ (t : List Int) M, oList [.tup (t.map .int)] M = some (.new (t.map .int)) := fun _ _ => rfl
    simp -implicitDefEqProofs [-oAdd_lst, s3, ne, q, A2, A3, A4, T]
theorem uvis_eq (old new : Scr) (R : List Int) (hR : R.length ≤ 10000000) (x2 x3 x4 x6 x7 x8 : Option D) (M : Mem) : uVis [some (encS old), some (encS new), x2, x3, x4, some (.lst (R.map .int)), x6, x7, x8] M =
    some (.nx, [some (encS old), some (encS new), x2, x3, x4, some (.lst ((r2T old new R).map .int)), x6, x7, x8], M) := by
  have ne : ∀ (a b : Bool) M, oNe (.bl a) (.bl b) M = some (.val (.bl (!decide (a = b)))) := fun _ _ _ => rfl
  have s2 := fun (s : Scr) M => S2 s M
  unfold uVis r2T
  by_cases q : old.vis = new.vis
  · rw [if_pos q]
    simp -implicitDefEqProofs [s2, ne, q]
  · rw [if_neg q]
    obtain ⟨W3, hW3⟩ : ∃ W3 : Int → List Int, W3 = fun x => R ++ [27, 91, 63, 50, 53, x] := ⟨_, rfl⟩
    have A3' : ∀ (x : Int) M, oAdd (.lst (R.map .int)) (.lst [.int 27, .int 91, .int 63, .int 50, .int 53, .int x]) M = some (.new ((W3 x).map .int)) := fun x M => by
      rw [oAdd_lst, if_pos (by simp [sizeLine]; omega), hW3]; simp
    have eW : ∀ x, R ++ [27, 91, 63, 50, 53, x] = W3 x := fun x => by rw [hW3]
    rw [eW]
    clear hW3 eW
    cases hv : new.vis <;> simp -implicitDefEqProofs [-oAdd_lst, s2, ne, q, hv, A3']
    all_goals simp_all
theorem ucur_eq (old new : Scr) (R : List Int) (hR : R.length ≤ 10000000) (hr : new.row ≤ 100) (hc : new.col ≤ 100) (x2 x3 x4 x6 x7 x8 : Option D) (M : Mem) : uCur [some (encS old), some (encS new), x2, x3, x4, some (.lst (R.map .int)), x6, x7, x8] M =
    some (.nx, [some (encS old), some (encS new), x2, x3, x4, some (.lst ((r3T old new R).map .int)), x6, x7, x8], M) := by
  obtain ⟨same, hs⟩ : ∃ b : Bool, b = (decide (old.row = new.row) && decide (old.col = new.col)) := ⟨_, rfl⟩
  have ne : ∀ M, oNe (.tup [.int old.row, .int old.col]) (.tup [.int new.row, .int new.col]) M = some (.val (.bl (!same))) := fun M => by
    rw [oNe_deq (n := 2) (m := 2) (by decide) (by decide) rfl rfl, hs]
    simp [Int.ofNat_inj]
  have so := fun M => S1 old M
  have sn := fun M => S1 new M
  have n0 : ∀ M, oIx (.tup [.int new.row, .int new.col]) (.int 0) M = some (.val (.int new.row)) := fun _ => rfl
  have n1 : ∀ M, oIx (.tup [.int new.row, .int new.col]) (.int 1) M = some (.val (.int new.col)) := fun _ => rfl
  generalize D.tup [.int old.row, .int old.col] = cO at *
  generalize D.tup [.int new.row, .int new.col] = cN at *
  have okF : OkN [(new.row : Int) + 1, (new.col : Int) + 1] := okN_cons ⟨by omega, by omega⟩ (okN_cons ⟨by omega, by omega⟩ fun _ h => (nomatch h))
  have je := fun M => joined_eq [(new.row : Int) + 1, (new.col : Int) + 1] okF (by simp) M
  have lj := jnI_len [(new.row : Int) + 1, (new.col : Int) + 1] 0 okF
  simp only [List.length_cons, List.length_nil, List.map_cons, List.map_nil] at je lj
  have cond : (R = [] ∧ old.row = new.row ∧ old.col = new.col) ↔ (R = [] ∧ same = true) := by rw [hs]; simp
  unfold r3T seqT
  generalize jnI 0 [(new.row : Int) + 1, (new.col : Int) + 1] = J at *
  have A1 : ∀ M, oAdd (.lst (R.map .int)) (.lst [.int 27, .int 91]) M = some (.new ((R ++ [27, 91]).map .int)) := fun M => by
    rw [oAdd_lst, if_pos (by simp [sizeLine]; omega)]; simp
  have A2 : ∀ M, oAdd (.lst ((R ++ [27, 91]).map .int)) (.lst (J.map .int)) M = some (.new (((R ++ [27, 91]) ++ J).map .int)) := fun M => by
    rw [oAdd_lst, if_pos (by simp [sizeLine]; omega)]; simp
  have A3 : ∀ M, oAdd (.lst (((R ++ [27, 91]) ++ J).map .int)) (.lst [.int 72]) M = some (.new ((R ++ (([27, 91] ++ J) ++ [72])).map .int)) := fun M => by
    rw [oAdd_lst, if_pos (by simp [sizeLine]; omega)]; simp
  have tr : ∀ M, trD M (.lst (R.map .int)) = some (!decide (R = [])) := fun M => by cases R <;> simp
  by_cases q0 : R = []
  · rw [decide_eq_true q0] at tr
    cases same with
    | true =>
      rw [if_pos (cond.mpr ⟨q0, rfl⟩)]
      generalize R.map D.int = RD at *
      unfold uCur
      simp -implicitDefEqProofs [-oAdd_lst, so, sn, ne, tr]
    | false =>
      rw [if_neg (fun q => by have := (cond.mp q).2; cases this)]
      generalize R.map D.int = RD at *
      generalize R ++ (([27, 91] ++ J) ++ [72]) = W at *
      generalize (R ++ [27, 91]) ++ J = W2 at *
      generalize R ++ [27, 91] = W1 at *
      unfold uCur
      simp -implicitDefEqProofs [-oAdd_lst, so, sn, ne, tr, n0, n1, je, A1, A2, A3]
  · rw [decide_eq_false q0] at tr
    rw [if_neg (fun q => q0 q.1)]
    generalize R.map D.int = RD at *
    generalize R ++ (([27, 91] ++ J) ++ [72]) = W at *
    generalize (R ++ [27, 91]) ++ J = W2 at *
    generalize R ++ [27, 91] = W1 at *
    unfold uCur
    simp -implicitDefEqProofs [-oAdd_lst, so, sn, ne, tr, n0, n1, je, A1, A2, A3]
abbrev kU : List Bool := [true, true, true, false, false, true, true, false, false]
theorem gd_of {l : List Cell} (h : OkL l) : ∀ c ∈ l, 0 ≤ c.1 := by
  induction h with
  | nil => intro c hc; cases hc
  | nar q _ _ ih =>
    intro c hc
    rcases List.mem_cons.mp hc with rfl | z
    · simp only; omega
    · exact ih c z
  | wid q _ _ ih =>
    intro c hc
    rcases List.mem_cons.mp hc with rfl | z
    · simp only; omega
    · rcases List.mem_cons.mp z with rfl | z
      · simp
      · exact ih c z
theorem u_step (old new : Scr) (c : Nat) (h : PLs old.lines new.lines c) (x2 : D) (hx : ∀ n, nl n x2 = true) (k : Nat) (hk : k < new.lines.length) (st T : List Int) (hs : OkN st ∧ st.length ≤ 100) (hT : T.length ≤ 100000 * k) (M : Mem) :
    stpK kU none [] (gNm 7) L__law_due_1 (.int (0 + (k : Int))) [some (encS old), some (encS new), some x2, none, none, some (.lst (T.map .int)), some (.tup (st.map .int)), none, none] M =
      some (.nx, [some (encS old), some (encS new), some x2, none, none, some (.lst ((lnsStep old.lines new.lines (st, T) k).2.map .int)), some (.tup ((lnsStep old.lines new.lines (st, T) k).1.map .int)), none, none], M) := by
  have so := fun M => S0 old M
  have sn := fun M => S0 new M
  have o1 := fun M => encLs_ix old.lines k (by rw [h.len]; exact hk) M
  have n1 := fun M => encLs_ix new.lines k hk M
  have ho := h.o _ (getD_mem (ls := old.lines) (k := k) (by rw [h.len]; exact hk))
  have hn := h.n _ (getD_mem (ls := new.lines) (k := k) hk)
  have ne := fun (a b : List Cell) M => oNe_L a b M
  have hr := h.r
  have hc2 := h.c2
  have hc4 := h.c4
  unfold lnsStep
  generalize old.lines.getD k [] = a at *
  generalize new.lines.getD k [] = b at *
  by_cases q : a = b
  · simp -implicitDefEqProofs [L__law_due_1, so, sn, o1, n1, ne, q, nl_encS, hx]
  · have le := fun M => lawLine_eq a b (by omega) (by omega) q (at0 hn.1 (by omega)) (okL_c hn.1) (gd_of hn.1) k (by omega) st M
    have ll := lineT_len a b k st (by omega) (by omega) (okL_c hn.1) (by have := dFst_lt (by omega : a.length = b.length) q; omega)
    generalize lineT a b k st = r at *
    obtain ⟨r1, r2⟩ := r
    simp only at le ll
    have A1 : ∀ M, oAdd (.lst (T.map .int)) (.lst (r2.map .int)) M = some (.new ((T ++ r2).map .int)) := fun M => by
      rw [oAdd_lst, if_pos (by simp [sizeLine]; omega), List.map_append]
    rw [if_neg q]
    simp only
    generalize T ++ r2 = W at A1 ⊢
    simp -implicitDefEqProofs [-oAdd_lst, L__law_due_1, so, sn, o1, n1, ne, q, nl_encS, hx, le, A1]
end K21

namespace K21
open PySem PySem.Spec PyProof.Rows L2 CI
open K03 (Cell encC encL bl OkL OkSt encC_mk nl_encL nl_encC isGl kindN encLs Scr encS OkS rsz nl_encS)
theorem u_loop (old new : Scr) (c : Nat) (h : PLs old.lines new.lines c) (x2 : D) (hx : ∀ n, nl n x2 = true) (M : Mem) :
    loopF (stpK kU none (rgD 0 new.lines.length) (gNm 7) L__law_due_1) (rgD 0 new.lines.length) [some (encS old), some (encS new), some x2, none, none, some (.lst []), some (.tup []), none, none] M =
      some (.nx, [some (encS old), some (encS new), some x2, none, none, some (.lst (((List.range new.lines.length).foldl (lnsStep old.lines new.lines) ([], [])).2.map .int)), some (.tup (((List.range new.lines.length).foldl (lnsStep old.lines new.lines) ([], [])).1.map .int)), none, none], M) := by
  have lp := loop_fold (step := stpK kU none [] (gNm 7) L__law_due_1) (fun k : Nat => D.int (0 + (k : Int))) (fun a : List Int × List Int => [some (encS old), some (encS new), some x2, none, none, some (.lst (a.2.map .int)), some (.tup (a.1.map .int)), none, none]) (fun _ => M)
    (lnsStep old.lines new.lines) (fun xs a => ∃ j, xs = (List.range new.lines.length).drop j ∧ j ≤ new.lines.length ∧ a = (List.range j).foldl (lnsStep old.lines new.lines) ([], [])) (fun x xs a hI => by
      obtain ⟨j, e, hj, rfl⟩ := hI
      have jn : j < new.lines.length := by
        by_cases z : j < new.lines.length
        · exact z
        · rw [List.drop_eq_nil_of_le (by simp; omega)] at e; cases e
      have ex : x = j ∧ xs = (List.range new.lines.length).drop (j + 1) := by
        rw [List.drop_eq_getElem_cons (by simpa using jn)] at e
        obtain ⟨e1, e2⟩ := List.cons.inj e
        exact ⟨by rw [e1]; simp, e2⟩
      obtain ⟨rfl, rfl⟩ := ex
      have f := lns_fold old.lines new.lines c h x (by omega)
      refine ⟨⟨.nx, rfl, ?_⟩, x + 1, rfl, by omega, by rw [List.range_succ, List.foldl_append]; rfl⟩
      generalize (List.range x).foldl (lnsStep old.lines new.lines) ([], []) = a at *
      exact u_step old new c h x2 hx x (by omega) a.1 a.2 f.1 f.2 M) (List.range new.lines.length) ([], []) ⟨0, by simp, by omega, rfl⟩
  have rge : rgD 0 new.lines.length = (List.range new.lines.length).map fun k : Nat => D.int (0 + (k : Int)) := by unfold rgD; simp
  rw [rge, stpK_ds (ds' := [])]
  exact lp
theorem urest_eq (old new : Scr) (r c : Nat) (ho : OkS old r c) (hn : OkS new r c) (T0 : List Int) (h0 : T0.length ≤ 1000) (x4 x5 x6 x7 x8 : Option D) (M : Mem) : ∃ ρ,
    uRest [some (encS old), some (encS new), some (.lst (T0.map .int)), some (.int (r : Int)), x4, x5, x6, x7, x8] M = some (.rt (.new ((T0 ++ restT old new).map .int)), ρ, M) := by
  have lo := u_loop old new c (pls_of ho hn) (.lst (T0.map .int)) (fun n => by simp) M
  have ll := linesT_len ho hn
  have hr : new.row ≤ 100 := by have := hn.row; have := hn.r2; omega
  have hc : new.col ≤ 100 := by have := hn.col; have := hn.c2; omega
  have ht := hn.tl
  have hrg : rgB (r : Int) = true := rgB_nat (by have := hn.r2; omega)
  rw [hn.rows] at lo
  unfold restT
  unfold linesT at ll ⊢
  rw [hn.rows, styT0] at ll ⊢
  generalize (List.range r).foldl (lnsStep old.lines new.lines) ([], []) = a at *
  obtain ⟨a1, a2⟩ := a
  simp only at lo ll ⊢
  have e0 : ∀ (x2 x3 x4 x7 x8 : Option D) M, uSty [some (encS old), some (encS new), x2, x3, x4, some (.lst (a2.map .int)), some (.tup (a1.map .int)), x7, x8] M = some (.nx, [some (encS old), some (encS new), x2, x3, x4, some (.lst ((a2 ++ if a1 = [] then [] else [27, 91, 48, 109]).map .int)), some (.tup (a1.map .int)), x7, x8], M) := fun x2 x3 x4 x7 x8 M => by
    have tr : ∀ M, trD M (.tup (a1.map .int)) = some (!decide (a1 = [])) := fun M => by cases a1 <;> simp
    unfold uSty
    by_cases z : a1 = []
    · rw [decide_eq_true z] at tr
      rw [if_pos z, List.append_nil]
      generalize a1.map D.int = AD at *
      simp -implicitDefEqProofs [tr]
    · rw [decide_eq_false z] at tr
      rw [if_neg z] at ll ⊢
      have A1 : ∀ M, oAdd (.lst (a2.map .int)) (.lst [.int 27, .int 91, .int 48, .int 109]) M = some (.new ((a2 ++ [27, 91, 48, 109]).map .int)) := fun M => by
        rw [oAdd_lst, if_pos (by simp [sizeLine] at ll ⊢; omega)]; simp
      generalize a2 ++ [27, 91, 48, 109] = W at *
      generalize a1.map D.int = AD at *
      simp -implicitDefEqProofs [-oAdd_lst, tr, A1]
  generalize (a2 ++ if a1 = [] then [] else [27, 91, 48, 109]) = R at *
  have e1 := fun x2 x3 x4 x6 x7 x8 M => uttl_eq old new R (by omega) (by omega) x2 x3 x4 x6 x7 x8 M
  have l1 := r1_len old new R ht
  generalize r1T old new R = R1 at *
  have e2 := fun x2 x3 x4 x6 x7 x8 M => uvis_eq old new R1 (by omega) x2 x3 x4 x6 x7 x8 M
  have l2 := r2_len old new R1
  generalize r2T old new R1 = R2 at *
  have e3 := fun x2 x3 x4 x6 x7 x8 M => ucur_eq old new R2 (by omega) hr hc x2 x3 x4 x6 x7 x8 M
  have l3 := r3_len old new R2 hr hc
  generalize r3T old new R2 = R3 at *
  have A1 : ∀ M, oAdd (.lst (T0.map .int)) (.lst (R3.map .int)) M = some (.new ((T0 ++ R3).map .int)) := fun M => by
    rw [oAdd_lst, if_pos (by simp [sizeLine]; omega), List.map_append]
  generalize T0 ++ R3 = W at *
  unfold uRest
  exact ⟨_, by simp -implicitDefEqProofs [-oAdd_lst, hrg, lo, e0, e1, e2, e3, A1]; rfl⟩
theorem due_eq (old new : Scr) (r0 c0 r c : Nat) (ho : OkS old r0 c0) (hn : OkS new r c) (M : Mem) : F__law_due [encS old, encS new] M = some (.new ((diffT old new).map .int), M) := by
  have wo := okS_w ho
  have wn := okS_w hn
  have ro := ho.rows
  have rn := hn.rows
  have so := fun M => S0 old M
  have sn := fun M => S0 new M
  have lo := fun M => encLs_len old.lines M
  have ln := fun M => encLs_len new.lines M
  have io : ∀ M, oIx (encLs old.lines) (.int 0) M = some (.val (encL (old.lines.getD 0 []))) := fun M => encLs_ix old.lines 0 (by rw [ro]; exact ho.r1) M
  have in_ : ∀ M, oIx (encLs new.lines) (.int 0) M = some (.val (encL (new.lines.getD 0 []))) := fun M => encLs_ix new.lines 0 (by rw [rn]; exact hn.r1) M
  have eo := fun M => encL_len (old.lines.getD 0 []) M
  have en := fun M => encL_len (new.lines.getD 0 []) M
  rw [wo] at eo
  rw [wn] at en
  rw [ro] at lo
  rw [rn] at ln
  unfold diffT
  rw [wo, wn, ro, rn]
  generalize old.lines.getD 0 [] = lo0 at *
  generalize new.lines.getD 0 [] = ln0 at *
  have hr := hn.r1
  have hr2 := hn.r2
  have hc := hn.c1
  have hc2 := hn.c2
  have ne : ∀ M, oNe (.tup [.int (r0 : Int), .int (c0 : Int)]) (.tup [.int (r : Int), .int (c : Int)]) M = some (.val (.bl (!decide (r0 = r ∧ c0 = c)))) := fun M => by
    rw [oNe_deq (n := 2) (m := 2) (by decide) (by decide) rfl rfl]
    simp [Int.ofNat_inj]
  unfold F__law_due
  rw [B_due, mkFnK_eq]
  by_cases q : r0 = r ∧ c0 = c
  · rw [decide_eq_true q] at ne
    obtain ⟨rfl, rfl⟩ := q
    rw [if_pos (And.intro rfl rfl)]
    obtain ⟨ρ, re⟩ := urest_eq old new r0 c0 ho hn [] (by simp) (some (.int (c0 : Int))) none none none none M
    rw [List.nil_append] at re
    simp only [List.map_nil] at re
    simp -implicitDefEqProofs [so, sn, lo, ln, io, in_, eo, en, ne, re]
  · rw [decide_eq_false q] at ne
    rw [if_neg q]
    have okF : OkN [8, (r : Int), (c : Int)] := okN_cons ⟨by omega, by omega⟩ (okN_cons ⟨by omega, by omega⟩ (okN_cons ⟨by omega, by omega⟩ fun _ h => (nomatch h)))
    have je := fun M => joined_eq [8, (r : Int), (c : Int)] okF (by simp) M
    have lj := jnI_len [8, (r : Int), (c : Int)] 0 okF
    simp only [List.length_cons, List.length_nil, List.map_cons, List.map_nil] at je lj
    have B1 : ∀ M, oAdd (.lst [.int 27, .int 91]) (.lst ((jnI 0 [8, (r : Int), (c : Int)]).map .int)) M = some (.new (([27, 91] ++ jnI 0 [8, (r : Int), (c : Int)]).map .int)) := fun M => by
      rw [oAdd_lst, if_pos (by simp [sizeLine]; omega)]; simp
    have B2 : ∀ M, oAdd (.lst (([27, 91] ++ jnI 0 [8, (r : Int), (c : Int)]).map .int)) (.lst [.int 116]) M = some (.new ((seqT [8, (r : Int), (c : Int)] 116).map .int)) := fun M => by
      rw [oAdd_lst, if_pos (by simp [sizeLine]; omega)]; unfold seqT; simp
    have l1 := seqT_len _ 116 okF
    simp only [List.length_cons, List.length_nil] at l1
    have rz := fun M => K03.rsz_eq old r c r0 c0 ho ⟨hr, hr2⟩ ⟨hc, hc2⟩ M
    rw [← e_resized] at rz
    have ok2 := K03.rsz_ok old r c r0 c0 ho ⟨hr, hr2⟩ ⟨hc, hc2⟩
    obtain ⟨ρ, re⟩ := urest_eq (rsz old r c) new r c ok2 hn (seqT [8, (r : Int), (c : Int)] 116) (by omega) (some (.int (c : Int))) none none none none M
    generalize seqT [8, (r : Int), (c : Int)] 116 = T0 at *
    generalize [27, 91] ++ jnI 0 [8, (r : Int), (c : Int)] = J2 at *
    generalize jnI 0 [8, (r : Int), (c : Int)] = J1 at *
    generalize T0 ++ restT (rsz old r c) new = W at *
    simp -implicitDefEqProofs [-oAdd_lst, so, sn, lo, ln, io, in_, eo, en, ne, je, B1, B2, rz, re]
end K21

namespace K21
open PySem PySem.Spec PyProof.Rows L2 CI
open K03 (Cell encC encL bl OkL OkSt encC_mk nl_encL nl_encC isGl kindN encLs Scr encS OkS rsz nl_encS Tri mkA isW whA)
/-! what is left of a line whose cells were changed at places is a line -/
def Gt : Option Tri → List Tri → Prop
  | _, [] => True
  | p, x :: xs => (OkSt x.2.1 ∧ (x.1 = 0 ∨ (32 ≤ x.1 ∧ x.1 ≤ 126) ∨ 160 ≤ x.1)) ∧ (x.1 = 0 → ∀ y, p = some y → 192 ≤ y.1 → y.2.2 = x.2.2 → y.2.1 = x.2.1) ∧ Gt (some x) xs
theorem gt_mk {l : List Cell} (h : OkL l) : ∀ (k : Nat) (p : Option Tri), Gt p (mkA k l) := by
  induction h with
  | nil => intro k p; trivial
  | nar q hs _ ih =>
    intro k p
    unfold mkA
    refine ⟨⟨hs, by simp only; omega⟩, fun z => by simp only at z; omega, ih _ _⟩
  | wid q hs _ ih =>
    intro k p
    unfold mkA mkA
    refine ⟨⟨hs, by simp only; omega⟩, fun z => by simp only at z; omega, ⟨hs, .inl rfl⟩, fun _ y e _ _ => by cases e; rfl, ih _ _⟩
theorem gt_p : ∀ (ts : List Tri) (p q : Option Tri), (∀ y, q = some y → y.1 < 192) → Gt p ts → Gt q ts
  | [], _, _, _, _ => trivial
  | x :: xs, p, q, h, g => ⟨g.1, fun _ y e h2 => by have := h y e; omega, g.2.2⟩
theorem gt_set : ∀ (ts : List Tri) (p : Option Tri) (a : Nat) (c : Int) (s : List Int), OkSt s → (32 ≤ c ∧ c ≤ 126) → Gt p ts → Gt p (ts.set a (c, s, 0))
  | [], _, _, _, _, _, _, _ => trivial
  | x :: xs, p, 0, c, s, hs, hc, g => by
    refine ⟨⟨hs, .inr (.inl hc)⟩, fun z => by simp only at z; omega, gt_p xs (some x) _ (fun y e => by cases e; simp only; omega) g.2.2⟩
  | x :: xs, p, a + 1, c, s, hs, hc, g => ⟨g.1, g.2.1, gt_set xs (some x) a c s hs hc g.2.2⟩
theorem gt_take : ∀ (ts : List Tri) (p : Option Tri) (a : Nat), Gt p ts → Gt p (ts.take a)
  | _, _, 0, _ => by rw [List.take_zero]; trivial
  | [], _, _ + 1, _ => trivial
  | x :: xs, p, a + 1, g => ⟨g.1, g.2.1, gt_take xs (some x) a g.2.2⟩
def tb : Tri := (32, [], 0)
theorem gt_bl : ∀ (n : Nat) (p : Option Tri), Gt p (List.replicate n tb)
  | 0, _ => trivial
  | n + 1, p => by
    rw [List.replicate_succ]
    exact ⟨⟨K03.okSt_nil, .inr (.inl ⟨by decide, by decide⟩)⟩, (fun z => by cases z), gt_bl n _⟩
theorem gt_app : ∀ (ts : List Tri) (p : Option Tri) (n : Nat), Gt p ts → Gt p (ts ++ List.replicate n tb)
  | [], p, n, _ => gt_bl n p
  | x :: xs, p, n, g => ⟨g.1, g.2.1, gt_app xs (some x) n g.2.2⟩
theorem whA_valid : ∀ (n : Nat) (ts : List Tri) (p : Option Tri), ts.length ≤ n → Gt p ts → (∀ x y, ts.head? = some x → p = some y → x.1 = 0 → 192 ≤ y.1 → y.2.2 ≠ x.2.2) → OkL (whA p ts none)
  | _, [], _, _, _, _ => .nil
  | 0, _ :: _, _, h, _, _ => by simp at h
  | n + 1, x :: xs, p, h, g, hd => by
    simp only [List.length_cons] at h
    unfold whA
    by_cases z : x.1 = 0
    · have w : isW p x (xs.head?.or none) = false := by
        unfold isW
        rw [if_pos z]
        cases p with
        | none => rfl
        | some y =>
          have := hd x y rfl rfl z
          simp only [decide_eq_false_iff_not]
          rintro ⟨q1, q2⟩
          exact this q1 q2
      rw [w, if_neg (by decide)]
      exact K03.okL_bl (whA_valid n xs (some x) (by omega) g.2.2 (fun a b h1 h2 h3 h4 => by cases h2; omega))
    · by_cases w : 192 ≤ x.1
      · cases hw : isW p x (xs.head?.or none) with
        | false =>
          rw [if_neg (by decide)]
          refine K03.okL_bl (whA_valid n xs (some x) (by omega) g.2.2 (fun a b h1 h2 h3 h4 h5 => ?_))
          cases h2
          have st := by
            cases xs with
            | nil => cases h1
            | cons a' r => cases h1; exact g.2.2.2.1 h3 x rfl h4 h5
          unfold isW at hw
          rw [if_neg z, if_pos w] at hw
          have := of_decide_eq_false hw
          apply this
          rw [h1]
          obtain ⟨a1, a2, a3⟩ := a
          simp only at h3 h5 st
          simp [h3, h5, st]
        | true =>
          rw [if_pos rfl]
          unfold isW at hw
          rw [if_neg z, if_pos w] at hw
          have hx := of_decide_eq_true hw
          cases xs with
          | nil => cases hx
          | cons a r =>
            cases hx
            have w2 : isW (some x) (0, x.2.1, x.2.2) (r.head?.or none) = true := by
              unfold isW
              rw [if_pos rfl]
              exact decide_eq_true ⟨w, rfl⟩
            unfold whA
            rw [w2, if_pos rfl]
            exact .wid w g.1.1 (whA_valid n r (some (0, x.2.1, x.2.2)) (by simp at h; omega) g.2.2.2.2 (fun a b h1 h2 h3 h4 => by cases h2; simp at h4))
      · have next : OkL (whA (some x) xs none) := whA_valid n xs (some x) (by omega) g.2.2 (fun a b h1 h2 h3 h4 => by cases h2; omega)
        cases hw : isW p x (xs.head?.or none) with
        | false => rw [if_neg (by decide)]; exact K03.okL_bl next
        | true =>
          rw [if_pos rfl]
          have := g.1.2
          exact .nar (by omega) g.1.1 next
theorem whA_len : ∀ (ts : List Tri) (p n : Option Tri), (whA p ts n).length = ts.length
  | [], _, _ => rfl
  | x :: xs, p, n => by unfold whA; rw [List.length_cons, List.length_cons, whA_len]
end K21

namespace K21
open PySem PySem.Spec PyProof.Rows L2 CI
open K03 (Cell encC encL bl OkL OkSt encC_mk nl_encL nl_encC isGl kindN encLs Scr encS OkS rsz nl_encS Tri mkA isW whA)
open K01 (encT nl_encT)
theorem e_marked : F__law_marked = K01.F__law_marked := rfl
theorem e_whole : F__law_whole = K01.F__law_whole := rfl
abbrev kC : List Bool := [false, true, true, true, false, true, true, true, true, false]
theorem ch_step (ds : List Int) (hd : ds.length = 17) (hb : ∀ d ∈ ds, 0 ≤ d ∧ d < 1000) (ts : List Tri) (h : Gt none ts) (hp : 0 < ts.length) (hl : ts.length ≤ 100) (j : Nat) (hj : j < 4) (x2 x5 x6 x7 x8 : D) (h2 : ∀ n, nl n x2 = true) (h5 : ∀ n, nl n x5 = true) (h6 : ∀ n, nl n x6 = true) (h7 : ∀ n, nl n x7 = true) (h8 : ∀ n, nl n x8 = true) (M : Mem) : ∃ ts', Gt none ts' ∧ ts'.length = ts.length ∧
    stpK kC none [] (gNm 4) L__law_changed_1 (.int (0 + (j : Int))) [none, some (.lst (ds.map .int)), some x2, some (.loc M.length), none, some x5, some x6, some x7, some x8, none] (M ++ [.lst (ts.map encT)]) =
      some (.nx, [none, some (.lst (ds.map .int)), some x2, some (.loc M.length), none, some x5, some x6, some x7, some x8, none], M ++ [.lst (ts'.map encT)]) := by
  have D1 : ∀ M, oIx (.lst (ds.map .int)) (.int (2 + 2 * (j : Int))) M = some (.val (.int (ds.getD (2 + 2 * j) 0))) := fun M => by
    have := ints_ix ds (2 + 2 * j) (by omega) M
    rwa [show ((2 + 2 * j : Nat) : Int) = 2 + 2 * (j : Int) from by omega] at this
  have D2 : ∀ M, oIx (.lst (ds.map .int)) (.int (3 + 2 * (j : Int))) M = some (.val (.int (ds.getD (3 + 2 * j) 0))) := fun M => by
    have := ints_ix ds (3 + 2 * j) (by omega) M
    rwa [show ((3 + 2 * j : Nat) : Int) = 3 + 2 * (j : Int) from by omega] at this
  generalize ds.getD (2 + 2 * j) 0 = d1 at *
  generalize ds.getD (3 + 2 * j) 0 = d2 at *
  obtain ⟨a, ha⟩ : ∃ a : Nat, d1 % (ts.length : Int) = (a : Int) := ⟨(d1 % (ts.length : Int)).toNat, (Int.toNat_of_nonneg (Int.emod_nonneg _ (by omega))).symm⟩
  have ha2 : a < ts.length := by have := Int.emod_lt_of_pos d1 (show (0 : Int) < ts.length by omega); omega
  have sq : ∀ M, F__law_style [.int d2] M = some (.val (.tup ((K03.styleN d2).map .int)), M) := fun M => by rw [e_lstyle]; exact K03.sty_eq d2 M
  have ok := K03.styleN_ok d2
  obtain ⟨c, hc⟩ : ∃ c : Int, d2 % 95 = c := ⟨_, rfl⟩
  have ixn : ixN ts.length (a : Int) = some a := ixN_nat (by omega) (by omega)
  have NS : ∀ t, nls (M.length + 1) ((ts.map encT).set a (encT t)) = true := fun t => nls_set nl_encT (nls_map (fun _ => nl_encT) _)
  have et : D.tup [.int (32 + c), .tup ((K03.styleN d2).map .int), .int 0] = encT (32 + c, K03.styleN d2, 0) := rfl
  refine ⟨ts.set a (32 + c, K03.styleN d2, 0), gt_set ts none a _ _ ok (by omega) h, by simp, ?_⟩
  have hpos : 0 < ts.length := hp
  simp -implicitDefEqProofs [-oIx_lst, L__law_changed_1, D1, D2, ha, hc, sq, et, ixn, hpos, List.map_set, NS, nl_encT, h2, h5, h6, h7, h8]
noncomputable def v4 : Sf := (sIf (toB (cBin oEq (cBin oMod (cBin oIx (cVar 1) (cInt (10))) (cInt (4))) (cInt (0)))) (sCons (sSetM 3 (cSl (cVar 3) sNone (sSome (cBin oMod (cBin oIx (cVar 1) (cInt (11))) (cCB oLen (aCons (cVar 3) aNil)))))) (sSetM 3 (cBin oAdd (cVar 3) (cBin oMulA (cLst (aCons (cTup (aCons (cInt (32)) (aCons (cTup aNil) (aCons (cInt (0)) aNil)))) aNil)) (cBin oSub (cCB oLen (aCons (cBin oIx (cVar 5) (cVar 2)) aNil)) (cCB oLen (aCons (cVar 3) aNil))))))) sNil)
noncomputable def v5 : Sf := (sIf (toB (cBin oEq (cBin oMod (cBin oIx (cVar 1) (cInt (12))) (cInt (3))) (cInt (0)))) (sSet 6 (cTup (aCons (cBin oMod (cBin oIx (cVar 1) (cInt (13))) (cCB oLen (aCons (cVar 5) aNil))) (aCons (cBin oMod (cBin oIx (cVar 1) (cInt (14))) (cCB oLen (aCons (cBin oIx (cVar 5) (cInt (0))) aNil))) aNil)))) sNil)
noncomputable def v6 : Sf := (sIf (toB (cBin oEq (cBin oMod (cBin oIx (cVar 1) (cInt (12))) (cInt (5))) (cInt (0)))) (sSet 8 (cIf (toB (cBin oLt (cCB oLen (aCons (cVar 8) aNil)) (cInt (40)))) (cBin oAdd (cVar 8) (cTup (aCons (cInt (65)) aNil))) (cTup aNil))) sNil)
noncomputable def v7 : Sf := (sSet 5 (cBin oAdd (cBin oAdd (cSl (cVar 5) sNone (sSome (cVar 2))) (cTup (aCons (cLend F__law_whole (aCons (cVar 3) aNil)) aNil))) (cSl (cVar 5) (sSome (cBin oAdd (cVar 2) (cInt (1)))) sNone)))
noncomputable def v8 : Sf := (sRet (cTup (aCons (cVar 5) (aCons (cVar 6) (aCons (cIf (toB (cBin oGt (cBin oMod (cBin oIx (cVar 1) (cInt (15))) (cInt (4))) (cInt (0)))) (cVar 7) (cNot (cVar 7))) (aCons (cVar 8) aNil))))))
theorem B_ch : B__law_changed = (sCons (sAsg (gTp 4 (gsCons (gNm 5) (gsCons (gNm 6) (gsCons (gNm 7) (gsCons (gNm 8) gsNil))))) (cVar 0)) (sCons (sSet 2 (cBin oMod (cBin oIx (cVar 1) (cInt (0))) (cCB oLen (aCons (cVar 5) aNil)))) (sCons (sSetM 3 (cCall F__law_marked (aCons (cBin oIx (cVar 5) (cVar 2)) aNil))) (sCons (sForK [false, true, true, true, false, true, true, true, true, false] (iRg1 (cBin oMod (cBin oIx (cVar 1) (cInt (1))) (cInt (4)))) (gNm 4) L__law_changed_1) (sCons v4 (sCons v5 (sCons v6 (sCons v7 v8)))))))) := rfl
theorem v4_eq (l : List Cell) (ts : List Tri) (h : Gt none ts) (hl : ts.length = l.length) (hp : 0 < l.length) (hn : l.length ≤ 100) (d10 d11 : Int) (dl : D) (D10 : ∀ M, oIx dl (.int 10) M = some (.val (.int d10))) (D11 : ∀ M, oIx dl (.int 11) M = some (.val (.int d11)))
    (x5 : D) (a : Int) (I5 : ∀ M, oIx x5 (.int a) M = some (.val (encL l))) (x0 x4 x6 x7 x8 x9 : Option D) (M : Mem) : ∃ ts' G, Gt none ts' ∧ ts'.length = l.length ∧ (G : Mem).all isLo = true ∧
    v4 [x0, some dl, some (.int a), some (.loc M.length), x4, some x5, x6, x7, x8, x9] (M ++ [.lst (ts.map encT)]) =
      some (.nx, [x0, some dl, some (.int a), some (.loc (M ++ G).length), x4, some x5, x6, x7, x8, x9], M ++ G ++ [.lst (ts'.map encT)]) := by
  unfold v4
  by_cases q : d10 % 4 = 0
  · obtain ⟨n, hn2⟩ : ∃ n : Nat, d11 % (ts.length : Int) = (n : Int) := ⟨(d11 % (ts.length : Int)).toNat, (Int.toNat_of_nonneg (Int.emod_nonneg _ (by omega))).symm⟩
    have hn3 : n < ts.length := by have := Int.emod_lt_of_pos d11 (show (0 : Int) < ts.length by omega); omega
    have hpos : 0 < ts.length := by omega
    have ct : cutL ts none (some (n : Int)) = ts.take n := by rw [cutL_hi (by omega)]; rfl
    have el := fun M => encL_len l M
    have rp : ∀ M, oMulA (.lst [.tup [.int 32, .tup [], .int 0]]) (.int ((l.length : Int) - (n : Int))) M = some (.new ((List.replicate (l.length - n) tb).map encT)) := fun M => by
      rw [oMulA_lst, if_pos ⟨by omega, by omega, by simp⟩]
      have : ((l.length : Int) - (n : Int)).toNat = l.length - n := by omega
      rw [this, List.map_replicate]
      simp [rep_one]
      exact .inr rfl
    have lt : (ts.take n).length = n := by rw [List.length_take]; omega
    refine ⟨ts.take n ++ List.replicate (l.length - n) tb, [.lst (ts.map encT), .lst ((ts.take n).map encT)], gt_app _ _ _ (gt_take _ _ _ h), by rw [List.length_append, lt, List.length_replicate]; omega, rfl, ?_⟩
    have A1 : oAdd (.loc (M ++ [O.lst (ts.map encT)]).length) (.lst ((List.replicate (l.length - n) tb).map encT)) (M ++ [O.lst (ts.map encT)] ++ [O.lst ((ts.take n).map encT)]) = some (.new ((ts.take n ++ List.replicate (l.length - n) tb).map encT)) := by
      rw [oAdd_end _ _ _ (by simp; omega), List.map_append]
    generalize ts.take n ++ List.replicate (l.length - n) tb = W at *
    generalize ts.take n = V at *
    generalize List.replicate (l.length - n) tb = Z at *
    simp only [List.length_append, List.length_cons, List.length_nil, List.append_assoc, List.cons_append, List.nil_append, Nat.zero_add] at A1
    simp -implicitDefEqProofs [-oMulA_lst, D10, D11, q, hn2, hpos, ct, I5, el, lt, rp, A1]
  · exact ⟨ts, [], h, hl, rfl, by simp -implicitDefEqProofs [D10, q]⟩
end K21

namespace K21
open PySem PySem.Spec PyProof.Rows L2 CI
open K03 (Cell encC encL bl OkL OkSt encC_mk nl_encL nl_encC isGl kindN encLs Scr encS OkS rsz nl_encS Tri mkA isW whA)
open K01 (encT nl_encT)
theorem v5_eq (ls : List (List Cell)) (r c : Nat) (hr : ls.length = r) (hr1 : 1 ≤ r) (hc1 : 2 ≤ c) (hc : (ls.getD 0 []).length = c) (a b : Nat) (ha : a < r) (hb : b < c) (d12 d13 d14 : Int) (dl : D) (D12 : ∀ M, oIx dl (.int 12) M = some (.val (.int d12))) (D13 : ∀ M, oIx dl (.int 13) M = some (.val (.int d13))) (D14 : ∀ M, oIx dl (.int 14) M = some (.val (.int d14)))
    (x0 x2 x3 x4 x7 x8 x9 : Option D) : ∃ a' b' : Nat, a' < r ∧ b' < c ∧ ∀ M, v5 [x0, some dl, x2, x3, x4, some (encLs ls), some (.tup [.int (a : Int), .int (b : Int)]), x7, x8, x9] M =
      some (.nx, [x0, some dl, x2, x3, x4, some (encLs ls), some (.tup [.int (a' : Int), .int (b' : Int)]), x7, x8, x9], M) := by
  unfold v5
  by_cases q : d12 % 3 = 0
  · have l1 := fun M => encLs_len ls M
    have i0 : ∀ M, oIx (encLs ls) (.int 0) M = some (.val (encL (ls.getD 0 []))) := fun M => encLs_ix ls 0 (by omega) M
    have l2 := fun M => encL_len (ls.getD 0 []) M
    rw [hr] at l1
    rw [hc] at l2
    generalize ls.getD 0 [] = l0 at *
    obtain ⟨n, hn2⟩ : ∃ n : Nat, d13 % (r : Int) = (n : Int) := ⟨(d13 % (r : Int)).toNat, (Int.toNat_of_nonneg (Int.emod_nonneg _ (by omega))).symm⟩
    have hn3 : n < r := by have := Int.emod_lt_of_pos d13 (show (0 : Int) < r by omega); omega
    obtain ⟨m, hm2⟩ : ∃ n : Nat, d14 % (c : Int) = (n : Int) := ⟨(d14 % (c : Int)).toNat, (Int.toNat_of_nonneg (Int.emod_nonneg _ (by omega))).symm⟩
    have hm3 : m < c := by have := Int.emod_lt_of_pos d14 (show (0 : Int) < c by omega); omega
    have p1 : 0 < r := by omega
    have p2 : 0 < c := by omega
    exact ⟨n, m, hn3, hm3, fun M => by simp -implicitDefEqProofs [D12, D13, D14, q, l1, i0, l2, hn2, hm2, p1, p2]⟩
  · exact ⟨a, b, ha, hb, fun M => by simp -implicitDefEqProofs [D12, q]⟩
theorem v6_eq (t : List Int) (ht : t.length ≤ 40) (hg : ∀ g ∈ t, isGl g) (d12 : Int) (dl : D) (D12 : ∀ M, oIx dl (.int 12) M = some (.val (.int d12))) (x0 x2 x3 x4 x5 x6 x7 x9 : Option D) : ∃ t' : List Int, t'.length ≤ 40 ∧ (∀ g ∈ t', isGl g) ∧
    ∀ M, v6 [x0, some dl, x2, x3, x4, x5, x6, x7, some (.tup (t.map .int)), x9] M = some (.nx, [x0, some dl, x2, x3, x4, x5, x6, x7, some (.tup (t'.map .int)), x9], M) := by
  unfold v6
  by_cases q : d12 % 5 = 0
  · by_cases w : t.length < 40
    · have w2 : (t.length : Int) < 40 := by omega
      have A : ∀ M, oAdd (.tup (t.map .int)) (.tup [.int 65]) M = some (.val (.tup ((t ++ [65]).map .int))) := fun M => by
        rw [oAdd_tup, if_pos (by simp [sizeLine]; omega), List.map_append]; rfl
      refine ⟨t ++ [65], by simp; omega, fun g h => ?_, fun M => ?_⟩
      · rcases List.mem_append.mp h with z | z
        · exact hg g z
        · rw [List.mem_singleton.mp z]; exact .inl ⟨by decide, by decide⟩
      · generalize t ++ [65] = W at *
        simp -implicitDefEqProofs [-oAdd_tup, D12, q, w2, w, A]
    · have w2 : ¬ (t.length : Int) < 40 := by omega
      exact ⟨[], by simp, fun g h => (nomatch h), fun M => by simp -implicitDefEqProofs [D12, q, w2, w]⟩
  · exact ⟨t, ht, hg, fun M => by simp -implicitDefEqProofs [D12, q]⟩
theorem whole_lend (ts : List Tri) (hl : ts.length ≤ 2000) (M1 : Mem) (h : M1.all isLo = true) : cLend1 F__law_whole ([.loc M1.length], M1 ++ [.lst (ts.map encT)]) = some (.val (encL (whA none ts none)), M1 ++ [.lst (ts.map encT)]) := by
  have w := fun M => K01.whole_eq ts hl M
  rw [← e_whole] at w
  have le : [D.loc M1.length].map (lend (M1 ++ [O.lst (ts.map encT)])) = [.lst (ts.map encT)] := by
    unfold lend
    simp
  have n : nls 0 [D.lst (ts.map encT)] = true := by simp [nls_mp, nl_encT]
  have f : flatR (.val (encL (whA none ts none))) = true := by
    unfold flatR encL
    simp only [flat]
    have : ∀ cs : List Cell, flats (cs.map encC) = true := fun cs => by
      induction cs with
      | nil => rfl
      | cons c cs ih =>
        have i : ∀ l : List Int, flats (l.map D.int) = true := fun l => by
          induction l with
          | nil => rfl
          | cons a l ih2 => rw [List.map_cons, flats, ih2]; rfl
        rw [List.map_cons, flats, ih]
        unfold encC
        rw [flat, flats, flats, flat, i]; rfl
    exact this _
  have al : (M1 ++ [O.lst (ts.map encT)]).all isLo = true := by rw [List.all_append, h]; rfl
  unfold cLend1
  simp only
  rw [if_pos ⟨al, by rw [le]; exact n⟩, le, w]
  show (if _ ∧ _ then _ else _) = _
  exact if_pos ⟨rfl, f⟩
theorem v7_eq (ls : List (List Cell)) (hl : ls.length ≤ 12) (a : Nat) (ha : a < ls.length) (w : List Cell) (loc : D) (M : Mem) (hw : cLend1 F__law_whole ([loc], M) = some (.val (encL w), M)) (x0 x1 x4 x6 x7 x8 x9 : Option D) :
    v7 [x0, x1, some (.int (a : Int)), some loc, x4, some (encLs ls), x6, x7, x8, x9] M = some (.nx, [x0, x1, some (.int (a : Int)), some loc, x4, some (encLs (ls.take a ++ [w] ++ ls.drop (a + 1))), x6, x7, x8, x9], M) := by
  have s1 : ∀ M, oSl none (some (a : Int)) (encLs ls) M = some (.val (encLs (ls.take a))) := fun M => by
    unfold encLs; rw [oSl_tup, cutD_map, cutL_hi (by omega)]; rfl
  have s2 : ∀ M, oSl (some ((a : Int) + 1)) none (encLs ls) M = some (.val (encLs (ls.drop (a + 1)))) := fun M => by
    unfold encLs; rw [oSl_tup, cutD_map, cutL_lo (by omega)]
    have : ((a : Int) + 1).toNat = a + 1 := by omega
    rw [this]
  have A1 : ∀ M, oAdd (encLs (ls.take a)) (.tup [encL w]) M = some (.val (encLs (ls.take a ++ [w]))) := fun M => by
    unfold encLs; rw [oAdd_tup, if_pos (by simp [sizeLine]; omega), List.map_append]; rfl
  have A2 : ∀ M, oAdd (encLs (ls.take a ++ [w])) (encLs (ls.drop (a + 1))) M = some (.val (encLs (ls.take a ++ [w] ++ ls.drop (a + 1)))) := fun M => by
    unfold encLs; rw [oAdd_tup, if_pos (by simp [sizeLine]; omega), ← List.map_append]
  generalize ls.take a ++ [w] ++ ls.drop (a + 1) = W at *
  generalize ls.take a ++ [w] = W1 at *
  generalize ls.take a = W2 at *
  generalize ls.drop (a + 1) = W3 at *
  unfold v7
  simp -implicitDefEqProofs [s1, s2, A1, A2, hw]
end K21

namespace K21
open PySem PySem.Spec PyProof.Rows L2 CI
open K03 (Cell encC encL bl OkL OkSt encC_mk nl_encL nl_encC isGl kindN encLs Scr encS OkS rsz nl_encS Tri mkA isW whA)
open K01 (encT nl_encT)
theorem changed_eq (s : Scr) (r c : Nat) (h : OkS s r c) (ds : List Int) (hd : ds.length = 17) (hb : ∀ d ∈ ds, 0 ≤ d ∧ d < 1000) : ∃ s', OkS s' r c ∧ F__law_changed [encS s, .lst (ds.map .int)] [] = some (.val (encS s'), []) := by
  have DS := fun (j : Nat) (hj : j < 17) M => ints_ix ds j (by omega) M
  have D0 : ∀ M, oIx (.lst (ds.map .int)) (.int 0) M = some (.val (.int (ds.getD 0 0))) := DS 0 (by omega)
  have D1 : ∀ M, oIx (.lst (ds.map .int)) (.int 1) M = some (.val (.int (ds.getD 1 0))) := DS 1 (by omega)
  have D10 : ∀ M, oIx (.lst (ds.map .int)) (.int 10) M = some (.val (.int (ds.getD 10 0))) := DS 10 (by omega)
  have D11 : ∀ M, oIx (.lst (ds.map .int)) (.int 11) M = some (.val (.int (ds.getD 11 0))) := DS 11 (by omega)
  have D12 : ∀ M, oIx (.lst (ds.map .int)) (.int 12) M = some (.val (.int (ds.getD 12 0))) := DS 12 (by omega)
  have D13 : ∀ M, oIx (.lst (ds.map .int)) (.int 13) M = some (.val (.int (ds.getD 13 0))) := DS 13 (by omega)
  have D14 : ∀ M, oIx (.lst (ds.map .int)) (.int 14) M = some (.val (.int (ds.getD 14 0))) := DS 14 (by omega)
  have D15 : ∀ M, oIx (.lst (ds.map .int)) (.int 15) M = some (.val (.int (ds.getD 15 0))) := DS 15 (by omega)
  clear DS
  generalize ds.getD 0 0 = d0 at *
  generalize ds.getD 1 0 = d1 at *
  generalize ds.getD 10 0 = d10 at *
  generalize ds.getD 11 0 = d11 at *
  generalize ds.getD 12 0 = d12 at *
  generalize ds.getD 13 0 = d13 at *
  generalize ds.getD 14 0 = d14 at *
  generalize ds.getD 15 0 = d15 at *
  have hr1 := h.r1
  have hr2 := h.r2
  have hc1 := h.c1
  have hc2 := h.c2
  have hrow := h.rows
  obtain ⟨a, ha⟩ : ∃ a : Nat, d0 % (r : Int) = (a : Int) := ⟨(d0 % (r : Int)).toNat, (Int.toNat_of_nonneg (Int.emod_nonneg _ (by omega))).symm⟩
  have ha2 : a < r := by have := Int.emod_lt_of_pos d0 (show (0 : Int) < r by omega); omega
  have hl := h.ln _ (getD_mem (ls := s.lines) (k := a) (by omega))
  have I5 : ∀ M, oIx (encLs s.lines) (.int (a : Int)) M = some (.val (encL (s.lines.getD a []))) := fun M => encLs_ix s.lines a (by omega) M
  have mk := fun M => K01.marked_eq (s.lines.getD a []) (by omega) M
  rw [← e_marked] at mk
  have gt0 := gt_mk hl.1 0 none
  have len0 := K03.mkA_len (s.lines.getD a []) 0
  obtain ⟨n, hn⟩ : ∃ n : Nat, d1 % 4 = (n : Int) := ⟨(d1 % 4).toNat, by omega⟩
  have hrg : rgB (n : Int) = true := rgB_nat (by omega)
  have ES : encS s = .tup [encLs s.lines, .tup [.int s.row, .int s.col], .bl s.vis, .tup (s.title.map .int)] := rfl
  obtain ⟨ρ1, M1, e1, ts, g1, g2, rfl, rfl⟩ := loop_rg (step := stpK kC none (rgD 0 n) (gNm 4) L__law_changed_1) (lo := 0) (n := n) (ρ := [none, some (.lst (ds.map .int)), some (.int (a : Int)), some (.loc 0), none, some (encLs s.lines), some (.tup [.int s.row, .int s.col]), some (.bl s.vis), some (.tup (s.title.map .int)), none]) (M := [.lst ((mkA 0 (s.lines.getD a [])).map encT)])
    (fun i ρ M' => ∃ ts : List Tri, Gt none ts ∧ ts.length = c ∧ ρ = [none, some (.lst (ds.map .int)), some (.int (a : Int)), some (.loc 0), none, some (encLs s.lines), some (.tup [.int s.row, .int s.col]), some (.bl s.vis), some (.tup (s.title.map .int)), none] ∧ M' = [.lst (ts.map encT)])
    ⟨_, gt0, by omega, rfl, rfl⟩ (by
      rintro i ρ M' hi ⟨ts, g1, g2, rfl, rfl⟩
      obtain ⟨ts', k1, k2, e⟩ := ch_step ds hd hb ts g1 (by omega) (by omega) i (by omega) (.int (a : Int)) (encLs s.lines) (.tup [.int s.row, .int s.col]) (.bl s.vis) (.tup (s.title.map .int)) (fun n => by simp) (fun n => nl_encLs _) (fun n => by simp) (fun n => by simp) (fun n => by simp) []
      rw [stpK_ds (ds' := [])]
      exact ⟨.nx, _, _, e, .inl rfl, ts', k1, by omega, rfl, rfl⟩)
  obtain ⟨ts2, G, k1, k2, kG, e4⟩ := v4_eq (s.lines.getD a []) ts g1 (by omega) (by omega) (by omega) d10 d11 _ D10 D11 (encLs s.lines) (a : Int) I5 none none (some (.tup [.int s.row, .int s.col])) (some (.bl s.vis)) (some (.tup (s.title.map .int))) none []
  obtain ⟨a', b', q1, q2, e5⟩ := v5_eq s.lines r c hrow hr1 hc1 (okS_w h) s.row s.col h.row h.col d12 d13 d14 _ D12 D13 D14 none (some (.int (a : Int))) (some (.loc G.length)) none (some (.bl s.vis)) (some (.tup (s.title.map .int))) none
  obtain ⟨t', u1, u2, e6⟩ := v6_eq s.title h.tl h.tg d12 _ D12 none (some (.int (a : Int))) (some (.loc G.length)) none (some (encLs s.lines)) (some (.tup [.int (a' : Int), .int (b' : Int)])) (some (.bl s.vis)) none
  have e7 := v7_eq s.lines (by omega) a (by omega) (whA none ts2 none) (.loc G.length) (G ++ [.lst (ts2.map encT)]) (whole_lend ts2 (by omega) G kG) none (some (.lst (ds.map .int))) none (some (.tup [.int (a' : Int), .int (b' : Int)])) (some (.bl s.vis)) (some (.tup (t'.map .int))) none
  have wl := whA_len ts2 none none
  have wv := whA_valid ts2.length ts2 none (Nat.le_refl _) k1 (fun x y _ e => by cases e)
  have ln2 : ∀ l ∈ s.lines.take a ++ [whA none ts2 none] ++ s.lines.drop (a + 1), OkL l ∧ l.length = c := fun l hl2 => by
    rcases List.mem_append.mp hl2 with z | z
    · rcases List.mem_append.mp z with z | z
      · exact h.ln l (List.mem_of_mem_take z)
      · rw [List.mem_singleton.mp z]; exact ⟨wv, by omega⟩
    · exact h.ln l (List.mem_of_mem_drop z)
  have rl2 : (s.lines.take a ++ [whA none ts2 none] ++ s.lines.drop (a + 1)).length = r := by
    rw [List.length_append, List.length_append, List.length_take, List.length_drop, List.length_singleton]; omega
  have L1 := fun M => encLs_len s.lines M
  rw [hrow] at L1
  have r0 : 0 < r := by omega
  generalize s.lines.take a ++ [whA none ts2 none] ++ s.lines.drop (a + 1) = ls2 at *
  refine ⟨⟨ls2, a', b', if 0 < d15 % 4 then s.vis else !s.vis, t'⟩, ⟨rl2, hr1, hr2, hc1, hc2, ln2, q1, q2, u1, u2⟩, ?_⟩
  have ES2 : ∀ v, encS ⟨ls2, a', b', v, t'⟩ = .tup [encLs ls2, .tup [.int a', .int b'], .bl v, .tup (t'.map .int)] := fun _ => rfl
  rw [ES2, ES]
  simp only [List.nil_append, List.length_nil] at e4
  generalize s.lines.getD a [] = l0 at *
  unfold F__law_changed
  rw [B_ch, mkFnK_eq]
  unfold v8
  by_cases z : 0 < d15 % 4
  · rw [if_pos z]
    simp -implicitDefEqProofs [-oIx_lst, D0, D1, D15, L1, r0, ha, I5, mk, hn, hrg, e1, e4, e5, e6, e7, z, nl_encLs]
  · rw [if_neg z]
    simp -implicitDefEqProofs [-oIx_lst, D0, D1, D15, L1, r0, ha, I5, mk, hn, hrg, e1, e4, e5, e6, e7, z, nl_encLs]
end K21

namespace K21
open PySem PySem.Spec PyProof.Rows L2 CI
open K03 (Cell encC encL bl OkL OkSt encC_mk nl_encL nl_encC isGl kindN encLs Scr encS OkS rsz nl_encS)
theorem body1 (s : Scr) (r c : Nat) (h : OkS s r c) (x : Int) : ∃ s' r' c', OkS s' r' c' ∧
    stpK [false, true, false, false, false] none [] (gNm 2) L_law_1 (.int x) [none, some (encS s), none, none, none] [] = some (.nx, [none, some (encS s'), none, none, none], []) := by
  obtain ⟨dl, db⟩ := K03.drw_ok x 17
  have hd : ∀ M, F__law_draws [.int x, .int 17] M = some (.new ((K03.drw x 17).map .int), M) := fun M => K03.draws_eq x 17 (by decide) M
  generalize K03.drw x 17 = ds at *
  have D16 : ∀ M, oIx (.lst (ds.map .int)) (.int 16) M = some (.val (.int (ds.getD 16 0))) := fun M => ints_ix ds 16 (by omega) M
  generalize ds.getD 16 0 = d16 at *
  have fin : ∀ (s' : Scr) (r' c' : Nat), OkS s' r' c' → (∀ M, F_difference [encS s, encS s'] M = some (.new ((diffT s s').map .int), M)) ∧ (∀ M, F__law_due [encS s, encS s'] M = some (.new ((diffT s s').map .int), M)) := fun s' r' c' h' =>
    ⟨fun M => difference_eq s s' r c r' c' h h' M, fun M => due_eq s s' r c r' c' h h' M⟩
  have n1 := fun (a : List Int) M => oNe_refl (M := M) (d := .lst (a.map .int)) (n := 2) (by decide) (by rw [plS_lst]; exact plS_ints)
  by_cases q : d16 % 3 = 0
  · obtain ⟨s', r', c', h', hs⟩ := K03.screen_ok x
    rw [← e_screen] at hs
    obtain ⟨f1, f2⟩ := fin s' r' c' h'
    generalize diffT s s' = T at *
    have n1 := fun M => n1 T M
    generalize T.map D.int = TD at *
    exact ⟨s', r', c', h', by simp -implicitDefEqProofs [-oIx_lst, L_law_1, hd, D16, q, hs, f1, f2, n1, nl_encS]⟩
  · obtain ⟨s', h', hs⟩ := changed_eq s r c h ds dl db
    obtain ⟨f1, f2⟩ := fin s' r c h'
    generalize diffT s s' = T at *
    have n1 := fun M => n1 T M
    generalize T.map D.int = TD at *
    exact ⟨s', r, c, h', by simp -implicitDefEqProofs [-oIx_lst, L_law_1, hd, D16, q, hs, f1, f2, n1, nl_encS]⟩
theorem law_true (ns : List Int) (hl : ns.length ≤ 63) : ∃ M, F_law [.scr ns] [] = some (.val (.bl true), M) := by
  obtain ⟨s, r, c, h, hs⟩ := K03.screen_ok (K03.cellN ns 0)
  rw [← e_screen] at hs
  have hc0 : ∀ M, F__law_cell [.scr ns, .int 0] M = some (.val (.int (K03.cellN ns 0)), M) := fun M => K03.cell_eq ns 0 M
  obtain ⟨ρ', M', e1, xs, hx, s', r', c', h', rfl, rfl⟩ := loop_inv (step := stpK [false, true, false, false, false] none ((cutL ns (some 1) none).map .int) (gNm 2) L_law_1)
    (fun dd ρ M => ∃ xs : List Int, dd = xs.map .int ∧ ∃ s r c, OkS s r c ∧ ρ = [none, some (encS s), none, none, none] ∧ M = []) (by
      rintro d dd ρ M ⟨xs, hx, s, r, c, h, rfl, rfl⟩
      cases xs with
      | nil => cases hx
      | cons x xs =>
        obtain ⟨rfl, rfl⟩ := List.cons.inj hx
        obtain ⟨s', r', c', h', e⟩ := body1 s r c h x
        rw [stpK_ds (ds' := [])]
        exact ⟨.nx, _, _, e, .inl rfl, xs, rfl, s', r', c', h', rfl, rfl⟩)
    ((cutL ns (some 1) none).map .int) [none, some (encS s), none, none, none] [] ⟨_, rfl, s, r, c, h, rfl, rfl⟩
  refine ⟨[], ?_⟩
  unfold F_law B_law
  rw [mkFnK_eq]
  simp -implicitDefEqProofs [hc0, hs, e1]
end K21

namespace K21
open PySem PySem.Spec PyProof.Rows L2 CI
def top (i : Nat) : Stmt := PySem.Challenge.pw_fardesk_k21_differences_by_the_letter.main.body.getD i (.Pass ⟨0, 0, 0, 0⟩)
abbrev s_codes : Stmt := top 1
def d_codes : He.DefD := ⟨("codes", none), "codes", "codes", defArgs s_codes, defBody s_codes, defScope s_codes, [], []⟩
abbrev s_digits : Stmt := top 2
def d_digits : He.DefD := ⟨("digits", none), "digits", "digits", defArgs s_digits, defBody s_digits, defScope s_digits, [], []⟩
abbrev s_style_text : Stmt := top 4
def d_style_text : He.DefD := ⟨("style_text", none), "style_text", "style_text", defArgs s_style_text, defBody s_style_text, defScope s_style_text, [], []⟩
abbrev s_blank_line : Stmt := top 7
def d_blank_line : He.DefD := ⟨("blank_line", none), "blank_line", "blank_line", defArgs s_blank_line, defBody s_blank_line, defScope s_blank_line, [], []⟩
abbrev s_cut_at : Stmt := top 8
def d_cut_at : He.DefD := ⟨("cut_at", none), "cut_at", "cut_at", defArgs s_cut_at, defBody s_cut_at, defScope s_cut_at, [], []⟩
abbrev s_fitted : Stmt := top 9
def d_fitted : He.DefD := ⟨("fitted", none), "fitted", "fitted", defArgs s_fitted, defBody s_fitted, defScope s_fitted, [], []⟩
abbrev s_fitted_lines : Stmt := top 11
def d_fitted_lines : He.DefD := ⟨("fitted_lines", none), "fitted_lines", "fitted_lines", defArgs s_fitted_lines, defBody s_fitted_lines, defScope s_fitted_lines, [], []⟩
abbrev s_resized : Stmt := top 12
def d_resized : He.DefD := ⟨("resized", none), "resized", "resized", defArgs s_resized, defBody s_resized, defScope s_resized, [], []⟩
abbrev s_sequence : Stmt := top 14
def d_sequence : He.DefD := ⟨("sequence", none), "sequence", "sequence", defArgs s_sequence, defBody s_sequence, defScope s_sequence, [], []⟩
abbrev s_style_sequence : Stmt := top 15
def d_style_sequence : He.DefD := ⟨("style_sequence", none), "style_sequence", "style_sequence", defArgs s_style_sequence, defBody s_style_sequence, defScope s_style_sequence, [], []⟩
abbrev s_differing_columns : Stmt := top 16
def d_differing_columns : He.DefD := ⟨("differing_columns", none), "differing_columns", "differing_columns", defArgs s_differing_columns, defBody s_differing_columns, defScope s_differing_columns, [], []⟩
abbrev s_end_of : Stmt := top 17
def d_end_of : He.DefD := ⟨("end_of", none), "end_of", "end_of", defArgs s_end_of, defBody s_end_of, defScope s_end_of, [], []⟩
abbrev s_line_difference : Stmt := top 18
def d_line_difference : He.DefD := ⟨("line_difference", none), "line_difference", "line_difference", defArgs s_line_difference, defBody s_line_difference, defScope s_line_difference, [], []⟩
abbrev s_lines_difference : Stmt := top 19
def d_lines_difference : He.DefD := ⟨("lines_difference", none), "lines_difference", "lines_difference", defArgs s_lines_difference, defBody s_lines_difference, defScope s_lines_difference, [], []⟩
abbrev s_difference : Stmt := top 20
def d_difference : He.DefD := ⟨("difference", none), "difference", "difference", defArgs s_difference, defBody s_difference, defScope s_difference, [], []⟩
abbrev s__law_cell : Stmt := top 22
def d__law_cell : He.DefD := ⟨("_law_cell", none), "_law_cell", "_law_cell", defArgs s__law_cell, defBody s__law_cell, defScope s__law_cell, [], []⟩
abbrev s__law_draws : Stmt := top 23
def d__law_draws : He.DefD := ⟨("_law_draws", none), "_law_draws", "_law_draws", defArgs s__law_draws, defBody s__law_draws, defScope s__law_draws, [], []⟩
abbrev s__law_size : Stmt := top 24
def d__law_size : He.DefD := ⟨("_law_size", none), "_law_size", "_law_size", defArgs s__law_size, defBody s__law_size, defScope s__law_size, [], []⟩
abbrev s__law_glyph : Stmt := top 25
def d__law_glyph : He.DefD := ⟨("_law_glyph", none), "_law_glyph", "_law_glyph", defArgs s__law_glyph, defBody s__law_glyph, defScope s__law_glyph, [], []⟩
abbrev s__law_style : Stmt := top 26
def d__law_style : He.DefD := ⟨("_law_style", none), "_law_style", "_law_style", defArgs s__law_style, defBody s__law_style, defScope s__law_style, [], []⟩
abbrev s__law_line : Stmt := top 27
def d__law_line : He.DefD := ⟨("_law_line", none), "_law_line", "_law_line", defArgs s__law_line, defBody s__law_line, defScope s__law_line, [], []⟩
abbrev s__law_screen : Stmt := top 28
def d__law_screen : He.DefD := ⟨("_law_screen", none), "_law_screen", "_law_screen", defArgs s__law_screen, defBody s__law_screen, defScope s__law_screen, [], []⟩
abbrev s__law_marked : Stmt := top 29
def d__law_marked : He.DefD := ⟨("_law_marked", none), "_law_marked", "_law_marked", defArgs s__law_marked, defBody s__law_marked, defScope s__law_marked, [], []⟩
abbrev s__law_whole : Stmt := top 30
def d__law_whole : He.DefD := ⟨("_law_whole", none), "_law_whole", "_law_whole", defArgs s__law_whole, defBody s__law_whole, defScope s__law_whole, [], []⟩
abbrev s__law_digits : Stmt := top 31
def d__law_digits : He.DefD := ⟨("_law_digits", none), "_law_digits", "_law_digits", defArgs s__law_digits, defBody s__law_digits, defScope s__law_digits, [], []⟩
abbrev s__law_joined : Stmt := top 32
def d__law_joined : He.DefD := ⟨("_law_joined", none), "_law_joined", "_law_joined", defArgs s__law_joined, defBody s__law_joined, defScope s__law_joined, [], []⟩
abbrev s__law_styled : Stmt := top 33
def d__law_styled : He.DefD := ⟨("_law_styled", none), "_law_styled", "_law_styled", defArgs s__law_styled, defBody s__law_styled, defScope s__law_styled, [], []⟩
abbrev s__law_line_text : Stmt := top 34
def d__law_line_text : He.DefD := ⟨("_law_line_text", none), "_law_line_text", "_law_line_text", defArgs s__law_line_text, defBody s__law_line_text, defScope s__law_line_text, [], []⟩
abbrev s__law_due : Stmt := top 35
def d__law_due : He.DefD := ⟨("_law_due", none), "_law_due", "_law_due", defArgs s__law_due, defBody s__law_due, defScope s__law_due, [], []⟩
abbrev s__law_changed : Stmt := top 36
def d__law_changed : He.DefD := ⟨("_law_changed", none), "_law_changed", "_law_changed", defArgs s__law_changed, defBody s__law_changed, defScope s__law_changed, [], []⟩
abbrev s_law : Stmt := top 37
def d_law : He.DefD := ⟨("law", none), "law", "law", defArgs s_law, defBody s_law, defScope s_law, [], []⟩
def fn : List He.DefD := [d_codes, d_digits, d_style_text, d_blank_line, d_cut_at, d_fitted, d_fitted_lines, d_resized, d_sequence, d_style_sequence, d_differing_columns, d_end_of, d_line_difference, d_lines_difference, d_difference, d__law_cell, d__law_draws, d__law_size, d__law_glyph, d__law_style, d__law_line, d__law_screen, d__law_marked, d__law_whole, d__law_digits, d__law_joined, d__law_styled, d__law_line_text, d__law_due, d__law_changed, d_law]
def fa : List He.Fa := ([.glo "codes", .glo "digits", .glo "style_text", .glo "blank_line", .glo "cut_at", .glo "fitted", .glo "fitted_lines", .glo "resized", .glo "sequence", .glo "style_sequence", .glo "differing_columns", .glo "end_of", .glo "line_difference", .glo "lines_difference", .glo "difference", .glo "_law_cell", .glo "_law_draws", .glo "_law_size", .glo "_law_glyph", .glo "_law_style", .glo "_law_line", .glo "_law_screen", .glo "_law_marked", .glo "_law_whole", .glo "_law_digits", .glo "_law_joined", .glo "_law_styled", .glo "_law_line_text", .glo "_law_due", .glo "_law_changed"] : List He.Fa) ++ ([.glo "law", .free "len", .free "int", .free "tuple", .free "list", .free "min", .free "str", .free "ord", .free "range", .free "enumerate"] : List He.Fa)
def cs : Cst := [("BLANK", (.tup [(.int (32)), (.tup [])]))]
theorem sc__law_draws : FnScope ["_law_cell_here", "_law_many", "_law_rows", "_law_rest", "_law_state", "_law_k"] ["_law_cell_here", "_law_many"] (defScope s__law_draws) := ⟨rfl, rfl, rfl, by decide +kernel, rfl, by decide +kernel, by decide +kernel⟩
theorem ok__law_draws {P : Program} {w : World} {K : PySem.W.Frag} {h : Heap} {mg : Str → Option Value} {base : Heap} (KX : K.In h) (G : h.Ns mainGlobals mg) (c : SaysC fa fn cs K) {fd : FuncData} (FD : FunD K "_law_draws" "_law_draws" (defArgs s__law_draws) (defBody s__law_draws) (defScope s__law_draws) [] [] (He.fAd K ("_law_draws", none)) fd) : FnOk P w K mg base CX0 1 (He.fAd K ("_law_draws", none)) fd ["_law_cell_here", "_law_many"] (spF K F__law_draws) := by
  unfold F__law_draws
  exact fnK_ok FD sc__law_draws fun cdv A outer s H E hr => by
    unfold B__law_draws
    unfold L__law_draws_2 L__law_draws_1
    exact (cb_cons (cs_setM (ps_set (i := 2) sc__law_draws.nd rfl (by first | exact Or.inl rfl | exact Or.inr rfl) (ce_lst ca_nil)))
    (cb_cons (cs_set (ps_set (i := 3) sc__law_draws.nd rfl (by first | exact Or.inl rfl | exact Or.inr rfl) (ce_callTy ok_int (by rfl) (He.free_ok KX G (c.fact 32 rfl)) (by decide +kernel) (ca_cons (ce_var (pv 0)) ca_nil))))
    (cb_cons (cs_if (ct_cmp ok_ge (ce_var (pv 3)) (ce_bin ok_pow ce_int ce_int) (nomark _))
    (cb_one (cs_forK PassesOwn.never rfl (ci_rg1 (by rfl) (He.free_ok KX G (c.fact 38 rfl)) (ce_var (pv 1))) (cg_of (pg_name (i := 5) sc__law_draws.nd rfl (by first | exact Or.inl rfl | exact Or.inr rfl)))
    (cb_one (cs_if (ct_cmp ok_gt (ce_var (pv 3)) ce_int (nomark _))
    (cb_cons (cs_expr (ce_bm PySem.F.plainAttrs_list PySem.F.slot_list_append PySem.F.type_list_append ok_append (ce_var (pv 2)) (ca_cons (ce_bin ok_mod (ce_callTy ok_int (by rfl) (He.free_ok KX G (c.fact 32 rfl)) (by decide +kernel) (ca_cons (ce_var (pv 3)) ca_nil)) ce_int) ca_nil)))
    (cb_one (cs_set (ps_set (i := 3) sc__law_draws.nd rfl (by first | exact Or.inl rfl | exact Or.inr rfl) (ce_bin ok_div (ce_var (pv 3)) ce_int)))))
    cb_nil))))
    cb_nil)
    (cb_cons (cs_set (ps_set (i := 4) sc__law_draws.nd rfl (by first | exact Or.inl rfl | exact Or.inr rfl) (ce_bin ok_mod (ce_callTy ok_int (by rfl) (He.free_ok KX G (c.fact 32 rfl)) (by decide +kernel) (ca_cons (ce_bin ok_add (ce_bin ok_mulA (ce_callTy ok_int (by rfl) (He.free_ok KX G (c.fact 32 rfl)) (by decide +kernel) (ca_cons (ce_var (pv 0)) ca_nil)) ce_int) ce_int) ca_nil)) ce_int)))
    (cb_cons (cs_forK PassesOwn.never rfl (ci_rg1 (by rfl) (He.free_ok KX G (c.fact 38 rfl)) (ce_var (pv 1))) (cg_of (pg_name (i := 5) sc__law_draws.nd rfl (by first | exact Or.inl rfl | exact Or.inr rfl)))
    (cb_cons (cs_set (ps_set (i := 4) sc__law_draws.nd rfl (by first | exact Or.inl rfl | exact Or.inr rfl) (ce_bin ok_mod (ce_callTy ok_int (by rfl) (He.free_ok KX G (c.fact 32 rfl)) (by decide +kernel) (ca_cons (ce_bin ok_add (ce_bin ok_add (ce_bin ok_mulA (ce_var (pv 4)) ce_int) (ce_bin ok_mulA (ce_var (pv 5)) ce_int)) ce_int) ca_nil)) ce_int)))
    (cb_one (cs_if (ct_cmp ok_lt (ce_callB ok_len (by rfl) (He.free_ok KX G (c.fact 31 rfl)) (by decide +kernel) (ca_cons (ce_var (pv 2)) ca_nil)) (ce_var (pv 1)) (nomark _))
    (cb_one (cs_expr (ce_bm PySem.F.plainAttrs_list PySem.F.slot_list_append PySem.F.type_list_append ok_append (ce_var (pv 2)) (ca_cons (ce_bin ok_mod (ce_callTy ok_int (by rfl) (He.free_ok KX G (c.fact 32 rfl)) (by decide +kernel) (ca_cons (ce_bin ok_mod (ce_callTy ok_int (by rfl) (He.free_ok KX G (c.fact 32 rfl)) (by decide +kernel) (ca_cons (ce_bin ok_add (ce_bin ok_mulA (ce_var (pv 4)) ce_int) ce_int) ca_nil)) ce_int) ca_nil)) ce_int) ca_nil))))
    cb_nil))))
    (cb_one (cs_ret (ce_var (pv 2)))))))))
theorem sc__law_size : FnScope ["_law_cell_here", "_law_draws_here", "_law_rows", "_law_columns"] ["_law_cell_here"] (defScope s__law_size) := ⟨rfl, rfl, rfl, by decide +kernel, rfl, by decide +kernel, by decide +kernel⟩
theorem ok__law_size {P : Program} {w : World} {K : PySem.W.Frag} {h : Heap} {mg : Str → Option Value} {base : Heap} (KX : K.In h) (G : h.Ns mainGlobals mg) (c : SaysC fa fn cs K) {fd : FuncData} (FD : FunD K "_law_size" "_law_size" (defArgs s__law_size) (defBody s__law_size) (defScope s__law_size) [] [] (He.fAd K ("_law_size", none)) fd) : FnOk P w K mg base CX0 2 (He.fAd K ("_law_size", none)) fd ["_law_cell_here"] (spF K F__law_size) := by
  obtain ⟨fd__law_draws, FD__law_draws⟩ := c.def_ 16 (d := d__law_draws) rfl
  have G__law_draws := ok__law_draws (P := P) (w := w) (base := base) KX G c FD__law_draws
  have b__law_draws : Binds K fd__law_draws ["_law_cell_here", "_law_many"] [] := FD__law_draws.bindsN fun _ _ _ _ _ _ us hl => match us, hl with | [_, _], _ => rfl
  have kp__law_draws := FD__law_draws.kp
  unfold F__law_size
  exact fnK_ok FD sc__law_size fun cdv A outer s H E hr => by
    unfold B__law_size
    exact (cb_cons (cs_set (ps_set (i := 1) sc__law_size.nd rfl (by first | exact Or.inl rfl | exact Or.inr rfl) (ce_call G__law_draws hr (by rfl) (He.glo_ok KX G (c.fact 16 rfl)) kp__law_draws b__law_draws (ca_cons (ce_var (pv 0)) (ca_cons ce_int ca_nil)))))
    (cb_cons (cs_set (ps_set (i := 2) sc__law_size.nd rfl (by first | exact Or.inl rfl | exact Or.inr rfl) (ce_bin ok_add ce_int (ce_bin ok_mod (ce_callTy ok_int (by rfl) (He.free_ok KX G (c.fact 32 rfl)) (by decide +kernel) (ca_cons (ce_ix (ce_var (pv 1)) ce_int (fun _ _ => rfl)) ca_nil)) ce_int))))
    (cb_cons (cs_set (ps_set (i := 3) sc__law_size.nd rfl (by first | exact Or.inl rfl | exact Or.inr rfl) (ce_bin ok_add ce_int (ce_bin ok_mod (ce_callTy ok_int (by rfl) (He.free_ok KX G (c.fact 32 rfl)) (by decide +kernel) (ca_cons (ce_ix (ce_var (pv 1)) ce_int (fun _ _ => rfl)) ca_nil)) ce_int))))
    (cb_cons (cs_if (ct_cmp (ok_eq hr.units) (ce_bin ok_mod (ce_callTy ok_int (by rfl) (He.free_ok KX G (c.fact 32 rfl)) (by decide +kernel) (ca_cons (ce_ix (ce_var (pv 1)) ce_int (fun _ _ => rfl)) ca_nil)) ce_int) ce_int (nomark _))
    (cb_one (cs_set (ps_set (i := 2) sc__law_size.nd rfl (by first | exact Or.inl rfl | exact Or.inr rfl) ce_int)))
    cb_nil)
    (cb_cons (cs_if (ct_cmp (ok_eq hr.units) (ce_bin ok_mod (ce_callTy ok_int (by rfl) (He.free_ok KX G (c.fact 32 rfl)) (by decide +kernel) (ca_cons (ce_ix (ce_var (pv 1)) ce_int (fun _ _ => rfl)) ca_nil)) ce_int) ce_int (nomark _))
    (cb_one (cs_set (ps_set (i := 3) sc__law_size.nd rfl (by first | exact Or.inl rfl | exact Or.inr rfl) ce_int)))
    cb_nil)
    (cb_one (cs_ret (ce_tup (ca_cons (ce_var (pv 2)) (ca_cons (ce_var (pv 3)) ca_nil))))))))))
theorem sc__law_glyph : FnScope ["_law_draw"] ["_law_draw"] (defScope s__law_glyph) := ⟨rfl, rfl, rfl, by decide +kernel, rfl, by decide +kernel, by decide +kernel⟩
theorem ok__law_glyph {P : Program} {w : World} {K : PySem.W.Frag} {h : Heap} {mg : Str → Option Value} {base : Heap} (KX : K.In h) (G : h.Ns mainGlobals mg) (c : SaysC fa fn cs K) {fd : FuncData} (FD : FunD K "_law_glyph" "_law_glyph" (defArgs s__law_glyph) (defBody s__law_glyph) (defScope s__law_glyph) [] [] (He.fAd K ("_law_glyph", none)) fd) : FnOk P w K mg base CX0 1 (He.fAd K ("_law_glyph", none)) fd ["_law_draw"] (spF K F__law_glyph) := by
  unfold F__law_glyph
  exact fnK_ok FD sc__law_glyph fun cdv A outer s H E hr => by
    unfold B__law_glyph
    exact (cb_cons (cs_if (ct_cmp (ok_eq hr.units) (ce_bin ok_mod (ce_callTy ok_int (by rfl) (He.free_ok KX G (c.fact 32 rfl)) (by decide +kernel) (ca_cons (ce_var (pv 0)) ca_nil)) ce_int) ce_int (nomark _))
    (cb_one (cs_ret ce_int))
    cb_nil)
    (cb_cons (cs_if (ct_cmp (ok_eq hr.units) (ce_bin ok_mod (ce_callTy ok_int (by rfl) (He.free_ok KX G (c.fact 32 rfl)) (by decide +kernel) (ca_cons (ce_var (pv 0)) ca_nil)) ce_int) ce_int (nomark _))
    (cb_one (cs_ret (ce_bin ok_add ce_int (ce_bin ok_mod (ce_bin ok_div (ce_callTy ok_int (by rfl) (He.free_ok KX G (c.fact 32 rfl)) (by decide +kernel) (ca_cons (ce_var (pv 0)) ca_nil)) ce_int) ce_int))))
    cb_nil)
    (cb_cons (cs_if (ct_cmp (ok_eq hr.units) (ce_bin ok_mod (ce_callTy ok_int (by rfl) (He.free_ok KX G (c.fact 32 rfl)) (by decide +kernel) (ca_cons (ce_var (pv 0)) ca_nil)) ce_int) ce_int (nomark _))
    (cb_one (cs_ret (ce_bin ok_add ce_int (ce_bin ok_mod (ce_bin ok_div (ce_callTy ok_int (by rfl) (He.free_ok KX G (c.fact 32 rfl)) (by decide +kernel) (ca_cons (ce_var (pv 0)) ca_nil)) ce_int) ce_int))))
    cb_nil)
    (cb_one (cs_ret (ce_bin ok_add ce_int (ce_bin ok_mod (ce_bin ok_div (ce_callTy ok_int (by rfl) (He.free_ok KX G (c.fact 32 rfl)) (by decide +kernel) (ca_cons (ce_var (pv 0)) ca_nil)) ce_int) ce_int)))))))
theorem sc__law_style : FnScope ["_law_draw", "_law_numbers", "_law_number", "_law_unit"] ["_law_draw"] (defScope s__law_style) := ⟨rfl, rfl, rfl, by decide +kernel, rfl, by decide +kernel, by decide +kernel⟩
theorem ok__law_style {P : Program} {w : World} {K : PySem.W.Frag} {h : Heap} {mg : Str → Option Value} {base : Heap} (KX : K.In h) (G : h.Ns mainGlobals mg) (c : SaysC fa fn cs K) {fd : FuncData} (FD : FunD K "_law_style" "_law_style" (defArgs s__law_style) (defBody s__law_style) (defScope s__law_style) [] [] (He.fAd K ("_law_style", none)) fd) : FnOk P w K mg base CX0 1 (He.fAd K ("_law_style", none)) fd ["_law_draw"] (spF K F__law_style) := by
  unfold F__law_style
  exact fnK_ok FD sc__law_style fun cdv A outer s H E hr => by
    unfold B__law_style
    unfold L__law_style_1
    exact (cb_cons (cs_setM (ps_set (i := 1) sc__law_style.nd rfl (by first | exact Or.inl rfl | exact Or.inr rfl) (ce_lst ca_nil)))
    (cb_cons (cs_if (ct_cmp ok_gt (ce_bin ok_mod (ce_callTy ok_int (by rfl) (He.free_ok KX G (c.fact 32 rfl)) (by decide +kernel) (ca_cons (ce_var (pv 0)) ca_nil)) ce_int) ce_int (nomark _))
    (cb_cons (cs_forK PassesOwn.never rfl (ci_seq (ce_tup (ca_cons (ce_tup (ca_cons ce_int (ca_cons ce_int ca_nil))) (ca_cons (ce_tup (ca_cons ce_int (ca_cons ce_int ca_nil))) (ca_cons (ce_tup (ca_cons ce_int (ca_cons ce_int ca_nil))) ca_nil))))) (cg_tup rfl (cgs_cons (cg_of (pg_name (i := 2) sc__law_style.nd rfl (by first | exact Or.inl rfl | exact Or.inr rfl))) (cgs_cons (cg_of (pg_name (i := 3) sc__law_style.nd rfl (by first | exact Or.inl rfl | exact Or.inr rfl))) cgs_nil)))
    (cb_one (cs_if (ct_cmp (ok_eq hr.units) (ce_bin ok_mod (ce_bin ok_div (ce_callTy ok_int (by rfl) (He.free_ok KX G (c.fact 32 rfl)) (by decide +kernel) (ca_cons (ce_var (pv 0)) ca_nil)) (ce_var (pv 3))) ce_int) ce_int (nomark _))
    (cb_one (cs_expr (ce_bm PySem.F.plainAttrs_list PySem.F.slot_list_append PySem.F.type_list_append ok_append (ce_var (pv 1)) (ca_cons (ce_var (pv 2)) ca_nil))))
    cb_nil)))
    (cb_cons (cs_if (ct_cmp ok_gt (ce_bin ok_mod (ce_bin ok_div (ce_callTy ok_int (by rfl) (He.free_ok KX G (c.fact 32 rfl)) (by decide +kernel) (ca_cons (ce_var (pv 0)) ca_nil)) ce_int) ce_int) ce_int (nomark _))
    (cb_one (cs_expr (ce_bm PySem.F.plainAttrs_list PySem.F.slot_list_append PySem.F.type_list_append ok_append (ce_var (pv 1)) (ca_cons (ce_bin ok_add ce_int (ce_bin ok_mod (ce_bin ok_div (ce_callTy ok_int (by rfl) (He.free_ok KX G (c.fact 32 rfl)) (by decide +kernel) (ca_cons (ce_var (pv 0)) ca_nil)) ce_int) ce_int)) ca_nil))))
    cb_nil)
    (cb_one (cs_if (ct_cmp (ok_eq hr.units) (ce_bin ok_mod (ce_bin ok_div (ce_callTy ok_int (by rfl) (He.free_ok KX G (c.fact 32 rfl)) (by decide +kernel) (ca_cons (ce_var (pv 0)) ca_nil)) ce_int) ce_int) ce_int (nomark _))
    (cb_one (cs_expr (ce_bm PySem.F.plainAttrs_list PySem.F.slot_list_append PySem.F.type_list_append ok_append (ce_var (pv 1)) (ca_cons (ce_bin ok_add ce_int (ce_bin ok_mod (ce_bin ok_div (ce_callTy ok_int (by rfl) (He.free_ok KX G (c.fact 32 rfl)) (by decide +kernel) (ca_cons (ce_var (pv 0)) ca_nil)) ce_int) ce_int)) ca_nil))))
    cb_nil))))
    cb_nil)
    (cb_one (cs_ret (ce_callTy ok_tuple (by rfl) (He.free_ok KX G (c.fact 33 rfl)) (by decide +kernel) (ca_cons (ce_var (pv 1)) ca_nil))))))
theorem sc__law_line : FnScope ["_law_draws_here", "_law_columns", "_law_cells", "_law_k", "_law_glyph_here", "_law_style_here"] ["_law_draws_here", "_law_columns"] (defScope s__law_line) := ⟨rfl, rfl, rfl, by decide +kernel, rfl, by decide +kernel, by decide +kernel⟩
theorem ok__law_line {P : Program} {w : World} {K : PySem.W.Frag} {h : Heap} {mg : Str → Option Value} {base : Heap} (KX : K.In h) (G : h.Ns mainGlobals mg) (c : SaysC fa fn cs K) {fd : FuncData} (FD : FunD K "_law_line" "_law_line" (defArgs s__law_line) (defBody s__law_line) (defScope s__law_line) [] [] (He.fAd K ("_law_line", none)) fd) : FnOk P w K mg base CX0 2 (He.fAd K ("_law_line", none)) fd ["_law_draws_here", "_law_columns"] (spF K F__law_line) := by
  obtain ⟨fd__law_glyph, FD__law_glyph⟩ := c.def_ 18 (d := d__law_glyph) rfl
  have G__law_glyph := ok__law_glyph (P := P) (w := w) (base := base) KX G c FD__law_glyph
  have b__law_glyph : Binds K fd__law_glyph ["_law_draw"] [] := FD__law_glyph.bindsN fun _ _ _ _ _ _ us hl => match us, hl with | [_], _ => rfl
  have kp__law_glyph := FD__law_glyph.kp
  obtain ⟨fd__law_style, FD__law_style⟩ := c.def_ 19 (d := d__law_style) rfl
  have G__law_style := ok__law_style (P := P) (w := w) (base := base) KX G c FD__law_style
  have b__law_style : Binds K fd__law_style ["_law_draw"] [] := FD__law_style.bindsN fun _ _ _ _ _ _ us hl => match us, hl with | [_], _ => rfl
  have kp__law_style := FD__law_style.kp
  unfold F__law_line
  exact fnK_ok FD sc__law_line fun cdv A outer s H E hr => by
    unfold B__law_line
    unfold L__law_line_1
    exact (cb_cons (cs_setM (ps_set (i := 2) sc__law_line.nd rfl (by first | exact Or.inl rfl | exact Or.inr rfl) (ce_lst ca_nil)))
    (cb_cons (cs_forK PassesOwn.never rfl (ci_rg1 (by rfl) (He.free_ok KX G (c.fact 38 rfl)) (ce_var (pv 1))) (cg_of (pg_name (i := 3) sc__law_line.nd rfl (by first | exact Or.inl rfl | exact Or.inr rfl)))
    (cb_cons (cs_set (ps_set (i := 4) sc__law_line.nd rfl (by first | exact Or.inl rfl | exact Or.inr rfl) (ce_call G__law_glyph hr (by rfl) (He.glo_ok KX G (c.fact 18 rfl)) kp__law_glyph b__law_glyph (ca_cons (ce_ix (ce_var (pv 0)) (ce_bin ok_mulA ce_int (ce_var (pv 3))) (fun _ _ => rfl)) ca_nil))))
    (cb_cons (cs_set (ps_set (i := 5) sc__law_line.nd rfl (by first | exact Or.inl rfl | exact Or.inr rfl) (ce_call G__law_style hr (by rfl) (He.glo_ok KX G (c.fact 19 rfl)) kp__law_style b__law_style (ca_cons (ce_ix (ce_var (pv 0)) (ce_bin ok_add (ce_bin ok_mulA ce_int (ce_var (pv 3))) ce_int) (fun _ _ => rfl)) ca_nil))))
    (cb_one (cs_if (ct_w (cw_and (ct_cmp ok_lt (ce_callB ok_len (by rfl) (He.free_ok KX G (c.fact 31 rfl)) (by decide +kernel) (ca_cons (ce_var (pv 2)) ca_nil)) (ce_var (pv 1)) (nomark _)) (cw_and1 (ct_cmp ok_lt (ce_var (pv 4)) ce_int (nomark _)))))
    (cb_one (cs_expr (ce_bm PySem.F.plainAttrs_list PySem.F.slot_list_append PySem.F.type_list_append ok_append (ce_var (pv 2)) (ca_cons (ce_tup (ca_cons (ce_var (pv 4)) (ca_cons (ce_if (ct_w (cw_and (ct_cmp (ok_eq hr.units) (ce_var (pv 4)) ce_int (nomark _)) (cw_and1 (ct_cmp (ok_eq hr.units) (ce_bin ok_mod (ce_callTy ok_int (by rfl) (He.free_ok KX G (c.fact 32 rfl)) (by decide +kernel) (ca_cons (ce_ix (ce_var (pv 0)) (ce_bin ok_mulA ce_int (ce_var (pv 3))) (fun _ _ => rfl)) ca_nil)) ce_int) ce_int (nomark _))))) (ce_tup ca_nil) (ce_var (pv 5))) ca_nil))) ca_nil))))
    (cb_one (cs_if (ct_cmp ok_lt (ce_bin ok_add (ce_callB ok_len (by rfl) (He.free_ok KX G (c.fact 31 rfl)) (by decide +kernel) (ca_cons (ce_var (pv 2)) ca_nil)) ce_int) (ce_var (pv 1)) (nomark _))
    (cb_cons (cs_expr (ce_bm PySem.F.plainAttrs_list PySem.F.slot_list_append PySem.F.type_list_append ok_append (ce_var (pv 2)) (ca_cons (ce_tup (ca_cons (ce_var (pv 4)) (ca_cons (ce_var (pv 5)) ca_nil))) ca_nil)))
    (cb_one (cs_expr (ce_bm PySem.F.plainAttrs_list PySem.F.slot_list_append PySem.F.type_list_append ok_append (ce_var (pv 2)) (ca_cons (ce_tup (ca_cons ce_int (ca_cons (ce_var (pv 5)) ca_nil))) ca_nil)))))
    (cb_one (cs_if (ct_cmp ok_lt (ce_callB ok_len (by rfl) (He.free_ok KX G (c.fact 31 rfl)) (by decide +kernel) (ca_cons (ce_var (pv 2)) ca_nil)) (ce_var (pv 1)) (nomark _))
    (cb_one (cs_expr (ce_bm PySem.F.plainAttrs_list PySem.F.slot_list_append PySem.F.type_list_append ok_append (ce_var (pv 2)) (ca_cons (ce_tup (ca_cons ce_int (ca_cons (ce_tup ca_nil) ca_nil))) ca_nil))))
    cb_nil)))))))))
    (cb_one (cs_ret (ce_callTy ok_tuple (by rfl) (He.free_ok KX G (c.fact 33 rfl)) (by decide +kernel) (ca_cons (ce_var (pv 2)) ca_nil))))))
theorem sc__law_screen : FnScope ["_law_cell_here", "_law_draws_here", "_law_lines", "_law_row", "_law_title", "_law_cursor", "_law_rows", "_law_columns", "_law_k"] ["_law_cell_here"] (defScope s__law_screen) := ⟨rfl, rfl, rfl, by decide +kernel, rfl, by decide +kernel, by decide +kernel⟩
theorem ok__law_screen {P : Program} {w : World} {K : PySem.W.Frag} {h : Heap} {mg : Str → Option Value} {base : Heap} (KX : K.In h) (G : h.Ns mainGlobals mg) (c : SaysC fa fn cs K) {fd : FuncData} (FD : FunD K "_law_screen" "_law_screen" (defArgs s__law_screen) (defBody s__law_screen) (defScope s__law_screen) [] [] (He.fAd K ("_law_screen", none)) fd) : FnOk P w K mg base CX0 3 (He.fAd K ("_law_screen", none)) fd ["_law_cell_here"] (spF K F__law_screen) := by
  obtain ⟨fd__law_size, FD__law_size⟩ := c.def_ 17 (d := d__law_size) rfl
  have G__law_size := ok__law_size (P := P) (w := w) (base := base) KX G c FD__law_size
  have b__law_size : Binds K fd__law_size ["_law_cell_here"] [] := FD__law_size.bindsN fun _ _ _ _ _ _ us hl => match us, hl with | [_], _ => rfl
  have kp__law_size := FD__law_size.kp
  obtain ⟨fd__law_draws, FD__law_draws⟩ := c.def_ 16 (d := d__law_draws) rfl
  have G__law_draws := ok__law_draws (P := P) (w := w) (base := base) KX G c FD__law_draws
  have b__law_draws : Binds K fd__law_draws ["_law_cell_here", "_law_many"] [] := FD__law_draws.bindsN fun _ _ _ _ _ _ us hl => match us, hl with | [_, _], _ => rfl
  have kp__law_draws := FD__law_draws.kp
  obtain ⟨fd__law_line, FD__law_line⟩ := c.def_ 20 (d := d__law_line) rfl
  have G__law_line := ok__law_line (P := P) (w := w) (base := base) KX G c FD__law_line
  have b__law_line : Binds K fd__law_line ["_law_draws_here", "_law_columns"] [] := FD__law_line.bindsN fun _ _ _ _ _ _ us hl => match us, hl with | [_, _], _ => rfl
  have kp__law_line := FD__law_line.kp
  obtain ⟨fd__law_glyph, FD__law_glyph⟩ := c.def_ 18 (d := d__law_glyph) rfl
  have G__law_glyph := ok__law_glyph (P := P) (w := w) (base := base) KX G c FD__law_glyph
  have b__law_glyph : Binds K fd__law_glyph ["_law_draw"] [] := FD__law_glyph.bindsN fun _ _ _ _ _ _ us hl => match us, hl with | [_], _ => rfl
  have kp__law_glyph := FD__law_glyph.kp
  unfold F__law_screen
  exact fnK_ok FD sc__law_screen fun cdv A outer s H E hr => by
    unfold B__law_screen
    unfold Q__law_screen_1 L__law_screen_1
    exact (cb_cons (cs_asg (ps_asg (ce_call G__law_size hr (by rfl) (He.glo_ok KX G (c.fact 17 rfl)) kp__law_size b__law_size (ca_cons (ce_var (pv 0)) ca_nil)) (cg_tup rfl (cgs_cons (cg_of (pg_name (i := 6) sc__law_screen.nd rfl (by first | exact Or.inl rfl | exact Or.inr rfl))) (cgs_cons (cg_of (pg_name (i := 7) sc__law_screen.nd rfl (by first | exact Or.inl rfl | exact Or.inr rfl))) cgs_nil)))))
    (cb_cons (cs_set (ps_set (i := 1) sc__law_screen.nd rfl (by first | exact Or.inl rfl | exact Or.inr rfl) (ce_call G__law_draws (hr.mono (by decide)) (by rfl) (He.glo_ok KX G (c.fact 16 rfl)) kp__law_draws b__law_draws (ca_cons (ce_var (pv 0)) (ca_cons (ce_bin ok_add ce_int (ce_bin ok_mulA (ce_bin ok_mulA ce_int (ce_var (pv 6))) (ce_var (pv 7)))) ca_nil)))))
    (cb_cons (cs_setM (ps_set (i := 2) sc__law_screen.nd rfl (by first | exact Or.inl rfl | exact Or.inr rfl) (ce_lst ca_nil)))
    (cb_cons (cs_forK PassesOwn.never rfl (ci_rg1 (by rfl) (He.free_ok KX G (c.fact 38 rfl)) (ce_var (pv 6))) (cg_of (pg_name (i := 3) sc__law_screen.nd rfl (by first | exact Or.inl rfl | exact Or.inr rfl)))
    (cb_one (cs_expr (ce_bm PySem.F.plainAttrs_list PySem.F.slot_list_append PySem.F.type_list_append ok_append (ce_var (pv 2)) (ca_cons (ce_call G__law_line hr (by rfl) (He.glo_ok KX G (c.fact 20 rfl)) kp__law_line b__law_line (ca_cons (ce_sl (ce_var (pv 1)) (co_some (ce_bin ok_add ce_int (ce_bin ok_mulA (ce_bin ok_mulA ce_int (ce_var (pv 3))) (ce_var (pv 7))))) (co_some (ce_bin ok_add ce_int (ce_bin ok_mulA (ce_bin ok_mulA ce_int (ce_bin ok_add (ce_var (pv 3)) ce_int)) (ce_var (pv 7)))))) (ca_cons (ce_var (pv 7)) ca_nil))) ca_nil)))))
    (cb_cons (cs_set (ps_set (i := 4) sc__law_screen.nd rfl (by first | exact Or.inl rfl | exact Or.inr rfl) (ce_callTy ok_tuple (by rfl) (He.free_ok KX G (c.fact 33 rfl)) (by decide +kernel) (ca_cons (ce_lc (own := [("_law_k", 8)]) rfl sc__law_screen.nd (ci_rg1 (by rfl) (He.free_ok KX G (c.fact 38 rfl)) (ce_bin ok_mod (ce_callTy ok_int (by rfl) (He.free_ok KX G (c.fact 32 rfl)) (by decide +kernel) (ca_cons (ce_ix (ce_var (pv 1)) ce_int (fun _ _ => rfl)) ca_nil)) ce_int)) (blkOk_by (own := [("_law_k", 8)]) (N := ["_law_cell_here", "_law_draws_here", "_law_lines", "_law_row", "_law_title", "_law_cursor", "_law_rows", "_law_columns", "_law_k"]) (sc := defScope s__law_screen) (by decide +kernel)) (fun _ _ _ _ _ => (cgw_of (pg_name (i := 8) sc__law_screen.nd rfl (by first | exact Or.inl rfl | exact Or.inr rfl)) (by decide))) (fun _ _ _ _ _ => cts_nil) (fun _ _ _ _ _ => (ce_call G__law_glyph (hr.mono (by decide)) (by rfl) (He.glo_ok KX G (c.fact 18 rfl)) kp__law_glyph b__law_glyph (ca_cons (ce_ix (ce_var (pv 1)) (ce_bin ok_add ce_int (ce_var (pv 8))) (fun _ _ => rfl)) ca_nil)))) ca_nil))))
    (cb_cons (cs_if (ct_cmp (ok_eq hr.units) (ce_bin ok_mod (ce_callTy ok_int (by rfl) (He.free_ok KX G (c.fact 32 rfl)) (by decide +kernel) (ca_cons (ce_ix (ce_var (pv 1)) ce_int (fun _ _ => rfl)) ca_nil)) ce_int) ce_int (nomark _))
    (cb_one (cs_set (ps_set (i := 4) sc__law_screen.nd rfl (by first | exact Or.inl rfl | exact Or.inr rfl) (ce_bin ok_mulA (ce_var (pv 4)) ce_int))))
    cb_nil)
    (cb_cons (cs_set (ps_set (i := 5) sc__law_screen.nd rfl (by first | exact Or.inl rfl | exact Or.inr rfl) (ce_tup (ca_cons (ce_bin ok_mod (ce_callTy ok_int (by rfl) (He.free_ok KX G (c.fact 32 rfl)) (by decide +kernel) (ca_cons (ce_ix (ce_var (pv 1)) ce_int (fun _ _ => rfl)) ca_nil)) (ce_var (pv 6))) (ca_cons (ce_bin ok_mod (ce_bin ok_div (ce_callTy ok_int (by rfl) (He.free_ok KX G (c.fact 32 rfl)) (by decide +kernel) (ca_cons (ce_ix (ce_var (pv 1)) ce_int (fun _ _ => rfl)) ca_nil)) ce_int) (ce_var (pv 7))) ca_nil)))))
    (cb_one (cs_ret (ce_tup (ca_cons (ce_callTy ok_tuple (by rfl) (He.free_ok KX G (c.fact 33 rfl)) (by decide +kernel) (ca_cons (ce_var (pv 2)) ca_nil)) (ca_cons (ce_var (pv 5)) (ca_cons (ce_cmp (ok_eq hr.units) (ce_bin ok_mod (ce_bin ok_div (ce_callTy ok_int (by rfl) (He.free_ok KX G (c.fact 32 rfl)) (by decide +kernel) (ca_cons (ce_ix (ce_var (pv 1)) ce_int (fun _ _ => rfl)) ca_nil)) ce_int) ce_int) ce_int (nomark _)) (ca_cons (ce_sl (ce_var (pv 4)) co_none (co_some ce_int)) ca_nil))))))))))))))
theorem sc__law_cell : FnScope ["_law_script", "_law_k"] ["_law_script", "_law_k"] (defScope s__law_cell) := ⟨rfl, rfl, rfl, by decide +kernel, rfl, by decide +kernel, by decide +kernel⟩
theorem ok__law_cell {P : Program} {w : World} {K : PySem.W.Frag} {h : Heap} {mg : Str → Option Value} {base : Heap} (KX : K.In h) (G : h.Ns mainGlobals mg) (c : SaysC fa fn cs K) {fd : FuncData} (FD : FunD K "_law_cell" "_law_cell" (defArgs s__law_cell) (defBody s__law_cell) (defScope s__law_cell) [] [] (He.fAd K ("_law_cell", none)) fd) : FnOk P w K mg base CX0 1 (He.fAd K ("_law_cell", none)) fd ["_law_script", "_law_k"] (spF K F__law_cell) := by
  unfold F__law_cell
  exact fnK_ok FD sc__law_cell fun cdv A outer s H E hr => by
    unfold B__law_cell
    exact (cb_cons (cs_if (ct_cmp ok_lt (ce_var (pv 1)) (ce_callB ok_len (by rfl) (He.free_ok KX G (c.fact 31 rfl)) (by decide +kernel) (ca_cons (ce_var (pv 0)) ca_nil)) (nomark _))
    (cb_one (cs_ret (ce_callTy ok_int (by rfl) (He.free_ok KX G (c.fact 32 rfl)) (by decide +kernel) (ca_cons (ce_ix (ce_var (pv 0)) (ce_var (pv 1)) (fun _ _ => rfl)) ca_nil))))
    cb_nil)
    (cb_one (cs_ret ce_int)))
theorem sc__law_marked : FnScope ["_law_line_here", "_law_cells", "_law_k", "_law_cell_here", "_law_mark"] ["_law_line_here"] (defScope s__law_marked) := ⟨rfl, rfl, rfl, by decide +kernel, rfl, by decide +kernel, by decide +kernel⟩
theorem ok__law_marked {P : Program} {w : World} {K : PySem.W.Frag} {h : Heap} {mg : Str → Option Value} {base : Heap} (KX : K.In h) (G : h.Ns mainGlobals mg) (c : SaysC fa fn cs K) {fd : FuncData} (FD : FunD K "_law_marked" "_law_marked" (defArgs s__law_marked) (defBody s__law_marked) (defScope s__law_marked) [] [] (He.fAd K ("_law_marked", none)) fd) : FnOk P w K mg base CX0 1 (He.fAd K ("_law_marked", none)) fd ["_law_line_here"] (spF K F__law_marked) := by
  unfold F__law_marked
  exact fnK_ok FD sc__law_marked fun cdv A outer s H E hr => by
    unfold B__law_marked
    unfold L__law_marked_1
    exact (cb_cons (cs_setM (ps_set (i := 1) sc__law_marked.nd rfl (by first | exact Or.inl rfl | exact Or.inr rfl) (ce_lst ca_nil)))
    (cb_cons (cs_forK PassesOwn.never rfl (ci_enT (by rfl) (He.free_ok KX G (c.fact 39 rfl)) (ce_var (pv 0))) (cg_tup rfl (cgs_cons (cg_of (pg_name (i := 2) sc__law_marked.nd rfl (by first | exact Or.inl rfl | exact Or.inr rfl))) (cgs_cons (cg_of (pg_name (i := 3) sc__law_marked.nd rfl (by first | exact Or.inl rfl | exact Or.inr rfl))) cgs_nil)))
    (cb_cons (cs_set (ps_set (i := 4) sc__law_marked.nd rfl (by first | exact Or.inl rfl | exact Or.inr rfl) (ce_if (ct_cmp ok_ge (ce_ix (ce_var (pv 3)) ce_int (fun _ _ => rfl)) ce_int (nomark _)) (ce_bin ok_add (ce_var (pv 2)) ce_int) ce_int)))
    (cb_cons (cs_if (ct_cmp (ok_eq hr.units) (ce_ix (ce_var (pv 3)) ce_int (fun _ _ => rfl)) ce_int (nomark _))
    (cb_one (cs_set (ps_set (i := 4) sc__law_marked.nd rfl (by first | exact Or.inl rfl | exact Or.inr rfl) (ce_var (pv 2)))))
    cb_nil)
    (cb_one (cs_expr (ce_bm PySem.F.plainAttrs_list PySem.F.slot_list_append PySem.F.type_list_append ok_append (ce_var (pv 1)) (ca_cons (ce_tup (ca_cons (ce_ix (ce_var (pv 3)) ce_int (fun _ _ => rfl)) (ca_cons (ce_ix (ce_var (pv 3)) ce_int (fun _ _ => rfl)) (ca_cons (ce_var (pv 4)) ca_nil)))) ca_nil)))))))
    (cb_one (cs_ret (ce_var (pv 1))))))
theorem sc__law_whole : FnScope ["_law_cells", "_law_found", "_law_k", "_law_cell_here", "_law_whole_here"] ["_law_cells"] (defScope s__law_whole) := ⟨rfl, rfl, rfl, by decide +kernel, rfl, by decide +kernel, by decide +kernel⟩
theorem ok__law_whole {P : Program} {w : World} {K : PySem.W.Frag} {h : Heap} {mg : Str → Option Value} {base : Heap} (KX : K.In h) (G : h.Ns mainGlobals mg) (c : SaysC fa fn cs K) {fd : FuncData} (FD : FunD K "_law_whole" "_law_whole" (defArgs s__law_whole) (defBody s__law_whole) (defScope s__law_whole) [] [] (He.fAd K ("_law_whole", none)) fd) : FnOk P w K mg base CX0 1 (He.fAd K ("_law_whole", none)) fd ["_law_cells"] (spF K F__law_whole) := by
  unfold F__law_whole
  exact fnK_ok FD sc__law_whole fun cdv A outer s H E hr => by
    unfold B__law_whole
    unfold L__law_whole_1
    exact (cb_cons (cs_setM (ps_set (i := 1) sc__law_whole.nd rfl (by first | exact Or.inl rfl | exact Or.inr rfl) (ce_lst ca_nil)))
    (cb_cons (cs_forK PassesOwn.never rfl (ci_enT (by rfl) (He.free_ok KX G (c.fact 39 rfl)) (ce_var (pv 0))) (cg_tup rfl (cgs_cons (cg_of (pg_name (i := 2) sc__law_whole.nd rfl (by first | exact Or.inl rfl | exact Or.inr rfl))) (cgs_cons (cg_of (pg_name (i := 3) sc__law_whole.nd rfl (by first | exact Or.inl rfl | exact Or.inr rfl))) cgs_nil)))
    (cb_cons (cs_set (ps_set (i := 4) sc__law_whole.nd rfl (by first | exact Or.inl rfl | exact Or.inr rfl) (ce_cmp (ok_eq hr.units) (ce_ix (ce_var (pv 3)) ce_int (fun _ _ => rfl)) ce_int (nomark _))))
    (cb_cons (cs_if (ct_cmp ok_ge (ce_ix (ce_var (pv 3)) ce_int (fun _ _ => rfl)) ce_int (nomark _))
    (cb_one (cs_set (ps_set (i := 4) sc__law_whole.nd rfl (by first | exact Or.inl rfl | exact Or.inr rfl) (ce_and (ce_cmp ok_lt (ce_bin ok_add (ce_var (pv 2)) ce_int) (ce_callB ok_len (by rfl) (He.free_ok KX G (c.fact 31 rfl)) (by decide +kernel) (ca_cons (ce_var (pv 0)) ca_nil)) (nomark _)) (ce_one (ce_cmp (ok_eq hr.units) (ce_ix (ce_var (pv 0)) (ce_bin ok_add (ce_var (pv 2)) ce_int) (fun _ _ => rfl)) (ce_tup (ca_cons ce_int (ca_cons (ce_ix (ce_var (pv 3)) ce_int (fun _ _ => rfl)) (ca_cons (ce_ix (ce_var (pv 3)) ce_int (fun _ _ => rfl)) ca_nil)))) (nomark _)))))))
    cb_nil)
    (cb_cons (cs_if (ct_cmp (ok_eq hr.units) (ce_ix (ce_var (pv 3)) ce_int (fun _ _ => rfl)) ce_int (nomark _))
    (cb_one (cs_set (ps_set (i := 4) sc__law_whole.nd rfl (by first | exact Or.inl rfl | exact Or.inr rfl) (ce_and (ce_cmp ok_gt (ce_var (pv 2)) ce_int (nomark _)) (ce_and (ce_cmp ok_ge (ce_ix (ce_ix (ce_var (pv 0)) (ce_bin ok_sub (ce_var (pv 2)) ce_int) (fun _ _ => rfl)) ce_int (fun _ _ => rfl)) ce_int (nomark _)) (ce_one (ce_cmp (ok_eq hr.units) (ce_ix (ce_ix (ce_var (pv 0)) (ce_bin ok_sub (ce_var (pv 2)) ce_int) (fun _ _ => rfl)) ce_int (fun _ _ => rfl)) (ce_ix (ce_var (pv 3)) ce_int (fun _ _ => rfl)) (nomark _))))))))
    cb_nil)
    (cb_one (cs_expr (ce_bm PySem.F.plainAttrs_list PySem.F.slot_list_append PySem.F.type_list_append ok_append (ce_var (pv 1)) (ca_cons (ce_if (ct_truth (ce_var (pv 4)) (fun _ => rfl)) (ce_sl (ce_var (pv 3)) co_none (co_some ce_int)) (ce_tup (ca_cons ce_int (ca_cons (ce_tup ca_nil) ca_nil)))) ca_nil))))))))
    (cb_one (cs_ret (ce_callTy ok_tuple (by rfl) (He.free_ok KX G (c.fact 33 rfl)) (by decide +kernel) (ca_cons (ce_var (pv 1)) ca_nil))))))
theorem sc__law_changed : FnScope ["_law_screen_here", "_law_draws_here", "_law_row", "_law_cells", "_law_k", "_law_lines", "_law_cursor", "_law_visible", "_law_title", "_law_at"] ["_law_screen_here", "_law_draws_here"] (defScope s__law_changed) := ⟨rfl, rfl, rfl, by decide +kernel, rfl, by decide +kernel, by decide +kernel⟩
theorem ok__law_changed {P : Program} {w : World} {K : PySem.W.Frag} {h : Heap} {mg : Str → Option Value} {base : Heap} (KX : K.In h) (G : h.Ns mainGlobals mg) (c : SaysC fa fn cs K) {fd : FuncData} (FD : FunD K "_law_changed" "_law_changed" (defArgs s__law_changed) (defBody s__law_changed) (defScope s__law_changed) [] [] (He.fAd K ("_law_changed", none)) fd) : FnOk P w K mg base CX0 2 (He.fAd K ("_law_changed", none)) fd ["_law_screen_here", "_law_draws_here"] (spF K F__law_changed) := by
  obtain ⟨fd__law_marked, FD__law_marked⟩ := c.def_ 22 (d := d__law_marked) rfl
  have G__law_marked := ok__law_marked (P := P) (w := w) (base := base) KX G c FD__law_marked
  have b__law_marked : Binds K fd__law_marked ["_law_line_here"] [] := FD__law_marked.bindsN fun _ _ _ _ _ _ us hl => match us, hl with | [_], _ => rfl
  have kp__law_marked := FD__law_marked.kp
  obtain ⟨fd__law_style, FD__law_style⟩ := c.def_ 19 (d := d__law_style) rfl
  have G__law_style := ok__law_style (P := P) (w := w) (base := base) KX G c FD__law_style
  have b__law_style : Binds K fd__law_style ["_law_draw"] [] := FD__law_style.bindsN fun _ _ _ _ _ _ us hl => match us, hl with | [_], _ => rfl
  have kp__law_style := FD__law_style.kp
  obtain ⟨fd__law_whole, FD__law_whole⟩ := c.def_ 23 (d := d__law_whole) rfl
  have G__law_whole := ok__law_whole (P := P) (w := w) (base := base) KX G c FD__law_whole
  have b__law_whole : Binds K fd__law_whole ["_law_cells"] [] := FD__law_whole.bindsN fun _ _ _ _ _ _ us hl => match us, hl with | [_], _ => rfl
  have kp__law_whole := FD__law_whole.kp
  unfold F__law_changed
  exact fnK_ok FD sc__law_changed fun cdv A outer s H E hr => by
    unfold B__law_changed
    unfold L__law_changed_1
    exact (cb_cons (cs_asg (ps_asg (ce_var (pv 0)) (cg_tup rfl (cgs_cons (cg_of (pg_name (i := 5) sc__law_changed.nd rfl (by first | exact Or.inl rfl | exact Or.inr rfl))) (cgs_cons (cg_of (pg_name (i := 6) sc__law_changed.nd rfl (by first | exact Or.inl rfl | exact Or.inr rfl))) (cgs_cons (cg_of (pg_name (i := 7) sc__law_changed.nd rfl (by first | exact Or.inl rfl | exact Or.inr rfl))) (cgs_cons (cg_of (pg_name (i := 8) sc__law_changed.nd rfl (by first | exact Or.inl rfl | exact Or.inr rfl))) cgs_nil)))))))
    (cb_cons (cs_set (ps_set (i := 2) sc__law_changed.nd rfl (by first | exact Or.inl rfl | exact Or.inr rfl) (ce_bin ok_mod (ce_ix (ce_var (pv 1)) ce_int (fun _ _ => rfl)) (ce_callB ok_len (by rfl) (He.free_ok KX G (c.fact 31 rfl)) (by decide +kernel) (ca_cons (ce_var (pv 5)) ca_nil)))))
    (cb_cons (cs_setM (ps_set (i := 3) sc__law_changed.nd rfl (by first | exact Or.inl rfl | exact Or.inr rfl) (ce_call G__law_marked hr (by rfl) (He.glo_ok KX G (c.fact 22 rfl)) kp__law_marked b__law_marked (ca_cons (ce_ix (ce_var (pv 5)) (ce_var (pv 2)) (fun _ _ => rfl)) ca_nil))))
    (cb_cons (cs_forK PassesOwn.never rfl (ci_rg1 (by rfl) (He.free_ok KX G (c.fact 38 rfl)) (ce_bin ok_mod (ce_ix (ce_var (pv 1)) ce_int (fun _ _ => rfl)) ce_int)) (cg_of (pg_name (i := 4) sc__law_changed.nd rfl (by first | exact Or.inl rfl | exact Or.inr rfl)))
    (cb_cons (cs_set (ps_set (i := 9) sc__law_changed.nd rfl (by first | exact Or.inl rfl | exact Or.inr rfl) (ce_bin ok_mod (ce_ix (ce_var (pv 1)) (ce_bin ok_add ce_int (ce_bin ok_mulA ce_int (ce_var (pv 4)))) (fun _ _ => rfl)) (ce_callB ok_len (by rfl) (He.free_ok KX G (c.fact 31 rfl)) (by decide +kernel) (ca_cons (ce_var (pv 3)) ca_nil)))))
    (cb_one (cs_asg (ps_asg (ce_tup (ca_cons (ce_bin ok_add ce_int (ce_bin ok_mod (ce_ix (ce_var (pv 1)) (ce_bin ok_add ce_int (ce_bin ok_mulA ce_int (ce_var (pv 4)))) (fun _ _ => rfl)) ce_int)) (ca_cons (ce_call G__law_style hr (by rfl) (He.glo_ok KX G (c.fact 19 rfl)) kp__law_style b__law_style (ca_cons (ce_ix (ce_var (pv 1)) (ce_bin ok_add ce_int (ce_bin ok_mulA ce_int (ce_var (pv 4)))) (fun _ _ => rfl)) ca_nil)) (ca_cons ce_int ca_nil)))) (cg_ix (ce_var (pv 3)) (ce_var (pv 9))))))))
    (cb_cons (cs_if (ct_cmp (ok_eq hr.units) (ce_bin ok_mod (ce_ix (ce_var (pv 1)) ce_int (fun _ _ => rfl)) ce_int) ce_int (nomark _))
    (cb_cons (cs_setM (ps_set (i := 3) sc__law_changed.nd rfl (by first | exact Or.inl rfl | exact Or.inr rfl) (ce_sl (ce_var (pv 3)) co_none (co_some (ce_bin ok_mod (ce_ix (ce_var (pv 1)) ce_int (fun _ _ => rfl)) (ce_callB ok_len (by rfl) (He.free_ok KX G (c.fact 31 rfl)) (by decide +kernel) (ca_cons (ce_var (pv 3)) ca_nil)))))))
    (cb_one (cs_setM (ps_set (i := 3) sc__law_changed.nd rfl (by first | exact Or.inl rfl | exact Or.inr rfl) (ce_bin ok_add (ce_var (pv 3)) (ce_bin ok_mulA (ce_lst (ca_cons (ce_tup (ca_cons ce_int (ca_cons (ce_tup ca_nil) (ca_cons ce_int ca_nil)))) ca_nil)) (ce_bin ok_sub (ce_callB ok_len (by rfl) (He.free_ok KX G (c.fact 31 rfl)) (by decide +kernel) (ca_cons (ce_ix (ce_var (pv 5)) (ce_var (pv 2)) (fun _ _ => rfl)) ca_nil)) (ce_callB ok_len (by rfl) (He.free_ok KX G (c.fact 31 rfl)) (by decide +kernel) (ca_cons (ce_var (pv 3)) ca_nil)))))))))
    cb_nil)
    (cb_cons (cs_if (ct_cmp (ok_eq hr.units) (ce_bin ok_mod (ce_ix (ce_var (pv 1)) ce_int (fun _ _ => rfl)) ce_int) ce_int (nomark _))
    (cb_one (cs_set (ps_set (i := 6) sc__law_changed.nd rfl (by first | exact Or.inl rfl | exact Or.inr rfl) (ce_tup (ca_cons (ce_bin ok_mod (ce_ix (ce_var (pv 1)) ce_int (fun _ _ => rfl)) (ce_callB ok_len (by rfl) (He.free_ok KX G (c.fact 31 rfl)) (by decide +kernel) (ca_cons (ce_var (pv 5)) ca_nil))) (ca_cons (ce_bin ok_mod (ce_ix (ce_var (pv 1)) ce_int (fun _ _ => rfl)) (ce_callB ok_len (by rfl) (He.free_ok KX G (c.fact 31 rfl)) (by decide +kernel) (ca_cons (ce_ix (ce_var (pv 5)) ce_int (fun _ _ => rfl)) ca_nil))) ca_nil))))))
    cb_nil)
    (cb_cons (cs_if (ct_cmp (ok_eq hr.units) (ce_bin ok_mod (ce_ix (ce_var (pv 1)) ce_int (fun _ _ => rfl)) ce_int) ce_int (nomark _))
    (cb_one (cs_set (ps_set (i := 8) sc__law_changed.nd rfl (by first | exact Or.inl rfl | exact Or.inr rfl) (ce_if (ct_cmp ok_lt (ce_callB ok_len (by rfl) (He.free_ok KX G (c.fact 31 rfl)) (by decide +kernel) (ca_cons (ce_var (pv 8)) ca_nil)) ce_int (nomark _)) (ce_bin ok_add (ce_var (pv 8)) (ce_tup (ca_cons ce_int ca_nil))) (ce_tup ca_nil)))))
    cb_nil)
    (cb_cons (cs_set (ps_set (i := 5) sc__law_changed.nd rfl (by first | exact Or.inl rfl | exact Or.inr rfl) (ce_bin ok_add (ce_bin ok_add (ce_sl (ce_var (pv 5)) co_none (co_some (ce_var (pv 2)))) (ce_tup (ca_cons (ce_lend G__law_whole hr (by rfl) (He.glo_ok KX G (c.fact 23 rfl)) kp__law_whole b__law_whole (ca_cons (ce_var (pv 3)) ca_nil)) ca_nil))) (ce_sl (ce_var (pv 5)) (co_some (ce_bin ok_add (ce_var (pv 2)) ce_int)) co_none))))
    (cb_one (cs_ret (ce_tup (ca_cons (ce_var (pv 5)) (ca_cons (ce_var (pv 6)) (ca_cons (ce_if (ct_cmp ok_gt (ce_bin ok_mod (ce_ix (ce_var (pv 1)) ce_int (fun _ _ => rfl)) ce_int) ce_int (nomark _)) (ce_var (pv 7)) (ce_not (ce_var (pv 7)))) (ca_cons (ce_var (pv 8)) ca_nil)))))))))))))))
theorem sc_differing_columns : FnScope ["old", "new", "columns", "first", "last", "column"] ["old", "new"] (defScope s_differing_columns) := ⟨rfl, rfl, rfl, by decide +kernel, rfl, by decide +kernel, by decide +kernel⟩
theorem ok_differing_columns {P : Program} {w : World} {K : PySem.W.Frag} {h : Heap} {mg : Str → Option Value} {base : Heap} (KX : K.In h) (G : h.Ns mainGlobals mg) (c : SaysC fa fn cs K) {fd : FuncData} (FD : FunD K "differing_columns" "differing_columns" (defArgs s_differing_columns) (defBody s_differing_columns) (defScope s_differing_columns) [] [] (He.fAd K ("differing_columns", none)) fd) : FnOk P w K mg base CX0 1 (He.fAd K ("differing_columns", none)) fd ["old", "new"] (spF K F_differing_columns) := by
  unfold F_differing_columns
  exact fnK_ok FD sc_differing_columns fun cdv A outer s H E hr => by
    unfold B_differing_columns
    unfold Q_differing_columns_1
    exact (cb_cons (by first | exact cs_set (cs_setLc (own := [("column", 5)]) (i := 2) rfl sc_differing_columns.nd rfl rfl (sw_true rfl rfl rfl (by decide +kernel)) (ci_rg1 (by rfl) (He.free_ok KX G (c.fact 38 rfl)) (ce_callB ok_len (by rfl) (He.free_ok KX G (c.fact 31 rfl)) (by decide +kernel) (ca_cons (ce_var (pv 1)) ca_nil))) (blkOk_by (own := [("column", 5)]) (N := ["old", "new", "columns", "first", "last", "column"]) (sc := defScope s_differing_columns) (by decide +kernel)) (fun _ _ _ _ _ => (cgw_of (pg_name (i := 5) sc_differing_columns.nd rfl (by first | exact Or.inl rfl | exact Or.inr rfl)) (by decide))) (fun _ _ _ _ _ => (cts_one (ct_cmp (ok_ne hr.units) (ce_ix (ce_var (pv 0)) (ce_var (pv 5)) (fun _ _ => rfl)) (ce_ix (ce_var (pv 1)) (ce_var (pv 5)) (fun _ _ => rfl)) (nomark _)))) (fun _ _ _ _ _ => (ce_var (pv 5)))) | exact cs_set (ps_set (i := 2) sc_differing_columns.nd rfl (by first | exact Or.inl rfl | exact Or.inr rfl) (ce_lc (own := [("column", 5)]) rfl sc_differing_columns.nd (ci_rg1 (by rfl) (He.free_ok KX G (c.fact 38 rfl)) (ce_callB ok_len (by rfl) (He.free_ok KX G (c.fact 31 rfl)) (by decide +kernel) (ca_cons (ce_var (pv 1)) ca_nil))) (blkOk_by (own := [("column", 5)]) (N := ["old", "new", "columns", "first", "last", "column"]) (sc := defScope s_differing_columns) (by decide +kernel)) (fun _ _ _ _ _ => (cgw_of (pg_name (i := 5) sc_differing_columns.nd rfl (by first | exact Or.inl rfl | exact Or.inr rfl)) (by decide))) (fun _ _ _ _ _ => (cts_one (ct_cmp (ok_ne hr.units) (ce_ix (ce_var (pv 0)) (ce_var (pv 5)) (fun _ _ => rfl)) (ce_ix (ce_var (pv 1)) (ce_var (pv 5)) (fun _ _ => rfl)) (nomark _)))) (fun _ _ _ _ _ => (ce_var (pv 5))))))
    (cb_cons (cs_set (ps_set (i := 3) sc_differing_columns.nd rfl (by first | exact Or.inl rfl | exact Or.inr rfl) (ce_ix (ce_var (pv 2)) ce_int (fun _ _ => rfl))))
    (cb_cons (cs_set (ps_set (i := 4) sc_differing_columns.nd rfl (by first | exact Or.inl rfl | exact Or.inr rfl) (ce_ix (ce_var (pv 2)) (ce_neg ce_int) (fun _ _ => rfl))))
    (cb_cons (cs_if (ct_cmp (ok_eq hr.units) (ce_ix (ce_ix (ce_var (pv 1)) (ce_var (pv 3)) (fun _ _ => rfl)) ce_int (fun _ _ => rfl)) ce_int (nomark _))
    (cb_one (cs_set (ps_set (i := 3) sc_differing_columns.nd rfl (by first | exact Or.inl rfl | exact Or.inr rfl) (ce_bin ok_sub (ce_var (pv 3)) ce_int))))
    cb_nil)
    (cb_cons (cs_if (ct_w (cw_and (ct_cmp ok_lt (ce_bin ok_add (ce_var (pv 4)) ce_int) (ce_callB ok_len (by rfl) (He.free_ok KX G (c.fact 31 rfl)) (by decide +kernel) (ca_cons (ce_var (pv 1)) ca_nil)) (nomark _)) (cw_and1 (ct_cmp (ok_eq hr.units) (ce_ix (ce_ix (ce_var (pv 1)) (ce_bin ok_add (ce_var (pv 4)) ce_int) (fun _ _ => rfl)) ce_int (fun _ _ => rfl)) ce_int (nomark _)))))
    (cb_one (cs_set (ps_set (i := 4) sc_differing_columns.nd rfl (by first | exact Or.inl rfl | exact Or.inr rfl) (ce_bin ok_add (ce_var (pv 4)) ce_int))))
    cb_nil)
    (cb_one (cs_ret (ce_tup (ca_cons (ce_var (pv 3)) (ca_cons (ce_var (pv 4)) ca_nil))))))))))
theorem sc_end_of : FnScope ["line", "end"] ["line"] (defScope s_end_of) := ⟨rfl, rfl, rfl, by decide +kernel, rfl, by decide +kernel, by decide +kernel⟩
theorem ok_end_of {P : Program} {w : World} {K : PySem.W.Frag} {h : Heap} {mg : Str → Option Value} {base : Heap} (KX : K.In h) (G : h.Ns mainGlobals mg) (c : SaysC fa fn cs K) {fd : FuncData} (FD : FunD K "end_of" "end_of" (defArgs s_end_of) (defBody s_end_of) (defScope s_end_of) [] [] (He.fAd K ("end_of", none)) fd) : FnOk P w K mg base CX0 1 (He.fAd K ("end_of", none)) fd ["line"] (spF K F_end_of) := by
  obtain ⟨u_BLANK, v_BLANK, m_BLANK, r_BLANK, q_BLANK⟩ := cName_ok KX G (c.cst 0 rfl)
  unfold F_end_of
  exact fnK_ok FD sc_end_of fun cdv A outer s H E hr => by
    unfold B_end_of
    unfold T_end_of_1 L_end_of_1
    exact (cb_cons (cs_set (ps_set (i := 1) sc_end_of.nd rfl (by first | exact Or.inl rfl | exact Or.inr rfl) (ce_callB ok_len (by rfl) (He.free_ok KX G (c.fact 31 rfl)) (by decide +kernel) (ca_cons (ce_var (pv 0)) ca_nil))))
    (cb_cons (cs_whileK PassesOwn.never (ct_w (cw_and (ct_cmp ok_gt (ce_var (pv 1)) ce_int (nomark _)) (cw_and1 (ct_cmp (ok_eq hr.units) (ce_ix (ce_var (pv 0)) (ce_bin ok_sub (ce_var (pv 1)) ce_int) (fun _ _ => rfl)) (ce_val (pe_glob (by rfl) m_BLANK r_BLANK) q_BLANK) (nomark _)))))
    (cb_one (cs_set (ps_set (i := 1) sc_end_of.nd rfl (by first | exact Or.inl rfl | exact Or.inr rfl) (ce_bin ok_sub (ce_var (pv 1)) ce_int)))))
    (cb_one (cs_ret (ce_var (pv 1))))))
theorem sc_digits : FnScope ["number", "sign"] ["number"] (defScope s_digits) := ⟨rfl, rfl, rfl, by decide +kernel, rfl, by decide +kernel, by decide +kernel⟩
theorem ok_digits {P : Program} {w : World} {K : PySem.W.Frag} {h : Heap} {mg : Str → Option Value} {base : Heap} (KX : K.In h) (G : h.Ns mainGlobals mg) (c : SaysC fa fn cs K) {fd : FuncData} (FD : FunD K "digits" "digits" (defArgs s_digits) (defBody s_digits) (defScope s_digits) [] [] (He.fAd K ("digits", none)) fd) : FnOk P w K mg base CX0 1 (He.fAd K ("digits", none)) fd ["number"] (spF K F_digits) := by
  unfold F_digits
  exact fnK_ok FD sc_digits fun cdv A outer s H E hr => by
    unfold B_digits
    unfold Q_digits_1
    exact (cb_one (cs_ret (ce_lc (own := [("sign", 1)]) rfl sc_digits.nd (ci_st (ce_callTy ok_str (by rfl) (He.free_ok KX G (c.fact 36 rfl)) (by decide +kernel) (ca_cons (ce_var (pv 0)) ca_nil))) (blkOk_by (own := [("sign", 1)]) (N := ["number", "sign"]) (sc := defScope s_digits) (by decide +kernel)) (fun _ _ _ _ _ => (cgw_of (pg_name (i := 1) sc_digits.nd rfl (by first | exact Or.inl rfl | exact Or.inr rfl)) (by decide))) (fun _ _ _ _ _ => cts_nil) (fun _ _ _ _ _ => (ce_callB ok_ord (by rfl) (He.free_ok KX G (c.fact 37 rfl)) (by decide +kernel) (ca_cons (ce_var (pv 1)) ca_nil))))))
theorem sc_sequence : FnScope ["numbers", "final", "text", "at", "number"] ["numbers", "final"] (defScope s_sequence) := ⟨rfl, rfl, rfl, by decide +kernel, rfl, by decide +kernel, by decide +kernel⟩
theorem ok_sequence {P : Program} {w : World} {K : PySem.W.Frag} {h : Heap} {mg : Str → Option Value} {base : Heap} (KX : K.In h) (G : h.Ns mainGlobals mg) (c : SaysC fa fn cs K) {fd : FuncData} (FD : FunD K "sequence" "sequence" (defArgs s_sequence) (defBody s_sequence) (defScope s_sequence) [] [] (He.fAd K ("sequence", none)) fd) : FnOk P w K mg base CX0 2 (He.fAd K ("sequence", none)) fd ["numbers", "final"] (spF K F_sequence) := by
  obtain ⟨fd_digits, FD_digits⟩ := c.def_ 1 (d := d_digits) rfl
  have G_digits := ok_digits (P := P) (w := w) (base := base) KX G c FD_digits
  have b_digits : Binds K fd_digits ["number"] [] := FD_digits.bindsN fun _ _ _ _ _ _ us hl => match us, hl with | [_], _ => rfl
  have kp_digits := FD_digits.kp
  unfold F_sequence
  exact fnK_ok FD sc_sequence fun cdv A outer s H E hr => by
    unfold B_sequence
    unfold L_sequence_1
    exact (cb_cons (cs_setM (ps_set (i := 2) sc_sequence.nd rfl (by first | exact Or.inl rfl | exact Or.inr rfl) (ce_lst (ca_cons ce_int (ca_cons ce_int ca_nil)))))
    (cb_cons (cs_forK PassesOwn.never rfl (ci_enT (by rfl) (He.free_ok KX G (c.fact 39 rfl)) (ce_var (pv 0))) (cg_tup rfl (cgs_cons (cg_of (pg_name (i := 3) sc_sequence.nd rfl (by first | exact Or.inl rfl | exact Or.inr rfl))) (cgs_cons (cg_of (pg_name (i := 4) sc_sequence.nd rfl (by first | exact Or.inl rfl | exact Or.inr rfl))) cgs_nil)))
    (cb_cons (cs_if (ct_cmp ok_gt (ce_var (pv 3)) ce_int (nomark _))
    (cb_one (cs_expr (ce_bm PySem.F.plainAttrs_list PySem.F.slot_list_append PySem.F.type_list_append ok_append (ce_var (pv 2)) (ca_cons ce_int ca_nil))))
    cb_nil)
    (cb_one (cs_setM (ps_set (i := 2) sc_sequence.nd rfl (by first | exact Or.inl rfl | exact Or.inr rfl) (ce_bin ok_add (ce_var (pv 2)) (ce_call G_digits hr (by rfl) (He.glo_ok KX G (c.fact 1 rfl)) kp_digits b_digits (ca_cons (ce_var (pv 4)) ca_nil))))))))
    (cb_one (cs_ret (ce_bin ok_add (ce_var (pv 2)) (ce_lst (ca_cons (ce_var (pv 1)) ca_nil)))))))
theorem sc_style_text : FnScope ["style", "text", "number"] ["style"] (defScope s_style_text) := ⟨rfl, rfl, rfl, by decide +kernel, rfl, by decide +kernel, by decide +kernel⟩
theorem ok_style_text {P : Program} {w : World} {K : PySem.W.Frag} {h : Heap} {mg : Str → Option Value} {base : Heap} (KX : K.In h) (G : h.Ns mainGlobals mg) (c : SaysC fa fn cs K) {fd : FuncData} (FD : FunD K "style_text" "style_text" (defArgs s_style_text) (defBody s_style_text) (defScope s_style_text) [] [] (He.fAd K ("style_text", none)) fd) : FnOk P w K mg base CX0 2 (He.fAd K ("style_text", none)) fd ["style"] (spF K F_style_text) := by
  obtain ⟨fd_digits, FD_digits⟩ := c.def_ 1 (d := d_digits) rfl
  have G_digits := ok_digits (P := P) (w := w) (base := base) KX G c FD_digits
  have b_digits : Binds K fd_digits ["number"] [] := FD_digits.bindsN fun _ _ _ _ _ _ us hl => match us, hl with | [_], _ => rfl
  have kp_digits := FD_digits.kp
  unfold F_style_text
  exact fnK_ok FD sc_style_text fun cdv A outer s H E hr => by
    unfold B_style_text
    unfold L_style_text_1
    exact (cb_cons (cs_set (ps_set (i := 1) sc_style_text.nd rfl (by first | exact Or.inl rfl | exact Or.inr rfl) (ce_call G_digits hr (by rfl) (He.glo_ok KX G (c.fact 1 rfl)) kp_digits b_digits (ca_cons ce_int ca_nil))))
    (cb_cons (cs_forK PassesOwn.never rfl (ci_seq (ce_var (pv 0))) (cg_of (pg_name (i := 2) sc_style_text.nd rfl (by first | exact Or.inl rfl | exact Or.inr rfl)))
    (cb_one (cs_set (ps_set (i := 1) sc_style_text.nd rfl (by first | exact Or.inl rfl | exact Or.inr rfl) (ce_bin ok_add (ce_bin ok_add (ce_var (pv 1)) (ce_lst (ca_cons ce_int ca_nil))) (ce_call G_digits hr (by rfl) (He.glo_ok KX G (c.fact 1 rfl)) kp_digits b_digits (ca_cons (ce_var (pv 2)) ca_nil)))))))
    (cb_one (cs_ret (ce_var (pv 1))))))
theorem sc_style_sequence : FnScope ["style"] ["style"] (defScope s_style_sequence) := ⟨rfl, rfl, rfl, by decide +kernel, rfl, by decide +kernel, by decide +kernel⟩
theorem ok_style_sequence {P : Program} {w : World} {K : PySem.W.Frag} {h : Heap} {mg : Str → Option Value} {base : Heap} (KX : K.In h) (G : h.Ns mainGlobals mg) (c : SaysC fa fn cs K) {fd : FuncData} (FD : FunD K "style_sequence" "style_sequence" (defArgs s_style_sequence) (defBody s_style_sequence) (defScope s_style_sequence) [] [] (He.fAd K ("style_sequence", none)) fd) : FnOk P w K mg base CX0 3 (He.fAd K ("style_sequence", none)) fd ["style"] (spF K F_style_sequence) := by
  obtain ⟨fd_style_text, FD_style_text⟩ := c.def_ 2 (d := d_style_text) rfl
  have G_style_text := ok_style_text (P := P) (w := w) (base := base) KX G c FD_style_text
  have b_style_text : Binds K fd_style_text ["style"] [] := FD_style_text.bindsN fun _ _ _ _ _ _ us hl => match us, hl with | [_], _ => rfl
  have kp_style_text := FD_style_text.kp
  unfold F_style_sequence
  exact fnK_ok FD sc_style_sequence fun cdv A outer s H E hr => by
    unfold B_style_sequence
    exact (cb_one (cs_ret (ce_bin ok_add (ce_bin ok_add (ce_lst (ca_cons ce_int (ca_cons ce_int ca_nil))) (ce_call G_style_text hr (by rfl) (He.glo_ok KX G (c.fact 2 rfl)) kp_style_text b_style_text (ca_cons (ce_var (pv 0)) ca_nil))) (ce_lst (ca_cons ce_int ca_nil)))))
theorem sc_line_difference : FnScope ["old", "new", "row", "style", "end", "text", "first", "last", "character", "wanted"] ["old", "new", "row", "style"] (defScope s_line_difference) := ⟨rfl, rfl, rfl, by decide +kernel, rfl, by decide +kernel, by decide +kernel⟩
theorem ok_line_difference {P : Program} {w : World} {K : PySem.W.Frag} {h : Heap} {mg : Str → Option Value} {base : Heap} (KX : K.In h) (G : h.Ns mainGlobals mg) (c : SaysC fa fn cs K) {fd : FuncData} (FD : FunD K "line_difference" "line_difference" (defArgs s_line_difference) (defBody s_line_difference) (defScope s_line_difference) [] [] (He.fAd K ("line_difference", none)) fd) : FnOk P w K mg base CX0 4 (He.fAd K ("line_difference", none)) fd ["old", "new", "row", "style"] (spF K F_line_difference) := by
  obtain ⟨fd_differing_columns, FD_differing_columns⟩ := c.def_ 10 (d := d_differing_columns) rfl
  have G_differing_columns := ok_differing_columns (P := P) (w := w) (base := base) KX G c FD_differing_columns
  have b_differing_columns : Binds K fd_differing_columns ["old", "new"] [] := FD_differing_columns.bindsN fun _ _ _ _ _ _ us hl => match us, hl with | [_, _], _ => rfl
  have kp_differing_columns := FD_differing_columns.kp
  obtain ⟨fd_end_of, FD_end_of⟩ := c.def_ 11 (d := d_end_of) rfl
  have G_end_of := ok_end_of (P := P) (w := w) (base := base) KX G c FD_end_of
  have b_end_of : Binds K fd_end_of ["line"] [] := FD_end_of.bindsN fun _ _ _ _ _ _ us hl => match us, hl with | [_], _ => rfl
  have kp_end_of := FD_end_of.kp
  obtain ⟨fd_sequence, FD_sequence⟩ := c.def_ 8 (d := d_sequence) rfl
  have G_sequence := ok_sequence (P := P) (w := w) (base := base) KX G c FD_sequence
  have b_sequence : Binds K fd_sequence ["numbers", "final"] [] := FD_sequence.bindsN fun _ _ _ _ _ _ us hl => match us, hl with | [_, _], _ => rfl
  have kp_sequence := FD_sequence.kp
  obtain ⟨fd_style_sequence, FD_style_sequence⟩ := c.def_ 9 (d := d_style_sequence) rfl
  have G_style_sequence := ok_style_sequence (P := P) (w := w) (base := base) KX G c FD_style_sequence
  have b_style_sequence : Binds K fd_style_sequence ["style"] [] := FD_style_sequence.bindsN fun _ _ _ _ _ _ us hl => match us, hl with | [_], _ => rfl
  have kp_style_sequence := FD_style_sequence.kp
  unfold F_line_difference
  exact fnK_ok FD sc_line_difference fun cdv A outer s H E hr => by
    unfold B_line_difference
    unfold L_line_difference_1
    exact (cb_cons (cs_asg (ps_asg (ce_call G_differing_columns (hr.mono (by decide)) (by rfl) (He.glo_ok KX G (c.fact 10 rfl)) kp_differing_columns b_differing_columns (ca_cons (ce_var (pv 0)) (ca_cons (ce_var (pv 1)) ca_nil))) (cg_tup rfl (cgs_cons (cg_of (pg_name (i := 6) sc_line_difference.nd rfl (by first | exact Or.inl rfl | exact Or.inr rfl))) (cgs_cons (cg_of (pg_name (i := 7) sc_line_difference.nd rfl (by first | exact Or.inl rfl | exact Or.inr rfl))) cgs_nil)))))
    (cb_cons (cs_set (ps_set (i := 4) sc_line_difference.nd rfl (by first | exact Or.inl rfl | exact Or.inr rfl) (ce_call G_end_of (hr.mono (by decide)) (by rfl) (He.glo_ok KX G (c.fact 11 rfl)) kp_end_of b_end_of (ca_cons (ce_var (pv 1)) ca_nil))))
    (cb_cons (cs_setM (ps_set (i := 5) sc_line_difference.nd rfl (by first | exact Or.inl rfl | exact Or.inr rfl) (ce_call G_sequence (hr.mono (by decide)) (by rfl) (He.glo_ok KX G (c.fact 8 rfl)) kp_sequence b_sequence (ca_cons (ce_lst (ca_cons (ce_bin ok_add (ce_var (pv 2)) ce_int) (ca_cons (ce_bin ok_add (ce_var (pv 6)) ce_int) ca_nil))) (ca_cons ce_int ca_nil)))))
    (cb_cons (cs_forK PassesOwn.never rfl (ci_seq (ce_sl (ce_var (pv 1)) (co_some (ce_var (pv 6))) (co_some (ce_callB (ok_min2 rfl) (by rfl) (He.free_ok KX G (c.fact 35 rfl)) (by decide +kernel) (ca_cons (ce_bin ok_add (ce_var (pv 7)) ce_int) (ca_cons (ce_var (pv 4)) ca_nil)))))) (cg_tup rfl (cgs_cons (cg_of (pg_name (i := 8) sc_line_difference.nd rfl (by first | exact Or.inl rfl | exact Or.inr rfl))) (cgs_cons (cg_of (pg_name (i := 9) sc_line_difference.nd rfl (by first | exact Or.inl rfl | exact Or.inr rfl))) cgs_nil)))
    (cb_one (cs_if (ct_cmp (ok_ne hr.units) (ce_var (pv 8)) ce_int (nomark _))
    (cb_cons (cs_if (ct_cmp (ok_ne hr.units) (ce_var (pv 9)) (ce_var (pv 3)) (nomark _))
    (cb_cons (cs_setM (ps_set (i := 5) sc_line_difference.nd rfl (by first | exact Or.inl rfl | exact Or.inr rfl) (ce_bin ok_add (ce_var (pv 5)) (ce_call G_style_sequence hr (by rfl) (He.glo_ok KX G (c.fact 9 rfl)) kp_style_sequence b_style_sequence (ca_cons (ce_var (pv 9)) ca_nil)))))
    (cb_one (cs_set (ps_set (i := 3) sc_line_difference.nd rfl (by first | exact Or.inl rfl | exact Or.inr rfl) (ce_var (pv 9))))))
    cb_nil)
    (cb_one (cs_expr (ce_bm PySem.F.plainAttrs_list PySem.F.slot_list_append PySem.F.type_list_append ok_append (ce_var (pv 5)) (ca_cons (ce_var (pv 8)) ca_nil)))))
    cb_nil)))
    (cb_cons (cs_if (ct_cmp ok_ge (ce_var (pv 7)) (ce_var (pv 4)) (nomark _))
    (cb_one (cs_setM (ps_set (i := 5) sc_line_difference.nd rfl (by first | exact Or.inl rfl | exact Or.inr rfl) (ce_bin ok_add (ce_var (pv 5)) (ce_call G_sequence (hr.mono (by decide)) (by rfl) (He.glo_ok KX G (c.fact 8 rfl)) kp_sequence b_sequence (ca_cons (ce_lst ca_nil) (ca_cons ce_int ca_nil)))))))
    cb_nil)
    (cb_one (cs_ret (ce_tup (ca_cons (ce_var (pv 5)) (ca_cons (ce_var (pv 3)) ca_nil))))))))))
theorem sc_lines_difference : FnScope ["old", "new", "text", "style", "row", "part"] ["old", "new"] (defScope s_lines_difference) := ⟨rfl, rfl, rfl, by decide +kernel, rfl, by decide +kernel, by decide +kernel⟩
theorem ok_lines_difference {P : Program} {w : World} {K : PySem.W.Frag} {h : Heap} {mg : Str → Option Value} {base : Heap} (KX : K.In h) (G : h.Ns mainGlobals mg) (c : SaysC fa fn cs K) {fd : FuncData} (FD : FunD K "lines_difference" "lines_difference" (defArgs s_lines_difference) (defBody s_lines_difference) (defScope s_lines_difference) [] [] (He.fAd K ("lines_difference", none)) fd) : FnOk P w K mg base CX0 5 (He.fAd K ("lines_difference", none)) fd ["old", "new"] (spF K F_lines_difference) := by
  obtain ⟨fd_line_difference, FD_line_difference⟩ := c.def_ 12 (d := d_line_difference) rfl
  have G_line_difference := ok_line_difference (P := P) (w := w) (base := base) KX G c FD_line_difference
  have b_line_difference : Binds K fd_line_difference ["old", "new", "row", "style"] [] := FD_line_difference.bindsN fun _ _ _ _ _ _ us hl => match us, hl with | [_, _, _, _], _ => rfl
  have kp_line_difference := FD_line_difference.kp
  obtain ⟨fd_style_sequence, FD_style_sequence⟩ := c.def_ 9 (d := d_style_sequence) rfl
  have G_style_sequence := ok_style_sequence (P := P) (w := w) (base := base) KX G c FD_style_sequence
  have b_style_sequence : Binds K fd_style_sequence ["style"] [] := FD_style_sequence.bindsN fun _ _ _ _ _ _ us hl => match us, hl with | [_], _ => rfl
  have kp_style_sequence := FD_style_sequence.kp
  unfold F_lines_difference
  exact fnK_ok FD sc_lines_difference fun cdv A outer s H E hr => by
    unfold B_lines_difference
    unfold L_lines_difference_1
    exact (cb_cons (cs_set (ps_set (i := 2) sc_lines_difference.nd rfl (by first | exact Or.inl rfl | exact Or.inr rfl) (ce_lst ca_nil)))
    (cb_cons (cs_set (ps_set (i := 3) sc_lines_difference.nd rfl (by first | exact Or.inl rfl | exact Or.inr rfl) (ce_tup ca_nil)))
    (cb_cons (cs_forK PassesOwn.never rfl (ci_rg1 (by rfl) (He.free_ok KX G (c.fact 38 rfl)) (ce_callB ok_len (by rfl) (He.free_ok KX G (c.fact 31 rfl)) (by decide +kernel) (ca_cons (ce_var (pv 1)) ca_nil))) (cg_of (pg_name (i := 4) sc_lines_difference.nd rfl (by first | exact Or.inl rfl | exact Or.inr rfl)))
    (cb_one (cs_if (ct_cmp (ok_ne hr.units) (ce_ix (ce_var (pv 0)) (ce_var (pv 4)) (fun _ _ => rfl)) (ce_ix (ce_var (pv 1)) (ce_var (pv 4)) (fun _ _ => rfl)) (nomark _))
    (cb_cons (cs_asg (ps_asg (ce_call G_line_difference hr (by rfl) (He.glo_ok KX G (c.fact 12 rfl)) kp_line_difference b_line_difference (ca_cons (ce_ix (ce_var (pv 0)) (ce_var (pv 4)) (fun _ _ => rfl)) (ca_cons (ce_ix (ce_var (pv 1)) (ce_var (pv 4)) (fun _ _ => rfl)) (ca_cons (ce_var (pv 4)) (ca_cons (ce_var (pv 3)) ca_nil))))) (cg_tup rfl (cgs_cons (cg_of (pg_name (i := 5) sc_lines_difference.nd rfl (by first | exact Or.inl rfl | exact Or.inr rfl))) (cgs_cons (cg_of (pg_name (i := 3) sc_lines_difference.nd rfl (by first | exact Or.inl rfl | exact Or.inr rfl))) cgs_nil)))))
    (cb_one (cs_set (ps_set (i := 2) sc_lines_difference.nd rfl (by first | exact Or.inl rfl | exact Or.inr rfl) (ce_bin ok_add (ce_var (pv 2)) (ce_var (pv 5)))))))
    cb_nil)))
    (cb_cons (cs_if (ct_cmp (ok_ne hr.units) (ce_var (pv 3)) (ce_tup ca_nil) (nomark _))
    (cb_one (cs_set (ps_set (i := 2) sc_lines_difference.nd rfl (by first | exact Or.inl rfl | exact Or.inr rfl) (ce_bin ok_add (ce_var (pv 2)) (ce_call G_style_sequence (hr.mono (by decide)) (by rfl) (He.glo_ok KX G (c.fact 9 rfl)) kp_style_sequence b_style_sequence (ca_cons (ce_tup ca_nil) ca_nil))))))
    cb_nil)
    (cb_one (cs_ret (ce_var (pv 2))))))))
theorem sc_cut_at : FnScope ["line", "column"] ["line", "column"] (defScope s_cut_at) := ⟨rfl, rfl, rfl, by decide +kernel, rfl, by decide +kernel, by decide +kernel⟩
theorem ok_cut_at {P : Program} {w : World} {K : PySem.W.Frag} {h : Heap} {mg : Str → Option Value} {base : Heap} (KX : K.In h) (G : h.Ns mainGlobals mg) (c : SaysC fa fn cs K) {fd : FuncData} (FD : FunD K "cut_at" "cut_at" (defArgs s_cut_at) (defBody s_cut_at) (defScope s_cut_at) [] [] (He.fAd K ("cut_at", none)) fd) : FnOk P w K mg base CX0 1 (He.fAd K ("cut_at", none)) fd ["line", "column"] (spF K F_cut_at) := by
  obtain ⟨u_BLANK, v_BLANK, m_BLANK, r_BLANK, q_BLANK⟩ := cName_ok KX G (c.cst 0 rfl)
  unfold F_cut_at
  exact fnK_ok FD sc_cut_at fun cdv A outer s H E hr => by
    unfold B_cut_at
    exact (cb_cons (cs_if (ct_w (cw_and (ct_cmp ok_lt (ce_var (pv 1)) (ce_callB ok_len (by rfl) (He.free_ok KX G (c.fact 31 rfl)) (by decide +kernel) (ca_cons (ce_var (pv 0)) ca_nil)) (nomark _)) (cw_and1 (ct_cmp (ok_eq hr.units) (ce_ix (ce_ix (ce_var (pv 0)) (ce_var (pv 1)) (fun _ _ => rfl)) ce_int (fun _ _ => rfl)) ce_int (nomark _)))))
    (cb_one (cs_ret (ce_bin ok_add (ce_bin ok_add (ce_sl (ce_var (pv 0)) co_none (co_some (ce_bin ok_sub (ce_var (pv 1)) ce_int))) (ce_tup (ca_cons (ce_val (pe_glob (by rfl) m_BLANK r_BLANK) q_BLANK) (ca_cons (ce_val (pe_glob (by rfl) m_BLANK r_BLANK) q_BLANK) ca_nil)))) (ce_sl (ce_var (pv 0)) (co_some (ce_bin ok_add (ce_var (pv 1)) ce_int)) co_none))))
    cb_nil)
    (cb_one (cs_ret (ce_var (pv 0)))))
theorem sc_blank_line : FnScope ["columns"] ["columns"] (defScope s_blank_line) := ⟨rfl, rfl, rfl, by decide +kernel, rfl, by decide +kernel, by decide +kernel⟩
theorem ok_blank_line {P : Program} {w : World} {K : PySem.W.Frag} {h : Heap} {mg : Str → Option Value} {base : Heap} (KX : K.In h) (G : h.Ns mainGlobals mg) (c : SaysC fa fn cs K) {fd : FuncData} (FD : FunD K "blank_line" "blank_line" (defArgs s_blank_line) (defBody s_blank_line) (defScope s_blank_line) [] [] (He.fAd K ("blank_line", none)) fd) : FnOk P w K mg base CX0 1 (He.fAd K ("blank_line", none)) fd ["columns"] (spF K F_blank_line) := by
  obtain ⟨u_BLANK, v_BLANK, m_BLANK, r_BLANK, q_BLANK⟩ := cName_ok KX G (c.cst 0 rfl)
  unfold F_blank_line
  exact fnK_ok FD sc_blank_line fun cdv A outer s H E hr => by
    unfold B_blank_line
    exact (cb_one (cs_ret (ce_bin ok_mulA (ce_tup (ca_cons (ce_val (pe_glob (by rfl) m_BLANK r_BLANK) q_BLANK) ca_nil)) (ce_var (pv 0)))))
theorem sc_fitted : FnScope ["line", "columns"] ["line", "columns"] (defScope s_fitted) := ⟨rfl, rfl, rfl, by decide +kernel, rfl, by decide +kernel, by decide +kernel⟩
theorem ok_fitted {P : Program} {w : World} {K : PySem.W.Frag} {h : Heap} {mg : Str → Option Value} {base : Heap} (KX : K.In h) (G : h.Ns mainGlobals mg) (c : SaysC fa fn cs K) {fd : FuncData} (FD : FunD K "fitted" "fitted" (defArgs s_fitted) (defBody s_fitted) (defScope s_fitted) [] [] (He.fAd K ("fitted", none)) fd) : FnOk P w K mg base CX0 2 (He.fAd K ("fitted", none)) fd ["line", "columns"] (spF K F_fitted) := by
  obtain ⟨fd_cut_at, FD_cut_at⟩ := c.def_ 4 (d := d_cut_at) rfl
  have G_cut_at := ok_cut_at (P := P) (w := w) (base := base) KX G c FD_cut_at
  have b_cut_at : Binds K fd_cut_at ["line", "column"] [] := FD_cut_at.bindsN fun _ _ _ _ _ _ us hl => match us, hl with | [_, _], _ => rfl
  have kp_cut_at := FD_cut_at.kp
  obtain ⟨fd_blank_line, FD_blank_line⟩ := c.def_ 3 (d := d_blank_line) rfl
  have G_blank_line := ok_blank_line (P := P) (w := w) (base := base) KX G c FD_blank_line
  have b_blank_line : Binds K fd_blank_line ["columns"] [] := FD_blank_line.bindsN fun _ _ _ _ _ _ us hl => match us, hl with | [_], _ => rfl
  have kp_blank_line := FD_blank_line.kp
  unfold F_fitted
  exact fnK_ok FD sc_fitted fun cdv A outer s H E hr => by
    unfold B_fitted
    exact (cb_cons (cs_if (ct_cmp ok_ge (ce_var (pv 1)) (ce_callB ok_len (by rfl) (He.free_ok KX G (c.fact 31 rfl)) (by decide +kernel) (ca_cons (ce_var (pv 0)) ca_nil)) (nomark _))
    (cb_one (cs_ret (ce_bin ok_add (ce_var (pv 0)) (ce_call G_blank_line hr (by rfl) (He.glo_ok KX G (c.fact 3 rfl)) kp_blank_line b_blank_line (ca_cons (ce_bin ok_sub (ce_var (pv 1)) (ce_callB ok_len (by rfl) (He.free_ok KX G (c.fact 31 rfl)) (by decide +kernel) (ca_cons (ce_var (pv 0)) ca_nil))) ca_nil)))))
    cb_nil)
    (cb_one (cs_ret (ce_sl (ce_call G_cut_at hr (by rfl) (He.glo_ok KX G (c.fact 4 rfl)) kp_cut_at b_cut_at (ca_cons (ce_var (pv 0)) (ca_cons (ce_var (pv 1)) ca_nil))) co_none (co_some (ce_var (pv 1)))))))
theorem sc_fitted_lines : FnScope ["lines", "rows", "columns", "kept", "line"] ["lines", "rows", "columns"] (defScope s_fitted_lines) := ⟨rfl, rfl, rfl, by decide +kernel, rfl, by decide +kernel, by decide +kernel⟩
theorem ok_fitted_lines {P : Program} {w : World} {K : PySem.W.Frag} {h : Heap} {mg : Str → Option Value} {base : Heap} (KX : K.In h) (G : h.Ns mainGlobals mg) (c : SaysC fa fn cs K) {fd : FuncData} (FD : FunD K "fitted_lines" "fitted_lines" (defArgs s_fitted_lines) (defBody s_fitted_lines) (defScope s_fitted_lines) [] [] (He.fAd K ("fitted_lines", none)) fd) : FnOk P w K mg base CX0 3 (He.fAd K ("fitted_lines", none)) fd ["lines", "rows", "columns"] (spF K F_fitted_lines) := by
  obtain ⟨fd_fitted, FD_fitted⟩ := c.def_ 5 (d := d_fitted) rfl
  have G_fitted := ok_fitted (P := P) (w := w) (base := base) KX G c FD_fitted
  have b_fitted : Binds K fd_fitted ["line", "columns"] [] := FD_fitted.bindsN fun _ _ _ _ _ _ us hl => match us, hl with | [_, _], _ => rfl
  have kp_fitted := FD_fitted.kp
  obtain ⟨fd_blank_line, FD_blank_line⟩ := c.def_ 3 (d := d_blank_line) rfl
  have G_blank_line := ok_blank_line (P := P) (w := w) (base := base) KX G c FD_blank_line
  have b_blank_line : Binds K fd_blank_line ["columns"] [] := FD_blank_line.bindsN fun _ _ _ _ _ _ us hl => match us, hl with | [_], _ => rfl
  have kp_blank_line := FD_blank_line.kp
  unfold F_fitted_lines
  exact fnK_ok FD sc_fitted_lines fun cdv A outer s H E hr => by
    unfold B_fitted_lines
    unfold Q_fitted_lines_1
    exact (cb_cons (by first | exact cs_set (cs_setLc (own := [("line", 4)]) (i := 3) rfl sc_fitted_lines.nd rfl rfl (sw_true rfl rfl rfl (by decide +kernel)) (ci_seq (ce_sl (ce_var (pv 0)) co_none (co_some (ce_var (pv 1))))) (blkOk_by (own := [("line", 4)]) (N := ["lines", "rows", "columns", "kept", "line"]) (sc := defScope s_fitted_lines) (by decide +kernel)) (fun _ _ _ _ _ => (cgw_of (pg_name (i := 4) sc_fitted_lines.nd rfl (by first | exact Or.inl rfl | exact Or.inr rfl)) (by decide))) (fun _ _ _ _ _ => cts_nil) (fun _ _ _ _ _ => (ce_call G_fitted hr (by rfl) (He.glo_ok KX G (c.fact 5 rfl)) kp_fitted b_fitted (ca_cons (ce_var (pv 4)) (ca_cons (ce_var (pv 2)) ca_nil))))) | exact cs_set (ps_set (i := 3) sc_fitted_lines.nd rfl (by first | exact Or.inl rfl | exact Or.inr rfl) (ce_lc (own := [("line", 4)]) rfl sc_fitted_lines.nd (ci_seq (ce_sl (ce_var (pv 0)) co_none (co_some (ce_var (pv 1))))) (blkOk_by (own := [("line", 4)]) (N := ["lines", "rows", "columns", "kept", "line"]) (sc := defScope s_fitted_lines) (by decide +kernel)) (fun _ _ _ _ _ => (cgw_of (pg_name (i := 4) sc_fitted_lines.nd rfl (by first | exact Or.inl rfl | exact Or.inr rfl)) (by decide))) (fun _ _ _ _ _ => cts_nil) (fun _ _ _ _ _ => (ce_call G_fitted hr (by rfl) (He.glo_ok KX G (c.fact 5 rfl)) kp_fitted b_fitted (ca_cons (ce_var (pv 4)) (ca_cons (ce_var (pv 2)) ca_nil)))))))
    (cb_one (cs_ret (ce_bin ok_add (ce_callTy ok_tuple (by rfl) (He.free_ok KX G (c.fact 33 rfl)) (by decide +kernel) (ca_cons (ce_var (pv 3)) ca_nil)) (ce_bin ok_mulA (ce_tup (ca_cons (ce_call G_blank_line (hr.mono (by decide)) (by rfl) (He.glo_ok KX G (c.fact 3 rfl)) kp_blank_line b_blank_line (ca_cons (ce_var (pv 2)) ca_nil)) ca_nil)) (ce_bin ok_sub (ce_var (pv 1)) (ce_callB ok_len (by rfl) (He.free_ok KX G (c.fact 31 rfl)) (by decide +kernel) (ca_cons (ce_var (pv 3)) ca_nil))))))))
theorem sc_resized : FnScope ["screen", "rows", "columns", "place", "lines", "cursor", "visible", "title"] ["screen", "rows", "columns"] (defScope s_resized) := ⟨rfl, rfl, rfl, by decide +kernel, rfl, by decide +kernel, by decide +kernel⟩
theorem ok_resized {P : Program} {w : World} {K : PySem.W.Frag} {h : Heap} {mg : Str → Option Value} {base : Heap} (KX : K.In h) (G : h.Ns mainGlobals mg) (c : SaysC fa fn cs K) {fd : FuncData} (FD : FunD K "resized" "resized" (defArgs s_resized) (defBody s_resized) (defScope s_resized) [] [] (He.fAd K ("resized", none)) fd) : FnOk P w K mg base CX0 4 (He.fAd K ("resized", none)) fd ["screen", "rows", "columns"] (spF K F_resized) := by
  obtain ⟨fd_fitted_lines, FD_fitted_lines⟩ := c.def_ 6 (d := d_fitted_lines) rfl
  have G_fitted_lines := ok_fitted_lines (P := P) (w := w) (base := base) KX G c FD_fitted_lines
  have b_fitted_lines : Binds K fd_fitted_lines ["lines", "rows", "columns"] [] := FD_fitted_lines.bindsN fun _ _ _ _ _ _ us hl => match us, hl with | [_, _, _], _ => rfl
  have kp_fitted_lines := FD_fitted_lines.kp
  unfold F_resized
  exact fnK_ok FD sc_resized fun cdv A outer s H E hr => by
    unfold B_resized
    exact (cb_cons (cs_asg (ps_asg (ce_var (pv 0)) (cg_tup rfl (cgs_cons (cg_of (pg_name (i := 4) sc_resized.nd rfl (by first | exact Or.inl rfl | exact Or.inr rfl))) (cgs_cons (cg_of (pg_name (i := 5) sc_resized.nd rfl (by first | exact Or.inl rfl | exact Or.inr rfl))) (cgs_cons (cg_of (pg_name (i := 6) sc_resized.nd rfl (by first | exact Or.inl rfl | exact Or.inr rfl))) (cgs_cons (cg_of (pg_name (i := 7) sc_resized.nd rfl (by first | exact Or.inl rfl | exact Or.inr rfl))) cgs_nil)))))))
    (cb_cons (cs_set (ps_set (i := 3) sc_resized.nd rfl (by first | exact Or.inl rfl | exact Or.inr rfl) (ce_tup (ca_cons (ce_callB (ok_min2 rfl) (by rfl) (He.free_ok KX G (c.fact 35 rfl)) (by decide +kernel) (ca_cons (ce_ix (ce_var (pv 5)) ce_int (fun _ _ => rfl)) (ca_cons (ce_bin ok_sub (ce_var (pv 1)) ce_int) ca_nil))) (ca_cons (ce_callB (ok_min2 rfl) (by rfl) (He.free_ok KX G (c.fact 35 rfl)) (by decide +kernel) (ca_cons (ce_ix (ce_var (pv 5)) ce_int (fun _ _ => rfl)) (ca_cons (ce_bin ok_sub (ce_var (pv 2)) ce_int) ca_nil))) ca_nil)))))
    (cb_one (cs_ret (ce_tup (ca_cons (ce_call G_fitted_lines hr (by rfl) (He.glo_ok KX G (c.fact 6 rfl)) kp_fitted_lines b_fitted_lines (ca_cons (ce_var (pv 4)) (ca_cons (ce_var (pv 1)) (ca_cons (ce_var (pv 2)) ca_nil)))) (ca_cons (ce_var (pv 3)) (ca_cons (ce_var (pv 6)) (ca_cons (ce_var (pv 7)) ca_nil)))))))))
theorem sc_codes : FnScope ["string", "sign"] ["string"] (defScope s_codes) := ⟨rfl, rfl, rfl, by decide +kernel, rfl, by decide +kernel, by decide +kernel⟩
theorem ok_codes {P : Program} {w : World} {K : PySem.W.Frag} {h : Heap} {mg : Str → Option Value} {base : Heap} (KX : K.In h) (G : h.Ns mainGlobals mg) (c : SaysC fa fn cs K) {fd : FuncData} (FD : FunD K "codes" "codes" (defArgs s_codes) (defBody s_codes) (defScope s_codes) [] [] (He.fAd K ("codes", none)) fd) : FnOk P w K mg base CX0 1 (He.fAd K ("codes", none)) fd ["string"] (spF K F_codes) := by
  unfold F_codes
  exact fnK_ok FD sc_codes fun cdv A outer s H E hr => by
    unfold B_codes
    unfold Q_codes_1
    exact (cb_one (cs_ret (ce_lc (own := [("sign", 1)]) rfl sc_codes.nd (ci_st (ce_var (pv 0))) (blkOk_by (own := [("sign", 1)]) (N := ["string", "sign"]) (sc := defScope s_codes) (by decide +kernel)) (fun _ _ _ _ _ => (cgw_of (pg_name (i := 1) sc_codes.nd rfl (by first | exact Or.inl rfl | exact Or.inr rfl)) (by decide))) (fun _ _ _ _ _ => cts_nil) (fun _ _ _ _ _ => (ce_callB ok_ord (by rfl) (He.free_ok KX G (c.fact 37 rfl)) (by decide +kernel) (ca_cons (ce_var (pv 1)) ca_nil))))))
theorem sc_difference : FnScope ["old", "new", "text", "rows", "columns", "rest"] ["old", "new"] (defScope s_difference) := ⟨rfl, rfl, rfl, by decide +kernel, rfl, by decide +kernel, by decide +kernel⟩
theorem ok_difference {P : Program} {w : World} {K : PySem.W.Frag} {h : Heap} {mg : Str → Option Value} {base : Heap} (KX : K.In h) (G : h.Ns mainGlobals mg) (c : SaysC fa fn cs K) {fd : FuncData} (FD : FunD K "difference" "difference" (defArgs s_difference) (defBody s_difference) (defScope s_difference) [] [] (He.fAd K ("difference", none)) fd) : FnOk P w K mg base CX0 6 (He.fAd K ("difference", none)) fd ["old", "new"] (spF K F_difference) := by
  obtain ⟨fd_lines_difference, FD_lines_difference⟩ := c.def_ 13 (d := d_lines_difference) rfl
  have G_lines_difference := ok_lines_difference (P := P) (w := w) (base := base) KX G c FD_lines_difference
  have b_lines_difference : Binds K fd_lines_difference ["old", "new"] [] := FD_lines_difference.bindsN fun _ _ _ _ _ _ us hl => match us, hl with | [_, _], _ => rfl
  have kp_lines_difference := FD_lines_difference.kp
  obtain ⟨fd_sequence, FD_sequence⟩ := c.def_ 8 (d := d_sequence) rfl
  have G_sequence := ok_sequence (P := P) (w := w) (base := base) KX G c FD_sequence
  have b_sequence : Binds K fd_sequence ["numbers", "final"] [] := FD_sequence.bindsN fun _ _ _ _ _ _ us hl => match us, hl with | [_, _], _ => rfl
  have kp_sequence := FD_sequence.kp
  obtain ⟨fd_resized, FD_resized⟩ := c.def_ 7 (d := d_resized) rfl
  have G_resized := ok_resized (P := P) (w := w) (base := base) KX G c FD_resized
  have b_resized : Binds K fd_resized ["screen", "rows", "columns"] [] := FD_resized.bindsN fun _ _ _ _ _ _ us hl => match us, hl with | [_, _, _], _ => rfl
  have kp_resized := FD_resized.kp
  obtain ⟨fd_codes, FD_codes⟩ := c.def_ 0 (d := d_codes) rfl
  have G_codes := ok_codes (P := P) (w := w) (base := base) KX G c FD_codes
  have b_codes : Binds K fd_codes ["string"] [] := FD_codes.bindsN fun _ _ _ _ _ _ us hl => match us, hl with | [_], _ => rfl
  have kp_codes := FD_codes.kp
  unfold F_difference
  exact fnK_ok FD sc_difference fun cdv A outer s H E hr => by
    unfold B_difference
    exact (cb_cons (cs_set (ps_set (i := 2) sc_difference.nd rfl (by first | exact Or.inl rfl | exact Or.inr rfl) (ce_lst ca_nil)))
    (cb_cons (cs_set (ps_set (i := 3) sc_difference.nd rfl (by first | exact Or.inl rfl | exact Or.inr rfl) (ce_callB ok_len (by rfl) (He.free_ok KX G (c.fact 31 rfl)) (by decide +kernel) (ca_cons (ce_ix (ce_var (pv 1)) ce_int (fun _ _ => rfl)) ca_nil))))
    (cb_cons (cs_set (ps_set (i := 4) sc_difference.nd rfl (by first | exact Or.inl rfl | exact Or.inr rfl) (ce_callB ok_len (by rfl) (He.free_ok KX G (c.fact 31 rfl)) (by decide +kernel) (ca_cons (ce_ix (ce_ix (ce_var (pv 1)) ce_int (fun _ _ => rfl)) ce_int (fun _ _ => rfl)) ca_nil))))
    (cb_cons (cs_if (ct_w (cw_or (ct_cmp (ok_ne hr.units) (ce_callB ok_len (by rfl) (He.free_ok KX G (c.fact 31 rfl)) (by decide +kernel) (ca_cons (ce_ix (ce_var (pv 0)) ce_int (fun _ _ => rfl)) ca_nil)) (ce_var (pv 3)) (nomark _)) (cw_or1 (ct_cmp (ok_ne hr.units) (ce_callB ok_len (by rfl) (He.free_ok KX G (c.fact 31 rfl)) (by decide +kernel) (ca_cons (ce_ix (ce_ix (ce_var (pv 0)) ce_int (fun _ _ => rfl)) ce_int (fun _ _ => rfl)) ca_nil)) (ce_var (pv 4)) (nomark _)))))
    (cb_cons (cs_set (ps_set (i := 2) sc_difference.nd rfl (by first | exact Or.inl rfl | exact Or.inr rfl) (ce_call G_sequence (hr.mono (by decide)) (by rfl) (He.glo_ok KX G (c.fact 8 rfl)) kp_sequence b_sequence (ca_cons (ce_lst (ca_cons ce_int (ca_cons (ce_var (pv 3)) (ca_cons (ce_var (pv 4)) ca_nil)))) (ca_cons ce_int ca_nil)))))
    (cb_one (cs_set (ps_set (i := 0) sc_difference.nd rfl (by first | exact Or.inl rfl | exact Or.inr rfl) (ce_call G_resized (hr.mono (by decide)) (by rfl) (He.glo_ok KX G (c.fact 7 rfl)) kp_resized b_resized (ca_cons (ce_var (pv 0)) (ca_cons (ce_var (pv 3)) (ca_cons (ce_var (pv 4)) ca_nil))))))))
    cb_nil)
    (cb_cons (cs_set (ps_set (i := 5) sc_difference.nd rfl (by first | exact Or.inl rfl | exact Or.inr rfl) (ce_call G_lines_difference hr (by rfl) (He.glo_ok KX G (c.fact 13 rfl)) kp_lines_difference b_lines_difference (ca_cons (ce_ix (ce_var (pv 0)) ce_int (fun _ _ => rfl)) (ca_cons (ce_ix (ce_var (pv 1)) ce_int (fun _ _ => rfl)) ca_nil)))))
    (cb_cons (cs_if (ct_cmp (ok_ne hr.units) (ce_ix (ce_var (pv 0)) ce_int (fun _ _ => rfl)) (ce_ix (ce_var (pv 1)) ce_int (fun _ _ => rfl)) (nomark _))
    (cb_one (cs_set (ps_set (i := 5) sc_difference.nd rfl (by first | exact Or.inl rfl | exact Or.inr rfl) (ce_bin ok_add (ce_bin ok_add (ce_bin ok_add (ce_bin ok_add (ce_var (pv 5)) (ce_lst (ca_cons ce_int ca_nil))) (ce_call G_codes (hr.mono (by decide)) (by rfl) (He.glo_ok KX G (c.fact 0 rfl)) kp_codes b_codes (ca_cons ce_str ca_nil))) (ce_callTy ok_list (by rfl) (He.free_ok KX G (c.fact 34 rfl)) (by decide +kernel) (ca_cons (ce_ix (ce_var (pv 1)) ce_int (fun _ _ => rfl)) ca_nil))) (ce_lst (ca_cons ce_int ca_nil))))))
    cb_nil)
    (cb_cons (cs_if (ct_cmp (ok_ne hr.units) (ce_ix (ce_var (pv 0)) ce_int (fun _ _ => rfl)) (ce_ix (ce_var (pv 1)) ce_int (fun _ _ => rfl)) (nomark _))
    (cb_one (cs_set (ps_set (i := 5) sc_difference.nd rfl (by first | exact Or.inl rfl | exact Or.inr rfl) (ce_bin ok_add (ce_bin ok_add (ce_bin ok_add (ce_var (pv 5)) (ce_lst (ca_cons ce_int ca_nil))) (ce_call G_codes (hr.mono (by decide)) (by rfl) (He.glo_ok KX G (c.fact 0 rfl)) kp_codes b_codes (ca_cons ce_str ca_nil))) (ce_lst (ca_cons (ce_if (ct_truth (ce_ix (ce_var (pv 1)) ce_int (fun _ _ => rfl)) (fun _ => rfl)) ce_int ce_int) ca_nil))))))
    cb_nil)
    (cb_cons (cs_if (ct_w (cw_or (ct_truth (ce_var (pv 5)) (fun _ => rfl)) (cw_or1 (ct_cmp (ok_ne hr.units) (ce_ix (ce_var (pv 0)) ce_int (fun _ _ => rfl)) (ce_ix (ce_var (pv 1)) ce_int (fun _ _ => rfl)) (nomark _)))))
    (cb_one (cs_set (ps_set (i := 5) sc_difference.nd rfl (by first | exact Or.inl rfl | exact Or.inr rfl) (ce_bin ok_add (ce_var (pv 5)) (ce_call G_sequence (hr.mono (by decide)) (by rfl) (He.glo_ok KX G (c.fact 8 rfl)) kp_sequence b_sequence (ca_cons (ce_lst (ca_cons (ce_bin ok_add (ce_ix (ce_ix (ce_var (pv 1)) ce_int (fun _ _ => rfl)) ce_int (fun _ _ => rfl)) ce_int) (ca_cons (ce_bin ok_add (ce_ix (ce_ix (ce_var (pv 1)) ce_int (fun _ _ => rfl)) ce_int (fun _ _ => rfl)) ce_int) ca_nil))) (ca_cons ce_int ca_nil)))))))
    cb_nil)
    (cb_one (cs_ret (ce_bin ok_add (ce_var (pv 2)) (ce_var (pv 5)))))))))))))
theorem sc__law_digits : FnScope ["_law_number", "_law_sign"] ["_law_number"] (defScope s__law_digits) := ⟨rfl, rfl, rfl, by decide +kernel, rfl, by decide +kernel, by decide +kernel⟩
theorem ok__law_digits {P : Program} {w : World} {K : PySem.W.Frag} {h : Heap} {mg : Str → Option Value} {base : Heap} (KX : K.In h) (G : h.Ns mainGlobals mg) (c : SaysC fa fn cs K) {fd : FuncData} (FD : FunD K "_law_digits" "_law_digits" (defArgs s__law_digits) (defBody s__law_digits) (defScope s__law_digits) [] [] (He.fAd K ("_law_digits", none)) fd) : FnOk P w K mg base CX0 1 (He.fAd K ("_law_digits", none)) fd ["_law_number"] (spF K F__law_digits) := by
  unfold F__law_digits
  exact fnK_ok FD sc__law_digits fun cdv A outer s H E hr => by
    unfold B__law_digits
    unfold Q__law_digits_1
    exact (cb_one (cs_ret (ce_lc (own := [("_law_sign", 1)]) rfl sc__law_digits.nd (ci_st (ce_callTy ok_str (by rfl) (He.free_ok KX G (c.fact 36 rfl)) (by decide +kernel) (ca_cons (ce_callTy ok_int (by rfl) (He.free_ok KX G (c.fact 32 rfl)) (by decide +kernel) (ca_cons (ce_var (pv 0)) ca_nil)) ca_nil))) (blkOk_by (own := [("_law_sign", 1)]) (N := ["_law_number", "_law_sign"]) (sc := defScope s__law_digits) (by decide +kernel)) (fun _ _ _ _ _ => (cgw_of (pg_name (i := 1) sc__law_digits.nd rfl (by first | exact Or.inl rfl | exact Or.inr rfl)) (by decide))) (fun _ _ _ _ _ => cts_nil) (fun _ _ _ _ _ => (ce_bin ok_add ce_int (ce_callTy ok_intS (by rfl) (He.free_ok KX G (c.fact 32 rfl)) (by decide +kernel) (ca_cons (ce_var (pv 1)) ca_nil)))))))
theorem sc__law_joined : FnScope ["_law_numbers", "_law_text", "_law_k", "_law_number"] ["_law_numbers"] (defScope s__law_joined) := ⟨rfl, rfl, rfl, by decide +kernel, rfl, by decide +kernel, by decide +kernel⟩
theorem ok__law_joined {P : Program} {w : World} {K : PySem.W.Frag} {h : Heap} {mg : Str → Option Value} {base : Heap} (KX : K.In h) (G : h.Ns mainGlobals mg) (c : SaysC fa fn cs K) {fd : FuncData} (FD : FunD K "_law_joined" "_law_joined" (defArgs s__law_joined) (defBody s__law_joined) (defScope s__law_joined) [] [] (He.fAd K ("_law_joined", none)) fd) : FnOk P w K mg base CX0 2 (He.fAd K ("_law_joined", none)) fd ["_law_numbers"] (spF K F__law_joined) := by
  obtain ⟨fd__law_digits, FD__law_digits⟩ := c.def_ 24 (d := d__law_digits) rfl
  have G__law_digits := ok__law_digits (P := P) (w := w) (base := base) KX G c FD__law_digits
  have b__law_digits : Binds K fd__law_digits ["_law_number"] [] := FD__law_digits.bindsN fun _ _ _ _ _ _ us hl => match us, hl with | [_], _ => rfl
  have kp__law_digits := FD__law_digits.kp
  unfold F__law_joined
  exact fnK_ok FD sc__law_joined fun cdv A outer s H E hr => by
    unfold B__law_joined
    unfold L__law_joined_1
    exact (cb_cons (cs_setM (ps_set (i := 1) sc__law_joined.nd rfl (by first | exact Or.inl rfl | exact Or.inr rfl) (ce_lst ca_nil)))
    (cb_cons (cs_forK PassesOwn.never rfl (ci_enT (by rfl) (He.free_ok KX G (c.fact 39 rfl)) (ce_var (pv 0))) (cg_tup rfl (cgs_cons (cg_of (pg_name (i := 2) sc__law_joined.nd rfl (by first | exact Or.inl rfl | exact Or.inr rfl))) (cgs_cons (cg_of (pg_name (i := 3) sc__law_joined.nd rfl (by first | exact Or.inl rfl | exact Or.inr rfl))) cgs_nil)))
    (cb_cons (cs_if (ct_cmp ok_gt (ce_var (pv 2)) ce_int (nomark _))
    (cb_one (cs_expr (ce_bm PySem.F.plainAttrs_list PySem.F.slot_list_append PySem.F.type_list_append ok_append (ce_var (pv 1)) (ca_cons ce_int ca_nil))))
    cb_nil)
    (cb_one (cs_if (ct_cmp ok_isnot (ce_var (pv 3)) ce_non (nomark _))
    (cb_one (cs_setM (ps_set (i := 1) sc__law_joined.nd rfl (by first | exact Or.inl rfl | exact Or.inr rfl) (ce_bin ok_add (ce_var (pv 1)) (ce_call G__law_digits hr (by rfl) (He.glo_ok KX G (c.fact 24 rfl)) kp__law_digits b__law_digits (ca_cons (ce_var (pv 3)) ca_nil))))))
    cb_nil))))
    (cb_one (cs_ret (ce_var (pv 1))))))
theorem sc__law_styled : FnScope ["_law_style_here"] ["_law_style_here"] (defScope s__law_styled) := ⟨rfl, rfl, rfl, by decide +kernel, rfl, by decide +kernel, by decide +kernel⟩
theorem ok__law_styled {P : Program} {w : World} {K : PySem.W.Frag} {h : Heap} {mg : Str → Option Value} {base : Heap} (KX : K.In h) (G : h.Ns mainGlobals mg) (c : SaysC fa fn cs K) {fd : FuncData} (FD : FunD K "_law_styled" "_law_styled" (defArgs s__law_styled) (defBody s__law_styled) (defScope s__law_styled) [] [] (He.fAd K ("_law_styled", none)) fd) : FnOk P w K mg base CX0 3 (He.fAd K ("_law_styled", none)) fd ["_law_style_here"] (spF K F__law_styled) := by
  obtain ⟨fd__law_joined, FD__law_joined⟩ := c.def_ 25 (d := d__law_joined) rfl
  have G__law_joined := ok__law_joined (P := P) (w := w) (base := base) KX G c FD__law_joined
  have b__law_joined : Binds K fd__law_joined ["_law_numbers"] [] := FD__law_joined.bindsN fun _ _ _ _ _ _ us hl => match us, hl with | [_], _ => rfl
  have kp__law_joined := FD__law_joined.kp
  unfold F__law_styled
  exact fnK_ok FD sc__law_styled fun cdv A outer s H E hr => by
    unfold B__law_styled
    exact (cb_one (cs_ret (ce_bin ok_add (ce_bin ok_add (ce_lst (ca_cons ce_int (ca_cons ce_int ca_nil))) (ce_call G__law_joined hr (by rfl) (He.glo_ok KX G (c.fact 25 rfl)) kp__law_joined b__law_joined (ca_cons (ce_bin ok_add (ce_lst (ca_cons ce_int ca_nil)) (ce_callTy ok_list (by rfl) (He.free_ok KX G (c.fact 34 rfl)) (by decide +kernel) (ca_cons (ce_var (pv 0)) ca_nil))) ca_nil))) (ce_lst (ca_cons ce_int ca_nil)))))
theorem sc__law_line_text : FnScope ["_law_old", "_law_new", "_law_row", "_law_style_here", "_law_many", "_law_apart", "_law_first", "_law_last", "_law_filled", "_law_end", "_law_text", "_law_k"] ["_law_old", "_law_new", "_law_row", "_law_style_here"] (defScope s__law_line_text) := ⟨rfl, rfl, rfl, by decide +kernel, rfl, by decide +kernel, by decide +kernel⟩
theorem ok__law_line_text {P : Program} {w : World} {K : PySem.W.Frag} {h : Heap} {mg : Str → Option Value} {base : Heap} (KX : K.In h) (G : h.Ns mainGlobals mg) (c : SaysC fa fn cs K) {fd : FuncData} (FD : FunD K "_law_line_text" "_law_line_text" (defArgs s__law_line_text) (defBody s__law_line_text) (defScope s__law_line_text) [] [] (He.fAd K ("_law_line_text", none)) fd) : FnOk P w K mg base CX0 4 (He.fAd K ("_law_line_text", none)) fd ["_law_old", "_law_new", "_law_row", "_law_style_here"] (spF K F__law_line_text) := by
  obtain ⟨fd__law_joined, FD__law_joined⟩ := c.def_ 25 (d := d__law_joined) rfl
  have G__law_joined := ok__law_joined (P := P) (w := w) (base := base) KX G c FD__law_joined
  have b__law_joined : Binds K fd__law_joined ["_law_numbers"] [] := FD__law_joined.bindsN fun _ _ _ _ _ _ us hl => match us, hl with | [_], _ => rfl
  have kp__law_joined := FD__law_joined.kp
  obtain ⟨fd__law_styled, FD__law_styled⟩ := c.def_ 26 (d := d__law_styled) rfl
  have G__law_styled := ok__law_styled (P := P) (w := w) (base := base) KX G c FD__law_styled
  have b__law_styled : Binds K fd__law_styled ["_law_style_here"] [] := FD__law_styled.bindsN fun _ _ _ _ _ _ us hl => match us, hl with | [_], _ => rfl
  have kp__law_styled := FD__law_styled.kp
  unfold F__law_line_text
  exact fnK_ok FD sc__law_line_text fun cdv A outer s H E hr => by
    unfold B__law_line_text
    unfold L__law_line_text_1 Q__law_line_text_2 Q__law_line_text_1
    exact (cb_cons (cs_set (ps_set (i := 4) sc__law_line_text.nd rfl (by first | exact Or.inl rfl | exact Or.inr rfl) (ce_callB ok_len (by rfl) (He.free_ok KX G (c.fact 31 rfl)) (by decide +kernel) (ca_cons (ce_var (pv 1)) ca_nil))))
    (cb_cons (by first | exact cs_set (cs_setLc (own := [("_law_k", 11)]) (i := 5) rfl sc__law_line_text.nd rfl rfl (sw_true rfl rfl rfl (by decide +kernel)) (ci_rg1 (by rfl) (He.free_ok KX G (c.fact 38 rfl)) (ce_var (pv 4))) (blkOk_by (own := [("_law_k", 11)]) (N := ["_law_old", "_law_new", "_law_row", "_law_style_here", "_law_many", "_law_apart", "_law_first", "_law_last", "_law_filled", "_law_end", "_law_text", "_law_k"]) (sc := defScope s__law_line_text) (by decide +kernel)) (fun _ _ _ _ _ => (cgw_of (pg_name (i := 11) sc__law_line_text.nd rfl (by first | exact Or.inl rfl | exact Or.inr rfl)) (by decide))) (fun _ _ _ _ _ => (cts_one (ct_cmp (ok_ne hr.units) (ce_ix (ce_var (pv 0)) (ce_var (pv 11)) (fun _ _ => rfl)) (ce_ix (ce_var (pv 1)) (ce_var (pv 11)) (fun _ _ => rfl)) (nomark _)))) (fun _ _ _ _ _ => (ce_var (pv 11)))) | exact cs_set (ps_set (i := 5) sc__law_line_text.nd rfl (by first | exact Or.inl rfl | exact Or.inr rfl) (ce_lc (own := [("_law_k", 11)]) rfl sc__law_line_text.nd (ci_rg1 (by rfl) (He.free_ok KX G (c.fact 38 rfl)) (ce_var (pv 4))) (blkOk_by (own := [("_law_k", 11)]) (N := ["_law_old", "_law_new", "_law_row", "_law_style_here", "_law_many", "_law_apart", "_law_first", "_law_last", "_law_filled", "_law_end", "_law_text", "_law_k"]) (sc := defScope s__law_line_text) (by decide +kernel)) (fun _ _ _ _ _ => (cgw_of (pg_name (i := 11) sc__law_line_text.nd rfl (by first | exact Or.inl rfl | exact Or.inr rfl)) (by decide))) (fun _ _ _ _ _ => (cts_one (ct_cmp (ok_ne hr.units) (ce_ix (ce_var (pv 0)) (ce_var (pv 11)) (fun _ _ => rfl)) (ce_ix (ce_var (pv 1)) (ce_var (pv 11)) (fun _ _ => rfl)) (nomark _)))) (fun _ _ _ _ _ => (ce_var (pv 11))))))
    (cb_cons (cs_set (ps_set (i := 6) sc__law_line_text.nd rfl (by first | exact Or.inl rfl | exact Or.inr rfl) (ce_if (ct_cmp (ok_eq hr.units) (ce_ix (ce_ix (ce_var (pv 1)) (ce_ix (ce_var (pv 5)) ce_int (fun _ _ => rfl)) (fun _ _ => rfl)) ce_int (fun _ _ => rfl)) ce_int (nomark _)) (ce_bin ok_sub (ce_ix (ce_var (pv 5)) ce_int (fun _ _ => rfl)) ce_int) (ce_ix (ce_var (pv 5)) ce_int (fun _ _ => rfl)))))
    (cb_cons (cs_set (ps_set (i := 7) sc__law_line_text.nd rfl (by first | exact Or.inl rfl | exact Or.inr rfl) (ce_ix (ce_var (pv 5)) (ce_neg ce_int) (fun _ _ => rfl))))
    (cb_cons (cs_if (ct_w (cw_and (ct_cmp ok_lt (ce_bin ok_add (ce_var (pv 7)) ce_int) (ce_var (pv 4)) (nomark _)) (cw_and1 (ct_cmp (ok_eq hr.units) (ce_ix (ce_ix (ce_var (pv 1)) (ce_bin ok_add (ce_var (pv 7)) ce_int) (fun _ _ => rfl)) ce_int (fun _ _ => rfl)) ce_int (nomark _)))))
    (cb_one (cs_set (ps_set (i := 7) sc__law_line_text.nd rfl (by first | exact Or.inl rfl | exact Or.inr rfl) (ce_bin ok_add (ce_var (pv 7)) ce_int))))
    cb_nil)
    (cb_cons (by first | exact cs_set (cs_setLc (own := [("_law_k", 11)]) (i := 8) rfl sc__law_line_text.nd rfl rfl (sw_true rfl rfl rfl (by decide +kernel)) (ci_rg1 (by rfl) (He.free_ok KX G (c.fact 38 rfl)) (ce_var (pv 4))) (blkOk_by (own := [("_law_k", 11)]) (N := ["_law_old", "_law_new", "_law_row", "_law_style_here", "_law_many", "_law_apart", "_law_first", "_law_last", "_law_filled", "_law_end", "_law_text", "_law_k"]) (sc := defScope s__law_line_text) (by decide +kernel)) (fun _ _ _ _ _ => (cgw_of (pg_name (i := 11) sc__law_line_text.nd rfl (by first | exact Or.inl rfl | exact Or.inr rfl)) (by decide))) (fun _ _ _ _ _ => (cts_one (ct_cmp (ok_ne hr.units) (ce_ix (ce_var (pv 1)) (ce_var (pv 11)) (fun _ _ => rfl)) (ce_tup (ca_cons ce_int (ca_cons (ce_tup ca_nil) ca_nil))) (nomark _)))) (fun _ _ _ _ _ => (ce_var (pv 11)))) | exact cs_set (ps_set (i := 8) sc__law_line_text.nd rfl (by first | exact Or.inl rfl | exact Or.inr rfl) (ce_lc (own := [("_law_k", 11)]) rfl sc__law_line_text.nd (ci_rg1 (by rfl) (He.free_ok KX G (c.fact 38 rfl)) (ce_var (pv 4))) (blkOk_by (own := [("_law_k", 11)]) (N := ["_law_old", "_law_new", "_law_row", "_law_style_here", "_law_many", "_law_apart", "_law_first", "_law_last", "_law_filled", "_law_end", "_law_text", "_law_k"]) (sc := defScope s__law_line_text) (by decide +kernel)) (fun _ _ _ _ _ => (cgw_of (pg_name (i := 11) sc__law_line_text.nd rfl (by first | exact Or.inl rfl | exact Or.inr rfl)) (by decide))) (fun _ _ _ _ _ => (cts_one (ct_cmp (ok_ne hr.units) (ce_ix (ce_var (pv 1)) (ce_var (pv 11)) (fun _ _ => rfl)) (ce_tup (ca_cons ce_int (ca_cons (ce_tup ca_nil) ca_nil))) (nomark _)))) (fun _ _ _ _ _ => (ce_var (pv 11))))))
    (cb_cons (cs_set (ps_set (i := 9) sc__law_line_text.nd rfl (by first | exact Or.inl rfl | exact Or.inr rfl) (ce_if (ct_truth (ce_var (pv 8)) (fun _ => rfl)) (ce_bin ok_add (ce_ix (ce_var (pv 8)) (ce_neg ce_int) (fun _ _ => rfl)) ce_int) ce_int)))
    (cb_cons (cs_setM (ps_set (i := 10) sc__law_line_text.nd rfl (by first | exact Or.inl rfl | exact Or.inr rfl) (ce_bin ok_add (ce_bin ok_add (ce_lst (ca_cons ce_int (ca_cons ce_int ca_nil))) (ce_call G__law_joined (hr.mono (by decide)) (by rfl) (He.glo_ok KX G (c.fact 25 rfl)) kp__law_joined b__law_joined (ca_cons (ce_lst (ca_cons (ce_bin ok_add (ce_var (pv 2)) ce_int) (ca_cons (ce_bin ok_add (ce_var (pv 6)) ce_int) ca_nil))) ca_nil))) (ce_lst (ca_cons ce_int ca_nil)))))
    (cb_cons (cs_forK PassesOwn.never rfl (ci_rg2 (by rfl) (He.free_ok KX G (c.fact 38 rfl)) (ce_var (pv 6)) (ce_bin ok_add (ce_var (pv 7)) ce_int)) (cg_of (pg_name (i := 11) sc__law_line_text.nd rfl (by first | exact Or.inl rfl | exact Or.inr rfl)))
    (cb_one (cs_if (ct_w (cw_and (ct_cmp ok_lt (ce_var (pv 11)) (ce_var (pv 9)) (nomark _)) (cw_and1 (ct_cmp ok_gt (ce_ix (ce_ix (ce_var (pv 1)) (ce_var (pv 11)) (fun _ _ => rfl)) ce_int (fun _ _ => rfl)) ce_int (nomark _)))))
    (cb_cons (cs_if (ct_cmp (ok_ne hr.units) (ce_ix (ce_ix (ce_var (pv 1)) (ce_var (pv 11)) (fun _ _ => rfl)) ce_int (fun _ _ => rfl)) (ce_var (pv 3)) (nomark _))
    (cb_cons (cs_setM (ps_set (i := 10) sc__law_line_text.nd rfl (by first | exact Or.inl rfl | exact Or.inr rfl) (ce_bin ok_add (ce_var (pv 10)) (ce_if (ct_truth (ce_ix (ce_ix (ce_var (pv 1)) (ce_var (pv 11)) (fun _ _ => rfl)) ce_int (fun _ _ => rfl)) (fun _ => rfl)) (ce_call G__law_styled hr (by rfl) (He.glo_ok KX G (c.fact 26 rfl)) kp__law_styled b__law_styled (ca_cons (ce_ix (ce_ix (ce_var (pv 1)) (ce_var (pv 11)) (fun _ _ => rfl)) ce_int (fun _ _ => rfl)) ca_nil)) (ce_lst (ca_cons ce_int (ca_cons ce_int (ca_cons ce_int (ca_cons ce_int ca_nil)))))))))
    (cb_one (cs_set (ps_set (i := 3) sc__law_line_text.nd rfl (by first | exact Or.inl rfl | exact Or.inr rfl) (ce_ix (ce_ix (ce_var (pv 1)) (ce_var (pv 11)) (fun _ _ => rfl)) ce_int (fun _ _ => rfl))))))
    cb_nil)
    (cb_one (cs_expr (ce_bm PySem.F.plainAttrs_list PySem.F.slot_list_append PySem.F.type_list_append ok_append (ce_var (pv 10)) (ca_cons (ce_ix (ce_ix (ce_var (pv 1)) (ce_var (pv 11)) (fun _ _ => rfl)) ce_int (fun _ _ => rfl)) ca_nil)))))
    cb_nil)))
    (cb_one (cs_ret (ce_tup (ca_cons (ce_bin ok_add (ce_var (pv 10)) (ce_if (ct_cmp ok_ge (ce_var (pv 7)) (ce_var (pv 9)) (nomark _)) (ce_lst (ca_cons ce_int (ca_cons ce_int (ca_cons ce_int ca_nil)))) (ce_lst ca_nil))) (ca_cons (ce_var (pv 3)) ca_nil))))))))))))))
theorem sc__law_due : FnScope ["_law_old", "_law_new", "_law_start", "_law_rows", "_law_columns", "_law_text", "_law_style_here", "_law_row", "_law_part"] ["_law_old", "_law_new"] (defScope s__law_due) := ⟨rfl, rfl, rfl, by decide +kernel, rfl, by decide +kernel, by decide +kernel⟩
theorem ok__law_due {P : Program} {w : World} {K : PySem.W.Frag} {h : Heap} {mg : Str → Option Value} {base : Heap} (KX : K.In h) (G : h.Ns mainGlobals mg) (c : SaysC fa fn cs K) {fd : FuncData} (FD : FunD K "_law_due" "_law_due" (defArgs s__law_due) (defBody s__law_due) (defScope s__law_due) [] [] (He.fAd K ("_law_due", none)) fd) : FnOk P w K mg base CX0 5 (He.fAd K ("_law_due", none)) fd ["_law_old", "_law_new"] (spF K F__law_due) := by
  obtain ⟨fd_resized, FD_resized⟩ := c.def_ 7 (d := d_resized) rfl
  have G_resized := ok_resized (P := P) (w := w) (base := base) KX G c FD_resized
  have b_resized : Binds K fd_resized ["screen", "rows", "columns"] [] := FD_resized.bindsN fun _ _ _ _ _ _ us hl => match us, hl with | [_, _, _], _ => rfl
  have kp_resized := FD_resized.kp
  obtain ⟨fd__law_line_text, FD__law_line_text⟩ := c.def_ 27 (d := d__law_line_text) rfl
  have G__law_line_text := ok__law_line_text (P := P) (w := w) (base := base) KX G c FD__law_line_text
  have b__law_line_text : Binds K fd__law_line_text ["_law_old", "_law_new", "_law_row", "_law_style_here"] [] := FD__law_line_text.bindsN fun _ _ _ _ _ _ us hl => match us, hl with | [_, _, _, _], _ => rfl
  have kp__law_line_text := FD__law_line_text.kp
  obtain ⟨fd__law_joined, FD__law_joined⟩ := c.def_ 25 (d := d__law_joined) rfl
  have G__law_joined := ok__law_joined (P := P) (w := w) (base := base) KX G c FD__law_joined
  have b__law_joined : Binds K fd__law_joined ["_law_numbers"] [] := FD__law_joined.bindsN fun _ _ _ _ _ _ us hl => match us, hl with | [_], _ => rfl
  have kp__law_joined := FD__law_joined.kp
  unfold F__law_due
  exact fnK_ok FD sc__law_due fun cdv A outer s H E hr => by
    unfold B__law_due
    unfold L__law_due_1
    exact (cb_cons (cs_set (ps_set (i := 2) sc__law_due.nd rfl (by first | exact Or.inl rfl | exact Or.inr rfl) (ce_lst ca_nil)))
    (cb_cons (cs_set (ps_set (i := 3) sc__law_due.nd rfl (by first | exact Or.inl rfl | exact Or.inr rfl) (ce_callB ok_len (by rfl) (He.free_ok KX G (c.fact 31 rfl)) (by decide +kernel) (ca_cons (ce_ix (ce_var (pv 1)) ce_int (fun _ _ => rfl)) ca_nil))))
    (cb_cons (cs_set (ps_set (i := 4) sc__law_due.nd rfl (by first | exact Or.inl rfl | exact Or.inr rfl) (ce_callB ok_len (by rfl) (He.free_ok KX G (c.fact 31 rfl)) (by decide +kernel) (ca_cons (ce_ix (ce_ix (ce_var (pv 1)) ce_int (fun _ _ => rfl)) ce_int (fun _ _ => rfl)) ca_nil))))
    (cb_cons (cs_if (ct_cmp (ok_ne hr.units) (ce_tup (ca_cons (ce_callB ok_len (by rfl) (He.free_ok KX G (c.fact 31 rfl)) (by decide +kernel) (ca_cons (ce_ix (ce_var (pv 0)) ce_int (fun _ _ => rfl)) ca_nil)) (ca_cons (ce_callB ok_len (by rfl) (He.free_ok KX G (c.fact 31 rfl)) (by decide +kernel) (ca_cons (ce_ix (ce_ix (ce_var (pv 0)) ce_int (fun _ _ => rfl)) ce_int (fun _ _ => rfl)) ca_nil)) ca_nil))) (ce_tup (ca_cons (ce_var (pv 3)) (ca_cons (ce_var (pv 4)) ca_nil))) (nomark _))
    (cb_cons (cs_set (ps_set (i := 2) sc__law_due.nd rfl (by first | exact Or.inl rfl | exact Or.inr rfl) (ce_bin ok_add (ce_bin ok_add (ce_lst (ca_cons ce_int (ca_cons ce_int ca_nil))) (ce_call G__law_joined (hr.mono (by decide)) (by rfl) (He.glo_ok KX G (c.fact 25 rfl)) kp__law_joined b__law_joined (ca_cons (ce_lst (ca_cons ce_int (ca_cons (ce_var (pv 3)) (ca_cons (ce_var (pv 4)) ca_nil)))) ca_nil))) (ce_lst (ca_cons ce_int ca_nil)))))
    (cb_one (cs_set (ps_set (i := 0) sc__law_due.nd rfl (by first | exact Or.inl rfl | exact Or.inr rfl) (ce_call G_resized hr (by rfl) (He.glo_ok KX G (c.fact 7 rfl)) kp_resized b_resized (ca_cons (ce_var (pv 0)) (ca_cons (ce_var (pv 3)) (ca_cons (ce_var (pv 4)) ca_nil))))))))
    cb_nil)
    (cb_cons (cs_set (ps_set (i := 5) sc__law_due.nd rfl (by first | exact Or.inl rfl | exact Or.inr rfl) (ce_lst ca_nil)))
    (cb_cons (cs_set (ps_set (i := 6) sc__law_due.nd rfl (by first | exact Or.inl rfl | exact Or.inr rfl) (ce_tup ca_nil)))
    (cb_cons (cs_forK PassesOwn.never rfl (ci_rg1 (by rfl) (He.free_ok KX G (c.fact 38 rfl)) (ce_var (pv 3))) (cg_of (pg_name (i := 7) sc__law_due.nd rfl (by first | exact Or.inl rfl | exact Or.inr rfl)))
    (cb_one (cs_if (ct_cmp (ok_ne hr.units) (ce_ix (ce_ix (ce_var (pv 0)) ce_int (fun _ _ => rfl)) (ce_var (pv 7)) (fun _ _ => rfl)) (ce_ix (ce_ix (ce_var (pv 1)) ce_int (fun _ _ => rfl)) (ce_var (pv 7)) (fun _ _ => rfl)) (nomark _))
    (cb_cons (cs_asg (ps_asg (ce_call G__law_line_text hr (by rfl) (He.glo_ok KX G (c.fact 27 rfl)) kp__law_line_text b__law_line_text (ca_cons (ce_ix (ce_ix (ce_var (pv 0)) ce_int (fun _ _ => rfl)) (ce_var (pv 7)) (fun _ _ => rfl)) (ca_cons (ce_ix (ce_ix (ce_var (pv 1)) ce_int (fun _ _ => rfl)) (ce_var (pv 7)) (fun _ _ => rfl)) (ca_cons (ce_var (pv 7)) (ca_cons (ce_var (pv 6)) ca_nil))))) (cg_tup rfl (cgs_cons (cg_of (pg_name (i := 8) sc__law_due.nd rfl (by first | exact Or.inl rfl | exact Or.inr rfl))) (cgs_cons (cg_of (pg_name (i := 6) sc__law_due.nd rfl (by first | exact Or.inl rfl | exact Or.inr rfl))) cgs_nil)))))
    (cb_one (cs_set (ps_set (i := 5) sc__law_due.nd rfl (by first | exact Or.inl rfl | exact Or.inr rfl) (ce_bin ok_add (ce_var (pv 5)) (ce_var (pv 8)))))))
    cb_nil)))
    (cb_cons (cs_if (ct_truth (ce_var (pv 6)) (fun _ => rfl))
    (cb_one (cs_set (ps_set (i := 5) sc__law_due.nd rfl (by first | exact Or.inl rfl | exact Or.inr rfl) (ce_bin ok_add (ce_var (pv 5)) (ce_lst (ca_cons ce_int (ca_cons ce_int (ca_cons ce_int (ca_cons ce_int ca_nil)))))))))
    cb_nil)
    (cb_cons (cs_if (ct_cmp (ok_ne hr.units) (ce_ix (ce_var (pv 0)) ce_int (fun _ _ => rfl)) (ce_ix (ce_var (pv 1)) ce_int (fun _ _ => rfl)) (nomark _))
    (cb_one (cs_set (ps_set (i := 5) sc__law_due.nd rfl (by first | exact Or.inl rfl | exact Or.inr rfl) (ce_bin ok_add (ce_bin ok_add (ce_bin ok_add (ce_var (pv 5)) (ce_lst (ca_cons ce_int (ca_cons ce_int (ca_cons ce_int (ca_cons ce_int ca_nil)))))) (ce_callTy ok_list (by rfl) (He.free_ok KX G (c.fact 34 rfl)) (by decide +kernel) (ca_cons (ce_ix (ce_var (pv 1)) ce_int (fun _ _ => rfl)) ca_nil))) (ce_lst (ca_cons ce_int ca_nil))))))
    cb_nil)
    (cb_cons (cs_if (ct_cmp (ok_ne hr.units) (ce_ix (ce_var (pv 0)) ce_int (fun _ _ => rfl)) (ce_ix (ce_var (pv 1)) ce_int (fun _ _ => rfl)) (nomark _))
    (cb_one (cs_set (ps_set (i := 5) sc__law_due.nd rfl (by first | exact Or.inl rfl | exact Or.inr rfl) (ce_bin ok_add (ce_var (pv 5)) (ce_lst (ca_cons ce_int (ca_cons ce_int (ca_cons ce_int (ca_cons ce_int (ca_cons ce_int (ca_cons (ce_if (ct_truth (ce_ix (ce_var (pv 1)) ce_int (fun _ _ => rfl)) (fun _ => rfl)) ce_int ce_int) ca_nil)))))))))))
    cb_nil)
    (cb_cons (cs_if (ct_w (cw_or (ct_truth (ce_var (pv 5)) (fun _ => rfl)) (cw_or1 (ct_cmp (ok_ne hr.units) (ce_ix (ce_var (pv 0)) ce_int (fun _ _ => rfl)) (ce_ix (ce_var (pv 1)) ce_int (fun _ _ => rfl)) (nomark _)))))
    (cb_one (cs_set (ps_set (i := 5) sc__law_due.nd rfl (by first | exact Or.inl rfl | exact Or.inr rfl) (ce_bin ok_add (ce_bin ok_add (ce_bin ok_add (ce_var (pv 5)) (ce_lst (ca_cons ce_int (ca_cons ce_int ca_nil)))) (ce_call G__law_joined (hr.mono (by decide)) (by rfl) (He.glo_ok KX G (c.fact 25 rfl)) kp__law_joined b__law_joined (ca_cons (ce_lst (ca_cons (ce_bin ok_add (ce_ix (ce_ix (ce_var (pv 1)) ce_int (fun _ _ => rfl)) ce_int (fun _ _ => rfl)) ce_int) (ca_cons (ce_bin ok_add (ce_ix (ce_ix (ce_var (pv 1)) ce_int (fun _ _ => rfl)) ce_int (fun _ _ => rfl)) ce_int) ca_nil))) ca_nil))) (ce_lst (ca_cons ce_int ca_nil))))))
    cb_nil)
    (cb_one (cs_ret (ce_bin ok_add (ce_var (pv 2)) (ce_var (pv 5))))))))))))))))
theorem sc_law : FnScope ["_law_script", "_law_old", "_law_cell_here", "_law_draws_here", "_law_new"] ["_law_script"] (defScope s_law) := ⟨rfl, rfl, rfl, by decide +kernel, rfl, by decide +kernel, by decide +kernel⟩
theorem ok_law {P : Program} {w : World} {K : PySem.W.Frag} {h : Heap} {mg : Str → Option Value} {base : Heap} (KX : K.In h) (G : h.Ns mainGlobals mg) (c : SaysC fa fn cs K) {fd : FuncData} (FD : FunD K "law" "law" (defArgs s_law) (defBody s_law) (defScope s_law) [] [] (He.fAd K ("law", none)) fd) : FnOk P w K mg base CX0 7 (He.fAd K ("law", none)) fd ["_law_script"] (spF K F_law) := by
  obtain ⟨fd__law_screen, FD__law_screen⟩ := c.def_ 21 (d := d__law_screen) rfl
  have G__law_screen := ok__law_screen (P := P) (w := w) (base := base) KX G c FD__law_screen
  have b__law_screen : Binds K fd__law_screen ["_law_cell_here"] [] := FD__law_screen.bindsN fun _ _ _ _ _ _ us hl => match us, hl with | [_], _ => rfl
  have kp__law_screen := FD__law_screen.kp
  obtain ⟨fd__law_cell, FD__law_cell⟩ := c.def_ 15 (d := d__law_cell) rfl
  have G__law_cell := ok__law_cell (P := P) (w := w) (base := base) KX G c FD__law_cell
  have b__law_cell : Binds K fd__law_cell ["_law_script", "_law_k"] [] := FD__law_cell.bindsN fun _ _ _ _ _ _ us hl => match us, hl with | [_, _], _ => rfl
  have kp__law_cell := FD__law_cell.kp
  obtain ⟨fd__law_draws, FD__law_draws⟩ := c.def_ 16 (d := d__law_draws) rfl
  have G__law_draws := ok__law_draws (P := P) (w := w) (base := base) KX G c FD__law_draws
  have b__law_draws : Binds K fd__law_draws ["_law_cell_here", "_law_many"] [] := FD__law_draws.bindsN fun _ _ _ _ _ _ us hl => match us, hl with | [_, _], _ => rfl
  have kp__law_draws := FD__law_draws.kp
  obtain ⟨fd__law_changed, FD__law_changed⟩ := c.def_ 29 (d := d__law_changed) rfl
  have G__law_changed := ok__law_changed (P := P) (w := w) (base := base) KX G c FD__law_changed
  have b__law_changed : Binds K fd__law_changed ["_law_screen_here", "_law_draws_here"] [] := FD__law_changed.bindsN fun _ _ _ _ _ _ us hl => match us, hl with | [_, _], _ => rfl
  have kp__law_changed := FD__law_changed.kp
  obtain ⟨fd_difference, FD_difference⟩ := c.def_ 14 (d := d_difference) rfl
  have G_difference := ok_difference (P := P) (w := w) (base := base) KX G c FD_difference
  have b_difference : Binds K fd_difference ["old", "new"] [] := FD_difference.bindsN fun _ _ _ _ _ _ us hl => match us, hl with | [_, _], _ => rfl
  have kp_difference := FD_difference.kp
  obtain ⟨fd__law_due, FD__law_due⟩ := c.def_ 28 (d := d__law_due) rfl
  have G__law_due := ok__law_due (P := P) (w := w) (base := base) KX G c FD__law_due
  have b__law_due : Binds K fd__law_due ["_law_old", "_law_new"] [] := FD__law_due.bindsN fun _ _ _ _ _ _ us hl => match us, hl with | [_, _], _ => rfl
  have kp__law_due := FD__law_due.kp
  unfold F_law
  exact fnK_ok FD sc_law fun cdv A outer s H E hr => by
    unfold B_law
    unfold L_law_1
    exact (cb_cons (cs_set (ps_set (i := 1) sc_law.nd rfl (by first | exact Or.inl rfl | exact Or.inr rfl) (ce_call G__law_screen (hr.mono (by decide)) (by rfl) (He.glo_ok KX G (c.fact 21 rfl)) kp__law_screen b__law_screen (ca_cons (ce_call G__law_cell (hr.mono (by decide)) (by rfl) (He.glo_ok KX G (c.fact 15 rfl)) kp__law_cell b__law_cell (ca_cons (ce_var (pv 0)) (ca_cons ce_int ca_nil))) ca_nil))))
    (cb_cons (cs_forK PassesOwn.never rfl (ci_seq (ce_sl (ce_var (pv 0)) (co_some ce_int) co_none)) (cg_of (pg_name (i := 2) sc_law.nd rfl (by first | exact Or.inl rfl | exact Or.inr rfl)))
    (cb_cons (cs_set (ps_set (i := 3) sc_law.nd rfl (by first | exact Or.inl rfl | exact Or.inr rfl) (ce_call G__law_draws (hr.mono (by decide)) (by rfl) (He.glo_ok KX G (c.fact 16 rfl)) kp__law_draws b__law_draws (ca_cons (ce_var (pv 2)) (ca_cons ce_int ca_nil)))))
    (cb_cons (cs_set (ps_set (i := 4) sc_law.nd rfl (by first | exact Or.inl rfl | exact Or.inr rfl) (ce_if (ct_cmp (ok_eq hr.units) (ce_bin ok_mod (ce_ix (ce_var (pv 3)) ce_int (fun _ _ => rfl)) ce_int) ce_int (nomark _)) (ce_call G__law_screen (hr.mono (by decide)) (by rfl) (He.glo_ok KX G (c.fact 21 rfl)) kp__law_screen b__law_screen (ca_cons (ce_var (pv 2)) ca_nil)) (ce_call G__law_changed (hr.mono (by decide)) (by rfl) (He.glo_ok KX G (c.fact 29 rfl)) kp__law_changed b__law_changed (ca_cons (ce_var (pv 1)) (ca_cons (ce_var (pv 3)) ca_nil))))))
    (cb_cons (cs_if (ct_cmp (ok_ne hr.units) (ce_call G_difference hr (by rfl) (He.glo_ok KX G (c.fact 14 rfl)) kp_difference b_difference (ca_cons (ce_var (pv 1)) (ca_cons (ce_var (pv 4)) ca_nil))) (ce_call G__law_due (hr.mono (by decide)) (by rfl) (He.glo_ok KX G (c.fact 28 rfl)) kp__law_due b__law_due (ca_cons (ce_var (pv 1)) (ca_cons (ce_var (pv 4)) ca_nil))) (nomark _))
    (cb_one (cs_ret ce_bl))
    cb_nil)
    (cb_one (cs_set (ps_set (i := 1) sc_law.nd rfl (by first | exact Or.inl rfl | exact Or.inr rfl) (ce_var (pv 4)))))))))
    (cb_one (cs_ret ce_bl))))
abbrev R : PySem.W.OpenRow := PySem.W.OpenLaw.row PySem.Challenge.rw_fardesk_k21_differences_by_the_letter
abbrev hk : PySem.W.Hook := hookC 5 fa fn cs
def ob (s : PySem.W.SharedT) : AlC := obsC 5 fa fn cs (HandSHeadRun.getT s)
theorem ob_eq (s : PySem.W.SharedT) : ob s = hk.obs s.abs := obsC_eq (HandSHeadRun.getT_eq s)
def loose : List Str := (["codes", "digits", "style_text", "BLANK", "blank_line", "cut_at", "fitted", "fitted_lines", "resized", "sequence", "style_sequence", "differing_columns", "end_of", "line_difference", "lines_difference", "difference", "_law_cell", "_law_draws", "_law_size", "_law_glyph", "_law_style", "_law_line", "_law_screen", "_law_marked", "_law_whole", "_law_digits", "_law_joined", "_law_styled", "_law_line_text", "_law_due", "_law_changed"] : List PySem.Str)
theorem run (w : World) : HandSHeadRun.RunEq R (PySem.W.view R.prog [37]) hk ob 20000 loose w := by
  intro os
  kernel_rfl
theorem facts {P : Program} {w : World} {K : PySem.W.Frag} {h : Heap} {mg : Str → Option Value} {f : Addr} (X : K.In h) (G : h.Ns mainGlobals mg) (hfa : mg ("law" : Str) = some (.ref f)) (c : SaysC fa fn cs K) :
    ∃ fd : FuncData, (∀ (s : Shared) (v : Value), BindsTo s fd ⟨[v], []⟩ [("_law_script", v)]) ∧ ∀ base : Heap, K.In base → base.Ns mainGlobals mg → FnOk P w K mg base CX0 7 f fd ["_law_script"] (spF K F_law) := by
  obtain ⟨fd, FD⟩ := c.def_ 30 (d := d_law) rfl
  have e := hfa.symm.trans (He.glo_ok X G (c.fact 30 rfl))
  cases e
  have b := FunD.bindsA (ps := ["_law_script"]) FD fun _ _ _ _ _ _ us hl => match us, hl with | [_], _ => rfl
  exact ⟨fd, fun s v => b s [v] rfl, fun base _ _ => ok_law X G c FD⟩
end K21
open PySem PySem.W PySem.Calls PyProof.Rows
theorem PySem.Challenge.cw_fardesk_k21_differences_by_the_letter_holds : PySem.Challenge.rw_fardesk_k21_differences_by_the_letter.Holds := by
  w_on; o_law
  refine HandSHeadRun.head_any (r := OpenLaw.row PySem.Challenge.rw_fardesk_k21_differences_by_the_letter) (q := view (OpenLaw.row PySem.Challenge.rw_fardesk_k21_differences_by_the_letter).prog [37]) (H := K21.hk) (ob := K21.ob) (M := 20000) (loose := K21.loose) (d := HandSHeadRun.topDef (OpenLaw.row PySem.Challenge.rw_fardesk_k21_differences_by_the_letter).prog 37) (kwd := []) K21.ob_eq
    (by kernel_rfl) (fun s => by kernel_rfl) K21.run (by kernel_rfl) (by kernel_rfl) (by kernel_rfl) (by rfl) (by first | assumption | decide +kernel) (by decide +kernel) ⟨rfl, rfl, rfl, rfl, rfl, by decide +kernel⟩ ?hw ?hc
  case hw => w_witness2
  case hc =>
    refine L2.walk_ofE (l := PySem.Challenge.rw_fardesk_k21_differences_by_the_letter) (n := 63) (k := 7) (x := "_law_script") (CX := L2.CX0) rfl (by decide) (by kernel_rfl) ⟨rfl, by decide, by decide⟩ ?F (fun _ _ _ _ z => z)
    intro w mg fa h Y G hmg0
    obtain ⟨K, KX, c⟩ := Y
    have hmg : mg ("law" : PySem.Str) = some (.ref fa) := by
      have e : (HandSHeadRun.topDef (OpenLaw.row PySem.Challenge.rw_fardesk_k21_differences_by_the_letter).prog 37).name = ("law" : PySem.Str) := by kernel_rfl
      rw [← e]
      exact hmg0
    obtain ⟨fd, hb, hF⟩ := K21.facts (P := (PySem.Challenge.rw_fardesk_k21_differences_by_the_letter).prog) (w := w) KX G hmg c
    exact ⟨K, fd, _, KX, hb, CI.law_sp K21.law_true, hF⟩
