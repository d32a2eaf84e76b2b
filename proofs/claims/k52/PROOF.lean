import PyProof.Rows.All
import Wide.All
import OpenK.AllK
import Wide.FinOn
import KE.KStateDown
import Lean
import HandS.ForMost
import HandS.WordsExc
import HandS.Defaults
import HandS.Head0
import HandS.Head1
import HandS.Head2
import HandS.HeadEnd
import HandS.HeadHook1
import HandS.HeadHook2
import HandS.TupAny
import HandS.Style
import HandS.Conv
import HandS.IsInst
import HandS.SortInts
import HandS.Star
import HandS.TupMul
import HandS.Iter
import HandS.Text
import HandS.Sort
import KE.KIntText
import HandS.SetFor
import HandS.Flow
import HandS.ExcInit
import HandS.ExcField
import HandS.ExcOwn
import HandS.TryOnly
import HandS.Deep
import KE.DataFind
import HandS.SetBool
import HandS.Strs
import PySem.Challenge.RW_fardesk_k52_delivering_in_order
set_option Elab.async false
set_option linter.all false
set_option maxRecDepth 100000
set_option maxHeartbeats 0

/-! Ci1: values as trees, objects by numbers, what represents them -/
namespace CI
open PySem PySem.Spec PyProof.Rows L2

inductive D where
  | non | bl (b : Bool) | int (i : Int) | str (x : Str) | tup (ds : List D) | lst (ds : List D) | scr (ns : List Int) | loc (k : Nat)
inductive O where
  | lst (ds : List D) | ins (c : Str) (fs : List (Str × D)) | dct (kvs : List (Key × D))
abbrev Mem := List O
abbrev Slots := List (Option D)
/-- a result: a value, or a list that nobody else holds -/
inductive Rz where
  | val (d : D) | new (ds : List D)
def Rz.d : Rz → D
  | .val d => d
  | .new ds => .lst ds

/-- a list that never changes: frozen, or of the written part -/
def SqS (K : PySem.W.Frag) (H : Hp) (a : Addr) (xs : List V) : Prop := (∃ o, H a = some (.frz o (.lst xs))) ∨
  ∃ (o : Obj) (its : Array Value) (n : Nat), K.lookup a = some o ∧ o.cls = .type "list" ∧ o.dict = none ∧ o.data = .seq its n ∧ its.size ≤ sizeLine ∧ Vals xs its.toList
theorem SqS.l {K : PySem.W.Frag} {H : Hp} {a : Addr} {xs : List V} (h : SqS K H a xs) : SqL K H a xs := h.elim (fun h => .inl (.inr h)) .inr
mutual
def Rl (K : PySem.W.Frag) (H : Hp) (m : List Addr) : D → V → Prop
  | .non, v => v = .non
  | .bl b, v => v = .bl b
  | .int i, v => v = .int i
  | .str x, v => v = .str x
  | .tup ds, v => ∃ a vs, v = .ref a ∧ SqT K H a vs ∧ Rls K H m ds vs
  | .lst ds, v => ∃ a vs, v = .ref a ∧ a ∉ m ∧ H a = some (.lst vs) ∧ Rls K H m ds vs
  | .scr ns, v => ∃ a, v = .ref a ∧ SqS K H a (ns.map V.int)
  | .loc k, v => ∃ a, v = .ref a ∧ m[k]? = some a
def Rls (K : PySem.W.Frag) (H : Hp) (m : List Addr) : List D → List V → Prop
  | [], vs => vs = []
  | d :: ds, vs => ∃ v r, vs = v :: r ∧ Rl K H m d v ∧ Rls K H m ds r
end
def Rfs (K : PySem.W.Frag) (H : Hp) (m : List Addr) : List (Str × D) → List (Str × V) → Prop
  | [], gs => gs = []
  | (f, d) :: fs, gs => ∃ v r, gs = (f, v) :: r ∧ Rl K H m d v ∧ Rfs K H m fs r
def Rks (K : PySem.W.Frag) (H : Hp) (m : List Addr) : List (Key × D) → List (Key × V) → Prop
  | [], gs => gs = []
  | (f, d) :: fs, gs => ∃ v r, gs = (f, v) :: r ∧ Rl K H m d v ∧ Rks K H m fs r
def Ro (K : PySem.W.Frag) (H : Hp) (m : List Addr) (a : Addr) : O → Prop
  | .lst ds => ∃ vs, H a = some (.lst vs) ∧ Rls K H m ds vs
  | .ins c fs => ∃ dx gs, H a = some (.ins (He.ga K c) dx gs) ∧ Rfs K H m fs gs
  | .dct kvs => ∃ gs, H a = some (.dK gs) ∧ Rks K H m kvs gs

structure Ext (H : Hp) (m : List Addr) (H' : Hp) (m' : List Addr) : Prop where
  tup : ∀ a xs, H a = some (.tup xs) → H' a = some (.tup xs)
  frz : ∀ a o u, H a = some (.frz o u) → H' a = some (.frz o u)
  oth : ∀ a u, a ∉ m → H a = some u → H' a = some u
  trk : ∀ a, H' a = none → H a = none
  pre : ∃ l, m' = m ++ l ∧ ∀ a ∈ l, H a = none
structure Wd (K : PySem.W.Frag) (H : Hp) (m : List Addr) (M : Mem) : Prop where
  len : m.length = M.length
  nd : m.Nodup
  at_ : ∀ (k : Nat) (a : Addr) (o : O), m[k]? = some a → M[k]? = some o → Ro K H m a o
def Rs (K : PySem.W.Frag) (H : Hp) (m : List Addr) (ρ : Slots) (σ : L2.St) : Prop :=
  ρ.length = σ.length ∧ ∀ (i : Nat) (d : D), ρ[i]? = some (some d) → ∃ v, σ[i]? = some (some v) ∧ Rl K H m d v

section
variable {K : PySem.W.Frag} {H H1 H2 H' : Hp} {m m1 m2 m' : List Addr} {M M1 : Mem} {a p : Addr}
theorem Ext.lst (e : Ext H m H1 m1) (a : Addr) (xs : List V) (n : a ∉ m) (h : H a = some (.lst xs)) : H1 a = some (.lst xs) := e.oth a _ n h
theorem Ext.refl : Ext H m H m := ⟨fun _ _ h => h, fun _ _ _ h => h, fun _ _ _ h => h, fun _ h => h, [], by simp, fun _ h => nomatch h⟩
theorem Ext.notin (e : Ext H m H1 m1) {o : HO} (h : H a = some o) (n : a ∉ m) : a ∉ m1 := by
  obtain ⟨l, rfl, hl⟩ := e.pre
  intro q
  rcases List.mem_append.mp q with q | q
  · exact n q
  · rw [hl a q] at h; cases h
theorem Ext.trans (e : Ext H m H1 m1) (e' : Ext H1 m1 H2 m2) : Ext H m H2 m2 := by
  refine ⟨fun a xs h => e'.tup a xs (e.tup a xs h), fun a o u h => e'.frz a o u (e.frz a o u h), fun a u n h => e'.oth a u (e.notin h n) (e.oth a u n h), fun a h => e.trk a (e'.trk a h), ?_⟩
  obtain ⟨l, rfl, hl⟩ := e.pre
  obtain ⟨l', rfl, hl'⟩ := e'.pre
  exact ⟨l ++ l', by rw [List.append_assoc], fun a q => (List.mem_append.mp q).elim (hl a) fun q => e.trk a (hl' a q)⟩
/-- a new object -/
theorem Ext.new {o : HO} (n : H p = none) : Ext H m (upd H p o) m := by
  have ne : ∀ a u, H a = some u → a ≠ p := fun a u h => ne_of_none h n
  refine ⟨fun a xs h => by rw [upd_ne (ne a _ h)]; exact h, fun a o u h => by rw [upd_ne (ne a _ h)]; exact h, fun a xs _ h => by rw [upd_ne (ne a _ h)]; exact h, fun a h => ?_, [], by simp, fun _ h => nomatch h⟩
  by_cases q : a = p
  · rw [q]; exact n
  · rw [upd_ne q] at h; exact h
/-- an own object is changed -/
theorem Ext.set {o u : HO} (h : H p = some u) (hm : p ∈ m) (nt : ∀ xs, u ≠ .tup xs) (nf : ∀ o u', u ≠ .frz o u') : Ext H m (upd H p o) m := by
  refine ⟨fun a xs q => ?_, fun a o u' q => ?_, fun a xs n q => ?_, fun a q => ?_, [], by simp, fun _ h => nomatch h⟩
  · rw [upd_ne (fun z => by subst z; rw [h] at q; cases q; exact nt xs rfl)]; exact q
  · rw [upd_ne (fun z => by subst z; rw [h] at q; cases q; exact nf _ _ rfl)]; exact q
  · rw [upd_ne (fun z => n (by rw [z]; exact hm))]; exact q
  · by_cases z : a = p
    · rw [z, upd_same] at q; cases q
    · rw [upd_ne z] at q; exact q
theorem Ext.get (e : Ext H m H1 m1) {k : Nat} (h : m[k]? = some a) : m1[k]? = some a := by
  obtain ⟨l, rfl, _⟩ := e.pre
  obtain ⟨h1, _⟩ := List.getElem?_eq_some_iff.mp h
  rw [List.getElem?_append_left h1]; exact h
theorem sqT_ext (e : Ext H m H1 m1) {vs : List V} (h : SqT K H a vs) : SqT K H1 a vs := by
  rcases h with (h | ⟨o, h⟩) | h
  · exact .inl (.inl (e.tup _ _ h))
  · exact .inl (.inr ⟨o, e.frz _ _ _ h⟩)
  · exact .inr h
mutual
theorem Rl.ext (e : Ext H m H1 m1) : ∀ {d : D} {v : V}, Rl K H m d v → Rl K H1 m1 d v
  | .non, _, h => h
  | .bl _, _, h => h
  | .int _, _, h => h
  | .str _, _, h => h
  | .tup ds, _, h => by
    rw [Rl] at h ⊢
    obtain ⟨a, vs, r, s, t⟩ := h
    exact ⟨a, vs, r, sqT_ext e s, Rls.ext e t⟩
  | .lst ds, _, h => by
    rw [Rl] at h ⊢
    obtain ⟨a, vs, r, n, s, t⟩ := h
    exact ⟨a, vs, r, e.notin s n, e.lst _ _ n s, Rls.ext e t⟩
  | .scr ns, _, h => by
    rw [Rl] at h ⊢
    obtain ⟨a, r, s⟩ := h
    exact ⟨a, r, s.imp (fun ⟨o, s⟩ => ⟨o, e.frz _ _ _ s⟩) id⟩
  | .loc k, _, h => by
    rw [Rl] at h ⊢
    obtain ⟨a, r, s⟩ := h
    exact ⟨a, r, e.get s⟩
theorem Rls.ext (e : Ext H m H1 m1) : ∀ {ds : List D} {vs : List V}, Rls K H m ds vs → Rls K H1 m1 ds vs
  | [], _, h => by rw [Rls] at h ⊢; exact h
  | d :: ds, _, h => by
    rw [Rls] at h ⊢
    obtain ⟨v, r, q, h1, h2⟩ := h
    exact ⟨v, r, q, Rl.ext e h1, Rls.ext e h2⟩
end
theorem Rfs.ext (e : Ext H m H1 m1) : ∀ {fs : List (Str × D)} {gs : List (Str × V)}, Rfs K H m fs gs → Rfs K H1 m1 fs gs
  | [], _, h => h
  | (f, d) :: fs, _, h => by
    obtain ⟨v, r, q, h1, h2⟩ := h
    exact ⟨v, r, q, Rl.ext e h1, Rfs.ext e h2⟩
theorem Rks.ext (e : Ext H m H1 m1) : ∀ {fs : List (Key × D)} {gs : List (Key × V)}, Rks K H m fs gs → Rks K H1 m1 fs gs
  | [], _, h => h
  | (f, d) :: fs, _, h => by
    obtain ⟨v, r, q, h1, h2⟩ := h
    exact ⟨v, r, q, Rl.ext e h1, Rks.ext e h2⟩
theorem Ro.ext (e : Ext H m H1 m1) {o : O} (hs : H1 a = H a) (h : Ro K H m a o) : Ro K H1 m1 a o := by
  cases o with
  | lst ds => obtain ⟨vs, h1, h2⟩ := h; exact ⟨vs, hs.trans h1, h2.ext e⟩
  | ins c fs => obtain ⟨dx, gs, h1, h2⟩ := h; exact ⟨dx, gs, hs.trans h1, h2.ext e⟩
  | dct kvs => obtain ⟨gs, h1, h2⟩ := h; exact ⟨gs, hs.trans h1, h2.ext e⟩
theorem Ro.there {o : O} (h : Ro K H m a o) : ∃ u, H a = some u ∧ (∀ xs, u ≠ .tup xs) ∧ ∀ o' u', u ≠ .frz o' u' := by
  cases o with
  | lst ds => obtain ⟨vs, h1, h2⟩ := h; exact ⟨_, h1, (by intro _ z; cases z), (by intro _ _ z; cases z)⟩
  | ins c fs => obtain ⟨dx, gs, h1, h2⟩ := h; exact ⟨_, h1, (by intro _ z; cases z), (by intro _ _ z; cases z)⟩
  | dct kvs => obtain ⟨gs, h1, h2⟩ := h; exact ⟨_, h1, (by intro _ z; cases z), (by intro _ _ z; cases z)⟩
theorem Wd.there (w : Wd K H m M) (h : a ∈ m) : ∃ u, H a = some u ∧ (∀ xs, u ≠ .tup xs) ∧ ∀ o' u', u ≠ .frz o' u' := by
  obtain ⟨k, hk, e⟩ := List.mem_iff_getElem.mp h
  have h2 : k < M.length := by rw [← w.len]; exact hk
  exact (w.at_ k a M[k] (by rw [List.getElem?_eq_getElem hk, e]) (List.getElem?_eq_getElem h2)).there
theorem Wd.fresh (w : Wd K H m M) (n : H p = none) : p ∉ m := fun h => by
  obtain ⟨u, q, _⟩ := w.there h
  rw [n] at q; cases q
theorem Wd.same (w : Wd K H m M) (e : Ext H m H1 m) (hs : ∀ a ∈ m, H1 a = H a) : Wd K H1 m M :=
  ⟨w.len, w.nd, fun k a o h1 h2 => (w.at_ k a o h1 h2).ext e (hs a (List.mem_of_getElem? h1))⟩
theorem Wd.new {o : HO} (w : Wd K H m M) (n : H p = none) : Wd K (upd H p o) m M :=
  w.same (.new n) fun a h => upd_ne fun z => w.fresh n (z ▸ h)
theorem nodup_at {m : List Addr} (nd : m.Nodup) {i j : Nat} (a : m[i]? = some p) (b : m[j]? = some p) : i = j := by
  obtain ⟨h1, e1⟩ := List.getElem?_eq_some_iff.mp a
  obtain ⟨h2, e2⟩ := List.getElem?_eq_some_iff.mp b
  exact (List.getElem_inj nd).mp (e1.trans e2.symm)
/-- the object k is changed -/
theorem Wd.set {k : Nat} {o : O} {u : HO} (w : Wd K H m M) (hk : m[k]? = some p) (h : Ro K (upd H p u) m p o) : Wd K (upd H p u) m (M.set k o) := by
  obtain ⟨v, hv, nt, nf⟩ := w.there (List.mem_of_getElem? hk)
  have e : Ext H m (upd H p u) m := .set hv (List.mem_of_getElem? hk) nt nf
  refine ⟨by rw [List.length_set]; exact w.len, w.nd, fun j a o' h1 h2 => ?_⟩
  by_cases q : j = k
  · subst q
    rw [hk] at h1; cases h1
    obtain ⟨z, _⟩ := List.getElem?_eq_some_iff.mp h2
    rw [List.length_set] at z
    rw [List.getElem?_set_self z] at h2
    cases h2; exact h
  · rw [List.getElem?_set_ne (Ne.symm q)] at h2
    exact (w.at_ j a o' h1 h2).ext e (upd_ne fun z => q (nodup_at w.nd (z ▸ h1) hk))
theorem Wd.ext_set {k : Nat} {u : HO} (w : Wd K H m M) (hk : m[k]? = some p) : Ext H m (upd H p u) m := by
  obtain ⟨v, hv, nt, nf⟩ := w.there (List.mem_of_getElem? hk)
  exact .set hv (List.mem_of_getElem? hk) nt nf
theorem Wd.get (w : Wd K H m M) {k : Nat} {o : O} (h : M[k]? = some o) : ∃ a, m[k]? = some a ∧ Ro K H m a o := by
  obtain ⟨h1, _⟩ := List.getElem?_eq_some_iff.mp h
  have h2 : k < m.length := by rw [w.len]; exact h1
  exact ⟨m[k], List.getElem?_eq_getElem h2, w.at_ k _ o (List.getElem?_eq_getElem h2) h⟩
/-- a new own object -/
theorem Wd.push {o : O} {u : HO} (w : Wd K H m M) (n : H p = none) (h : Ro K (upd H p u) (m ++ [p]) p o) : Wd K (upd H p u) (m ++ [p]) (M ++ [o]) ∧ Ext H m (upd H p u) (m ++ [p]) := by
  have hp := w.fresh n
  have e1 : Ext H m (upd H p u) m := .new n
  have e : Ext H m (upd H p u) (m ++ [p]) := ⟨e1.tup, e1.frz, e1.oth, e1.trk, [p], rfl, fun a q => by simp at q; rw [q]; exact n⟩
  refine ⟨⟨by simp [w.len], ?_, fun k a o' h1 h2 => ?_⟩, e⟩
  · rw [List.nodup_append]
    exact ⟨w.nd, by simp, fun a ha b hb z => by simp at hb; subst hb; exact hp (z ▸ ha)⟩
  · by_cases q : k < m.length
    · rw [List.getElem?_append_left q] at h1
      rw [List.getElem?_append_left (by rw [← w.len]; exact q)] at h2
      exact (w.at_ k a o' h1 h2).ext e (upd_ne fun z => hp (z ▸ List.mem_of_getElem? h1))
    · have hk : k = m.length := by
        obtain ⟨z, _⟩ := List.getElem?_eq_some_iff.mp h1
        simp at z; omega
      subst hk
      rw [List.getElem?_append_right (Nat.le_refl _)] at h1
      rw [w.len, List.getElem?_append_right (Nat.le_refl _)] at h2
      simp at h1 h2
      subst h1 h2
      exact h
theorem Rs.ext (e : Ext H m H1 m1) {ρ : Slots} {σ : L2.St} (h : Rs K H m ρ σ) : Rs K H1 m1 ρ σ :=
  ⟨h.1, fun i d q => let ⟨v, a, b⟩ := h.2 i d q; ⟨v, a, b.ext e⟩⟩
theorem Rs.set {ρ : Slots} {σ : L2.St} {d : D} {v : V} (h : Rs K H m ρ σ) (r : Rl K H m d v) (i : Nat) : Rs K H m (ρ.set i (some d)) (σ.set i (some v)) := by
  refine ⟨by simp [h.1], fun j e q => ?_⟩
  by_cases z : j = i
  · subst z
    obtain ⟨z, _⟩ := List.getElem?_eq_some_iff.mp q
    rw [List.length_set] at z
    rw [List.getElem?_set_self z] at q
    cases q
    exact ⟨v, List.getElem?_set_self (by rw [← h.1]; exact z), r⟩
  · rw [List.getElem?_set_ne (Ne.symm z)] at q
    rw [List.getElem?_set_ne (Ne.symm z)]
    exact h.2 j e q
theorem Rls.length : ∀ {ds : List D} {vs : List V}, Rls K H m ds vs → ds.length = vs.length
  | [], _, h => by rw [Rls] at h; subst h; rfl
  | d :: ds, _, h => by
    rw [Rls] at h
    obtain ⟨v, r, rfl, _, h2⟩ := h
    simp [h2.length]
theorem Rls.get : ∀ {ds : List D} {vs : List V}, Rls K H m ds vs → ∀ {i : Nat} {d : D}, ds[i]? = some d → ∃ v, vs[i]? = some v ∧ Rl K H m d v
  | [], _, h, i, d, q => by simp at q
  | e :: ds, _, h, i, d, q => by
    rw [Rls] at h
    obtain ⟨v, r, rfl, h1, h2⟩ := h
    cases i with
    | zero => simp at q; subst q; exact ⟨v, rfl, h1⟩
    | succ i => simpa using Rls.get h2 (i := i) (d := d) (by simpa using q)
theorem Rls.append : ∀ {ds es : List D} {vs ws : List V}, Rls K H m ds vs → Rls K H m es ws → Rls K H m (ds ++ es) (vs ++ ws)
  | [], _, _, _, h, g => by rw [Rls] at h; subst h; exact g
  | d :: ds, _, _, _, h, g => by
    rw [Rls] at h
    obtain ⟨v, r, rfl, h1, h2⟩ := h
    show Rls K H m (d :: (ds ++ _)) (v :: (r ++ _))
    rw [Rls]
    exact ⟨v, _, rfl, h1, h2.append g⟩
theorem Rls.take : ∀ {ds : List D} {vs : List V} (n : Nat), Rls K H m ds vs → Rls K H m (ds.take n) (vs.take n)
  | _, _, 0, _ => by simp [Rls]
  | [], _, n + 1, h => by rw [Rls] at h; subst h; simp [Rls]
  | d :: ds, _, n + 1, h => by
    rw [Rls] at h
    obtain ⟨v, r, rfl, h1, h2⟩ := h
    show Rls K H m (d :: ds.take n) (v :: r.take n)
    rw [Rls]
    exact ⟨v, _, rfl, h1, h2.take n⟩
theorem Rls.drop : ∀ {ds : List D} {vs : List V} (n : Nat), Rls K H m ds vs → Rls K H m (ds.drop n) (vs.drop n)
  | _, _, 0, h => by simpa using h
  | [], _, n + 1, h => by rw [Rls] at h; subst h; simp [Rls]
  | d :: ds, _, n + 1, h => by
    rw [Rls] at h
    obtain ⟨v, r, rfl, h1, h2⟩ := h
    exact h2.drop n
theorem Rls.one {d : D} {vs : List V} (h : Rls K H m [d] vs) : ∃ v, vs = [v] ∧ Rl K H m d v := by
  rw [Rls] at h
  obtain ⟨v, r, rfl, h1, h2⟩ := h
  rw [Rls] at h2
  subst h2
  exact ⟨v, rfl, h1⟩
theorem Rls.two {d e : D} {vs : List V} (h : Rls K H m [d, e] vs) : ∃ v w, vs = [v, w] ∧ Rl K H m d v ∧ Rl K H m e w := by
  rw [Rls] at h
  obtain ⟨v, r, rfl, h1, h2⟩ := h
  obtain ⟨w, rfl, h3⟩ := h2.one
  exact ⟨v, w, rfl, h1, h3⟩
theorem Rls.ints : ∀ {ns : List Int}, Rls K H m (ns.map D.int) (ns.map V.int)
  | [] => by simp [Rls]
  | n :: ns => by
    show Rls K H m (D.int n :: ns.map D.int) (V.int n :: ns.map V.int)
    rw [Rls]
    exact ⟨_, _, rfl, by rw [Rl], Rls.ints⟩
theorem Rls.set : ∀ {ds : List D} {vs : List V} {d : D} {v : V} (i : Nat), Rls K H m ds vs → Rl K H m d v → Rls K H m (ds.set i d) (vs.set i v)
  | [], _, _, _, _, h, _ => by rw [Rls] at h; subst h; simp [Rls]
  | e :: ds, _, d, v, 0, h, g => by
    rw [Rls] at h
    obtain ⟨w, r, rfl, h1, h2⟩ := h
    show Rls K H m (d :: ds) (v :: r)
    rw [Rls]
    exact ⟨_, _, rfl, g, h2⟩
  | e :: ds, _, d, v, i + 1, h, g => by
    rw [Rls] at h
    obtain ⟨w, r, rfl, h1, h2⟩ := h
    show Rls K H m (e :: ds.set i d) (w :: r.set i v)
    rw [Rls]
    exact ⟨_, _, rfl, h1, h2.set i g⟩
theorem Rls.eraseIdx : ∀ {ds : List D} {vs : List V} (i : Nat), Rls K H m ds vs → Rls K H m (ds.eraseIdx i) (vs.eraseIdx i)
  | [], _, _, h => by rw [Rls] at h; subst h; simp [Rls]
  | e :: ds, _, 0, h => by
    rw [Rls] at h
    obtain ⟨w, r, rfl, h1, h2⟩ := h
    exact h2
  | e :: ds, _, i + 1, h => by
    rw [Rls] at h
    obtain ⟨w, r, rfl, h1, h2⟩ := h
    show Rls K H m (e :: ds.eraseIdx i) (w :: r.eraseIdx i)
    rw [Rls]
    exact ⟨_, _, rfl, h1, h2.eraseIdx i⟩
theorem Rfs.lookup {f : Str} {d : D} : ∀ {fs : List (Str × D)} {gs : List (Str × V)}, Rfs K H m fs gs → fs.lookup f = some d → ∃ v, gs.lookup f = some v ∧ Rl K H m d v
  | [], _, h, q => by simp at q
  | (g, e) :: fs, _, h, q => by
    obtain ⟨v, r, rfl, h1, h2⟩ := h
    rw [List.lookup_cons] at q ⊢
    by_cases z : f == g
    · simp [z] at q ⊢; subst q; exact h1
    · simp [z] at q ⊢; exact h2.lookup q
theorem Rfs.length : ∀ {fs : List (Str × D)} {gs : List (Str × V)}, Rfs K H m fs gs → fs.length = gs.length
  | [], _, h => by cases h; rfl
  | (g, e) :: fs, _, h => by
    obtain ⟨v, r, rfl, h1, h2⟩ := h
    simp [h2.length]
end
end CI

/-! H1: the head's Hook: constants and dicts of the module's top -/
namespace CI
open PySem PySem.Spec PyProof.Rows L2
/-! ### constants of the module: ints, texts, None, truth values, tuples of such -/
mutual
def cv (K : PySem.W.Frag) : D → Value → Bool
  | .non, .none => true
  | .bl b, .bool c => b == c
  | .int i, .int j _ => decide (i = j)
  | .str x, .str y _ => decide (x = y)
  | .tup ds, .ref a => match K.lookup a with
    | some ⟨.type c, _, .seq its _, _⟩ => decide (c = "tuple") && (decide (its.size ≤ sizeLine) && cvs K ds its.toList)
    | _ => false
  | _, _ => false
def cvs (K : PySem.W.Frag) : List D → List Value → Bool
  | [], [] => true
  | d :: ds, v :: vs => cv K d v && cvs K ds vs
  | _, _ => false
end
mutual
theorem cv_ok {K : PySem.W.Frag} : ∀ {d : D} {v : Value}, cv K d v = true → ∃ x, RelV x v ∧ ∀ H m, Rl K H m d x
  | .non, v, h => by
    cases v <;> first | (simp [cv] at h; done) | exact ⟨.non, rfl, fun _ _ => by rw [Rl]⟩
  | .bl b, v, h => by
    cases v <;> first | (simp [cv] at h; done) | (simp [cv] at h; subst h; exact ⟨.bl b, rfl, fun _ _ => by rw [Rl]⟩)
  | .int b, v, h => by
    cases v <;> first | (simp [cv] at h; done) | (simp [cv] at h; subst h; exact ⟨.int b, ⟨_, rfl⟩, fun _ _ => by rw [Rl]⟩)
  | .str b, v, h => by
    cases v <;> first | (simp [cv] at h; done) | (simp [cv] at h; subst h; exact ⟨.str b, ⟨_, rfl⟩, fun _ _ => by rw [Rl]⟩)
  | .tup ds, v, h => by
    cases v with
    | ref a =>
      rw [cv] at h
      split at h
      · rename_i c dd its n sl hk
        rw [Bool.and_eq_true, Bool.and_eq_true] at h
        obtain ⟨h1, h2, h3⟩ := h
        obtain ⟨vs, r1, r2⟩ := cvs_ok h3
        refine ⟨.ref a, rfl, fun H m => ?_⟩
        rw [Rl]
        exact ⟨a, vs, rfl, .inr ⟨_, its, n, hk, congrArg Value.type (of_decide_eq_true h1), rfl, of_decide_eq_true h2, r1⟩, r2 H m⟩
      · cases h
    | _ => simp [cv] at h
  | .lst _, v, h => by cases v <;> simp [cv] at h
  | .scr _, v, h => by cases v <;> simp [cv] at h
  | .loc _, v, h => by cases v <;> simp [cv] at h
theorem cvs_ok {K : PySem.W.Frag} : ∀ {ds : List D} {vs : List Value}, cvs K ds vs = true → ∃ xs, Vals xs vs ∧ ∀ H m, Rls K H m ds xs
  | [], vs, h => by
    cases vs with
    | nil => exact ⟨[], .nil, fun _ _ => by rw [Rls]⟩
    | cons _ _ => simp [cvs] at h
  | d :: ds, vs, h => by
    cases vs with
    | nil => simp [cvs] at h
    | cons v vs =>
      rw [cvs, Bool.and_eq_true] at h
      obtain ⟨x, r1, r2⟩ := cv_ok h.1
      obtain ⟨xs, s1, s2⟩ := cvs_ok h.2
      exact ⟨x :: xs, .cons r1 s1, fun H m => by rw [Rls]; exact ⟨_, _, rfl, r2 H m, s2 H m⟩⟩
end
def cName (K : PySem.W.Frag) (x : Str) (d : D) : Bool := match PySem.W.nsIn K mainGlobals x with
  | some (some v) => cv K d v
  | _ => false
/-! ### own exception classes -/
def oexB (K : PySem.W.Frag) (C : Addr) : Bool := (match K.lookup C with
  | some ⟨.type c, _, .cls cd, sl⟩ => (match cd.mro, sl.toList with
    | .ref C' :: bm, [_, _, _, _, some (.builtin n), _] => decide (c = "type") && (C' == C && (decide (n = "ValueError.__new__") && (!cd.hasDel && (cd.hasDict && PySem.HandSPX.refsVE bm))))
    | _, _ => false)
  | _ => false) && (decide (PySem.W.findIn K (.ref C) "__setattr__" = some (some (.builtin "object.__setattr__"))) && (decide (PySem.W.subIn K (.ref C) (.type "BaseException") = some true) &&
    (decide (PySem.W.typeIn K (.ref C) = some (.type "type")) && PySem.W.keepIn K (.ref C))))
theorem oexB_ok {K : PySem.W.Frag} {C : Addr} (h : oexB K C = true) : OexC K C := by
  unfold oexB at h
  rw [Bool.and_eq_true, Bool.and_eq_true, Bool.and_eq_true, Bool.and_eq_true] at h
  obtain ⟨h0, h1, h2, h3, h4⟩ := h
  refine ⟨?_, of_decide_eq_true h1, of_decide_eq_true h2, of_decide_eq_true h3, h4⟩
  split at h0
  · rename_i c dd cd sl ho
    split at h0
    · rename_i C' bm k0 k1 k2 k3 n k5 hm hs
      simp only [Bool.and_eq_true, beq_iff_eq, Bool.not_eq_true', decide_eq_true_eq] at h0
      obtain ⟨rfl, rfl, rfl, hdel, hdict, ht⟩ := h0
      obtain ⟨nm, bs, mro, ns, qn, hd, sn, sub, ab, col, del⟩ := cd
      dsimp only at hm hdel hdict
      subst hm hdel hdict
      have hsl : sl = #[k0, k1, k2, k3, some (.builtin "ValueError.__new__"), k5] := by
        obtain ⟨l⟩ := sl
        simp only at hs
        rw [hs]
      subst hsl
      exact ⟨nm, qn, ns, bs, bm, sn, sub, ab, col, dd, k0, k1, k2, k3, k5, ho, ht⟩
    · cases h0
  · cases h0
/-- the own exception class c whose __init__ stores the field f -/
structure ExcF (K : PySem.W.Frag) (c f : Str) : Prop where
  oex : OexC K (He.ga K c)
  xf : XfC K (He.ga K c)
  iC : PySem.W.findIn K (.ref (He.ga K c)) "__init__" = some (some (.ref (He.fAd K (c, some "__init__"))))
  tI : PySem.W.typeIn K (.ref (He.fAd K (c, some "__init__"))) = some (.type "function")
  no : PySem.W.findIn K (.ref (He.ga K c)) f = some none
  ex : PySem.W.exmOne K (.ref (He.ga K c)) (.ref (He.ga K c)) = some true
  glo : PySem.W.nsIn K mainGlobals c = some (some (.ref (He.ga K c)))
def excB (K : PySem.W.Frag) (c f : Str) : Bool := oexB K (He.ga K c) && (xfB K (He.ga K c) && (decide (PySem.W.findIn K (.ref (He.ga K c)) "__init__" = some (some (.ref (He.fAd K (c, some "__init__"))))) &&
  (decide (PySem.W.typeIn K (.ref (He.fAd K (c, some "__init__"))) = some (.type "function")) && (decide (PySem.W.findIn K (.ref (He.ga K c)) f = some none) &&
    (decide (PySem.W.exmOne K (.ref (He.ga K c)) (.ref (He.ga K c)) = some true) && decide (PySem.W.nsIn K mainGlobals c = some (some (.ref (He.ga K c)))))))))
theorem excB_ok {K : PySem.W.Frag} {c f : Str} (h : excB K c f = true) : ExcF K c f := by
  unfold excB at h
  simp only [Bool.and_eq_true, decide_eq_true_eq] at h
  obtain ⟨h1, h2, h3, h4, h5, h6, h7⟩ := h
  exact ⟨oexB_ok h1, xfB_ok h2, h3, h4, h5, h6, h7⟩
def isEx : D → Option Str
  | .tup [.str t, .str f] => if t = "!exc" then some f else none
  | _ => none
def cOne (K : PySem.W.Frag) (x : Str) (d : D) : Bool := match isEx d with
  | some f => excB K x f
  | none => cName K x d
/-! ### the head's Hook with such constants -/
abbrev Cst : Type := List (Str × D)
def csB (cs : Cst) (K : PySem.W.Frag) : Bool := cs.all fun q => cOne K q.1 q.2
def SaysC (fa : List He.Fa) (fn : List He.DefD) (cs : Cst) (K : PySem.W.Frag) : Prop := He.SaysD fa fn K ∧ csB cs K = true
theorem SaysC.fact {fa : List He.Fa} {fn : List He.DefD} {cs : Cst} {K : PySem.W.Frag} (c : SaysC fa fn cs K) (i : Nat) {f : He.Fa} (h : fa[i]? = some f := by rfl) : f.ok K = true := c.1.fact i h
theorem SaysC.def_ {fa : List He.Fa} {fn : List He.DefD} {cs : Cst} {K : PySem.W.Frag} (c : SaysC fa fn cs K) (i : Nat) {d : He.DefD} (h : fn[i]? = some d := by rfl) : ∃ fd, FunD K d.name d.qual d.params d.body d.scope (d.dvs K) (d.kws K) (He.fAd K d.at_) fd := c.1.def_ i h
theorem SaysC.exc {fa : List He.Fa} {fn : List He.DefD} {cs : Cst} {K : PySem.W.Frag} (c : SaysC fa fn cs K) (i : Nat) {q : Str × D} {f : Str} (h : cs[i]? = some q := by rfl) (hx : isEx q.2 = some f := by rfl) : ExcF K q.1 f := by
  have z := List.all_eq_true.mp c.2 q (List.mem_of_getElem? h)
  unfold cOne at z
  rw [hx] at z
  exact excB_ok z
/-- the entries of the object are these pairs -/
def Ents (K : PySem.W.Frag) (w : World) : List DictEntry → List (Key × D) → Prop
  | [], [] => True
  | e :: es, p :: ps => (keyIs p.1 e.key = true ∧ e.hash = keyH w p.1 ∧ cv K p.2 e.val = true) ∧ Ents K w es ps
  | _, _ => False
def WD (K : PySem.W.Frag) (w : World) (a : Addr) (kvs : List (Key × D)) : Prop := ∃ es n, K.lookup a = some ⟨.type "dict", none, .dict es n, #[]⟩ ∧ (a == sysModules) = false ∧ Ents K w es.toList kvs
/-! ### the head's Hook with written dicts -/
abbrev Dst : Type := List (Str × List (Key × D))
def DOk (K : PySem.W.Frag) (w : World) (q : Str × List (Key × D)) : Prop := ∃ a, PySem.W.nsIn K mainGlobals q.1 = some (some (.ref a)) ∧ WD K w a q.2
def SaysE (fa : List He.Fa) (fn : List He.DefD) (cs : Cst) (ds : Dst) (K : PySem.W.Frag) (w : World) : Prop := SaysC fa fn cs K ∧ ∀ q ∈ ds, DOk K w q
section
variable {fa : List He.Fa} {fn : List He.DefD} {cs : Cst} {ds : Dst} {K : PySem.W.Frag} {w : World}
theorem SaysE.fact (c : SaysE fa fn cs ds K w) (i : Nat) {f : He.Fa} (h : fa[i]? = some f := by rfl) : f.ok K = true := c.1.fact i h
theorem SaysE.def_ (c : SaysE fa fn cs ds K w) (i : Nat) {d : He.DefD} (h : fn[i]? = some d := by rfl) : ∃ fd, FunD K d.name d.qual d.params d.body d.scope (d.dvs K) (d.kws K) (He.fAd K d.at_) fd := c.1.def_ i h
theorem SaysE.exc (c : SaysE fa fn cs ds K w) (i : Nat) {q : Str × D} {f : Str} (h : cs[i]? = some q := by rfl) (hx : isEx q.2 = some f := by rfl) : ExcF K q.1 f := c.1.exc i h hx
theorem SaysE.dct {hp : Heap} {mg : Str → Option Value} (X : K.In hp) (G : hp.Ns mainGlobals mg) (c : SaysE fa fn cs ds K w) (i : Nat) {q : Str × List (Key × D)} (h : ds[i]? = some q := by rfl) : ∃ a, mg q.1 = some (.ref a) ∧ WD K w a q.2 := by
  obtain ⟨a, h1, h2⟩ := c.2 q (List.mem_of_getElem? h)
  exact ⟨a, PySem.W.mg_of X G h1, h2⟩
end
end CI

namespace K52
open PySem PySem.Spec PyProof.Rows L2 CI
def top (i : Nat) : Stmt := PySem.Challenge.pw_fardesk_k52_delivering_in_order.main.body.getD i (.Pass ⟨0, 0, 0, 0⟩)
abbrev s_z4 : Stmt := inClass (top 2) 0
def d_z4 : He.DefD := ⟨("Association", some "__init__"), "__init__", "Association.__init__", defArgs s_z4, defBody s_z4, defScope s_z4, [], []⟩
abbrev s_z21 : Stmt := top 3
def d_z21 : He.DefD := ⟨("of_stream", none), "of_stream", "of_stream", defArgs s_z21, defBody s_z21, defScope s_z21, [], []⟩
abbrev s_z24 : Stmt := top 5
def d_z24 : He.DefD := ⟨("is_new", none), "is_new", "is_new", defArgs s_z24, defBody s_z24, defScope s_z24, [], []⟩
abbrev s_z23 : Stmt := top 6
def d_z23 : He.DefD := ⟨("is_ready", none), "is_ready", "is_ready", defArgs s_z23, defBody s_z23, defScope s_z23, [], []⟩
abbrev s_z10 : Stmt := top 7
def d_z10 : He.DefD := ⟨("first_ready", none), "first_ready", "first_ready", defArgs s_z10, defBody s_z10, defScope s_z10, [], []⟩
abbrev s_z7 : Stmt := top 8
def d_z7 : He.DefD := ⟨("deliver_ready", none), "deliver_ready", "deliver_ready", defArgs s_z7, defBody s_z7, defScope s_z7, [], []⟩
abbrev s_z9 : Stmt := top 9
def d_z9 : He.DefD := ⟨("note_arrival", none), "note_arrival", "note_arrival", defArgs s_z9, defBody s_z9, defScope s_z9, [], []⟩
abbrev s_z8 : Stmt := top 10
def d_z8 : He.DefD := ⟨("take_message", none), "take_message", "take_message", defArgs s_z8, defBody s_z8, defScope s_z8, [], []⟩
abbrev s_z20 : Stmt := top 12
def d_z20 : He.DefD := ⟨("_law_cell", none), "_law_cell", "_law_cell", defArgs s_z20, defBody s_z20, defScope s_z20, [], []⟩
abbrev s_z16 : Stmt := top 13
def d_z16 : He.DefD := ⟨("_law_draws", none), "_law_draws", "_law_draws", defArgs s_z16, defBody s_z16, defScope s_z16, [], []⟩
abbrev s_z17 : Stmt := top 14
def d_z17 : He.DefD := ⟨("_law_same", none), "_law_same", "_law_same", defArgs s_z17, defBody s_z17, defScope s_z17, [], []⟩
abbrev s_z18 : Stmt := top 15
def d_z18 : He.DefD := ⟨("_law_text", none), "_law_text", "_law_text", defArgs s_z18, defBody s_z18, defScope s_z18, [], []⟩
abbrev s_z12 : Stmt := top 16
def d_z12 : He.DefD := ⟨("_law_stream", none), "_law_stream", "_law_stream", defArgs s_z12, defBody s_z12, defScope s_z12, [], []⟩
abbrev s_z13 : Stmt := top 17
def d_z13 : He.DefD := ⟨("_law_given", none), "_law_given", "_law_given", defArgs s_z13, defBody s_z13, defScope s_z13, [], []⟩
abbrev s_z15 : Stmt := top 18
def d_z15 : He.DefD := ⟨("_law_ready", none), "_law_ready", "_law_ready", defArgs s_z15, defBody s_z15, defScope s_z15, [], []⟩
abbrev s_z19 : Stmt := top 19
def d_z19 : He.DefD := ⟨("_law_good", none), "_law_good", "_law_good", defArgs s_z19, defBody s_z19, defScope s_z19, [], []⟩
abbrev s_law : Stmt := top 20
def d_law : He.DefD := ⟨("law", none), "law", "law", defArgs s_law, defBody s_law, defScope s_law, [], []⟩
def fn : List He.DefD := [d_z4, d_z21, d_z24, d_z23, d_z10, d_z7, d_z9, d_z8, d_z20, d_z16, d_z17, d_z18, d_z12, d_z13, d_z15, d_z19, d_law]
def fa : List He.Fa := ([.cls "Association", .mkr "Association", .meth "Association" "message", .meth "Association" "has_tags", .meth "Association" "all_acked", .meth "Association" "as_row", .noat "Association" "acked", .noat "Association" "arrived", .noat "Association" "beyond", .noat "Association" "closing", .noat "Association" "delivered", .noat "Association" "given", .noat "Association" "paths", .noat "Association" "peer", .noat "Association" "sent", .noat "Association" "serial_acked", .noat "Association" "serial_in", .noat "Association" "serial_out", .noat "Association" "tag", .noat "Association" "up_to", .noat "Association" "waiting", .glo "_wall", .glo "of_stream", .glo "is_new", .glo "is_ready", .glo "first_ready", .glo "deliver_ready", .glo "note_arrival", .glo "take_message", .glo "_law_cell"] : List He.Fa) ++ ([.glo "_law_draws", .glo "_law_same", .glo "_law_text", .glo "_law_stream", .glo "_law_given", .glo "_law_ready", .glo "_law_good", .glo "law", .glo "Association", .free "len", .free "int", .free "tuple", .free "list", .free "min", .free "sorted", .free "str", .free "range", .free "isinstance", .free "bool"] : List He.Fa)
abbrev R : PySem.W.OpenRow := PySem.W.OpenLaw.row PySem.Challenge.rw_fardesk_k52_delivering_in_order
abbrev hk : PySem.W.Hook := He.hookD 4 fa fn
def ob (s : PySem.W.SharedT) : He.AlD := He.obsDG 4 fa fn (HandSHeadRun.getT s)
theorem ob_eq (s : PySem.W.SharedT) : ob s = hk.obs s.abs := He.obsDG_eq (HandSHeadRun.getT_eq s)
def loose : List Str := (["_wall", "Association", "of_stream", "is_new", "is_ready", "first_ready", "deliver_ready", "note_arrival", "take_message", "_law_cell", "_law_draws", "_law_same", "_law_text", "_law_stream", "_law_given", "_law_ready", "_law_good"] : List PySem.Str)
theorem run (w : World) : HandSHeadRun.RunEq R (PySem.W.view R.prog [20]) hk ob 20000 loose w := by
  intro os
  kernel_rfl
end K52
/-! Ci2: readings of expressions -/
namespace CI
open PySem PySem.Spec PyProof.Rows L2

abbrev Ef := Slots → Mem → Option (Rz × Mem)
abbrev Tf := Slots → Mem → Option (Bool × Mem)
abbrev Af := Slots → Mem → Option (List D × Mem)

def Post (K : PySem.W.Frag) (H : Hp) (m : List Addr) (r : Rz) (M' : Mem) (Q : VK) : Prop := ∀ H1 m1, Ext H m H1 m1 → Wd K H1 m1 M' → match r with
  | .val d => ∀ v, Rl K H1 m1 d v → Q v H1
  | .new ds => ∀ vs a, Rls K H1 m1 ds vs → H1 a = none → Q (.ref a) (upd H1 a (.lst vs))
def tE (K : PySem.W.Frag) (f : Ef) : TE := fun σ H Q => ∃ ρ M m r M', Rs K H m ρ σ ∧ Wd K H m M ∧ f ρ M = some (r, M') ∧ Post K H m r M' Q
def tT (K : PySem.W.Frag) (f : Tf) : TT := fun σ H Q => ∃ ρ M m b M', Rs K H m ρ σ ∧ Wd K H m M ∧ f ρ M = some (b, M') ∧ ∀ H1 m1, Ext H m H1 m1 → Wd K H1 m1 M' → Q b H1
def tA (K : PySem.W.Frag) (f : Af) : TA := fun σ H Q => ∃ ρ M m ds M', Rs K H m ρ σ ∧ Wd K H m M ∧ f ρ M = some (ds, M') ∧ ∀ H1 m1 vs, Ext H m H1 m1 → Wd K H1 m1 M' → Rls K H1 m1 ds vs → Q vs H1
abbrev CEx (X : Cx) (e : Expr) (f : Ef) : Prop := PE X e (tE X.K f)
abbrev CTx (X : Cx) (e : Expr) (f : Tf) : Prop := PT X e (tT X.K f)
abbrev CWx (X : Cx) (e : Expr) (f : Tf) : Prop := PW X e (tT X.K f)
abbrev CAx (X : Cx) (es : List Expr) (f : Af) : Prop := PA X es (tA X.K f)

theorem PE.imp {X : Cx} {e : Expr} {t t' : TE} (h : PE X e t) (i : ∀ σ H Q, t' σ H Q → t σ H Q) : PE X e t' := ⟨fun pins s σ H Q I q => h.run pins s σ H Q I (i σ H Q q)⟩
theorem PT.imp {X : Cx} {e : Expr} {t t' : TT} (h : PT X e t) (i : ∀ σ H Q, t' σ H Q → t σ H Q) : PT X e t' := ⟨fun pins s σ H Q I q => h.run pins s σ H Q I (i σ H Q q)⟩
theorem PW.imp {X : Cx} {e : Expr} {t t' : TT} (h : PW X e t) (i : ∀ σ H Q, t' σ H Q → t σ H Q) : PW X e t' := ⟨fun w pins s σ H Q I q => h.run w pins s σ H Q I (i σ H Q q)⟩
theorem PA.imp {X : Cx} {es : List Expr} {t t' : TA} (h : PA X es t) (i : ∀ σ H Q, t' σ H Q → t σ H Q) : PA X es t' := ⟨fun p pins s σ H Q I q => h.run p pins s σ H Q I (i σ H Q q)⟩
theorem PE.or {X : Cx} {e : Expr} {t t' : TE} (h : PE X e t) (h' : PE X e t') : PE X e (fun σ H Q => t σ H Q ∨ t' σ H Q) :=
  ⟨fun pins s σ H Q I q => q.elim (h.run pins s σ H Q I) (h'.run pins s σ H Q I)⟩

section
variable {K : PySem.W.Frag} {H H1 H2 : Hp} {m m1 m2 : List Addr} {M M1 M2 : Mem} {Q : VK} {r : Rz}
theorem Post.use (P : ∀ H1 m1 v, Ext H m H1 m1 → Wd K H1 m1 M1 → Rl K H1 m1 r.d v → Q v H1) : Post K H m r M1 Q := by
  intro H1 m1 e w
  cases r with
  | val d => exact fun v r => P H1 m1 v e w r
  | new ds =>
    intro vs a r n
    have e2 : Ext H1 m1 (upd H1 a (.lst vs)) m1 := .new n
    refine P _ m1 _ (e.trans e2) (w.new n) ?_
    show Rl K _ m1 (.lst ds) _
    rw [Rl]
    exact ⟨a, vs, rfl, w.fresh n, upd_same, r.ext e2⟩
theorem Post.ext (P : Post K H m r M1 Q) (e : Ext H m H2 m2) : Post K H2 m2 r M1 Q := fun H1 m1 e1 w => P H1 m1 (e.trans e1) w
theorem Post.val {d : D} {v : V} (P : Post K H m (.val d) M1 Q) (w : Wd K H m M1) (r : Rl K H m d v) : Q v H := P H m .refl w v r
theorem Post.new {ds : List D} {vs : List V} (P : Post K H m (.new ds) M1 Q) (w : Wd K H m M1) (r : Rls K H m ds vs) : ∀ p, H p = none → Q (.ref p) (upd H p (.lst vs)) :=
  fun p n => P H m .refl w vs p r n
theorem Post.tup {ds : List D} {vs : List V} (P : Post K H m (.val (.tup ds)) M1 Q) (w : Wd K H m M1) (r : Rls K H m ds vs) : ∀ p, H p = none → Q (.ref p) (upd H p (.tup vs)) :=
  fun p n => P _ m (.new n) (w.new n) _ (by rw [Rl]; exact ⟨p, vs, rfl, .of upd_same, r.ext (.new n)⟩)
theorem bindE {f : Ef} {ρ : Slots} {σ : L2.St} (rs : Rs K H m ρ σ) (w : Wd K H m M) (h : f ρ M = some (r, M1))
    (P : ∀ H1 m1 v, Ext H m H1 m1 → Wd K H1 m1 M1 → Rs K H1 m1 ρ σ → Rl K H1 m1 r.d v → Q v H1) : tE K f σ H Q :=
  ⟨ρ, M, m, r, M1, rs, w, h, Post.use fun H1 m1 v e w' r' => P H1 m1 v e w' (rs.ext e) r'⟩
theorem bindT {f : Tf} {ρ : Slots} {σ : L2.St} {b : Bool} {Q : Bool → Hp → Prop} (rs : Rs K H m ρ σ) (w : Wd K H m M) (h : f ρ M = some (b, M1))
    (P : ∀ H1 m1, Ext H m H1 m1 → Wd K H1 m1 M1 → Rs K H1 m1 ρ σ → Q b H1) : tT K f σ H Q :=
  ⟨ρ, M, m, b, M1, rs, w, h, fun H1 m1 e w' => P H1 m1 e w' (rs.ext e)⟩
theorem bindA {f : Af} {ρ : Slots} {σ : L2.St} {ds : List D} {Q : List V → Hp → Prop} (rs : Rs K H m ρ σ) (w : Wd K H m M) (h : f ρ M = some (ds, M1))
    (P : ∀ H1 m1 vs, Ext H m H1 m1 → Wd K H1 m1 M1 → Rs K H1 m1 ρ σ → Rls K H1 m1 ds vs → Q vs H1) : tA K f σ H Q :=
  ⟨ρ, M, m, ds, M1, rs, w, h, fun H1 m1 vs e w' r' => P H1 m1 vs e w' (rs.ext e) r'⟩
end

/-! ### names and constants -/
def slot (ρ : Slots) (i : Nat) : Option D := ρ.getD i none
def cVar (i : Nat) : Ef := fun ρ M => (slot ρ i).bind fun d => some (.val d, M)
def cVal (d : D) : Ef := fun _ M => some (.val d, M)
abbrev cInt (i : Int) : Ef := cVal (.int i)
abbrev cBl (b : Bool) : Ef := cVal (.bl b)
abbrev cNon : Ef := cVal .non
abbrev cStr (x : Str) : Ef := cVal (.str x)
theorem slot_some {ρ : Slots} {i : Nat} {d : D} (h : slot ρ i = some d) : ρ[i]? = some (some d) := by
  unfold slot at h
  rw [List.getD_eq_getElem?_getD] at h
  cases q : ρ[i]? with
  | none => rw [q] at h; cases h
  | some o => rw [q] at h; simp at h; rw [h]
section
variable {X : Cx}
theorem ce_var {e : Expr} {i : Nat} (h : PE X e (tVar i)) : CEx X e (cVar i) := PE.imp h fun σ H Q ⟨ρ, M, m, r, M', rs, w, hf, P⟩ => by
  unfold cVar at hf
  cases q : slot ρ i with
  | none => rw [q] at hf; cases hf
  | some d =>
    rw [q] at hf
    cases hf
    obtain ⟨v, h1, h2⟩ := rs.2 i d (slot_some q)
    exact ⟨v, h1, P.val w h2⟩
theorem ce_val {e : Expr} {d : D} {v : V} (h : PE X e (tC v)) (hr : ∀ H m, Rl X.K H m d v) : CEx X e (cVal d) := PE.imp h fun σ H Q ⟨ρ, M, m, r, M', rs, w, hf, P⟩ => by
  cases hf
  exact P.val w (hr H m)
theorem ce_int {i : Int} {j pos} : CEx X (.Constant (.int i) j pos) (cInt i) := ce_val pe_int fun _ _ => by rw [Rl]
theorem ce_bl {b : Bool} {j pos} : CEx X (.Constant (.bool b) j pos) (cBl b) := ce_val pe_bl fun _ _ => by rw [Rl]
theorem ce_non {j pos} : CEx X (.Constant .none j pos) cNon := ce_val pe_non fun _ _ => by rw [Rl]
theorem ce_str {x : Str} {j pos} : CEx X (.Constant (.str x) j pos) (cStr x) := ce_val pe_str fun _ _ => by rw [Rl]
end

/-! ### operators -/
def Bop := D → D → Mem → Option Rz
def OpOk (X : Cx) (f : Value → Value → Sem Value) (o : Bop) : Prop := ∃ r : R2, OpR X f r ∧
  ∀ H m M d e x y z Q, Wd X.K H m M → Rl X.K H m d x → Rl X.K H m e y → o d e M = some z → Post X.K H m z M Q → r x y H Q
def cBin (o : Bop) (fa fb : Ef) : Ef := fun ρ M => (fa ρ M).bind fun p => (fb ρ p.2).bind fun q => (o p.1.d q.1.d q.2).bind fun r => some (r, q.2)
theorem bin_of {X : Cx} {o : Bop} {fa fb : Ef} {r : R2} (ho : ∀ H m M d e x y z Q, Wd X.K H m M → Rl X.K H m d x → Rl X.K H m e y → o d e M = some z → Post X.K H m z M Q → r x y H Q)
    {σ : L2.St} {H : Hp} {Q : VK} (h : tE X.K (cBin o fa fb) σ H Q) : tOp r (tE X.K fa) (tE X.K fb) σ H Q := by
  obtain ⟨ρ, M, m, z, M', rs, w, hf, P⟩ := h
  unfold cBin at hf
  cases ea : fa ρ M with
  | none => rw [ea] at hf; cases hf
  | some p =>
    rw [ea] at hf
    cases eb : fb ρ p.2 with
    | none => simp [eb] at hf
    | some q =>
      cases ec : o p.1.d q.1.d q.2 with
      | none => simp [eb, ec] at hf
      | some z' =>
        simp [eb, ec] at hf
        obtain ⟨rfl, rfl⟩ := hf
        refine bindE rs w ea fun H1 m1 v e1 w1 rs1 r1 => ?_
        refine bindE rs1 w1 eb fun H2 m2 u e2 w2 rs2 r2 => ?_
        exact ho H2 m2 q.2 _ _ v u _ Q w2 (r1.ext e2) r2 ec (P.ext (e1.trans e2))
section
variable {X : Cx} {a b c : Expr} {fa fb fc : Ef} {pos : Pos} {o o' : Bop}
theorem ce_bin {op : Operator} (ho : OpOk X (binaryOp op) o) (ha : CEx X a fa) (hb : CEx X b fb) : CEx X (.BinOp a op b pos) (cBin o fa fb) := by
  obtain ⟨r, h1, h2⟩ := ho
  exact PE.imp (pe_op h1 ha hb) fun σ H Q h => bin_of h2 h
theorem ce_cmp {op : CmpOp} (ho : OpOk X (compareOp op) o) (ha : CEx X a fa) (hb : CEx X b fb) (hm : behindInMarks op b = false) : CEx X (.Compare a [op] [b] pos) (cBin o fa fb) := by
  obtain ⟨r, h1, h2⟩ := ho
  exact PE.imp (pe_cmpR h1 ha hb hm) fun σ H Q h => bin_of h2 h
/-- a value that must be a bool, as a test -/
def toB (f : Ef) : Tf := fun ρ M => (f ρ M).bind fun p => match p.1.d with
  | .bl b => some (b, p.2)
  | _ => none
theorem tst_of {f : Ef} {σ : L2.St} {H : Hp} {Q : Bool → Hp → Prop} (h : tT X.K (toB f) σ H Q) : tE X.K f σ H fun x H' => ∃ k, x = .bl k ∧ Q k H' := by
  obtain ⟨ρ, M, m, z, M', rs, w, hf, P⟩ := h
  unfold toB at hf
  cases ea : f ρ M with
  | none => rw [ea] at hf; cases hf
  | some p =>
    rw [ea] at hf
    simp only [Option.bind_some] at hf
    refine bindE rs w ea fun H1 m1 v e1 w1 rs1 r1 => ?_
    split at hf
    · rename_i b hb
      cases hf
      rw [hb, Rl] at r1
      exact ⟨_, r1, P H1 m1 e1 w1⟩
    · cases hf
theorem ct_cmp {op : CmpOp} (ho : OpOk X (compareOp op) o) (ha : CEx X a fa) (hb : CEx X b fb) (hm : behindInMarks op b = false) : CTx X (.Compare a [op] [b] pos) (toB (cBin o fa fb)) := by
  obtain ⟨r, h1, h2⟩ := ho
  exact PT.imp (pt_cmpR h1 ha hb hm) fun σ H Q h => bin_of h2 (tst_of h)
/-- a op b op' c -/
def cChain (o o' : Bop) (fa fb fc : Ef) : Ef := fun ρ M => (fa ρ M).bind fun p => (fb ρ p.2).bind fun q => (o p.1.d q.1.d q.2).bind fun r => match r with
  | .val (.bl true) => (fc ρ q.2).bind fun s => (o' q.1.d s.1.d s.2).bind fun z => some (z, s.2)
  | .val (.bl false) => some (.val (.bl false), q.2)
  | _ => none
end

/-! ### and, or, not, if else -/
section
variable {X : Cx} {a b c : Expr} {rest : List Expr} {fa fb : Ef} {ta tb : Tf} {pos : Pos}
def kAnd (ta tb : Tf) : Tf := fun ρ M => (ta ρ M).bind fun p => if p.1 = true then tb ρ p.2 else some (false, p.2)
def kOr (ta tb : Tf) : Tf := fun ρ M => (ta ρ M).bind fun p => if p.1 = true then some (true, p.2) else tb ρ p.2
def kNot (ta : Tf) : Tf := fun ρ M => (ta ρ M).bind fun p => some (!p.1, p.2)
theorem cw_and1 (ha : CTx X a ta) : CWx X (.BoolOp .And [a] pos) ta := pw_and1 ha
theorem cw_or1 (ha : CTx X a ta) : CWx X (.BoolOp .Or [a] pos) ta := pw_or1 ha
theorem cw_and (ha : CTx X a ta) (hb : CWx X (.BoolOp .And (b :: rest) pos) tb) : CWx X (.BoolOp .And (a :: b :: rest) pos) (kAnd ta tb) := PW.imp (pw_and ha hb) fun σ H Q h => by
  obtain ⟨ρ, M, m, z, M', rs, w, hf, P⟩ := h
  unfold kAnd at hf
  cases ea : ta ρ M with
  | none => rw [ea] at hf; cases hf
  | some p =>
    rw [ea] at hf
    simp only [Option.bind_some] at hf
    refine bindT rs w ea fun H1 m1 e1 w1 rs1 => ?_
    split at hf
    · rename_i e; rw [if_pos e]
      exact ⟨ρ, p.2, m1, z, M', rs1, w1, hf, fun H2 m2 e2 w2 => P H2 m2 (e1.trans e2) w2⟩
    · rename_i e; rw [if_neg e]
      cases hf
      exact P H1 m1 e1 w1
theorem cw_or (ha : CTx X a ta) (hb : CWx X (.BoolOp .Or (b :: rest) pos) tb) : CWx X (.BoolOp .Or (a :: b :: rest) pos) (kOr ta tb) := PW.imp (pw_or ha hb) fun σ H Q h => by
  obtain ⟨ρ, M, m, z, M', rs, w, hf, P⟩ := h
  unfold kOr at hf
  cases ea : ta ρ M with
  | none => rw [ea] at hf; cases hf
  | some p =>
    rw [ea] at hf
    simp only [Option.bind_some] at hf
    refine bindT rs w ea fun H1 m1 e1 w1 rs1 => ?_
    split at hf
    · rename_i e; rw [if_pos e]
      cases hf
      exact P H1 m1 e1 w1
    · rename_i e; rw [if_neg e]
      exact ⟨ρ, p.2, m1, z, M', rs1, w1, hf, fun H2 m2 e2 w2 => P H2 m2 (e1.trans e2) w2⟩
theorem ct_w (h : CWx X a ta) : CTx X a ta := h.pt
theorem ct_not (ha : CTx X a ta) : CTx X (.UnaryOp .Not a pos) (kNot ta) := PT.imp (pt_not ha) fun σ H Q h => by
  obtain ⟨ρ, M, m, z, M', rs, w, hf, P⟩ := h
  unfold kNot at hf
  cases ea : ta ρ M with
  | none => rw [ea] at hf; cases hf
  | some p =>
    rw [ea] at hf
    cases hf
    exact bindT rs w ea fun H1 m1 e1 w1 rs1 => P H1 m1 e1 w1
/-- .. as values -/
def cAnd (fa fb : Ef) : Ef := fun ρ M => (fa ρ M).bind fun p => match p.1.d with
  | .bl true => fb ρ p.2
  | .bl false => some (.val (.bl false), p.2)
  | _ => none
def cOr (fa fb : Ef) : Ef := fun ρ M => (fa ρ M).bind fun p => match p.1.d with
  | .bl true => some (.val (.bl true), p.2)
  | .bl false => fb ρ p.2
  | _ => none
def cNot (fa : Ef) : Ef := fun ρ M => (fa ρ M).bind fun p => match p.1.d with
  | .bl b => some (.val (.bl (!b)), p.2)
  | _ => none
theorem ce_one {op} (h : CEx X a fa) : CEx X (.BoolOp op [a] pos) fa := pe_one h
theorem ce_and (ha : CEx X a fa) (hb : CEx X (.BoolOp .And (b :: rest) pos) fb) : CEx X (.BoolOp .And (a :: b :: rest) pos) (cAnd fa fb) := PE.imp (pe_and ha hb) fun σ H Q h => by
  obtain ⟨ρ, M, m, z, M', rs, w, hf, P⟩ := h
  unfold cAnd at hf
  cases ea : fa ρ M with
  | none => rw [ea] at hf; cases hf
  | some p =>
    rw [ea] at hf
    simp only [Option.bind_some] at hf
    refine bindE rs w ea fun H1 m1 v e1 w1 rs1 r1 => ?_
    split at hf
    · rename_i e; rw [e, Rl] at r1
      refine ⟨true, r1, ?_⟩; rw [if_pos rfl]
      exact ⟨ρ, p.2, m1, z, M', rs1, w1, hf, P.ext e1⟩
    · rename_i e; rw [e, Rl] at r1
      refine ⟨false, r1, ?_⟩; rw [if_neg Bool.false_ne_true]
      cases hf
      exact (P.ext e1).val w1 (by rw [Rl])
    · cases hf
theorem ce_not (ha : CEx X a fa) : CEx X (.UnaryOp .Not a pos) (cNot fa) := PE.imp (pe_not ha) fun σ H Q h => by
  obtain ⟨ρ, M, m, z, M', rs, w, hf, P⟩ := h
  unfold cNot at hf
  cases ea : fa ρ M with
  | none => rw [ea] at hf; cases hf
  | some p =>
    rw [ea] at hf
    simp only [Option.bind_some] at hf
    refine bindE rs w ea fun H1 m1 v e1 w1 rs1 r1 => ?_
    split at hf
    · rename_i b e; rw [e, Rl] at r1
      cases hf
      exact ⟨b, r1, (P.ext e1).val w1 (by rw [Rl])⟩
    · cases hf
def cIf (t : Tf) (fa fb : Ef) : Ef := fun ρ M => (t ρ M).bind fun p => if p.1 = true then fa ρ p.2 else fb ρ p.2
end

/-! ### argument lists, displays -/
section
variable {X : Cx} {e : Expr} {es : List Expr} {f : Ef} {g : Af} {pos : Pos}
def aNil : Af := fun _ M => some ([], M)
def aCons (f : Ef) (g : Af) : Af := fun ρ M => (f ρ M).bind fun p => (g ρ p.2).bind fun q => some (p.1.d :: q.1, q.2)
theorem ca_nil : CAx X [] aNil := PA.imp pa_nil fun σ H Q ⟨ρ, M, m, ds, M', rs, w, hf, P⟩ => by
  cases hf
  exact P H m [] .refl w (by rw [Rls])
theorem ca_cons (ha : CEx X e f) (hr : CAx X es g) (hs : starEach (e :: es) X.env = (false, eval e X.env) :: starEach es X.env := by rfl) : CAx X (e :: es) (aCons f g) := PA.imp (pa_cons ha hr hs) fun σ H Q ⟨ρ, M, m, ds, M', rs, w, hf, P⟩ => by
  unfold aCons at hf
  cases ea : f ρ M with
  | none => rw [ea] at hf; cases hf
  | some p =>
    cases eb : g ρ p.2 with
    | none => simp [ea, eb] at hf
    | some q =>
      simp [ea, eb] at hf
      obtain ⟨rfl, rfl⟩ := hf
      refine bindE rs w ea fun H1 m1 v e1 w1 rs1 r1 => ?_
      refine bindA rs1 w1 eb fun H2 m2 vs e2 w2 rs2 r2 => ?_
      exact P H2 m2 _ (e1.trans e2) w2 (by rw [Rls]; exact ⟨_, _, rfl, r1.ext e2, r2⟩)
def cTup (g : Af) : Ef := fun ρ M => (g ρ M).bind fun p => if p.1.length ≤ sizeLine then some (.val (.tup p.1), p.2) else none
def cLst (g : Af) : Ef := fun ρ M => (g ρ M).bind fun p => if p.1.length ≤ sizeLine then some (.new p.1, p.2) else none
theorem ce_tup {x1} (h : CAx X es g) : CEx X (.Tuple es x1 pos) (cTup g) := PE.imp (pe_tup h) fun σ H Q ⟨ρ, M, m, z, M', rs, w, hf, P⟩ => by
  unfold cTup at hf
  cases ea : g ρ M with
  | none => rw [ea] at hf; cases hf
  | some p =>
    rw [ea] at hf
    simp only [Option.bind_some] at hf
    split at hf
    · cases hf
      refine bindA rs w ea fun H1 m1 vs e1 w1 rs1 r1 => ⟨by rw [← r1.length]; assumption, (P.ext e1).tup w1 r1⟩
    · cases hf
theorem ce_lst (h : CAx X es g) : CEx X (.List es pos) (cLst g) := PE.imp (pe_lst h) fun σ H Q ⟨ρ, M, m, z, M', rs, w, hf, P⟩ => by
  unfold cLst at hf
  cases ea : g ρ M with
  | none => rw [ea] at hf; cases hf
  | some p =>
    rw [ea] at hf
    simp only [Option.bind_some] at hf
    split at hf
    · cases hf
      refine bindA rs w ea fun H1 m1 vs e1 w1 rs1 r1 => ⟨by rw [← r1.length]; assumption, (P.ext e1).new w1 r1⟩
    · cases hf
end
end CI

/-! Ci3: operators by values, subscripts, slices, calls, attributes -/
namespace CI
open PySem PySem.Spec PyProof.Rows L2

/-! ### sequences -/
/-- a list that can be read; that can be written; a tuple -/
def asL (M : Mem) : D → Option (List D)
  | .lst ds => some ds
  | .scr ns => some (ns.map .int)
  | .loc k => match M[k]? with
    | some (.lst ds) => some ds
    | _ => none
  | _ => none
def asW (M : Mem) : D → Option (List D)
  | .lst ds => some ds
  | .loc k => match M[k]? with
    | some (.lst ds) => some ds
    | _ => none
  | _ => none
def asT : D → Option (List D)
  | .tup ds => some ds
  | _ => none
/-- any sequence -/
def asS (M : Mem) (d : D) : Option (List D) := match d with
  | .tup ds => some ds
  | d => asL M d
section
variable {K : PySem.W.Frag} {H : Hp} {m : List Addr} {M : Mem} {d : D} {ds : List D} {x : V}
theorem asW_ok (w : Wd K H m M) (r : Rl K H m d x) (h : asW M d = some ds) : ∃ a vs, x = .ref a ∧ H a = some (.lst vs) ∧ Rls K H m ds vs := by
  cases d with
  | lst es => cases h; rw [Rl] at r; obtain ⟨a, vs, r1, _, r2, r3⟩ := r; exact ⟨a, vs, r1, r2, r3⟩
  | loc k =>
    rw [Rl] at r
    obtain ⟨a, rfl, ha⟩ := r
    unfold asW at h
    simp only at h
    split at h
    · rename_i es hk
      cases h
      obtain ⟨b, hb, vs, h1, h2⟩ := w.get hk
      rw [ha] at hb; cases hb
      exact ⟨a, vs, rfl, h1, h2⟩
    · cases h
  | _ => cases h
theorem asL_ok (w : Wd K H m M) (r : Rl K H m d x) (h : asL M d = some ds) : ∃ a vs, x = .ref a ∧ SqL K H a vs ∧ Rls K H m ds vs := by
  cases d with
  | lst es => obtain ⟨a, vs, h1, h2, h3⟩ := asW_ok w r (d := .lst es) h; exact ⟨a, vs, h1, .of h2, h3⟩
  | loc k => obtain ⟨a, vs, h1, h2, h3⟩ := asW_ok w r (d := .loc k) h; exact ⟨a, vs, h1, .of h2, h3⟩
  | scr ns =>
    cases h
    rw [Rl] at r
    obtain ⟨a, rfl, ha⟩ := r
    exact ⟨a, _, rfl, ha.l, .ints⟩
  | _ => cases h
theorem asT_ok (r : Rl K H m d x) (h : asT d = some ds) : ∃ a vs, x = .ref a ∧ SqT K H a vs ∧ Rls K H m ds vs := by
  cases d with
  | tup es => cases h; rw [Rl] at r; exact r
  | _ => cases h
theorem asS_ok (w : Wd K H m M) (r : Rl K H m d x) (h : asS M d = some ds) : ∃ a vs, x = .ref a ∧ (SqL K H a vs ∨ SqT K H a vs) ∧ Rls K H m ds vs := by
  cases d with
  | tup es => obtain ⟨a, vs, h1, h2, h3⟩ := asT_ok r (d := .tup es) h; exact ⟨a, vs, h1, .inr h2, h3⟩
  | lst es => obtain ⟨a, vs, h1, h2, h3⟩ := asL_ok w r (d := .lst es) h; exact ⟨a, vs, h1, .inl h2, h3⟩
  | loc k => obtain ⟨a, vs, h1, h2, h3⟩ := asL_ok w r (d := .loc k) h; exact ⟨a, vs, h1, .inl h2, h3⟩
  | scr k => obtain ⟨a, vs, h1, h2, h3⟩ := asL_ok w r (d := .scr k) h; exact ⟨a, vs, h1, .inl h2, h3⟩
  | _ => cases h
end

/-! ### int operators -/
section
variable {X : Cx}
def oI (g : Int → Int → D) : Bop := fun d e _ => match d, e with
  | .int i, .int j => some (.val (g i j))
  | _, _ => none
def oIc (C : Int → Int → Bool) (g : Int → Int → D) : Bop := fun d e _ => match d, e with
  | .int i, .int j => if C i j = true then some (.val (g i j)) else none
  | _, _ => none
theorem opOk_I {f : Value → Value → Sem Value} {g : Int → Int → D} {gv : Int → Int → V} (h : OpR X f (rI0 gv)) (hg : ∀ i j H m, Rl X.K H m (g i j) (gv i j)) : OpOk X f (oI g) :=
  ⟨_, h, fun H m M d e x y z Q w rd re ho P => by
    unfold oI at ho
    split at ho
    · rename_i i j
      cases ho
      rw [Rl] at rd re
      exact ⟨i, j, rd, re, P.val w (hg i j H m)⟩
    · cases ho⟩
theorem opOk_Ic {f : Value → Value → Sem Value} {C : Int → Int → Prop} {Cb : Int → Int → Bool} {g : Int → Int → D} {gv : Int → Int → V} (h : OpR X f (rI C gv)) (hg : ∀ i j H m, Rl X.K H m (g i j) (gv i j)) (hc : ∀ i j, Cb i j = true → C i j) : OpOk X f (oIc Cb g) :=
  ⟨_, h, fun H m M d e x y z Q w rd re ho P => by
    unfold oIc at ho
    split at ho
    · rename_i i j
      split at ho
      · rename_i hcb
        cases ho
        rw [Rl] at rd re
        exact ⟨i, j, rd, re, hc i j hcb, P.val w (hg i j H m)⟩
      · cases ho
    · cases ho⟩
theorem OpOk.or {f : Value → Value → Sem Value} {o o' : Bop} (h : OpOk X f o) (h' : OpOk X f o') : OpOk X f (fun d e M => (o d e M).orElse fun _ => o' d e M) := by
  obtain ⟨r, h1, h2⟩ := h
  obtain ⟨r', h1', h2'⟩ := h'
  refine ⟨_, h1.or h1', fun H m M d e x y z Q w rd re ho P => ?_⟩
  cases q : o d e M with
  | some z' => simp [q] at ho; subst ho; exact .inl (h2 H m M d e x y z' Q w rd re q P)
  | none => simp [q] at ho; exact .inr (h2' H m M d e x y z Q w rd re ho P)
def sm64 (i : Int) : Bool := decide (-(2 ^ 64) < i) && decide (i < 2 ^ 64)
def bMul (i j : Int) : Bool := sm64 i || sm64 j
def bDiv (_ j : Int) : Bool := decide (0 < j) && decide (j < 1073741824)
def bMod (_ j : Int) : Bool := decide (0 < j)
def bPow (i j : Int) : Bool := decide (0 ≤ j) && decide (j ≤ 1000000) && decide (i.natAbs < 2 ^ 64)
theorem rl_int {K : PySem.W.Frag} {H : Hp} {m : List Addr} {i : Int} : Rl K H m (.int i) (.int i) := by rw [Rl]
theorem rl_bl {K : PySem.W.Frag} {H : Hp} {m : List Addr} {i : Bool} : Rl K H m (.bl i) (.bl i) := by rw [Rl]
theorem rl_str {K : PySem.W.Frag} {H : Hp} {m : List Addr} {i : Str} : Rl K H m (.str i) (.str i) := by rw [Rl]
theorem rl_non {K : PySem.W.Frag} {H : Hp} {m : List Addr} : Rl K H m .non .non := by rw [Rl]
def oSub : Bop := oI fun i j => .int (i - j)
theorem ok_sub : OpOk X (binaryOp .Sub) oSub := opOk_I op_sub fun _ _ _ _ => rl_int
def oMulI : Bop := oIc bMul fun i j => .int (i * j)
def oDiv : Bop := oIc bDiv fun i j => .int (i / j)
theorem ok_div : OpOk X (binaryOp .FloorDiv) oDiv := opOk_Ic op_fdiv (fun _ _ _ _ => rl_int) fun i j h => by
  unfold bDiv at h
  simp only [Bool.and_eq_true, decide_eq_true_eq] at h
  exact h
def oMod : Bop := oIc bMod fun i j => .int (i % j)
theorem ok_mod : OpOk X (binaryOp .Mod) oMod := opOk_Ic op_mod (fun _ _ _ _ => rl_int) fun i j h => by
  unfold bMod at h
  simpa using h
def oPow : Bop := oIc bPow fun i j => .int (i ^ j.toNat)
theorem ok_pow : OpOk X (binaryOp .Pow) oPow := opOk_Ic op_pow (fun _ _ _ _ => rl_int) fun i j h => by
  unfold bPow at h
  simp only [Bool.and_eq_true, decide_eq_true_eq] at h
  exact ⟨h.1.1, h.1.2, h.2⟩
def oLt : Bop := oI fun i j => .bl (decide (i < j))
theorem ok_lt : OpOk X (compareOp .Lt) oLt := opOk_I op_lt fun _ _ _ _ => rl_bl
def oLe : Bop := oI fun i j => .bl (decide (i ≤ j))
theorem ok_le : OpOk X (compareOp .LtE) oLe := opOk_I op_le fun _ _ _ _ => rl_bl
def oGt : Bop := oI fun i j => .bl (decide (j < i))
theorem ok_gt : OpOk X (compareOp .Gt) oGt := opOk_I op_gt fun _ _ _ _ => rl_bl
def oGe : Bop := oI fun i j => .bl (decide (j ≤ i))
theorem ok_ge : OpOk X (compareOp .GtE) oGe := opOk_I op_ge fun _ _ _ _ => rl_bl
/-! ### + -/
def oAdd : Bop := fun d e M => match d, e with
  | .int i, .int j => some (.val (.int (i + j)))
  | .str i, .str j => if i.length + j.length ≤ sizeLine then some (.val (.str (i ++ j))) else none
  | .tup xs, .tup ys => if xs.length + ys.length ≤ sizeLine then some (.val (.tup (xs ++ ys))) else none
  | d, e => match asW M d, asW M e with
    | some xs, some ys => if xs.length + ys.length ≤ sizeLine then some (.new (xs ++ ys)) else none
    | _, _ => none
theorem rls_nil {K : PySem.W.Frag} {H : Hp} {m : List Addr} {vs : List V} (h : Rls K H m [] vs) : vs = [] := by rw [Rls] at h; exact h
theorem rls_of_nil {K : PySem.W.Frag} {H : Hp} {m : List Addr} {ds : List D} (h : Rls K H m ds []) : ds = [] := by
  have := h.length
  exact List.eq_nil_of_length_eq_zero (by simpa using this)
theorem ok_add : OpOk X (binaryOp .Add) oAdd := by
  refine ⟨_, op_add.or (op_add_str.or (op_catA.or op_cat)), fun H m M d e x y z Q w rd re ho P => ?_⟩
  unfold oAdd at ho
  split at ho
  · rename_i i j
    cases ho
    rw [Rl] at rd re
    exact .inl ⟨i, j, rd, re, P.val w rl_int⟩
  · rename_i i j
    rw [Rl] at rd re
    split at ho
    · rename_i hl
      cases ho
      exact .inr (.inl ⟨i, j, rd, re, hl, P.val w rl_str⟩)
    · cases ho
  · rename_i xs ys
    split at ho
    · rename_i hl
      cases ho
      rw [Rl] at rd re
      obtain ⟨a, vs, rfl, hv, r1⟩ := rd
      obtain ⟨b, ws, rfl, hw, r2⟩ := re
      refine .inr (.inr (.inl ⟨a, b, vs, ws, rfl, rfl, hv, hw, by rw [← r1.length, ← r2.length]; exact hl, fun q => ?_, fun _ q => ?_, fun _ _ => P.tup w (r1.append r2)⟩))
      · subst q
        have := rls_of_nil r1; subst this
        exact P.val w (by rw [Rl]; exact ⟨b, ws, rfl, hw, r2⟩)
      · subst q
        have := rls_of_nil r2; subst this
        exact P.val w (by rw [Rl]; exact ⟨a, vs, rfl, hv, by simpa using r1⟩)
    · cases ho
  · split at ho
    · rename_i xs ys h1 h2
      split at ho
      · rename_i hl
        cases ho
        obtain ⟨a, vs, rfl, hv, r1⟩ := asW_ok w rd h1
        obtain ⟨b, ws, rfl, hw, r2⟩ := asW_ok w re h2
        exact .inr (.inr (.inr ⟨a, b, vs, ws, rfl, rfl, hv, hw, by rw [← r1.length, ← r2.length]; exact hl, P.new w (r1.append r2)⟩))
      · cases ho
    · cases ho

/-! ### is -/
def isBl (b : Bool) : D → Bool
  | .bl a => decide (a = b)
  | _ => false
def isNon : D → Bool
  | .non => true
  | _ => false
def oIs (neg : Bool) : Bop := fun d e _ => match e with
  | .non => some (.val (.bl (neg != isNon d)))
  | .bl b => some (.val (.bl (neg != isBl b d)))
  | _ => none
theorem plain_of {x : V} {v : Value} {b : Bool} (r : RelV x v) : plainIs v (.bool b) = true := by
  cases x with
  | non => cases r; rfl
  | bl _ => cases r; rfl
  | int _ => obtain ⟨t, rfl⟩ := r; rfl
  | str _ => obtain ⟨t, rfl⟩ := r; rfl
  | byt _ => obtain ⟨t, rfl⟩ := r; rfl
  | flt _ => obtain ⟨t, rfl⟩ := r; rfl
  | ref _ => cases r; rfl
  | ty _ => cases r; rfl
theorem beq_bl {x : V} {v : Value} {b : Bool} (r : RelV x v) : (v == Value.bool b) = decide (x = V.bl b) := by
  cases x with
  | non => cases r; rfl
  | bl a =>
    cases r
    by_cases e : a = b
    · subst e; simp
    · simp [e]
  | int _ => obtain ⟨t, rfl⟩ := r; rfl
  | str _ => obtain ⟨t, rfl⟩ := r; rfl
  | byt _ => obtain ⟨t, rfl⟩ := r; rfl
  | flt _ => obtain ⟨t, rfl⟩ := r; rfl
  | ref _ => cases r; rfl
  | ty _ => cases r; rfl
theorem op_isB : OpR X (compareOp .Is) (fun x y H Q => ∃ b, y = .bl b ∧ Q (.bl (decide (x = .bl b))) H) := by
  intro pins s σ H x y v u Q I rx ry h
  obtain ⟨b, rfl, q⟩ := h
  cases (show u = Value.bool b from ry)
  exact wpAny_is_plain (plain_of rx) ⟨.bl _, H, I, by rw [beq_bl rx]; rfl, q⟩
theorem op_notB : OpR X (compareOp .IsNot) (fun x y H Q => ∃ b, y = .bl b ∧ Q (.bl (!decide (x = .bl b))) H) := by
  intro pins s σ H x y v u Q I rx ry h
  obtain ⟨b, rfl, q⟩ := h
  cases (show u = Value.bool b from ry)
  exact wpAny_isNot_plain (plain_of rx) ⟨.bl _, H, I, by rw [beq_bl rx]; rfl, q⟩
theorem isNon_ok {K : PySem.W.Frag} {H : Hp} {m : List Addr} {d : D} {x : V} (rd : Rl K H m d x) : decide (x = V.non) = isNon d := by
  cases d <;> rw [Rl] at rd
  · simp [rd, isNon]
  all_goals first | (simp [rd, isNon]; done) | (obtain ⟨_, _, rfl, _⟩ := rd; simp [isNon]; done) | (obtain ⟨_, rfl, _⟩ := rd; simp [isNon]; done)
theorem isBl_ok {K : PySem.W.Frag} {H : Hp} {m : List Addr} {d : D} {x : V} {b : Bool} (rd : Rl K H m d x) : decide (x = V.bl b) = isBl b d := by
  cases d <;> rw [Rl] at rd
  all_goals first | (simp [rd, isBl]; done) | (obtain ⟨_, _, rfl, _⟩ := rd; simp [isBl]; done) | (obtain ⟨_, rfl, _⟩ := rd; simp [isBl]; done)
theorem ok_is : OpOk X (compareOp .Is) (oIs false) := by
  refine ⟨_, op_isN.or op_isB, fun H m M d e x y z Q w rd re ho P => ?_⟩
  unfold oIs at ho
  split at ho
  · cases ho
    rw [Rl] at re
    refine .inl ⟨re, ?_⟩
    rw [isNon_ok rd]
    exact P.val w (by rw [Rl]; cases isNon d <;> rfl)
  · rename_i b
    cases ho
    rw [Rl] at re
    refine .inr ⟨b, re, ?_⟩
    rw [isBl_ok rd]
    exact P.val w (by rw [Rl]; cases isBl b d <;> rfl)
  · cases ho
theorem ok_isnot : OpOk X (compareOp .IsNot) (oIs true) := by
  refine ⟨_, op_notN.or op_notB, fun H m M d e x y z Q w rd re ho P => ?_⟩
  unfold oIs at ho
  split at ho
  · cases ho
    rw [Rl] at re
    refine .inl ⟨re, ?_⟩
    rw [isNon_ok rd]
    exact P.val w (by rw [Rl]; cases isNon d <;> rfl)
  · rename_i b
    cases ho
    rw [Rl] at re
    refine .inr ⟨b, re, ?_⟩
    rw [isBl_ok rd]
    exact P.val w (by rw [Rl]; cases isBl b d <;> rfl)
  · cases ho

/-! ### == -/
mutual
def py0 : D → Option PyData
  | .non => some .none
  | .bl b => some (.bool b)
  | .int i => some (.int i)
  | .str x => some (.str x)
  | .tup ds => (py0s ds).map .tuple
  | .lst ds => (py0s ds).map .list
  | .scr ns => some (.list (ns.map .int))
  | .loc _ => none
def py0s : List D → Option (List PyData)
  | [] => some []
  | d :: ds => (py0 d).bind fun p => (py0s ds).bind fun ps => some (p :: ps)
end
def py (M : Mem) (d : D) : Option PyData := match d with
  | .loc k => match M[k]? with
    | some (.lst ds) => (py0s ds).map .list
    | _ => none
  | d => py0 d
section
variable {K : PySem.W.Frag} {H : Hp} {m : List Addr} {M : Mem}
mutual
theorem py0_ok : ∀ {d : D} {x : V} {p : PyData}, Rl K H m d x → py0 d = some p → Dp K H x p
  | .non, _, _, r, h => by rw [Rl] at r; subst r; cases h; exact .non
  | .bl b, _, _, r, h => by rw [Rl] at r; subst r; cases h; exact .bl b
  | .int b, _, _, r, h => by rw [Rl] at r; subst r; cases h; exact .int b
  | .str b, _, _, r, h => by rw [Rl] at r; subst r; cases h; exact .str b
  | .tup ds, _, p, r, h => by
    rw [Rl] at r
    obtain ⟨a, vs, rfl, h1, h2⟩ := r
    rw [py0] at h
    cases q : py0s ds with
    | none => rw [q] at h; cases h
    | some ps => rw [q] at h; cases h; exact .tup h1 (py0s_ok h2 q)
  | .lst ds, _, p, r, h => by
    rw [Rl] at r
    obtain ⟨a, vs, rfl, _, h1, h2⟩ := r
    rw [py0] at h
    cases q : py0s ds with
    | none => rw [q] at h; cases h
    | some ps => rw [q] at h; cases h; exact .lst (.of h1) (py0s_ok h2 q)
  | .scr ns, _, p, r, h => by
    rw [Rl] at r
    obtain ⟨a, rfl, h1⟩ := r
    rw [py0] at h
    cases h
    refine .lst h1.l ?_
    induction ns with
    | nil => exact .nil
    | cons n ns ih => exact .cons (.int n) (by
        clear h1 ih
        induction ns with
        | nil => exact .nil
        | cons n ns ih => exact .cons (.int n) ih)
  | .loc _, _, _, _, h => by cases h
theorem py0s_ok : ∀ {ds : List D} {vs : List V} {ps : List PyData}, Rls K H m ds vs → py0s ds = some ps → DpAll K H vs ps
  | [], _, _, r, h => by rw [Rls] at r; subst r; cases h; exact .nil
  | d :: ds, _, ps, r, h => by
    rw [Rls] at r
    obtain ⟨v, r', rfl, h1, h2⟩ := r
    rw [py0s] at h
    cases q : py0 d with
    | none => rw [q] at h; cases h
    | some p =>
      cases q2 : py0s ds with
      | none => rw [q, q2] at h; cases h
      | some ps2 => rw [q, q2] at h; cases h; exact .cons (py0_ok h1 q) (py0s_ok h2 q2)
end
theorem py_ok {d : D} {x : V} {p : PyData} (w : Wd K H m M) (r : Rl K H m d x) (h : py M d = some p) : Dp K H x p := by
  cases d with
  | loc k =>
    rw [Rl] at r
    obtain ⟨a, rfl, ha⟩ := r
    unfold py at h
    simp only at h
    split at h
    · rename_i ds hk
      cases q : py0s ds with
      | none => rw [q] at h; cases h
      | some ps =>
        rw [q] at h; cases h
        obtain ⟨b, hb, vs, h1, h2⟩ := w.get hk
        rw [ha] at hb; cases hb
        exact .lst (.of h1) (py0s_ok h2 q)
    · cases h
  | _ => exact py0_ok r h
end
def eqB (M : Mem) (d e : D) : Option Bool := match d, e with
  | .int i, .int j => some (decide (i = j))
  | .str i, .str j => some (decide (i = j))
  | .bl i, .bl j => some (decide (i = j))
  | d, e => match py M d, py M e with
    | some a, some b => if SeqAt.shaped a = true ∧ SeqAt.shaped b = true then some (PyData.eqv a b) else none
    | _, _ => none
def oEq : Bop := fun d e M => (eqB M d e).bind fun b => some (.val (.bl b))
def oNe : Bop := fun d e M => (eqB M d e).bind fun b => some (.val (.bl (!b)))
theorem eq_of {H : Hp} {m : List Addr} {M : Mem} {d e : D} {x y : V} {b : Bool} {K : PySem.W.Frag} (w : Wd K H m M) (rd : Rl K H m d x) (re : Rl K H m e y) (h : eqB M d e = some b) :
    (scal x y = true ∧ b = decide (x = y)) ∨ ∃ p q, Dp K H x p ∧ Dp K H y q ∧ SeqAt.shaped p = true ∧ SeqAt.shaped q = true ∧ b = PyData.eqv p q := by
  unfold eqB at h
  split at h
  · rw [Rl] at rd re; subst rd re; cases h; exact .inl ⟨rfl, by simp⟩
  · rw [Rl] at rd re; subst rd re; cases h; exact .inl ⟨rfl, by simp⟩
  · rw [Rl] at rd re; subst rd re; cases h; exact .inl ⟨rfl, by simp⟩
  · split at h
    · rename_i p q h1 h2
      split at h
      · rename_i hs
        cases h
        exact .inr ⟨p, q, py_ok w rd h1, py_ok w re h2, hs.1, hs.2, rfl⟩
      · cases h
    · cases h
theorem ok_eq (hu : X.A.units + 64 < cLine) : OpOk X (compareOp .Eq) oEq := by
  refine ⟨_, op_eq.or (op_eqD hu), fun H m M d e x y z Q w rd re ho P => ?_⟩
  unfold oEq at ho
  cases q : eqB M d e with
  | none => rw [q] at ho; cases ho
  | some b =>
    rw [q] at ho; cases ho
    rcases eq_of w rd re q with ⟨h1, rfl⟩ | ⟨p, p', h1, h2, h3, h4, rfl⟩
    · exact .inl ⟨h1, P.val w rl_bl⟩
    · exact .inr ⟨p, p', h1, h2, h3, h4, P.val w rl_bl⟩
theorem ok_ne (hu : X.A.units + 64 < cLine) : OpOk X (compareOp .NotEq) oNe := by
  refine ⟨_, op_ne.or (op_neD hu), fun H m M d e x y z Q w rd re ho P => ?_⟩
  unfold oNe at ho
  cases q : eqB M d e with
  | none => rw [q] at ho; cases ho
  | some b =>
    rw [q] at ho; cases ho
    rcases eq_of w rd re q with ⟨h1, rfl⟩ | ⟨p, p', h1, h2, h3, h4, rfl⟩
    · exact .inl ⟨h1, P.val w rl_bl⟩
    · exact .inr ⟨p, p', h1, h2, h3, h4, P.val w rl_bl⟩

/-! ### in -/
def fl : D → Bool
  | .non => true | .bl _ => true | .int _ => true | .str _ => true | _ => false
def eqF : D → D → Bool
  | .non, .non => true
  | .bl a, .bl b => a == b
  | .bl a, .int b => (if a then 1 else 0) == b
  | .int a, .bl b => a == (if b then 1 else 0)
  | .int a, .int b => a == b
  | .str a, .str b => a == b
  | _, _ => false
def inD (d : D) (ds : List D) : Bool := ds.any fun e => eqF e d
def oIn (neg : Bool) : Bop := fun d e M => (asS M e).bind fun ds => if fl d = true ∧ ds.all fl = true then some (.val (.bl (if neg then !inD d ds else inD d ds))) else none
theorem fl_ok {K : PySem.W.Frag} {H : Hp} {m : List Addr} {d : D} {x : V} (r : Rl K H m d x) (h : fl d = true) : flatV x = true := by
  cases d <;> first | (rw [Rl] at r; subst r; rfl) | cases h
theorem eqF_ok {K : PySem.W.Frag} {H : Hp} {m : List Addr} {d e : D} {x y : V} (r : Rl K H m d x) (r' : Rl K H m e y) (h : fl d = true) (h' : fl e = true) : eqF d e = eqV x y := by
  cases d <;> first | (cases h; done) | (cases e <;> first | (cases h'; done) | (rw [Rl] at r; rw [Rl] at r'; subst r r'; rfl))
theorem fls_ok {K : PySem.W.Frag} {H : Hp} {m : List Addr} : ∀ {ds : List D} {vs : List V}, Rls K H m ds vs → ds.all fl = true → vs.all flatV = true
  | [], _, r, _ => by rw [Rls] at r; subst r; rfl
  | d :: ds, _, r, h => by
    rw [Rls] at r
    obtain ⟨v, s, rfl, h1, h2⟩ := r
    rw [List.all_cons, Bool.and_eq_true] at h ⊢
    exact ⟨fl_ok h1 h.1, fls_ok h2 h.2⟩
theorem inD_ok {K : PySem.W.Frag} {H : Hp} {m : List Addr} {d : D} {x : V} (r : Rl K H m d x) (h : fl d = true) : ∀ {ds : List D} {vs : List V}, Rls K H m ds vs → ds.all fl = true → inD d ds = inV x vs
  | [], _, r, _ => by rw [Rls] at r; subst r; rfl
  | e :: ds, _, r', h' => by
    rw [Rls] at r'
    obtain ⟨v, s, rfl, h1, h2⟩ := r'
    rw [List.all_cons, Bool.and_eq_true] at h'
    show (eqF e d || inD d ds) = (eqV v x || inV x s)
    rw [eqF_ok h1 r h'.1 h, inD_ok r h h2 h'.2]
theorem in_of {neg : Bool} {H : Hp} {m : List Addr} {M : Mem} {d e : D} {x y : V} {z : Rz} {Q : VK} {K : PySem.W.Frag} (w : Wd K H m M) (rd : Rl K H m d x) (re : Rl K H m e y) (ho : oIn neg d e M = some z) (P : Post K H m z M Q) : rIn K neg x y H Q := by
  unfold oIn at ho
  cases q : asS M e with
  | none => rw [q] at ho; cases ho
  | some ds =>
    rw [q] at ho
    simp only [Option.bind_some] at ho
    split at ho
    · rename_i hh
      cases ho
      obtain ⟨a, vs, rfl, hs, hr⟩ := asS_ok w re q
      refine ⟨a, vs, rfl, hs, fl_ok rd hh.1, fls_ok hr hh.2, ?_⟩
      rw [← inD_ok rd hh.1 hr hh.2]
      exact P.val w rl_bl
    · cases ho
theorem ok_in : OpOk X (compareOp .In) (oIn false) := ⟨_, op_in_seq, fun H m M d e x y z Q w rd re ho P => in_of w rd re ho P⟩
theorem ok_notin : OpOk X (compareOp .NotIn) (oIn true) := ⟨_, op_notIn_seq, fun H m M d e x y z Q w rd re ho P => in_of w rd re ho P⟩
end
end CI

/-! Ci4: subscripts, slices, calls, attributes, methods -/
namespace CI
open PySem PySem.Spec PyProof.Rows L2

section
variable {K : PySem.W.Frag} {H : Hp} {m : List Addr} {M : Mem}
theorem Rls.atI {ds : List D} {vs : List V} (h : Rls K H m ds vs) {i : Int} {d : D} (q : L2.atI ds i = some d) : ∃ v, L2.atI vs i = some v ∧ Rl K H m d v := by
  unfold L2.atI at q ⊢
  rw [← h.length]
  cases e : ixN ds.length i with
  | none => rw [e] at q; cases q
  | some j =>
    rw [e] at q
    exact h.get (i := j) q
def cutD (xs : List D) (lo hi : Option Int) : List D := (xs.drop (HT.sIx xs.length 0 lo)).take (HT.sIx xs.length xs.length hi - HT.sIx xs.length 0 lo)
theorem Rls.cut {ds : List D} {vs : List V} (h : Rls K H m ds vs) (lo hi : Option Int) : Rls K H m (cutD ds lo hi) (cutV vs lo hi) := by
  unfold cutD cutV
  rw [← h.length]
  exact (h.drop _).take _
end

/-! ### subscripts -/
def oIx : Bop := fun d e M => match e with
  | .int i => match d with
    | .str z => if z.length ≤ sizeLine then (L2.atI z.cps.toList i).bind fun c => some (.val (.str ⟨#[c]⟩)) else none
    | d => (asS M d).bind fun ds => (L2.atI ds i).bind fun x => some (.val x)
  | _ => none
section
variable {X : Cx} {a b : Expr} {fa fb : Ef} {pos : Pos}
theorem ce_ix (ha : CEx X a fa) (hb : CEx X b fb) (hs : PlainIx b) : CEx X (.Subscript a b pos) (cBin oIx fa fb) := PE.imp (pe_ix ix_seq ha hb hs) fun σ H Q h => by
  refine bin_of (fun H m M d e x y z Q w rd re ho P => ?_) h
  unfold oIx at ho
  split at ho
  · rename_i i
    rw [Rl] at re; subst re
    split at ho
    · rename_i s
      rw [Rl] at rd; subst rd
      split at ho
      · rename_i hz
        cases q : L2.atI s.cps.toList i with
        | none => rw [q] at ho; cases ho
        | some c => rw [q] at ho; cases ho; exact .inr (.inr ⟨s, i, c, rfl, rfl, hz, q, P.val w rl_str⟩)
      · cases ho
    · cases q : asS M d with
      | none => rw [q] at ho; cases ho
      | some ds =>
        rw [q] at ho
        simp only [Option.bind_some] at ho
        cases q2 : L2.atI ds i with
        | none => rw [q2] at ho; cases ho
        | some c =>
          rw [q2] at ho; cases ho
          obtain ⟨p, vs, rfl, hs, hr⟩ := asS_ok w rd q
          obtain ⟨v, hv, rv⟩ := hr.atI q2
          rcases hs with hs | hs
          · exact .inl ⟨p, vs, i, v, rfl, rfl, hs, hv, P.val w rv⟩
          · exact .inr (.inl ⟨p, vs, i, v, rfl, rfl, hs, hv, P.val w rv⟩)
  · cases ho
end

/-! ### slices -/
abbrev Of := Slots → Mem → Option (Option Int × Mem)
def tO (K : PySem.W.Frag) (f : Of) : TO := fun σ H Q => ∃ ρ M m o M', Rs K H m ρ σ ∧ Wd K H m M ∧ f ρ M = some (o, M') ∧ ∀ H1 m1, Ext H m H1 m1 → Wd K H1 m1 M' → Q o H1
abbrev COx (X : Cx) (e : Option Expr) (f : Of) : Prop := PO X e (tO X.K f)
theorem PO.imp {X : Cx} {e : Option Expr} {t t' : TO} (h : PO X e t) (i : ∀ σ H Q, t' σ H Q → t σ H Q) : PO X e t' := ⟨fun pins s σ H Q I q => h.run pins s σ H Q I (i σ H Q q)⟩
def sNone : Of := fun _ M => some (none, M)
def sSome (f : Ef) : Of := fun ρ M => (f ρ M).bind fun p => match p.1.d with
  | .int i => some (some i, p.2)
  | _ => none
def oSl (lo hi : Option Int) (d : D) (M : Mem) : Option Rz := match d with
  | .tup ds => some (.val (.tup (cutD ds lo hi)))
  | .str z => if z.length ≤ sizeLine then some (.val (.str (cutS z lo hi))) else none
  | d => (asL M d).bind fun ds => some (.new (cutD ds lo hi))
def cSl (f : Ef) (l h : Of) : Ef := fun ρ M => (f ρ M).bind fun p => (l ρ p.2).bind fun q => (h ρ q.2).bind fun r => (oSl q.1 r.1 p.1.d r.2).bind fun z => some (z, r.2)
section
variable {X : Cx} {e : Expr} {lo hi : Option Expr} {f : Ef} {l h : Of} {pos p2 : Pos}
theorem co_some (he : CEx X e f) : COx X (some e) (sSome f) := PO.imp (po_some he) fun σ H Q ⟨ρ, M, m, o, M', rs, w, hf, P⟩ => by
  unfold sSome at hf
  cases ea : f ρ M with
  | none => rw [ea] at hf; cases hf
  | some p =>
    rw [ea] at hf
    simp only [Option.bind_some] at hf
    refine bindE rs w ea fun H1 m1 v e1 w1 rs1 r1 => ?_
    split at hf
    · rename_i i hi
      cases hf
      rw [hi, Rl] at r1
      exact ⟨i, r1, P H1 m1 e1 w1⟩
    · cases hf
theorem ce_sl (he : CEx X e f) (hl : COx X lo l) (hh : COx X hi h) : CEx X (.Subscript e (.Slice lo hi none p2) pos) (cSl f l h) := PE.imp (pe_slice (sl_tupA.or (sl_str.or sl_list)) he hl hh) fun σ H Q hq => by
  obtain ⟨ρ, M, m, z, M', rs, w, hf, P⟩ := hq
  unfold cSl at hf
  cases ea : f ρ M with
  | none => rw [ea] at hf; cases hf
  | some p =>
    cases el : l ρ p.2 with
    | none => simp [ea, el] at hf
    | some q =>
      cases eh : h ρ q.2 with
      | none => simp [ea, el, eh] at hf
      | some r =>
        cases ez : oSl q.1 r.1 p.1.d r.2 with
        | none => simp [ea, el, eh, ez] at hf
        | some z' =>
          simp [ea, el, eh, ez] at hf
          obtain ⟨rfl, rfl⟩ := hf
          refine bindE rs w ea fun H1 m1 v e1 w1 rs1 r1 => ?_
          refine ⟨ρ, p.2, m1, q.1, q.2, rs1, w1, el, fun H2 m2 e2 w2 => ?_⟩
          refine ⟨ρ, q.2, m2, r.1, r.2, rs1.ext e2, w2, eh, fun H3 m3 e3 w3 => ?_⟩
          have r3 := r1.ext (e2.trans e3)
          have P3 := P.ext ((e1.trans e2).trans e3)
          unfold oSl at ez
          split at ez
          · rename_i ds hd
            cases ez
            rw [hd, Rl] at r3
            obtain ⟨a, vs, rfl, hs, hr⟩ := r3
            refine .inl ⟨a, vs, rfl, hs, fun hw => ?_, fun _ => P3.tup w3 (hr.cut _ _)⟩
            refine P3.val w3 ?_
            rw [Rl]
            refine ⟨a, vs, rfl, hs, ?_⟩
            have e : cutD ds q.1 r.1 = ds := by
              unfold cutD
              rw [hr.length, hw.1, hw.2]
              rw [List.drop_zero, Nat.sub_zero, ← hr.length, List.take_length]
            rw [e]; exact hr
          · rename_i s hd
            split at ez
            · rename_i hz
              cases ez
              rw [hd, Rl] at r3; subst r3
              exact .inr (.inl ⟨s, rfl, hz, P3.val w3 rl_str⟩)
            · cases ez
          · cases eq : asL r.2 p.1.d with
            | none => simp [eq] at ez
            | some ds =>
              simp [eq] at ez
              subst ez
              obtain ⟨a, vs, rfl, hs, hr⟩ := asL_ok w3 r3 eq
              exact .inr (.inr ⟨a, vs, rfl, hs, P3.new w3 (hr.cut _ _)⟩)
end

/-! ### built-in calls -/
def Cop := List D → Mem → Option Rz
def ClOk (X : Cx) (f : Value) (o : Cop) : Prop := ∃ r, CallR X f r ∧ ∀ H m M ds xs z Q, Wd X.K H m M → Rls X.K H m ds xs → o ds M = some z → Post X.K H m z M Q → r xs H Q
def cCB (o : Cop) (g : Af) : Ef := fun ρ M => (g ρ M).bind fun p => (o p.1 p.2).bind fun r => some (r, p.2)
section
variable {X : Cx} {e : Expr} {es : List Expr} {g : Af} {o : Cop} {x : Str} {id T : String} {p pos : Pos}
theorem cb_of {r : List V → Hp → VK → Prop} (ho : ∀ H m M ds xs z Q, Wd X.K H m M → Rls X.K H m ds xs → o ds M = some z → Post X.K H m z M Q → r xs H Q) {σ : L2.St} {H : Hp} {Q : VK}
    (h : tE X.K (cCB o g) σ H Q) : tCB r (tA X.K g) σ H Q := by
  obtain ⟨ρ, M, m, z, M', rs, w, hf, P⟩ := h
  unfold cCB at hf
  cases ea : g ρ M with
  | none => rw [ea] at hf; cases hf
  | some p =>
    cases eb : o p.1 p.2 with
    | none => simp [ea, eb] at hf
    | some q =>
      simp [ea, eb] at hf
      obtain ⟨rfl, rfl⟩ := hf
      exact bindA rs w ea fun H1 m1 vs e1 w1 rs1 r1 => ho H1 m1 p.2 _ _ _ Q w1 r1 eb (P.ext e1)
theorem ce_callB (hc : ClOk X (.builtin id) o) (hg : Gl X x) (hm : X.mg x = none) (hv : bootBuiltins x = some (.builtin id)) (ha : CAx X (e :: es) g) (hn : x ≠ "__name__" := by decide) (hdb : (x == ("__debug__" : Str)) = false := by decide)
    (he : starEach (e :: es) X.env = (false, eval e X.env) :: starEach es X.env := by rfl) (hpl : (backTo pos (starEach es X.env)).any (·.1) = false := by rfl) : CEx X (.Call (.Name x p) (e :: es) [] pos) (cCB o g) := by
  obtain ⟨r, h1, h2⟩ := hc
  exact PE.imp (pe_callB h1 hg hm hv ha hn hdb he hpl) fun σ H Q h => cb_of h2 h
theorem ce_callTy (hc : ClOk X (.type T) o) (hg : Gl X x) (hm : X.mg x = none) (hv : bootBuiltins x = some (.type T)) (ha : CAx X (e :: es) g) (hn : x ≠ "__name__" := by decide) (hdb : (x == ("__debug__" : Str)) = false := by decide)
    (he : starEach (e :: es) X.env = (false, eval e X.env) :: starEach es X.env := by rfl) (hpl : (backTo pos (starEach es X.env)).any (·.1) = false := by rfl) : CEx X (.Call (.Name x p) (e :: es) [] pos) (cCB o g) := by
  obtain ⟨r, h1, h2⟩ := hc
  exact PE.imp (pe_callTy h1 hg hm hv ha hn hdb he hpl) fun σ H Q h => cb_of h2 h
def oLen : Cop := fun ds M => match ds with
  | [.str z] => if z.length ≤ sizeLine then some (.val (.int z.length)) else none
  | [d] => (asS M d).bind fun es => some (.val (.int es.length))
  | _ => none
theorem ok_len : ClOk X (.builtin "len") oLen := by
  refine ⟨_, call_len, fun H m M ds xs z Q w rd ho P => ?_⟩
  unfold oLen at ho
  split at ho
  · rename_i s
    split at ho
    · rename_i hz
      cases ho
      obtain ⟨v, rfl, r⟩ := rd.one
      rw [Rl] at r; subst r
      exact ⟨_, _, rfl, ⟨hz, rfl⟩, P.val w rl_int⟩
    · cases ho
  · rename_i d _
    obtain ⟨v, rfl, r⟩ := rd.one
    cases q : asS M d with
    | none => rw [q] at ho; cases ho
    | some es =>
      rw [q] at ho; cases ho
      obtain ⟨a, vs, rfl, hs, hr⟩ := asS_ok w r q
      refine ⟨_, vs.length, rfl, ?_, by rw [← hr.length]; exact P.val w rl_int⟩
      exact hs.elim (fun hs => .inl ⟨vs, hs, rfl⟩) fun hs => .inr ⟨vs, hs, rfl⟩
  · cases ho
def oInt : Cop := fun ds _ => match ds with
  | [.int i] => some (.val (.int i))
  | [.bl b] => some (.val (.int (if b then 1 else 0)))
  | _ => none
theorem ok_int : ClOk X (.type "int") oInt := by
  refine ⟨_, call_int1, fun H m M ds xs z Q w rd ho P => ?_⟩
  unfold oInt at ho
  split at ho
  · obtain ⟨v, rfl, r⟩ := rd.one
    rw [Rl] at r; subst r; cases ho
    exact .inl ⟨_, rfl, P.val w rl_int⟩
  · obtain ⟨v, rfl, r⟩ := rd.one
    rw [Rl] at r; subst r; cases ho
    exact .inr ⟨_, rfl, P.val w rl_int⟩
  · cases ho
def oTuple : Cop := fun ds M => match ds with
  | [d] => (asS M d).bind fun es => some (.val (.tup es))
  | _ => none
theorem ok_tuple : ClOk X (.type "tuple") oTuple := by
  refine ⟨_, call_tuple_of, fun H m M ds xs z Q w rd ho P => ?_⟩
  unfold oTuple at ho
  split at ho
  · rename_i d
    obtain ⟨v, rfl, r⟩ := rd.one
    cases q : asS M d with
    | none => rw [q] at ho; cases ho
    | some es =>
      rw [q] at ho; cases ho
      obtain ⟨a, vs, rfl, hs, hr⟩ := asS_ok w r q
      refine ⟨a, vs, rfl, ?_⟩
      rcases hs with hs | hs
      · exact .inl ⟨hs, P.tup w hr⟩
      · exact .inr ⟨hs, P.val w (by rw [Rl]; exact ⟨a, vs, rfl, hs, hr⟩)⟩
  · cases ho
def oList : Cop := fun ds M => match ds with
  | [d] => (asS M d).bind fun es => some (.new es)
  | _ => none
def oMax2 : Cop := fun ds _ => match ds with
  | [.int i, .int j] => some (.val (.int (if j > i then j else i)))
  | _ => none
def oMin2 : Cop := fun ds _ => match ds with
  | [.int i, .int j] => some (.val (.int (if j < i then j else i)))
  | _ => none
theorem ok_min2 (hc : X.calm = true) : ClOk X (.builtin "min") oMin2 := by
  refine ⟨_, call_min2 hc, fun H m M ds xs z Q w rd ho P => ?_⟩
  unfold oMin2 at ho
  split at ho
  · obtain ⟨v, u, rfl, r, r'⟩ := rd.two
    rw [Rl] at r; rw [Rl] at r'; subst r r'; cases ho
    exact ⟨_, _, rfl, P.val w rl_int⟩
  · cases ho
def oStr : Cop := fun ds _ => match ds with
  | [.int i] => if i.natAbs.log2 < 1920 then some (.val (.str (toString i))) else none
  | _ => none
/-! sorted of ints -/
def sIns (a : Int) : List Int → List Int
  | [] => [a]
  | b :: l => if a ≤ b then a :: b :: l else b :: sIns a l
def isort (l : List Int) : List Int := l.foldr sIns []
theorem sIns_perm (a : Int) : ∀ l, (sIns a l).Perm (a :: l)
  | [] => .refl _
  | b :: l => by
    unfold sIns
    split
    · exact .refl _
    · exact ((sIns_perm a l).cons b).trans (.swap a b l)
theorem isort_perm : ∀ l, (isort l).Perm l
  | [] => .refl _
  | a :: l => (sIns_perm a (isort l)).trans ((isort_perm l).cons a)
theorem sIns_pw (a : Int) : ∀ l : List Int, l.Pairwise (· ≤ ·) → (sIns a l).Pairwise (· ≤ ·)
  | [], _ => by simp [sIns]
  | b :: l, h => by
    unfold sIns
    rw [List.pairwise_cons] at h
    split
    · rename_i hab
      rw [List.pairwise_cons, List.pairwise_cons]
      refine ⟨fun x hx => ?_, h.1, h.2⟩
      rcases List.mem_cons.mp hx with e | e
      · rw [e]; exact hab
      · exact Int.le_trans hab (h.1 x e)
    · rename_i hab
      rw [List.pairwise_cons]
      refine ⟨fun x hx => ?_, sIns_pw a l h.2⟩
      rcases List.mem_cons.mp ((sIns_perm a l).mem_iff.mp hx) with e | e
      · omega
      · exact h.1 x e
theorem isort_pw : ∀ l : List Int, (isort l).Pairwise (· ≤ ·)
  | [] => .nil
  | a :: l => sIns_pw a _ (isort_pw l)
theorem sorted_one : ∀ {l l' : List Int}, l.Perm l' → l.Pairwise (· ≤ ·) → l'.Pairwise (· ≤ ·) → l = l'
  | [], l', p, _, _ => by rw [List.nil_perm.mp p]
  | a :: l, [], p, _, _ => by simp at p
  | a :: l, b :: l', p, h, h' => by
    rw [List.pairwise_cons] at h h'
    have e : a = b := by
      have h1 : a ∈ b :: l' := p.mem_iff.mp List.mem_cons_self
      have h2 : b ∈ a :: l := p.mem_iff.mpr List.mem_cons_self
      rcases List.mem_cons.mp h1 with e | e
      · exact e
      · rcases List.mem_cons.mp h2 with e' | e'
        · exact e'.symm
        · have := h'.1 a e; have := h.1 b e'; omega
    subst e
    rw [sorted_one (List.Perm.cons_inv p) h.2 h'.2]
def intsD : List D → Option (List Int)
  | [] => some []
  | .int i :: ds => (intsD ds).bind fun is => some (i :: is)
  | _ => none
theorem intsD_eq : ∀ {ds : List D} {is : List Int}, intsD ds = some is → ds = is.map .int
  | [], _, h => by cases h; rfl
  | d :: ds, is, h => by
    cases d with
    | int i =>
      rw [intsD] at h
      cases q : intsD ds with
      | none => rw [q] at h; cases h
      | some js => rw [q] at h; cases h; rw [intsD_eq q]; rfl
    | _ => simp [intsD] at h
theorem intsD_map : ∀ is : List Int, intsD (is.map .int) = some is
  | [] => rfl
  | i :: is => by simp [intsD, intsD_map is]
theorem rls_ints {K : PySem.W.Frag} {H : Hp} {m : List Addr} : ∀ {is : List Int} {vs : List V}, Rls K H m (is.map .int) vs → vs = is.map V.int
  | [], _, h => rls_nil h
  | i :: is, _, h => by
    rw [List.map_cons, Rls] at h
    obtain ⟨v, r, rfl, h1, h2⟩ := h
    rw [Rl] at h1
    rw [h1, rls_ints h2]; rfl
def oSorted : Cop := fun ds M => match ds with
  | [d] => (asL M d).bind fun es => (intsD es).bind fun is => some (.new ((isort is).map .int))
  | _ => none
theorem ok_sorted : ClOk X (.builtin "sorted") oSorted := by
  refine ⟨_, cr_sortedI, fun H m M ds xs z Q w rd ho P => ?_⟩
  unfold oSorted at ho
  split at ho
  · rename_i d
    obtain ⟨v, rfl, r⟩ := rd.one
    cases q : asL M d with
    | none => rw [q] at ho; cases ho
    | some es =>
      cases q2 : intsD es with
      | none => simp [q, q2] at ho
      | some is =>
        simp [q, q2] at ho
        subst ho
        obtain ⟨a, vs, rfl, hs, hr⟩ := asL_ok w r q
        rw [intsD_eq q2] at hr
        have e := rls_ints hr
        subst e
        refine ⟨a, is, rfl, hs, fun ns' p hp hw hn => ?_⟩
        rw [sorted_one (hp.trans (isort_perm is).symm) hw (isort_pw is)]
        exact P.new w .ints p hn
  · cases ho

/-! ### isinstance -/
def tyOf (M : Mem) : D → Option String
  | .non => some "NoneType" | .bl _ => some "bool" | .int _ => some "int" | .str _ => some "str" | .tup _ => some "tuple" | .lst _ => some "list" | .scr _ => some "list"
  | .loc k => match M[k]? with
    | some (.lst _) => some "list"
    | some (.dct _) => some "dict"
    | _ => none
def cIsI (n : String) (f : Ef) : Ef := fun ρ M => (f ρ M).bind fun p => (tyOf p.2 p.1.d).bind fun t => (kitB t n).bind fun b => some (.val (.bl b), p.2)
theorem tyOf_ok {K : PySem.W.Frag} {H : Hp} {m : List Addr} {M : Mem} {d : D} {x : V} {t : String} (w : Wd K H m M) (r : Rl K H m d x) (h : tyOf M d = some t) : TyX K H x (.type t) := by
  cases d with
  | non => rw [Rl] at r; subst r; cases h; exact .base .non
  | bl b => rw [Rl] at r; subst r; cases h; exact .base (.bl b)
  | int b => rw [Rl] at r; subst r; cases h; exact .base (.int b)
  | str b => rw [Rl] at r; subst r; cases h; exact .base (.str b)
  | tup ds =>
    rw [Rl] at r
    obtain ⟨a, vs, rfl, hs, _⟩ := r
    cases h
    rcases hs with (hs | ⟨o, hs⟩) | ⟨o, its, n, hk, hc, _⟩
    · exact .base (.tup hs)
    · exact .fTuple hs
    · exact .kTuple hk hc
  | lst ds =>
    rw [Rl] at r
    obtain ⟨a, vs, rfl, _, hs, _⟩ := r
    cases h
    exact .base (.lst hs)
  | scr ns =>
    rw [Rl] at r
    obtain ⟨a, rfl, hs⟩ := r
    cases h
    rcases hs with ⟨o, hs⟩ | ⟨o, its, n, hk, hc, _⟩
    · exact .base (.frz hs)
    · exact .kList hk hc
  | loc k =>
    rw [Rl] at r
    obtain ⟨a, rfl, ha⟩ := r
    unfold tyOf at h
    simp only at h
    split at h
    · rename_i ds hk
      cases h
      obtain ⟨b, hb, vs, h1, h2⟩ := w.get hk
      rw [ha] at hb; cases hb
      exact .base (.lst h1)
    · rename_i ds hk
      cases h
      obtain ⟨b, hb, vs, h1, h2⟩ := w.get hk
      rw [ha] at hb; cases hb
      exact .base (.dK h1)
    · cases h
theorem ce_isi {b : Expr} {n : String} {f : Ef} (hg : Gl X "isinstance") (hm : X.mg "isinstance" = none) (ha : CEx X e f) (hb : PE X b (tC (.ty n)))
    (he : starEach [e, b] X.env = (false, eval e X.env) :: starEach [b] X.env := by rfl) (he2 : starEach [b] X.env = (false, eval b X.env) :: starEach [] X.env := by rfl) (hpl : (backTo pos (starEach [b] X.env)).any (·.1) = false := by rfl) :
    CEx X (.Call (.Name "isinstance" p) [e, b] [] pos) (cIsI n f) :=
  PE.imp (pe_callB call_isi hg hm (by decide +kernel) (pa_cons ha (pa_cons hb pa_nil he2) he) (by decide) (by decide) he hpl) fun σ H Q h => by
    obtain ⟨ρ, M, m, z, M', rs, w, hf, P⟩ := h
    unfold cIsI at hf
    cases ea : f ρ M with
    | none => rw [ea] at hf; cases hf
    | some p =>
      cases eb : tyOf p.2 p.1.d with
      | none => simp [ea, eb] at hf
      | some t =>
        cases ec : kitB t n with
        | none => simp [ea, eb, ec] at hf
        | some k =>
          simp [ea, eb, ec] at hf
          obtain ⟨rfl, rfl⟩ := hf
          refine bindE rs w ea fun H1 m1 v e1 w1 rs1 r1 => ?_
          exact ⟨v, .ty n, _, _, k, rfl, .ty n, tyOf_ok w1 r1 eb, kit_ty ec, (P.ext e1).val w1 rl_bl⟩
/-! ### truth -/
def trD (M : Mem) (d : D) : Option Bool := match d with
  | .non => some false
  | .bl b => some b
  | .int i => some (i != 0)
  | .str y => if y.length ≤ sizeLine then some ((y.length : Int) != 0) else none
  | d => (asS M d).bind fun ds => some (!ds.isEmpty)
def toTr (f : Ef) : Tf := fun ρ M => (f ρ M).bind fun p => (trD p.2 p.1.d).bind fun b => some (b, p.2)
theorem ct_truth {f : Ef} (ha : CEx X e f) (he : ∀ whole, isTrue e X.env whole = (do let v ← whole; standAt e.pos; holding [v] (truthy v))) : CTx X e (toTr f) := PT.imp (pt_truth ha he) fun σ H Q h => by
  obtain ⟨ρ, M, m, z, M', rs, w, hf, P⟩ := h
  unfold toTr at hf
  cases ea : f ρ M with
  | none => rw [ea] at hf; cases hf
  | some p =>
    cases eb : trD p.2 p.1.d with
    | none => simp [ea, eb] at hf
    | some b =>
      simp [ea, eb] at hf
      obtain ⟨rfl, rfl⟩ := hf
      refine bindE rs w ea fun H1 m1 v e1 w1 rs1 r1 => ⟨b, ?_, P H1 m1 e1 w1⟩
      unfold trD at eb
      split at eb
      · rename_i hd; rw [hd, Rl] at r1; subst r1; cases eb; rfl
      · rename_i hd; rw [hd, Rl] at r1; subst r1; cases eb; rfl
      · rename_i hd; rw [hd, Rl] at r1; subst r1; cases eb; rfl
      · rename_i hd
        rw [hd, Rl] at r1; subst r1
        split at eb
        · rename_i hz; cases eb; exact ⟨hz, rfl⟩
        · cases eb
      · cases q : asS p.2 p.1.d with
        | none => simp [q] at eb
        | some ds =>
          simp only [q, Option.bind_some, Option.some.injEq] at eb
          subst eb
          obtain ⟨a, vs, rfl, hs, hr⟩ := asS_ok w1 r1 q
          have e : ds.isEmpty = vs.isEmpty := by
            have := hr.length
            cases ds <;> cases vs <;> simp_all
          rcases hs with hs | hs
          · exact .inl ⟨vs, hs, by rw [e]⟩
          · exact .inr (.inl ⟨vs, hs, by rw [e]⟩)
end
end CI

/-! Ci5: calls of defs, attributes, methods, statements, loops -/
namespace CI
open PySem PySem.Spec PyProof.Rows L2

/-! ### what a def means -/
def Fn := List D → Mem → Option (Rz × Mem)
def spF (K : PySem.W.Frag) (F : Fn) : Sp := fun vs H Q _ => ∃ ds M m r M', Rls K H m ds vs ∧ Wd K H m M ∧ F ds M = some (r, M') ∧ Post K H m r M' Q
def cCall (F : Fn) (g : Af) : Ef := fun ρ M => (g ρ M).bind fun p => F p.1 p.2
def cNew (c : Str) (F : Fn) (g : Af) : Ef := fun ρ M => (g ρ M).bind fun p => (F (.loc p.2.length :: p.1) (p.2 ++ [.ins c []])).bind fun q => match q.1 with
  | .val .non => some (.val (.loc p.2.length), q.2)
  | _ => none
def cMeth (c m : Str) (F : Fn) (f : Ef) (g : Af) : Ef := fun ρ M => (f ρ M).bind fun p => match p.1.d with
  | .loc k => match p.2[k]? with
    | some (.ins c' fs) => if c' = c ∧ fs.lookup m = none then (g ρ p.2).bind fun q => F (.loc k :: q.1) q.2 else none
    | _ => none
  | _ => none
def cFld (cs : List Str) (f : Str) (fo : Ef) : Ef := fun ρ M => (fo ρ M).bind fun p => match p.1.d with
  | .loc k => match p.2[k]? with
    | some (.ins c fs) => if c ∈ cs then (fs.lookup f).bind fun d => some (.val d, p.2) else none
    | _ => none
  | _ => none
section
variable {X : Cx} {k : Nat} {f : Addr} {fd : FuncData} {ps : List Str} {x m c : Str} {p pos apos : Pos} {e o : Expr} {es : List Expr} {G : Fn} {fo : Ef} {g : Af}
theorem call_of {σ : L2.St} {H : Hp} {Q : VK} {E : XK} (h : tE X.K (cCall G g) σ H Q) : tCall (spF X.K G) [] E (tA X.K g) σ H Q := by
  obtain ⟨ρ, M, m, z, M', rs, w, hf, P⟩ := h
  unfold cCall at hf
  cases ea : g ρ M with
  | none => rw [ea] at hf; cases hf
  | some p =>
    rw [ea] at hf
    exact bindA rs w ea fun H1 m1 vs e1 w1 rs1 r1 => ⟨p.1, p.2, m1, z, M', by rw [List.append_nil]; exact r1, w1, hf, P.ext e1⟩
theorem ce_call (F : FnOk X.prog X.w X.K X.mg X.base CX0 k f fd ps (spF X.K G)) (hr : Room k X.A) (hg : Gl X x) (hm : X.mg x = some (.ref f)) (hk : PySem.W.keepIn X.K (.ref f) = true) (hb : Binds X.K fd ps [])
    (ha : CAx X (e :: es) g) (hdb : (x == ("__debug__" : Str)) = false := by decide) (he : starEach (e :: es) X.env = (false, eval e X.env) :: starEach es X.env := by rfl) (hpl : (backTo pos (starEach es X.env)).any (·.1) = false := by rfl) :
    CEx X (.Call (.Name x p) (e :: es) [] pos) (cCall G g) := PE.imp (pe_call F hr hg hm hk hb .nil pass0 ha hdb he hpl) fun _ _ _ h => call_of h
theorem new_of {σ : L2.St} {H : Hp} {Q : VK} {E : XK} (h : tE X.K (cNew c G g) σ H Q) : tMake (He.ga X.K c) (spF X.K G) [] E (tA X.K g) σ H Q := by
  obtain ⟨ρ, M, m, z, M', rs, w, hf, P⟩ := h
  unfold cNew at hf
  cases ea : g ρ M with
  | none => rw [ea] at hf; cases hf
  | some p =>
    rw [ea] at hf
    simp only [Option.bind_some] at hf
    cases eb : G (.loc p.2.length :: p.1) (p.2 ++ [.ins c []]) with
    | none => rw [eb] at hf; cases hf
    | some q =>
      rw [eb] at hf
      simp only [Option.bind_some] at hf
      refine bindA rs w ea fun H1 m1 vs e1 w1 rs1 r1 => fun x dx nx ndx ne => ?_
      have e2 : Ext H1 m1 (upd H1 dx (.own x)) m1 := .new ndx
      have w2 : Wd X.K (upd H1 dx (.own x)) m1 p.2 := w1.new ndx
      have nx2 : upd H1 dx (.own x) x = none := by rw [upd_ne (Ne.symm ne)]; exact nx
      obtain ⟨w3, e3⟩ := w2.push (o := .ins c []) (u := .ins (He.ga X.K c) dx []) nx2 ⟨dx, [], upd_same, rfl⟩
      split at hf
      · rename_i hq
        cases hf
        refine ⟨.loc p.2.length :: p.1, _, m1 ++ [x], q.1, q.2, ?_, w3, eb, Post.use fun H4 m4 v e4 w4 r4 => ?_⟩
        · rw [Rls]
          refine ⟨_, _, rfl, ?_, by rw [List.append_nil]; exact r1.ext (e2.trans e3)⟩
          rw [Rl]
          exact ⟨x, rfl, by rw [← w1.len, List.getElem?_append_right (Nat.le_refl _)]; simp⟩
        · rw [hq] at r4
          rw [show (Rz.val D.non).d = .non from rfl, Rl] at r4
          refine ⟨r4, (P.ext (((e1.trans e2).trans e3).trans e4)).val w4 ?_⟩
          rw [Rl]
          exact ⟨x, rfl, e4.get (by rw [← w1.len, List.getElem?_append_right (Nat.le_refl _)]; simp)⟩
      · cases hf
theorem ce_new (Mk' : Mk X.K (He.ga X.K c) f) (F : FnOk X.prog X.w X.K X.mg X.base CX0 k f fd ps (spF X.K G)) (hr : Room (k + 1) X.A) (hg : Gl X x) (hm : X.mg x = some (.ref (He.ga X.K c))) (hb : Binds X.K fd ps [])
    (ha : CAx X (e :: es) g) (hdb : (x == ("__debug__" : Str)) = false := by decide) (he : starEach (e :: es) X.env = (false, eval e X.env) :: starEach es X.env := by rfl) (hpl : (backTo pos (starEach es X.env)).any (·.1) = false := by rfl) :
    CEx X (.Call (.Name x p) (e :: es) [] pos) (cNew c G g) := PE.imp (pe_make Mk' F hr hg hm hb .nil pass0 ha hdb he hpl) fun _ _ _ h => new_of h
theorem ce_fld {cs : List Str} {n : Str} (he : CEx X e fo) (hcs : ∀ c ∈ cs, Cls X.K (He.ga X.K c) ∧ NoAttr X.K (He.ga X.K c) n) (hb : attributeBase e n X.env (eval e X.env) = eval e X.env := by rfl) : CEx X (.Attribute e n pos) (cFld cs n fo) :=
  PE.imp (pe_fld he hb) fun σ H Q h => by
    obtain ⟨ρ, M, mm, z, M', rs, w, hf, P⟩ := h
    unfold cFld at hf
    cases ea : fo ρ M with
    | none => rw [ea] at hf; cases hf
    | some p =>
      rw [ea] at hf
      simp only [Option.bind_some] at hf
      refine bindE rs w ea fun H1 m1 v e1 w1 rs1 r1 => ?_
      split at hf
      · rename_i k hk
        rw [hk, Rl] at r1
        obtain ⟨a, rfl, ha⟩ := r1
        split at hf
        · rename_i c fs hfs
          split at hf
          · rename_i hc
            obtain ⟨b, hb, dx, gs, h1, h2⟩ := w1.get hfs
            rw [ha] at hb; cases hb
            cases q : fs.lookup n with
            | none => rw [q] at hf; cases hf
            | some d =>
              rw [q] at hf
              cases hf
              obtain ⟨v, hv, rv⟩ := h2.lookup q
              exact ⟨a, _, dx, gs, v, rfl, h1, (hcs c hc).1, (hcs c hc).2, hv, (P.ext e1).val w1 rv⟩
          · cases hf
        · cases hf
      · cases hf
end

/-! ### methods of lists -/
def Mop := D → List D → Mem → Option (Rz × Mem)
def MtOk (X : Cx) (T id : String) (o : Mop) : Prop := ∃ r, MtR X id r ∧ ∀ H m M d ds x xs z M' Q, Wd X.K H m M → Rl X.K H m d x → Rls X.K H m ds xs → o d ds M = some (z, M') → Post X.K H m z M' Q → r x xs H Q
def cBM (T : String) (o : Mop) (f : Ef) (g : Af) : Ef := fun ρ M => (f ρ M).bind fun p => if tyOf p.2 p.1.d = some T then (g ρ p.2).bind fun q => o p.1.d q.1 q.2 else none
section
variable {X : Cx} {o e : Expr} {es : List Expr} {fo : Ef} {g : Af} {name : Str} {apos cpos : Pos} {id : String} {op : Mop}
theorem tyV_list {K : PySem.W.Frag} {H : Hp} {m : List Addr} {M : Mem} {d : D} {x : V} (w : Wd K H m M) (r : Rl K H m d x) (h : tyOf M d = some "list") : tyV K "list" x H := by
  cases d with
  | lst ds => rw [Rl] at r; obtain ⟨a, vs, rfl, _, h1, _⟩ := r; exact .inl ⟨rfl, vs, .of h1⟩
  | scr ns => rw [Rl] at r; obtain ⟨a, rfl, h1⟩ := r; exact .inl ⟨rfl, _, h1.l⟩
  | loc k =>
    rw [Rl] at r
    obtain ⟨a, rfl, ha⟩ := r
    unfold tyOf at h
    simp only at h
    split at h
    · rename_i ds hk
      obtain ⟨b, hb, vs, h1, h2⟩ := w.get hk
      rw [ha] at hb; cases hb
      exact .inl ⟨rfl, vs, .of h1⟩
    · exact absurd (Option.some.inj h) (by decide)
    · cases h
  | non => exact absurd (Option.some.inj h) (by decide)
  | bl b => exact absurd (Option.some.inj h) (by decide)
  | int b => exact absurd (Option.some.inj h) (by decide)
  | str b => exact absurd (Option.some.inj h) (by decide)
  | tup b => exact absurd (Option.some.inj h) (by decide)
theorem bm_of {r : V → List V → Hp → VK → Prop} (ho : ∀ H m M d ds x xs z M' Q, Wd X.K H m M → Rl X.K H m d x → Rls X.K H m ds xs → op d ds M = some (z, M') → Post X.K H m z M' Q → r x xs H Q) {σ : L2.St} {H : Hp} {Q : VK}
    (h : tE X.K (cBM "list" op fo g) σ H Q) : tBM X.K "list" r (tE X.K fo) (tA X.K g) σ H Q := by
  obtain ⟨ρ, M, mm, z, M', rs, w, hf, P⟩ := h
  unfold cBM at hf
  cases ea : fo ρ M with
  | none => rw [ea] at hf; cases hf
  | some p =>
    rw [ea] at hf
    simp only [Option.bind_some] at hf
    refine bindE rs w ea fun H1 m1 v e1 w1 rs1 r1 => ?_
    split at hf
    · rename_i ht
      refine ⟨tyV_list w1 r1 ht, ?_⟩
      cases eg : g ρ p.2 with
      | none => rw [eg] at hf; cases hf
      | some q =>
        rw [eg] at hf
        simp only [Option.bind_some] at hf
        exact bindA rs1 w1 eg fun H2 m2 vs e2 w2 rs2 r2 => ho H2 m2 q.2 _ _ _ _ _ _ Q w2 (r1.ext e2) r2 hf (P.ext (e1.trans e2))
    · cases hf
theorem ce_bm (pa : PlainAttrs "list") (slot : Slot "list" name id) (hty : typeOf (.builtin id) = pure (.type "method_descriptor")) (hm : MtOk X "list" id op) (ho : CEx X o fo) (ha : CAx X (e :: es) g)
    (hbase : attributeBase o name X.env (eval o X.env) = eval o X.env := by rfl)
    (hfew : ((backTo cpos (starEach (e :: es) X.env)).all (fun x => !x.1) && (backToKw cpos (keywordEach [] X.env)).all (fun x => x.1.isSome)
      && decide ((e :: es).length + ([] : List Keyword).length + (if ([] : List Keyword).isEmpty then 0 else 1) < 30)) = true := by rfl)
    (hline : (apos.endLine == cpos.line) = true := by rfl) (hs : starEach (e :: es) X.env = (false, eval e X.env) :: starEach es X.env := by rfl) (hplain : (backTo cpos (starEach es X.env)).any (·.1) = false := by rfl) :
    CEx X (.Call (.Attribute o name apos) (e :: es) [] cpos) (cBM "list" op fo g) := by
  obtain ⟨r, h1, h2⟩ := hm
  exact PE.imp (pe_bm pa slot hty h1 ho ha hbase hfew hline hs hplain) fun _ _ _ h => bm_of h2 h
/-- the object k is changed: what follows -/
theorem Post.set {K : PySem.W.Frag} {H : Hp} {m : List Addr} {M : Mem} {k : Nat} {a : Addr} {ob : O} {u : HO} {z : D} {v : V} {Q : VK} (w : Wd K H m M) (hk : m[k]? = some a) (P : Post K H m (.val z) (M.set k ob) Q)
    (ho : Ro K (upd H a u) m a ob) (hz : Rl K (upd H a u) m z v) : Q v (upd H a u) := P _ m (w.ext_set hk) (w.set hk ho) v hz
def oAppend : Mop := fun d ds M => match d, ds with
  | .loc k, [x] => match M[k]? with
    | some (.lst es) => if es.length < sizeLine then some (.val .non, M.set k (.lst (es ++ [x]))) else none
    | _ => none
  | _, _ => none
theorem ok_append : MtOk X "list" "list.append" oAppend := by
  refine ⟨_, mt_append, fun H m M d ds x xs z M' Q w rd rds ho P => ?_⟩
  unfold oAppend at ho
  split at ho
  · rename_i k y
    split at ho
    · rename_i es hk
      split at ho
      · rename_i hz
        cases ho
        rw [Rl] at rd
        obtain ⟨a, rfl, ha⟩ := rd
        obtain ⟨b, hb, vs, h1, h2⟩ := w.get hk
        rw [ha] at hb; cases hb
        obtain ⟨v, rfl, rv⟩ := rds.one
        have e := w.ext_set (K := X.K) (u := .lst (vs ++ [v])) ha
        refine ⟨a, vs, v, rfl, rfl, h1, by rw [← h2.length]; exact hz, P.set w ha ⟨_, upd_same, ?_⟩ rl_non⟩
        exact (h2.ext e).append (by rw [Rls]; exact ⟨_, _, rfl, rv.ext e, by rw [Rls]⟩)
      · cases ho
    · cases ho
  · cases ho
end

/-! ### statements -/
inductive Fl where
  | nx | bk | ct | rt (r : Rz)
abbrev Sf := Slots → Mem → Option (Fl × Slots × Mem)
def PostN (K : PySem.W.Frag) (H : Hp) (m : List Addr) (ρ' : Slots) (M' : Mem) (N : L2.St → Hp → Prop) : Prop := ∀ H1 m1 σ1, Ext H m H1 m1 → Wd K H1 m1 M' → Rs K H1 m1 ρ' σ1 → N σ1 H1
def PostS (K : PySem.W.Frag) (H : Hp) (m : List Addr) (fl : Fl) (ρ' : Slots) (M' : Mem) (Dn : Ends) : Prop := match fl with
  | .nx => PostN K H m ρ' M' Dn.nx
  | .bk => PostN K H m ρ' M' Dn.bk
  | .ct => PostN K H m ρ' M' Dn.ct
  | .rt r => Post K H m r M' Dn.rt
def tS (K : PySem.W.Frag) (f : Sf) : TS := fun Dn σ H => ∃ ρ M m fl ρ' M', Rs K H m ρ σ ∧ Wd K H m M ∧ f ρ M = some (fl, ρ', M') ∧ PostS K H m fl ρ' M' Dn
abbrev CSx (X : Cx) (st : Stmt) (f : Sf) : Prop := PS X st (tS X.K f)
abbrev CBx (X : Cx) (st : List Stmt) (f : Sf) : Prop := PSs X st (tS X.K f)
theorem PS.imp {X : Cx} {e : Stmt} {t t' : TS} (h : PS X e t) (i : ∀ Dn σ H, t' Dn σ H → t Dn σ H) : PS X e t' := ⟨fun pins s σ H Q I q => h.run pins s σ H Q I (i Q σ H q)⟩
theorem PSs.imp {X : Cx} {e : List Stmt} {t t' : TS} (h : PSs X e t) (i : ∀ Dn σ H, t' Dn σ H → t Dn σ H) : PSs X e t' := ⟨fun pins s σ H Q I q => h.run pins s σ H Q I (i Q σ H q)⟩
section
variable {K : PySem.W.Frag} {H H1 : Hp} {m m1 : List Addr} {ρ' : Slots} {M' : Mem} {fl : Fl} {Dn : Ends}
theorem PostN.ext {N : L2.St → Hp → Prop} (P : PostN K H m ρ' M' N) (e : Ext H m H1 m1) : PostN K H1 m1 ρ' M' N := fun H2 m2 σ2 e2 w r => P H2 m2 σ2 (e.trans e2) w r
theorem PostS.ext (P : PostS K H m fl ρ' M' Dn) (e : Ext H m H1 m1) : PostS K H1 m1 fl ρ' M' Dn := by
  cases fl with
  | nx => exact PostN.ext P e
  | bk => exact PostN.ext P e
  | ct => exact PostN.ext P e
  | rt r => exact Post.ext P e
end
section
variable {X : Cx} {st : Stmt} {rest : List Stmt} {f g : Sf} {fe fo : Ef} {ft : Tf} {e : Expr} {pos : Pos}
def sNil : Sf := fun ρ M => some (.nx, ρ, M)
def sCons (f g : Sf) : Sf := fun ρ M => (f ρ M).bind fun p => match p.1 with
  | .nx => g p.2.1 p.2.2
  | fl => some (fl, p.2.1, p.2.2)
theorem nx_of {Dn : Ends} {σ : L2.St} {H : Hp} (h : tS X.K sNil Dn σ H) : Dn.nx σ H := by
  obtain ⟨ρ, M, m, fl, ρ', M', rs, w, hf, P⟩ := h
  cases hf
  exact P H m σ .refl w rs
theorem cb_nil : CBx X [] sNil := PSs.imp pss_nil fun _ _ _ h => nx_of h
theorem cb_cons (h1 : CSx X st f) (h2 : CBx X rest g) : CBx X (st :: rest) (sCons f g) := PSs.imp (pss_cons h1 h2) fun Dn σ H h => by
  obtain ⟨ρ, M, m, fl, ρ', M', rs, w, hf, P⟩ := h
  unfold sCons at hf
  cases ea : f ρ M with
  | none => rw [ea] at hf; cases hf
  | some p =>
    obtain ⟨fl1, ρ1, M1⟩ := p
    rw [ea] at hf
    simp only [Option.bind_some] at hf
    refine ⟨ρ, M, m, fl1, ρ1, M1, rs, w, ea, ?_⟩
    cases fl1 with
    | nx => exact fun H1 m1 σ1 e1 w1 r1 => ⟨ρ1, M1, m1, fl, ρ', M', r1, w1, hf, P.ext e1⟩
    | bk => cases hf; exact P
    | ct => cases hf; exact P
    | rt r => cases hf; exact P
theorem cb_one (h1 : CSx X st f) : CBx X [st] f := pss_one h1
def sBreak : Sf := fun ρ M => some (.bk, ρ, M)
def sCont : Sf := fun ρ M => some (.ct, ρ, M)
def sExpr (f : Ef) : Sf := fun ρ M => (f ρ M).bind fun p => some (.nx, ρ, p.2)
theorem cs_expr (he : CEx X e fe) (hs : swapsWith e none pos.line X.env = pure false := by rfl) : CSx X (.Expr e pos) (sExpr fe) := PS.imp (ps_expr he hs) fun Dn σ H h => by
  obtain ⟨ρ, M, m, fl, ρ', M', rs, w, hf, P⟩ := h
  unfold sExpr at hf
  cases ea : fe ρ M with
  | none => rw [ea] at hf; cases hf
  | some p =>
    rw [ea] at hf
    cases hf
    exact bindE rs w ea fun H1 m1 v e1 w1 rs1 r1 => P H1 m1 σ e1 w1 rs1
def sRet (f : Ef) : Sf := fun ρ M => (f ρ M).bind fun p => some (.rt p.1, ρ, p.2)
theorem cs_ret (he : CEx X e fe) : CSx X (.Return (some e) pos) (sRet fe) := PS.imp (ps_ret he) fun Dn σ H h => by
  obtain ⟨ρ, M, m, fl, ρ', M', rs, w, hf, P⟩ := h
  unfold sRet at hf
  cases ea : fe ρ M with
  | none => rw [ea] at hf; cases hf
  | some p =>
    rw [ea] at hf
    cases hf
    exact ⟨ρ, M, m, p.1, p.2, rs, w, ea, P⟩
def sRetN : Sf := fun ρ M => some (.rt (.val .non), ρ, M)
def sIf (t : Tf) (f g : Sf) : Sf := fun ρ M => (t ρ M).bind fun p => if p.1 = true then f ρ p.2 else g ρ p.2
theorem cs_if {c : Expr} {a b : List Stmt} (hc : CTx X c ft) (ha : CBx X a f) (hb : CBx X b g) : CSx X (.If c a b pos) (sIf ft f g) := PS.imp (ps_if hc ha hb) fun Dn σ H h => by
  obtain ⟨ρ, M, m, fl, ρ', M', rs, w, hf, P⟩ := h
  unfold sIf at hf
  cases ea : ft ρ M with
  | none => rw [ea] at hf; cases hf
  | some p =>
    rw [ea] at hf
    simp only [Option.bind_some] at hf
    refine bindT rs w ea fun H1 m1 e1 w1 rs1 => ?_
    split at hf
    · rename_i e; rw [if_pos e]; exact ⟨ρ, p.2, m1, fl, ρ', M', rs1, w1, hf, P.ext e1⟩
    · rename_i e; rw [if_neg e]; exact ⟨ρ, p.2, m1, fl, ρ', M', rs1, w1, hf, P.ext e1⟩
/-- name = value -/
def sSet (i : Nat) (f : Ef) : Sf := fun ρ M => (f ρ M).bind fun p => some (.nx, ρ.set i (some p.1.d), p.2)
theorem cs_set {i : Nat} (h : PS X st (tAsg (tE X.K fe) (gName i))) : CSx X st (sSet i fe) := PS.imp h fun Dn σ H h => by
  obtain ⟨ρ, M, m, fl, ρ', M', rs, w, hf, P⟩ := h
  unfold sSet at hf
  cases ea : fe ρ M with
  | none => rw [ea] at hf; cases hf
  | some p =>
    rw [ea] at hf
    cases hf
    exact bindE rs w ea fun H1 m1 v e1 w1 rs1 r1 => P H1 m1 _ e1 w1 (rs1.set r1 i)
/-- name = value, a new list becomes an object of our own -/
def sSetM (i : Nat) (f : Ef) : Sf := fun ρ M => (f ρ M).bind fun p => match p.1 with
  | .new ds => some (.nx, ρ.set i (some (.loc p.2.length)), p.2 ++ [.lst ds])
  | .val d => some (.nx, ρ.set i (some d), p.2)
theorem cs_setM {i : Nat} (h : PS X st (tAsg (tE X.K fe) (gName i))) : CSx X st (sSetM i fe) := PS.imp h fun Dn σ H h => by
  obtain ⟨ρ, M, m, fl, ρ', M', rs, w, hf, P⟩ := h
  unfold sSetM at hf
  cases ea : fe ρ M with
  | none => rw [ea] at hf; cases hf
  | some p =>
    obtain ⟨r, M1⟩ := p
    rw [ea] at hf
    simp only [Option.bind_some] at hf
    refine ⟨ρ, M, m, r, M1, rs, w, ea, fun H1 m1 e1 w1 => ?_⟩
    cases r with
    | val d =>
      cases hf
      exact fun v r1 => P H1 m1 _ e1 w1 ((rs.ext e1).set r1 i)
    | new ds =>
      cases hf
      intro vs a r1 n
      obtain ⟨w2, e2⟩ := w1.push (o := .lst ds) (u := .lst vs) n (by
        refine ⟨vs, upd_same, ?_⟩
        have e1 : Ext H1 m1 (upd H1 a (.lst vs)) m1 := .new n
        exact r1.ext ⟨e1.tup, e1.frz, e1.oth, e1.trk, [a], rfl, fun b q => by simp at q; rw [q]; exact n⟩)
      refine P _ _ _ (e1.trans e2) w2 (((rs.ext e1).ext e2).set ?_ i)
      rw [Rl]
      exact ⟨a, rfl, by rw [← w1.len, List.getElem?_append_right (Nat.le_refl _)]; simp⟩
end

/-! ### fields stored -/
def putD (f : Str) (v : D) : List (Str × D) → List (Str × D)
  | [] => [(f, v)]
  | (g, x) :: r => if g = f then (g, v) :: r else (g, x) :: putD f v r
theorem Rfs.put {K : PySem.W.Frag} {H : Hp} {m : List Addr} {f : Str} {d : D} {v : V} (r : Rl K H m d v) : ∀ {fs : List (Str × D)} {gs : List (Str × V)}, Rfs K H m fs gs → Rfs K H m (putD f d fs) (putF f v gs)
  | [], _, h => by cases h; exact ⟨v, [], rfl, r, rfl⟩
  | (g, x) :: fs, _, h => by
    obtain ⟨u, s, rfl, h1, h2⟩ := h
    unfold putD putF
    split
    · exact ⟨v, s, rfl, r, h2⟩
    · exact ⟨u, _, rfl, h1, Rfs.put r h2⟩
def stFld (cs : List Str) (f : Str) (fo : Ef) (d : D) (ρ : Slots) (M : Mem) : Option (Fl × Slots × Mem) := (fo ρ M).bind fun q => match q.1.d with
  | .loc k => match q.2[k]? with
    | some (.ins c fs) => if c ∈ cs ∧ fs.length < 1000 then some (.nx, ρ, q.2.set k (.ins c (putD f d fs))) else none
    | _ => none
  | _ => none
def sFldS (cs : List Str) (f : Str) (fo fv : Ef) : Sf := fun ρ M => (fv ρ M).bind fun p => stFld cs f fo p.1.d ρ p.2
def sFldM (cs : List Str) (f : Str) (fo fv : Ef) : Sf := fun ρ M => (fv ρ M).bind fun p => match p.1 with
  | .new ds => stFld cs f fo (.loc p.2.length) ρ (p.2 ++ [.lst ds])
  | .val d => stFld cs f fo d ρ p.2
section
variable {X : Cx} {st : Stmt} {fe fo fv : Ef} {o value : Expr} {n : Str} {pos pos' : Pos} {cs : List Str}
theorem fld_of {ρ ρ' : Slots} {M M' : Mem} {fl : Fl} {d : D} {y : V} {H H0 : Hp} {m m0 : List Addr} {σ : L2.St} {Dn : Ends} (hcs : ∀ c ∈ cs, Cls X.K (He.ga X.K c) ∧ NoAttr X.K (He.ga X.K c) n) (e : Ext H0 m0 H m) (rs : Rs X.K H m ρ σ) (w : Wd X.K H m M) (r : Rl X.K H m d y)
    (hf : stFld cs n fo d ρ M = some (fl, ρ', M')) (P : PostS X.K H0 m0 fl ρ' M' Dn) :
    tE X.K fo σ H fun x H2 => ∃ a C dx fs, x = .ref a ∧ H2 a = some (.ins C dx fs) ∧ Cls X.K C ∧ NoAttr X.K C n ∧ fs.length < 1000 ∧ Dn.nx σ (upd H2 a (.ins C dx (putF n y fs))) := by
  unfold stFld at hf
  cases ea : fo ρ M with
  | none => rw [ea] at hf; cases hf
  | some q =>
    rw [ea] at hf
    simp only [Option.bind_some] at hf
    refine bindE rs w ea fun H1 m1 v e1 w1 rs1 r1 => ?_
    split at hf
    · rename_i k hk
      rw [hk, Rl] at r1
      obtain ⟨a, rfl, ha⟩ := r1
      split at hf
      · rename_i c fs hfs
        split at hf
        · rename_i hc
          cases hf
          obtain ⟨b, hb, dx, gs, h1, h2⟩ := w1.get hfs
          rw [ha] at hb; cases hb
          have e2 := w1.ext_set (u := .ins (He.ga X.K c) dx (putF n y gs)) ha
          refine ⟨a, _, dx, gs, rfl, h1, (hcs c hc.1).1, (hcs c hc.1).2, by rw [← h2.length]; exact hc.2, ?_⟩
          exact P _ m1 σ ((e.trans e1).trans e2) (w1.set ha ⟨dx, _, upd_same, Rfs.put ((r.ext e1).ext e2) (h2.ext e2)⟩) (rs1.ext e2)
        · cases hf
      · cases hf
    · cases hf
theorem cs_fld (ha : CEx X o fo) (hv : CEx X value fv) (hcs : ∀ c ∈ cs, Cls X.K (He.ga X.K c) ∧ NoAttr X.K (He.ga X.K c) n) (hs : swapsWith value (some (.Attribute o n pos')) pos.line X.env = pure false := by rfl) : CSx X (.Assign [.Attribute o n pos'] value pos) (sFldS cs n fo fv) :=
  PS.imp (ps_fld ha hv hs) fun Dn σ H h => by
    obtain ⟨ρ, M, m, fl, ρ', M', rs, w, hf, P⟩ := h
    unfold sFldS at hf
    cases ea : fv ρ M with
    | none => rw [ea] at hf; cases hf
    | some p =>
      rw [ea] at hf
      exact bindE rs w ea fun H1 m1 v e1 w1 rs1 r1 => fld_of hcs e1 rs1 w1 r1 hf P
theorem cs_fldM (ha : CEx X o fo) (hv : CEx X value fv) (hcs : ∀ c ∈ cs, Cls X.K (He.ga X.K c) ∧ NoAttr X.K (He.ga X.K c) n) (hs : swapsWith value (some (.Attribute o n pos')) pos.line X.env = pure false := by rfl) : CSx X (.Assign [.Attribute o n pos'] value pos) (sFldM cs n fo fv) :=
  PS.imp (ps_fld ha hv hs) fun Dn σ H h => by
    obtain ⟨ρ, M, m, fl, ρ', M', rs, w, hf, P⟩ := h
    unfold sFldM at hf
    cases ea : fv ρ M with
    | none => rw [ea] at hf; cases hf
    | some p =>
      obtain ⟨r, M1⟩ := p
      rw [ea] at hf
      simp only [Option.bind_some] at hf
      refine ⟨ρ, M, m, r, M1, rs, w, ea, fun H1 m1 e1 w1 => ?_⟩
      cases r with
      | val d => exact fun v r1 => fld_of hcs e1 (rs.ext e1) w1 r1 hf P
      | new ds =>
        intro vs a r1 nn
        obtain ⟨w2, e2⟩ := w1.push (o := .lst ds) (u := .lst vs) nn (by
          refine ⟨vs, upd_same, ?_⟩
          have e1 : Ext H1 m1 (upd H1 a (.lst vs)) m1 := .new nn
          exact r1.ext ⟨e1.tup, e1.frz, e1.oth, e1.trk, [a], rfl, fun b q => by simp at q; rw [q]; exact nn⟩)
        refine fld_of hcs (e1.trans e2) ((rs.ext e1).ext e2) w2 ?_ hf P
        rw [Rl]
        exact ⟨a, rfl, by rw [← w1.len, List.getElem?_append_right (Nat.le_refl _)]; simp⟩
end
end CI

/-! Ci6: targets, loops, defs -/
namespace CI
open PySem PySem.Spec PyProof.Rows L2

/-! ### targets -/
abbrev Gf := D → Slots → Mem → Option (Slots × Mem)
abbrev GsF := List D → Slots → Mem → Option (Slots × Mem)
def tG (K : PySem.W.Frag) (g : Gf) : TG := fun v σ H Q => ∃ d ρ M m ρ' M', Rl K H m d v ∧ Rs K H m ρ σ ∧ Wd K H m M ∧ g d ρ M = some (ρ', M') ∧ PostN K H m ρ' M' Q
def tGs (K : PySem.W.Frag) (g : GsF) : TGs := fun vs σ H Q => ∃ ds ρ M m ρ' M', Rls K H m ds vs ∧ Rs K H m ρ σ ∧ Wd K H m M ∧ g ds ρ M = some (ρ', M') ∧ PostN K H m ρ' M' Q
theorem PG.imp {X : Cx} {e : Expr} {t t' : TG} (h : PG X e t) (i : ∀ v σ H Q, t' v σ H Q → t v σ H Q) : PG X e t' := ⟨fun pins s σ H v u Q I r q => h.run pins s σ H v u Q I r (i v σ H Q q)⟩
theorem PGs.imp {X : Cx} {e : List Expr} {t t' : TGs} (h : PGs X e t) (i : ∀ v σ H Q, t' v σ H Q → t v σ H Q) : PGs X e t' := ⟨fun pins s σ H v u Q I r q => h.run pins s σ H v u Q I r (i v σ H Q q)⟩
abbrev CGx (X : Cx) (e : Expr) (g : Gf) : Prop := PG X e (tG X.K g)
abbrev CGsx (X : Cx) (es : List Expr) (g : GsF) : Prop := PGs X es (tGs X.K g)
def gNm (i : Nat) : Gf := fun d ρ M => some (ρ.set i (some d), M)
def gsNil : GsF := fun ds ρ M => match ds with
  | [] => some (ρ, M)
  | _ => none
def gsCons (g : Gf) (gs : GsF) : GsF := fun ds ρ M => match ds with
  | d :: ds => (g d ρ M).bind fun p => gs ds p.1 p.2
  | [] => none
def gTp (n : Nat) (gs : GsF) : Gf := fun d ρ M => match d with
  | .tup ds => if ds.length = n then gs ds ρ M else none
  | _ => none
section
variable {X : Cx} {e tg : Expr} {es : List Expr} {g : Gf} {gs : GsF} {pos : Pos} {fe : Ef} {st : Stmt}
theorem cg_of {i : Nat} (h : PG X e (gName i)) : CGx X e (gNm i) := PG.imp h fun v σ H Q ⟨d, ρ, M, m, ρ', M', r, rs, w, hf, P⟩ => by
  cases hf
  exact P H m _ .refl w (rs.set r i)
theorem cgs_nil : CGsx X [] gsNil := PGs.imp pgs_nil fun vs σ H Q ⟨ds, ρ, M, m, ρ', M', r, rs, w, hf, P⟩ => by
  unfold gsNil at hf
  split at hf
  · cases hf
    exact ⟨rls_nil r, P H m _ .refl w rs⟩
  · cases hf
theorem cgs_cons (h1 : CGx X e g) (h2 : CGsx X es gs) (hs : (assignEach (e :: es) X.env).map (·.2) = assign e X.env :: (assignEach es X.env).map (·.2) := by rfl) : CGsx X (e :: es) (gsCons g gs) :=
  PGs.imp (pgs_cons h1 h2 hs) fun vs σ H Q ⟨ds, ρ, M, m, ρ', M', r, rs, w, hf, P⟩ => by
    unfold gsCons at hf
    split at hf
    · rename_i d ds
      rw [Rls] at r
      obtain ⟨v, vr, rfl, r1, r2⟩ := r
      cases ea : g d ρ M with
      | none => rw [ea] at hf; cases hf
      | some p =>
        rw [ea] at hf
        simp only [Option.bind_some] at hf
        refine ⟨v, vr, rfl, d, ρ, M, m, p.1, p.2, r1, rs, w, ea, fun H1 m1 σ1 e1 w1 rs1 => ?_⟩
        exact ⟨ds, p.1, p.2, m1, ρ', M', r2.ext e1, rs1, w1, hf, P.ext e1⟩
    · cases hf
theorem cg_tup {k n : Nat} (hc : X.calm = true) (h : CGsx X es gs) (hn : (assignEach es X.env).length = n := by rfl) (hst : (assignEach es X.env).findIdx? (·.1) = none := by rfl) : CGx X (.Tuple es k pos) (gTp n gs) :=
  PG.imp (pg_tup hc h hn hst) fun v σ H Q ⟨d, ρ, M, m, ρ', M', r, rs, w, hf, P⟩ => by
    unfold gTp at hf
    split at hf
    · rename_i ds
      split at hf
      · rename_i hl
        rw [Rl] at r
        obtain ⟨a, vs, rfl, h1, h2⟩ := r
        exact ⟨a, vs, rfl, h1, by rw [← h2.length]; exact hl, ds, ρ, M, m, ρ', M', h2, rs, w, hf, P⟩
      · cases hf
    · cases hf
def sAsg (g : Gf) (f : Ef) : Sf := fun ρ M => (f ρ M).bind fun p => (g p.1.d ρ p.2).bind fun q => some (.nx, q.1, q.2)
theorem cs_asg (h : PS X st (tAsg (tE X.K fe) (tG X.K g))) : CSx X st (sAsg g fe) := PS.imp h fun Dn σ H h => by
  obtain ⟨ρ, M, m, fl, ρ', M', rs, w, hf, P⟩ := h
  unfold sAsg at hf
  cases ea : fe ρ M with
  | none => rw [ea] at hf; cases hf
  | some p =>
    cases eg : g p.1.d ρ p.2 with
    | none => simp [ea, eg] at hf
    | some q =>
      simp [ea, eg] at hf
      obtain ⟨rfl, rfl, rfl⟩ := hf
      exact bindE rs w ea fun H1 m1 v e1 w1 rs1 r1 => ⟨p.1.d, ρ, p.2, m1, q.1, q.2, r1, rs1, w1, eg, PostN.ext P e1⟩
end
/-- xs[i] = v as a target -/
def gIx (fo fi : Ef) : Gf := fun d ρ M => (fo ρ M).bind fun p => (fi ρ p.2).bind fun q => match p.1.d, q.1.d with
  | .loc k, .int i => match q.2[k]? with
    | some (.lst es) => (ixN es.length i).bind fun j => some (ρ, q.2.set k (.lst (es.set j d)))
    | _ => none
  | _, _ => none
theorem cg_ix {X : Cx} {o i : Expr} {fo fi : Ef} {pos : Pos} (ho : CEx X o fo) (hi : CEx X i fi) (ha : ∀ v, assign (.Subscript o i pos) X.env v = (do
      let ov ← holding [v] (eval o X.env)
      let iv ← holding [v, ov] (eval i X.env)
      standAt pos
      holding [v, ov, iv] (setItem ov iv v)
      release [v, ov, iv] []) := by intro _; rfl) : CGx X (.Subscript o i pos) (gIx fo fi) :=
  PG.imp (pg_sub ho hi set_list ha) fun v σ H Q ⟨d, ρ, M, m, ρ', M', r, rs, w, hf, P⟩ => by
    unfold gIx at hf
    cases ea : fo ρ M with
    | none => rw [ea] at hf; cases hf
    | some p =>
      cases ei : fi ρ p.2 with
      | none => simp [ea, ei] at hf
      | some q =>
        simp only [ea, ei, Option.bind_some] at hf
        refine bindE rs w ea fun H1 m1 v1 e1 w1 rs1 r1 => bindE rs1 w1 ei fun H2 m2 v2 e2 w2 rs2 r2 => ?_
        split at hf
        · rename_i k i hk hi
          split at hf
          · rename_i es hes
            cases ej : ixN es.length i with
            | none => rw [ej] at hf; cases hf
            | some j =>
              rw [ej] at hf
              cases hf
              have r1' := r1.ext e2
              rw [hk, Rl] at r1'
              rw [hi, Rl] at r2
              obtain ⟨a, rfl, ha⟩ := r1'
              subst r2
              obtain ⟨b, hb, vs, h1, h2⟩ := w2.get hes
              rw [ha] at hb; cases hb
              have e3 := w2.ext_set (u := .lst (vs.set j v)) ha
              refine ⟨a, vs, i, j, rfl, rfl, h1, by rw [← h2.length]; exact ej, ?_⟩
              exact P _ m2 _ ((e1.trans e2).trans e3) (w2.set ha ⟨_, upd_same, (h2.ext e3).set j (((r.ext e1).ext e2).ext e3)⟩) ((rs2).ext e3)
          · cases hf
        · cases hf

/-! ### what is walked -/
abbrev If := Slots → Mem → Option (List D × Option Nat × Mem)
def GdOk (K : PySem.W.Frag) (gk : Option Nat) (ds : List D) (H : Hp) (m : List Addr) : Prop := ∀ k, gk = some k → ∃ a vs, m[k]? = some a ∧ H a = some (.lst vs) ∧ Rls K H m ds vs
structure Yl (K : PySem.W.Frag) (H0 : Hp) (m0 : List Addr) (J : It) (ds : List D) (gk : Option Nat) : Prop where
  go : ∀ i H m, i < ds.length → Ext H0 m0 H m → GdOk K gk ds H m → J.go i H
  yld : ∀ i d H m M x H', ds[i]? = some d → Ext H0 m0 H m → GdOk K gk ds H m → Wd K H m M → J.yld i H x H' → Ext H m H' m ∧ Wd K H' m M ∧ Rl K H' m d x
  stop : ∀ H m, Ext H0 m0 H m → GdOk K gk ds H m → J.stop ds.length H
def tI (K : PySem.W.Frag) (f : If) : TI := fun σ H R => ∃ ρ M m ds gk M', Rs K H m ρ σ ∧ Wd K H m M ∧ f ρ M = some (ds, gk, M') ∧
  ∀ H1 m1 J, Ext H m H1 m1 → Wd K H1 m1 M' → GdOk K gk ds H1 m1 → Yl K H1 m1 J ds gk → R J H1
theorem PI.imp {X : Cx} {tg e : Expr} {t t' : TI} (h : PI X tg e t) (i : ∀ σ H R, t' σ H R → t σ H R) : PI X tg e t' := ⟨fun pins s σ H R I q => h.run pins s σ H R I (i σ H R q)⟩
theorem PI.or {X : Cx} {tg e : Expr} {t t' : TI} (h : PI X tg e t) (h' : PI X tg e t') : PI X tg e (fun σ H R => t σ H R ∨ t' σ H R) := ⟨fun pins s σ H R I q => q.elim (h.run pins s σ H R I) (h'.run pins s σ H R I)⟩
abbrev CIx (X : Cx) (tg e : Expr) (f : If) : Prop := PI X tg e (tI X.K f)
def gkOf : D → Option Nat
  | .loc k => some k
  | _ => none
def iSeq (f : Ef) : If := fun ρ M => (f ρ M).bind fun p => (asS p.2 p.1.d).bind fun ds => some (ds, gkOf p.1.d, p.2)
theorem gd_none {K : PySem.W.Frag} {ds : List D} {H : Hp} {m : List Addr} : GdOk K none ds H m := fun k e => by cases e

section
variable {K : PySem.W.Frag} {H : Hp} {m : List Addr} {M : Mem} {a : Addr} {ds : List D} {vs : List V}
theorem yl_tup (h : SqT K H a vs) (r : Rls K H m ds vs) : Yl K H m (Itt K a) ds none where
  go := fun i H1 m1 hi e _ => by
    have hl := r.length
    exact ⟨vs, vs[i], sqT_ext e h, List.getElem?_eq_getElem (by omega)⟩
  yld := fun i d H1 m1 M1 x H' q e _ w y => by
    obtain ⟨rfl, y⟩ := y
    obtain ⟨v, h1, h2⟩ := (r.ext e).get q
    have := y vs (sqT_ext e h)
    rw [h1] at this; cases this
    exact ⟨.refl, w, h2⟩
  stop := fun H1 m1 e _ => ⟨vs, sqT_ext e h, by rw [r.length]; exact Nat.le_refl _⟩
theorem yl_sq (h : ∀ H1 m1, Ext H m H1 m1 → SqL K H1 a vs) (r : Rls K H m ds vs) : Yl K H m (Itl K a) ds none where
  go := fun i H1 m1 hi e _ => by
    have hl := r.length
    exact ⟨vs, vs[i], h _ _ e, List.getElem?_eq_getElem (by omega)⟩
  yld := fun i d H1 m1 M1 x H' q e _ w y => by
    obtain ⟨rfl, y⟩ := y
    obtain ⟨v, h1, h2⟩ := (r.ext e).get q
    have := y vs (h _ _ e)
    rw [h1] at this; cases this
    exact ⟨.refl, w, h2⟩
  stop := fun H1 m1 e _ => ⟨vs, h _ _ e, by rw [r.length]; exact Nat.le_refl _⟩
theorem yl_loc {k : Nat} (h : m[k]? = some a) : Yl K H m (Itl K a) ds (some k) where
  go := fun i H1 m1 hi e g => by
    obtain ⟨b, vs, h1, h2, h3⟩ := g k rfl
    rw [e.get h] at h1; cases h1
    have hl := h3.length
    exact ⟨vs, vs[i], .of h2, List.getElem?_eq_getElem (by omega)⟩
  yld := fun i d H1 m1 M1 x H' q e g w y => by
    obtain ⟨rfl, y⟩ := y
    obtain ⟨b, vs, h1, h2, h3⟩ := g k rfl
    rw [e.get h] at h1; cases h1
    obtain ⟨v, h4, h5⟩ := h3.get q
    have := y vs (.of h2)
    rw [h4] at this; cases this
    exact ⟨.refl, w, h5⟩
  stop := fun H1 m1 e g => by
    obtain ⟨b, vs, h1, h2, h3⟩ := g k rfl
    rw [e.get h] at h1; cases h1
    exact ⟨vs, .of h2, by rw [h3.length]; exact Nat.le_refl _⟩
def rgD (lo : Int) (n : Nat) : List D := (List.range n).map fun (i : Nat) => D.int (lo + i)
theorem rgD_len {lo : Int} {n : Nat} : (rgD lo n).length = n := by unfold rgD; simp
theorem rgD_get {lo : Int} {n i : Nat} {d : D} (h : (rgD lo n)[i]? = some d) : i < n ∧ d = .int (lo + i) := by
  unfold rgD at h
  rw [List.getElem?_map] at h
  cases q : (List.range n)[i]? with
  | none => rw [q] at h; cases h
  | some j =>
    rw [q] at h
    cases h
    obtain ⟨h1, h2⟩ := List.getElem?_eq_some_iff.mp q
    simp at h1 h2
    exact ⟨h1, by rw [h2]⟩
theorem yl_rng {lo : Int} {n : Nat} : Yl K H m (Itr lo n) (rgD lo n) none where
  go := fun i H1 m1 hi e _ => by rw [rgD_len] at hi; exact hi
  yld := fun i d H1 m1 M1 x H' q e _ w y => by
    obtain ⟨rfl, rfl⟩ := y
    obtain ⟨_, rfl⟩ := rgD_get q
    exact ⟨.refl, w, by rw [Rl]⟩
  stop := fun H1 m1 e _ => by rw [rgD_len]; exact Nat.le_refl _
end
section
variable {X : Cx} {tg e a b : Expr} {f fa fb : Ef} {p pos : Pos}
theorem ci_seq (h : CEx X e f) : CIx X tg e (iSeq f) := PI.imp (PI.or (pi_list h) (pi_tup h)) fun σ H R ⟨ρ, M, m, ds, gk, M', rs, w, hf, P⟩ => by
  unfold iSeq at hf
  cases ea : f ρ M with
  | none => rw [ea] at hf; cases hf
  | some q =>
    obtain ⟨r, M1⟩ := q
    rw [ea] at hf
    simp only [Option.bind_some] at hf
    cases es : asS M1 r.d with
    | none => rw [es] at hf; cases hf
    | some ds' =>
      rw [es] at hf
      cases hf
      cases er : r.d with
      | tup es' =>
        refine .inr (bindE rs w ea fun H1 m1 v e1 w1 rs1 r1 => ?_)
        rw [er] at r1 es
        cases es
        rw [Rl] at r1
        obtain ⟨a, vs, rfl, h1, h2⟩ := r1
        rw [er] at P
        exact ⟨a, rfl, ⟨vs, h1⟩, P H1 m1 _ e1 w1 gd_none (yl_tup h1 h2)⟩
      | lst es' =>
        refine .inl (bindE rs w ea fun H1 m1 v e1 w1 rs1 r1 => ?_)
        rw [er] at r1 es
        cases es
        rw [Rl] at r1
        obtain ⟨a, vs, rfl, hn, h1, h2⟩ := r1
        rw [er] at P
        exact ⟨a, rfl, ⟨vs, .of h1⟩, P H1 m1 _ e1 w1 gd_none (yl_sq (fun H2 m2 e2 => .of (e2.lst _ _ hn h1)) h2)⟩
      | scr ns =>
        refine .inl (bindE rs w ea fun H1 m1 v e1 w1 rs1 r1 => ?_)
        rw [er] at r1 es
        cases es
        rw [Rl] at r1
        obtain ⟨a, rfl, h1⟩ := r1
        rw [er] at P
        exact ⟨a, rfl, ⟨_, h1.l⟩, P H1 m1 _ e1 w1 gd_none (yl_sq (fun H2 m2 e2 => (SqS.l (h1.imp (fun ⟨o, s⟩ => ⟨o, e2.frz _ _ _ s⟩) id))) .ints)⟩
      | loc k =>
        refine .inl (bindE rs w ea fun H1 m1 v e1 w1 rs1 r1 => ?_)
        rw [er] at r1 es
        have r2 := r1
        rw [Rl] at r1
        obtain ⟨a, rfl, ha⟩ := r1
        obtain ⟨b, vs, hb, h1, h2⟩ := asW_ok (d := .loc k) (ds := ds) w1 r2 es
        cases hb
        rw [er] at P
        exact ⟨a, rfl, ⟨vs, .of h1⟩, P H1 m1 _ e1 w1 (fun k' hk => by cases hk; exact ⟨a, vs, ha, h1, h2⟩) (yl_loc ha)⟩
      | _ => rw [er] at es; cases es
def rgB (i : Int) : Bool := decide (-(2 ^ 62) ≤ i) && decide (i < 2 ^ 62)
def iRg1 (fa : Ef) : If := fun ρ M => (fa ρ M).bind fun p => match p.1.d with
  | .int j => if rgB j = true then some (rgD 0 j.toNat, none, p.2) else none
  | _ => none
def iRg2 (fa fb : Ef) : If := fun ρ M => (fa ρ M).bind fun p => (fb ρ p.2).bind fun q => match p.1.d, q.1.d with
  | .int i, .int j => if rgB i = true ∧ rgB j = true then some (rgD i (j - i).toNat, none, q.2) else none
  | _, _ => none
theorem rgB_ok {i : Int} (h : rgB i = true) : -(2 ^ 62) ≤ i ∧ i < 2 ^ 62 := by
  unfold rgB at h
  simpa [Bool.and_eq_true] using h
theorem ci_rg1 (hg : Gl X "range") (hm : X.mg "range" = none) (ha : CEx X a fa) (hs : starEach [a] X.env = [(false, eval a X.env)] := by rfl) (hs' : starEach [a] X.env = (false, eval a X.env) :: starEach [] X.env := by rfl) : CIx X tg (.Call (.Name "range" p) [a] [] pos) (iRg1 fa) :=
  PI.imp (pi_range1 hg hm (pa_cons ha pa_nil hs') hs) fun σ H R ⟨ρ, M, m, ds, gk, M', rs, w, hf, P⟩ => by
    unfold iRg1 at hf
    cases ea : fa ρ M with
    | none => rw [ea] at hf; cases hf
    | some q =>
      rw [ea] at hf
      simp only [Option.bind_some] at hf
      refine bindE rs w ea fun H1 m1 v e1 w1 rs1 r1 => ?_
      split at hf
      · rename_i j hj
        split at hf
        · rename_i hb
          cases hf
          rw [hj, Rl] at r1; subst r1
          exact ⟨j, rfl, (rgB_ok hb).1, (rgB_ok hb).2, P H1 m1 _ e1 w1 gd_none yl_rng⟩
        · cases hf
      · cases hf
theorem ci_rg2 (hg : Gl X "range") (hm : X.mg "range" = none) (ha : CEx X a fa) (hb : CEx X b fb) (hs : starEach [a, b] X.env = [(false, eval a X.env), (false, eval b X.env)] := by rfl) (hs2 : starEach [b] X.env = [(false, eval b X.env)] := by rfl)
    (hs' : starEach [a, b] X.env = (false, eval a X.env) :: starEach [b] X.env := by rfl) (hs2' : starEach [b] X.env = (false, eval b X.env) :: starEach [] X.env := by rfl) : CIx X tg (.Call (.Name "range" p) [a, b] [] pos) (iRg2 fa fb) :=
  PI.imp (pi_range2 hg hm (pa_cons ha (pa_cons hb pa_nil hs2') hs') hs hs2) fun σ H R ⟨ρ, M, m, ds, gk, M', rs, w, hf, P⟩ => by
    unfold iRg2 at hf
    cases ea : fa ρ M with
    | none => rw [ea] at hf; cases hf
    | some q =>
      cases eb : fb ρ q.2 with
      | none => simp [ea, eb] at hf
      | some q2 =>
        simp only [ea, eb, Option.bind_some] at hf
        refine bindE rs w ea fun H1 m1 v e1 w1 rs1 r1 => bindE rs1 w1 eb fun H2 m2 v2 e2 w2 rs2 r2 => ?_
        split at hf
        · rename_i i j hi hj
          split at hf
          · rename_i hb
            cases hf
            rw [hi, Rl] at r1; subst r1
            rw [hj, Rl] at r2; subst r2
            exact ⟨i, j, rfl, ⟨(rgB_ok hb.1).1, (rgB_ok hb.1).2, (rgB_ok hb.2).1, (rgB_ok hb.2).2⟩, P H2 m2 _ (e1.trans e2) w2 gd_none yl_rng⟩
          · cases hf
        · cases hf
end

/-! ### for -/
def guard (gk : Option Nat) (ds : List D) (M : Mem) : Prop := ∀ k, gk = some k → M[k]? = some (.lst ds)
abbrev Stp := D → Slots → Mem → Option (Fl × Slots × Mem)
def loopF (step : Stp) : List D → Slots → Mem → Option (Fl × Slots × Mem)
  | [], ρ, M => some (.nx, ρ, M)
  | d :: ds, ρ, M => (step d ρ M).bind fun p => match p.1 with
    | .nx => loopF step ds p.2.1 p.2.2
    | .ct => loopF step ds p.2.1 p.2.2
    | .bk => some (.nx, p.2.1, p.2.2)
    | .rt r => some (.rt r, p.2.1, p.2.2)
open Classical in
noncomputable def stpF (gk : Option Nat) (ds : List D) (g : Gf) (body : Sf) : Stp := fun d ρ M => (g d ρ M).bind fun p => (body p.1 p.2).bind fun q => if guard gk ds q.2.2 then some q else none
theorem gd_of {K : PySem.W.Frag} {H : Hp} {m : List Addr} {M : Mem} {gk : Option Nat} {ds : List D} (w : Wd K H m M) (h : guard gk ds M) : GdOk K gk ds H m := fun k e => by
  obtain ⟨a, h1, vs, h2, h3⟩ := w.get (h k e)
  exact ⟨a, vs, h1, h2, h3⟩
section
variable {X : Cx} {tg iter : Expr} {body : List Stmt} {it : If} {g : Gf} {fb : Sf} {pos : Pos}
end

/-! ### while -/
section
variable {X : Cx} {c : Expr} {body : List Stmt} {t : Tf} {fb : Sf} {pos : Pos}
end

/-! ### a def -/
mutual
def nl (n : Nat) : D → Bool
  | .loc k => decide (k < n)
  | .tup ds => nls n ds
  | .lst ds => nls n ds
  | _ => true
def nls (n : Nat) : List D → Bool
  | [] => true
  | d :: ds => nl n d && nls n ds
end
section
variable {K : PySem.W.Frag} {H : Hp} {m l : List Addr} {a : Addr}
mutual
theorem Rl.cut : ∀ {d : D} {v : V}, Rl K H (m ++ l) d v → nl m.length d = true → Rl K H m d v
  | .non, _, h, _ => by rw [Rl] at h ⊢; exact h
  | .bl _, _, h, _ => by rw [Rl] at h ⊢; exact h
  | .int _, _, h, _ => by rw [Rl] at h ⊢; exact h
  | .str _, _, h, _ => by rw [Rl] at h ⊢; exact h
  | .scr _, _, h, _ => by rw [Rl] at h ⊢; exact h
  | .tup ds, _, h, n => by
    rw [Rl] at h ⊢
    rw [nl] at n
    obtain ⟨a, vs, r, s, t⟩ := h
    exact ⟨a, vs, r, s, Rls.cut' t n⟩
  | .lst ds, _, h, n => by
    rw [Rl] at h ⊢
    rw [nl] at n
    obtain ⟨a, vs, r, z, s, t⟩ := h
    exact ⟨a, vs, r, fun q => z (List.mem_append_left _ q), s, Rls.cut' t n⟩
  | .loc k, _, h, n => by
    rw [Rl] at h ⊢
    rw [nl] at n
    obtain ⟨a, r, s⟩ := h
    exact ⟨a, r, by rw [List.getElem?_append_left (of_decide_eq_true n)] at s; exact s⟩
theorem Rls.cut' : ∀ {ds : List D} {vs : List V}, Rls K H (m ++ l) ds vs → nls m.length ds = true → Rls K H m ds vs
  | [], _, h, _ => by rw [Rls] at h ⊢; exact h
  | d :: ds, _, h, n => by
    rw [Rls] at h ⊢
    rw [nls, Bool.and_eq_true] at n
    obtain ⟨v, r, q, h1, h2⟩ := h
    exact ⟨v, r, q, Rl.cut h1 n.1, Rls.cut' h2 n.2⟩
end
/-- the heap without a -/
def del (H : Hp) (a : Addr) : Hp := fun b => if b = a then none else H b
theorem del_ne {b : Addr} (h : b ≠ a) : del H a b = H b := if_neg h
theorem del_same : del H a a = none := if_pos rfl
theorem upd_del {o : HO} (h : H a = some o) : upd (del H a) a o = H := by
  funext b
  by_cases q : b = a
  · rw [q, upd_same, h]
  · rw [upd_ne q, del_ne q]
mutual
theorem Rl.del {ws : List V} (ha : H a = some (.lst ws)) (hm : a ∈ l) : ∀ {d : D} {v : V}, Rl K H (m ++ l) d v → nl m.length d = true → Rl K (del H a) m d v
  | .non, _, h, _ => by rw [Rl] at h ⊢; exact h
  | .bl _, _, h, _ => by rw [Rl] at h ⊢; exact h
  | .int _, _, h, _ => by rw [Rl] at h ⊢; exact h
  | .str _, _, h, _ => by rw [Rl] at h ⊢; exact h
  | .scr _, _, h, _ => by
    rw [Rl] at h ⊢
    obtain ⟨b, r, s⟩ := h
    exact ⟨b, r, s.imp (fun ⟨o, s⟩ => ⟨o, by rw [del_ne (fun z => by rw [z, ha] at s; cases s)]; exact s⟩) id⟩
  | .tup ds, _, h, n => by
    rw [Rl] at h ⊢
    rw [nl] at n
    obtain ⟨b, vs, r, s, t⟩ := h
    refine ⟨b, vs, r, ?_, Rls.del ha hm t n⟩
    rcases s with (s | ⟨o, s⟩) | s
    · exact .inl (.inl (by rw [del_ne (fun z => by rw [z, ha] at s; cases s)]; exact s))
    · exact .inl (.inr ⟨o, by rw [del_ne (fun z => by rw [z, ha] at s; cases s)]; exact s⟩)
    · exact .inr s
  | .lst ds, _, h, n => by
    rw [Rl] at h ⊢
    rw [nl] at n
    obtain ⟨b, vs, r, z, s, t⟩ := h
    exact ⟨b, vs, r, fun q => z (List.mem_append_left _ q), by rw [del_ne (fun q => z (List.mem_append_right _ (by rw [q]; exact hm)))]; exact s, Rls.del ha hm t n⟩
  | .loc k, _, h, n => by
    rw [Rl] at h ⊢
    rw [nl] at n
    obtain ⟨b, r, s⟩ := h
    exact ⟨b, r, by rw [List.getElem?_append_left (of_decide_eq_true n)] at s; exact s⟩
theorem Rls.del {ws : List V} (ha : H a = some (.lst ws)) (hm : a ∈ l) : ∀ {ds : List D} {vs : List V}, Rls K H (m ++ l) ds vs → nls m.length ds = true → Rls K (del H a) m ds vs
  | [], _, h, _ => by rw [Rls] at h ⊢; exact h
  | d :: ds, _, h, n => by
    rw [Rls] at h ⊢
    rw [nls, Bool.and_eq_true] at n
    obtain ⟨v, r, q, h1, h2⟩ := h
    exact ⟨v, r, q, Rl.del ha hm h1 n.1, Rls.del ha hm h2 n.2⟩
end
end
end CI

/-! Ci7: a def as a function, comprehensions -/
namespace CI
open PySem PySem.Spec PyProof.Rows L2

def nlF (n : Nat) : List (Str × D) → Bool
  | [] => true
  | (_, d) :: fs => nl n d && nlF n fs
def nlK (n : Nat) : List (Key × D) → Bool
  | [] => true
  | (_, d) :: fs => nl n d && nlK n fs
def nlO (n : Nat) : O → Bool
  | .lst ds => nls n ds
  | .ins _ fs => nlF n fs
  | .dct kvs => nlK n kvs
def nlM (n : Nat) : Mem → Bool
  | [] => true
  | o :: M => nlO n o && nlM n M
section
variable {K : PySem.W.Frag} {H H0 : Hp} {m l : List Addr} {M Me : Mem} {a b : Addr}
mutual
theorem Rl.nl : ∀ {d : D} {v : V}, Rl K H m d v → CI.nl m.length d = true
  | .non, _, _ => rfl
  | .bl _, _, _ => rfl
  | .int _, _, _ => rfl
  | .str _, _, _ => rfl
  | .scr _, _, _ => rfl
  | .tup ds, _, h => by
    rw [Rl] at h
    obtain ⟨a, vs, r, s, t⟩ := h
    rw [CI.nl]; exact Rls.nl t
  | .lst ds, _, h => by
    rw [Rl] at h
    obtain ⟨a, vs, r, _, s, t⟩ := h
    rw [CI.nl]; exact Rls.nl t
  | .loc k, _, h => by
    rw [Rl] at h
    obtain ⟨a, r, s⟩ := h
    rw [CI.nl]
    exact decide_eq_true (List.getElem?_eq_some_iff.mp s).1
theorem Rls.nl : ∀ {ds : List D} {vs : List V}, Rls K H m ds vs → nls m.length ds = true
  | [], _, _ => rfl
  | d :: ds, _, h => by
    rw [Rls] at h
    obtain ⟨v, r, q, h1, h2⟩ := h
    rw [nls, Rl.nl h1, Rls.nl h2]; rfl
end
theorem Rfs.nl : ∀ {fs : List (Str × D)} {gs : List (Str × V)}, Rfs K H m fs gs → nlF m.length fs = true
  | [], _, _ => rfl
  | (f, d) :: fs, _, h => by
    obtain ⟨v, r, q, h1, h2⟩ := h
    rw [nlF, h1.nl, Rfs.nl h2]; rfl
theorem Rks.nl : ∀ {fs : List (Key × D)} {gs : List (Key × V)}, Rks K H m fs gs → nlK m.length fs = true
  | [], _, _ => rfl
  | (f, d) :: fs, _, h => by
    obtain ⟨v, r, q, h1, h2⟩ := h
    rw [nlK, h1.nl, Rks.nl h2]; rfl
theorem Ro.nl {o : O} (h : Ro K H m a o) : nlO m.length o = true := by
  cases o with
  | lst ds => obtain ⟨vs, _, h⟩ := h; exact h.nl
  | ins c fs => obtain ⟨dx, gs, _, h⟩ := h; exact h.nl
  | dct kvs => obtain ⟨gs, _, h⟩ := h; exact h.nl
theorem Wd.nl (w : Wd K H m M) : ∀ o ∈ M, nlO m.length o = true := fun o ho => by
  obtain ⟨k, hk, e⟩ := List.mem_iff_getElem.mp ho
  obtain ⟨a, _, r⟩ := w.get (k := k) (by rw [List.getElem?_eq_getElem hk, e])
  exact r.nl
theorem nlM_ok {n : Nat} : ∀ {M : Mem}, nlM n M = true → ∀ o ∈ M, nlO n o = true
  | [], _, o, h => nomatch h
  | p :: M, h, o, ho => by
    rw [nlM, Bool.and_eq_true] at h
    rcases List.mem_cons.mp ho with e | e
    · rw [e]; exact h.1
    · exact nlM_ok h.2 o e
theorem Rfs.cut : ∀ {fs : List (Str × D)} {gs : List (Str × V)}, Rfs K H (m ++ l) fs gs → nlF m.length fs = true → Rfs K H m fs gs
  | [], _, h, _ => h
  | (f, d) :: fs, _, h, n => by
    obtain ⟨v, r, q, h1, h2⟩ := h
    rw [nlF, Bool.and_eq_true] at n
    exact ⟨v, r, q, h1.cut n.1, Rfs.cut h2 n.2⟩
theorem Rks.cut : ∀ {fs : List (Key × D)} {gs : List (Key × V)}, Rks K H (m ++ l) fs gs → nlK m.length fs = true → Rks K H m fs gs
  | [], _, h, _ => h
  | (f, d) :: fs, _, h, n => by
    obtain ⟨v, r, q, h1, h2⟩ := h
    rw [nlK, Bool.and_eq_true] at n
    exact ⟨v, r, q, h1.cut n.1, Rks.cut h2 n.2⟩
theorem Rfs.del {ws : List V} (ha : H a = some (.lst ws)) (hm : a ∈ l) : ∀ {fs : List (Str × D)} {gs : List (Str × V)}, Rfs K H (m ++ l) fs gs → nlF m.length fs = true → Rfs K (CI.del H a) m fs gs
  | [], _, h, _ => h
  | (f, d) :: fs, _, h, n => by
    obtain ⟨v, r, q, h1, h2⟩ := h
    rw [nlF, Bool.and_eq_true] at n
    exact ⟨v, r, q, h1.del ha hm n.1, Rfs.del ha hm h2 n.2⟩
theorem Rks.del {ws : List V} (ha : H a = some (.lst ws)) (hm : a ∈ l) : ∀ {fs : List (Key × D)} {gs : List (Key × V)}, Rks K H (m ++ l) fs gs → nlK m.length fs = true → Rks K (CI.del H a) m fs gs
  | [], _, h, _ => h
  | (f, d) :: fs, _, h, n => by
    obtain ⟨v, r, q, h1, h2⟩ := h
    rw [nlK, Bool.and_eq_true] at n
    exact ⟨v, r, q, h1.del ha hm n.1, Rks.del ha hm h2 n.2⟩
theorem Ro.cut {o : O} (h : Ro K H (m ++ l) b o) (n : nlO m.length o = true) : Ro K H m b o := by
  cases o with
  | lst ds => obtain ⟨vs, h1, h2⟩ := h; exact ⟨vs, h1, Rls.cut' h2 n⟩
  | ins c fs => obtain ⟨dx, gs, h1, h2⟩ := h; exact ⟨dx, gs, h1, h2.cut n⟩
  | dct kvs => obtain ⟨gs, h1, h2⟩ := h; exact ⟨gs, h1, h2.cut n⟩
theorem Ro.del {o : O} {ws : List V} (ha : H a = some (.lst ws)) (hm : a ∈ l) (hb : b ≠ a) (h : Ro K H (m ++ l) b o) (n : nlO m.length o = true) : Ro K (CI.del H a) m b o := by
  cases o with
  | lst ds => obtain ⟨vs, h1, h2⟩ := h; exact ⟨vs, by rw [del_ne hb]; exact h1, Rls.del ha hm h2 n⟩
  | ins c fs => obtain ⟨dx, gs, h1, h2⟩ := h; exact ⟨dx, gs, by rw [del_ne hb]; exact h1, h2.del ha hm n⟩
  | dct kvs => obtain ⟨gs, h1, h2⟩ := h; exact ⟨gs, by rw [del_ne hb]; exact h1, h2.del ha hm n⟩
theorem Ext.back (e : Ext H0 m H (m ++ l)) : Ext H0 m H m := ⟨e.tup, e.frz, e.oth, e.trk, [], by simp, fun _ h => nomatch h⟩
theorem Ext.fresh (e : Ext H0 m H (m ++ l)) (h : a ∈ l) : H0 a = none := by
  obtain ⟨l', q, hl⟩ := e.pre
  rw [List.append_cancel_left q] at h
  exact hl a h
theorem Ext.del {ws : List V} (e : Ext H0 m H (m ++ l)) (h : a ∈ l) : Ext H0 m (CI.del H a) m := by
  have hf := e.fresh h
  have ne : ∀ b o, H0 b = some o → b ≠ a := fun b o q z => by rw [z, hf] at q; cases q
  refine ⟨fun b xs q => by rw [del_ne (ne b _ q)]; exact e.tup b xs q, fun b o u q => by rw [del_ne (ne b _ q)]; exact e.frz b o u q, fun b u n q => by rw [del_ne (ne b _ q)]; exact e.oth b u n q, fun b q => ?_, [], by simp, fun _ h => nomatch h⟩
  by_cases z : b = a
  · rw [z]; exact hf
  · rw [del_ne z] at q; exact e.trk b q
theorem take_get {M Me : Mem} {n k : Nat} {o : O} (t : Me.take n = M) (h : M[k]? = some o) : Me[k]? = some o := by
  rw [← t, List.getElem?_take] at h
  split at h
  · exact h
  · cases h
theorem Wd.cut (w : Wd K H (m ++ l) Me) (t : Me.take m.length = M) (hl : m.length = M.length) (n : ∀ o ∈ M, nlO m.length o = true) : Wd K H m M := by
  refine ⟨hl, (List.nodup_append.mp w.nd).1, fun k b o h1 h2 => ?_⟩
  have hk : k < m.length := (List.getElem?_eq_some_iff.mp h1).1
  exact (w.at_ k b o (by rw [List.getElem?_append_left hk]; exact h1) (take_get t h2)).cut (n o (List.mem_of_getElem? h2))
theorem Wd.del {ws : List V} (w : Wd K H (m ++ l) Me) (t : Me.take m.length = M) (hl : m.length = M.length) (n : ∀ o ∈ M, nlO m.length o = true) (ha : H a = some (.lst ws)) (hm : a ∈ l) : Wd K (CI.del H a) m M := by
  refine ⟨hl, (List.nodup_append.mp w.nd).1, fun k b o h1 h2 => ?_⟩
  have hk : k < m.length := (List.getElem?_eq_some_iff.mp h1).1
  refine (w.at_ k b o (by rw [List.getElem?_append_left hk]; exact h1) (take_get t h2)).del ha hm (fun z => ?_) (n o (List.mem_of_getElem? h2))
  exact (List.nodup_append.mp w.nd).2.2 b (List.mem_of_getElem? h1) a hm z
end

/-! ### what a def hands back -/
open Classical in
noncomputable def finish (M : Mem) (r : Rz) (Me : Mem) : Rz × Mem :=
  if Me.length = M.length then (r, Me) else if Me.take M.length = M then (match r with
    | .val (.loc k) => if k < M.length then (r, M) else match Me[k]? with
      | some (.lst ds) => if nls M.length ds = true then (.new ds, M) else (r, Me)
      | _ => (r, Me)
    | .val d => if nl M.length d = true then (r, M) else (r, Me)
    | .new ds => if nls M.length ds = true then (r, M) else (r, Me)) else (r, Me)
theorem finish_ok {K : PySem.W.Frag} {H0 : Hp} {m : List Addr} {M Me : Mem} {r : Rz} {Q : VK} (w0 : Wd K H0 m M) (P : Post K H0 m (finish M r Me).1 (finish M r Me).2 Q) : Post K H0 m r Me Q := by
  unfold finish at P
  split at P
  · exact P
  · split at P
    · rename_i hne ht
      have hn := w0.nl
      have hlen := w0.len
      rw [← hlen] at P ht
      cases r with
      | new ds =>
        simp only at P
        split at P
        · rename_i hd
          intro H1 m1 e1 w1 vs a r1 na
          obtain ⟨l, rfl, _⟩ := id e1.pre
          exact P H1 m e1.back (w1.cut ht hlen hn) vs a (Rls.cut' r1 hd) na
        · exact P
      | val d =>
        have plain : ∀ d, nl m.length d = true → Post K H0 m (.val d) M Q → Post K H0 m (.val d) Me Q := fun d hd P => by
          intro H1 m1 e1 w1 v r1
          obtain ⟨l, rfl, _⟩ := id e1.pre
          exact P H1 m e1.back (w1.cut ht hlen hn) v (r1.cut hd)
        cases d with
        | loc k =>
          simp only at P
          split at P
          · rename_i hk
            exact plain _ (by rw [nl]; exact decide_eq_true hk) P
          · rename_i hk
            split at P
            · rename_i ds hds
              split at P
              · rename_i hd
                intro H1 m1 e1 w1 v r1
                obtain ⟨l, rfl, _⟩ := id e1.pre
                rw [Rl] at r1
                obtain ⟨a, rfl, ha⟩ := r1
                obtain ⟨b, hb, vs, h1, h2⟩ := w1.get hds
                rw [ha] at hb; cases hb
                have hal : a ∈ l := by
                  rw [List.getElem?_append_right (by omega)] at ha
                  exact List.mem_of_getElem? ha
                have := P (del H1 a) m (e1.del (ws := vs) hal) (w1.del ht hlen hn h1 hal) vs a (Rls.del h1 hal h2 hd) del_same
                rw [upd_del h1] at this
                exact this
              · exact P
            · exact P
        | non => exact plain _ rfl (by simpa [nl] using P)
        | bl b => exact plain _ rfl (by simpa [nl] using P)
        | int b => exact plain _ rfl (by simpa [nl] using P)
        | str b => exact plain _ rfl (by simpa [nl] using P)
        | scr b => exact plain _ rfl (by simpa [nl] using P)
        | tup ds =>
          simp only at P
          split at P
          · rename_i hd; exact plain _ hd P
          · exact P
        | lst ds =>
          simp only at P
          split at P
          · rename_i hd; exact plain _ hd P
          · exact P
    · exact P

noncomputable def mkFn (np ns : Nat) (body : Sf) : Fn := fun ds M => if ds.length = np then (match body (ds.map some ++ List.replicate (ns - ds.length) none) M with
  | some (.rt r, _, Me) => some (finish M r Me)
  | some (.nx, _, Me) => some (finish M (.val .non) Me)
  | _ => none) else none
theorem rs_start {K : PySem.W.Frag} {H : Hp} {m : List Addr} {N : List Str} {ds : List D} {vs : List V} (r : Rls K H m ds vs) : Rs K H m (ds.map some ++ List.replicate (N.length - ds.length) none) (L2.start N vs) := by
  unfold L2.start
  have hl := r.length
  refine ⟨by simp [hl], fun i d q => ?_⟩
  by_cases h : i < ds.length
  · rw [List.getElem?_append_left (by simpa using h), List.getElem?_map] at q
    rw [List.getElem?_append_left (by simpa [← hl] using h), List.getElem?_map]
    cases e : ds[i]? with
    | none => rw [e] at q; cases q
    | some d' =>
      rw [e] at q
      simp at q; subst q
      obtain ⟨v, h1, h2⟩ := r.get e
      exact ⟨v, by rw [h1]; rfl, h2⟩
  · rw [List.getElem?_append_right (by simpa using h), List.getElem?_replicate] at q
    split at q
    · simp at q
    · cases q
theorem run_ok {K : PySem.W.Frag} {N : List Str} {np : Nat} {fb : Sf} {vs : List V} {H : Hp} {Q : VK} {E : XK} (h : spF K (mkFn np N.length fb) vs H Q E) : tS K fb { nx := fun _ H' => Q .non H', rt := Q } (L2.start N vs) H := by
  obtain ⟨ds, M, m, r, M', rd, w, hf, P⟩ := h
  unfold mkFn at hf
  split at hf
  · split at hf
    · rename_i r' ρ' Me hb
      cases e : finish M r' Me with | mk a b =>
      rw [e] at hf; cases hf
      refine ⟨_, M, m, _, _, _, rs_start rd, w, hb, ?_⟩
      refine finish_ok w ?_
      rw [e]; exact P
    · rename_i ρ' Me hb
      cases e : finish M (.val .non) Me with | mk a b =>
      rw [e] at hf; cases hf
      refine ⟨_, M, m, _, _, _, rs_start rd, w, hb, fun H1 m1 σ1 e1 w1 rs1 => ?_⟩
      have P2 : Post K H m (.val .non) Me Q := finish_ok w (by rw [e]; exact P)
      exact P2 H1 m1 e1 w1 .non (by rw [Rl])
    · cases hf
  · cases hf
section
variable {P : Program} {w : World} {K : PySem.W.Frag} {mg : Str → Option Value} {base : Heap} {x qual : Str} {params : Arguments} {body : List Stmt} {scope : Scope} {f : Addr} {fd : FuncData}
end
/-- a law: called with the script it gives True -/
theorem law_sp {K : PySem.W.Frag} {F : Fn} (h : ∀ ns : List Int, ns.length ≤ 63 → ∃ M, F [.scr ns] [] = some (.val (.bl true), M)) (H : Hp) (a : Addr) (ns : List Int) (hl : ns.length ≤ 63) (hO : Only H) (hS : SqL K H a (ns.map V.int)) :
    spF K F [.ref a] H (fun v _ => v = .bl true) fun _ _ _ => False := by
  obtain ⟨M, hM⟩ := h ns hl
  refine ⟨[.scr ns], [], [], _, M, ?_, ⟨rfl, .nil, fun k a o h _ => by simp at h⟩, hM, fun H1 m1 e1 w1 v r => by rw [Rl] at r; exact r⟩
  rw [Rls]
  refine ⟨_, [], rfl, ?_, by rw [Rls]⟩
  rw [Rl]
  refine ⟨a, rfl, ?_⟩
  rcases hS with (h | h) | h
  · rcases hO a with q | ⟨o, xs, q⟩
    · rw [q] at h; cases h
    · rw [q] at h; cases h
  · exact .inl h
  · exact .inr h
end CI

/-! Ci11: comprehensions -/
namespace CI
open PySem PySem.Spec PyProof.Rows L2

/-! ### targets within a block -/
theorem wipe_set {x : Option V} {i : Nat} : ∀ {vs : List Nat} {σ : L2.St}, i ∈ vs → wipe (σ.set i x) vs = wipe σ vs
  | [], _, h => nomatch h
  | v :: vs, σ, h => by
    show (wipe (σ.set i x) vs).set v none = (wipe σ vs).set v none
    by_cases hi : i ∈ vs
    · rw [wipe_set hi]
    · have hv : i = v := (List.mem_cons.mp h).resolve_right hi
      subst hv
      have key : ∀ (vs : List Nat) (σ : L2.St), i ∉ vs → wipe (σ.set i x) vs = (wipe σ vs).set i x := by
        intro vs
        induction vs with
        | nil => intro σ _; rfl
        | cons v vs ih =>
          intro σ hn
          show (wipe (σ.set i x) vs).set v none = ((wipe σ vs).set v none).set i x
          rw [ih σ fun z => hn (List.mem_cons_of_mem _ z)]
          exact List.set_comm _ _ (fun z => hn (by rw [z]; exact List.mem_cons_self))
      rw [key vs σ hi, List.set_set]
theorem wipe_idem : ∀ {vs : List Nat} {σ : L2.St}, wipe (wipe σ vs) vs = wipe σ vs
  | [], _ => rfl
  | v :: vs, σ => by
    show (wipe ((wipe σ vs).set v none) vs).set v none = (wipe σ vs).set v none
    by_cases hv : v ∈ vs
    · rw [wipe_set hv, wipe_idem]
    · have key : ∀ (us : List Nat) (σ : L2.St), v ∉ us → wipe (σ.set v none) us = (wipe σ us).set v none := by
        intro us
        induction us with
        | nil => intro σ _; rfl
        | cons u us ih =>
          intro σ hn
          show (wipe (σ.set v none) us).set u none = ((wipe σ us).set u none).set v none
          rw [ih σ fun z => hn (List.mem_cons_of_mem _ z)]
          exact List.set_comm _ _ (fun z => hn (by rw [z]; exact List.mem_cons_self))
      rw [key vs _ hv, wipe_idem, List.set_set]
def wipeD (ρ : Slots) : List Nat → Slots
  | [] => ρ
  | v :: vs => (wipeD ρ vs).set v none
theorem Rs.wipe {K : PySem.W.Frag} {H : Hp} {m : List Addr} {ρ : Slots} {σ : L2.St} (h : Rs K H m ρ σ) : ∀ vs : List Nat, Rs K H m (wipeD ρ vs) (L2.wipe σ vs)
  | [] => h
  | v :: vs => by
    have r := h.wipe vs
    refine ⟨by show ((wipeD ρ vs).set v none).length = ((L2.wipe σ vs).set v none).length; simp [r.1], fun i d q => ?_⟩
    show ∃ w, ((L2.wipe σ vs).set v none)[i]? = some (some w) ∧ _
    have q : ((wipeD ρ vs).set v none)[i]? = some (some d) := q
    by_cases z : i = v
    · subst z
      obtain ⟨z, _⟩ := List.getElem?_eq_some_iff.mp q
      rw [List.length_set] at z
      rw [List.getElem?_set_self z] at q
      cases q
    · rw [List.getElem?_set_ne (Ne.symm z)] at q
      rw [List.getElem?_set_ne (Ne.symm z)]
      exact r.2 i d q
/-- a target that stores at the slots vs alone -/
def tGw (K : PySem.W.Frag) (vs : List Nat) (g : Gf) : TG := fun v σ H Q => ∃ d ρ M m ρ' M', Rl K H m d v ∧ Rs K H m ρ σ ∧ Wd K H m M ∧ g d ρ M = some (ρ', M') ∧
  ∀ H1 m1 σ1, Ext H m H1 m1 → Wd K H1 m1 M' → Rs K H1 m1 ρ' σ1 → wipe σ1 vs = wipe σ vs → Q σ1 H1
section
variable {X : Cx} {K : PySem.W.Frag} {e tg : Expr} {es : List Expr} {g : Gf} {gs : GsF} {pos : Pos} {vs : List Nat}
theorem cgw_of {i : Nat} (h : PG X e (gName i)) (hi : i ∈ vs) : PG X e (tGw K vs (gNm i)) := PG.imp h fun v σ H Q ⟨d, ρ, M, m, ρ', M', r, rs, w, hf, P⟩ => by
  cases hf
  exact P H m _ .refl w (rs.set r i) (wipe_set hi)
end

/-! ### the comprehension -/
/-- the turns: the list made so far is the object n -/
noncomputable def lcF (g : Gf) (tt : Tf) (te : Ef) (ρw : Slots) (n : Nat) (gk : Option Nat) (ds0 : List D) : List D → Mem → Option Mem
  | [], M => some M
  | d :: ds, M => (g d ρw M).bind fun p => (tt p.1 p.2).bind fun b => if b.1 = true then (te p.1 b.2).bind fun r => (match r.2[n]? with
      | some (.lst acc) => if acc.length < sizeLine then (open Classical in if guard gk ds0 (r.2.set n (.lst (acc ++ [r.1.d]))) then lcF g tt te ρw n gk ds0 ds (r.2.set n (.lst (acc ++ [r.1.d]))) else none) else none
      | _ => none) else (open Classical in if guard gk ds0 b.2 then lcF g tt te ρw n gk ds0 ds b.2 else none)
open Classical in
noncomputable def cLc (it : If) (vs : List Nat) (g : Gf) (tt : Tf) (te : Ef) : Ef := fun ρ M => (it ρ M).bind fun p =>
  (lcF g tt te (wipeD ρ vs) p.2.2.length p.2.1 p.1 p.1 (p.2.2 ++ [.lst []])).bind fun Me => match Me[p.2.2.length]? with
  | some (.lst acc) => if Me.length = p.2.2.length + 1 ∧ (Me.take p.2.2.length = p.2.2 ∨ nlM p.2.2.length (Me.take p.2.2.length) = true) ∧ nls p.2.2.length acc = true then some (.new acc, Me.take p.2.2.length) else none
  | _ => none
def tYesF : Tf := fun _ M => some (true, M)
section
variable {X : Cx} {elt tg iter : Expr} {ifs : List Expr} {scope : Scope} {own : List (Str × Nat)} {pos : Pos} {it : If} {g : Gf} {tt : Tf} {te : Ef}
theorem lc_of {σ : L2.St} {H : Hp} {Q : VK} {vs : List Nat} (h : tE X.K (cLc it vs g tt te) σ H Q) : tLc (tI X.K it) (tGw X.K vs g) (tT X.K tt) (tE X.K te) vs σ H Q := by
  obtain ⟨ρ, M, m, r, M', rs, w, hf, P⟩ := h
  unfold cLc at hf
  cases ea : it ρ M with
  | none => rw [ea] at hf; cases hf
  | some p =>
    obtain ⟨ds, gk, M1⟩ := p
    rw [ea] at hf
    simp only [Option.bind_some] at hf
    cases el : lcF g tt te (wipeD ρ vs) M1.length gk ds ds (M1 ++ [.lst []]) with
    | none => rw [el] at hf; cases hf
    | some Me =>
      rw [el] at hf
      simp only [Option.bind_some] at hf
      refine ⟨ρ, M, m, ds, gk, M1, rs, w, ea, fun H1 m1 J e1 w1 gd1 Y => fun D hD => ?_⟩
      obtain ⟨w2, e2⟩ := w1.push (o := .lst []) (u := .lst []) hD ⟨[], upd_same, by rw [Rls]⟩
      have gd2 : GdOk X.K gk ds (upd H1 D (.lst [])) (m1 ++ [D]) := fun k hk => by
        obtain ⟨a, us, q1, q2, q3⟩ := gd1 k hk
        exact ⟨a, us, e2.get q1, by rw [upd_ne (fun z => by rw [z, hD] at q2; cases q2)]; exact q2, q3.ext e2⟩
      have hn1 : M1.length = m1.length := w1.len.symm
      have hDm : (m1 ++ [D])[M1.length]? = some D := by rw [hn1, List.getElem?_append_right (Nat.le_refl _)]; simp
      refine ⟨fun i n H => n = ds.length - i ∧ i ≤ ds.length ∧ ∃ M2 m2, Ext (upd H1 D (.lst [])) (m1 ++ [D]) H m2 ∧ Wd X.K H m2 M2 ∧ GdOk X.K gk ds H m2 ∧ lcF g tt te (wipeD ρ vs) M1.length gk ds (ds.drop i) M2 = some Me,
        ⟨ds.length, by simp, Nat.zero_le _, M1 ++ [.lst []], m1 ++ [D], .refl, w2, gd2, by simpa using el⟩, ?_⟩
      rintro i n H ⟨rfl, hle, M2, m2, e3, w3, gd3, hl⟩
      have eY : Ext H1 m1 H m2 := e2.trans e3
      by_cases hlt : i < ds.length
      · refine .inr ⟨Y.go i H m2 hlt eY gd3, ?_⟩
        have hd : ds.drop i = ds[i] :: ds.drop (i + 1) := List.drop_eq_getElem_cons hlt
        rw [hd] at hl
        unfold lcF at hl
        refine ⟨fun H' => ∃ M3 m3, Ext H m2 H' m3 ∧ Wd X.K H' m3 M3 ∧ GdOk X.K gk ds H' m3 ∧ lcF g tt te (wipeD ρ vs) M1.length gk ds (ds.drop (i + 1)) M3 = some Me,
          fun H' ⟨M3, m3, e4, w4, gd4, hl4⟩ => ⟨ds.length - (i + 1), by omega, rfl, hlt, M3, m3, e3.trans e4, w4, gd4, hl4⟩, fun x H' y => ?_⟩
        obtain ⟨e4, w4, r4⟩ := Y.yld i ds[i] H m2 M2 x H' (List.getElem?_eq_getElem hlt) eY gd3 w3 y
        cases eg : g ds[i] (wipeD ρ vs) M2 with
        | none => rw [eg] at hl; cases hl
        | some q =>
          rw [eg] at hl
          simp only [Option.bind_some] at hl
          refine ⟨ds[i], wipeD ρ vs, M2, m2, q.1, q.2, r4, ((rs.ext e1).ext (eY.trans e4)).wipe vs, w4, eg, fun H5 m5 σ5 e5 w5 rs5 z5 => ⟨z5.trans wipe_idem, ?_⟩⟩
          cases et : tt q.1 q.2 with
          | none => rw [et] at hl; cases hl
          | some b =>
            rw [et] at hl
            simp only [Option.bind_some] at hl
            refine bindT rs5 w5 et fun H6 m6 e6 w6 rs6 => ?_
            split at hl
            · rename_i hb
              rw [if_pos hb]
              cases ev : te q.1 b.2 with
              | none => rw [ev] at hl; cases hl
              | some rz =>
                rw [ev] at hl
                simp only [Option.bind_some] at hl
                refine bindE rs6 w6 ev fun H7 m7 v e7 w7 rs7 r7 => ?_
                split at hl
                · rename_i acc hacc
                  split at hl
                  · rename_i hz
                    have eAll : Ext (upd H1 D (.lst [])) (m1 ++ [D]) H7 m7 := (((e3.trans e4).trans e5).trans e6).trans e7
                    have hD7 := eAll.get hDm
                    obtain ⟨a, ha, us, h1, h2⟩ := w7.get hacc
                    rw [hD7] at ha; cases ha
                    refine ⟨us, h1, by rw [← h2.length]; exact hz, ?_⟩
                    have e8 := w7.ext_set (u := .lst (us ++ [v])) hD7
                    have w8 := w7.set (o := .lst (acc ++ [rz.1.d])) (u := .lst (us ++ [v])) hD7 ⟨_, upd_same, (h2.ext e8).append (by rw [Rls]; exact ⟨_, _, rfl, r7.ext e8, by rw [Rls]⟩)⟩
                    split at hl
                    · rename_i hgd
                      exact ⟨_, m7, (((e4.trans e5).trans e6).trans e7).trans e8, w8, gd_of w8 hgd, hl⟩
                    · cases hl
                  · cases hl
                · cases hl
            · rename_i hb
              rw [if_neg hb]
              split at hl
              · rename_i hgd
                exact ⟨_, m6, (e4.trans e5).trans e6, w6, gd_of w6 hgd, hl⟩
              · cases hl
      · have e : i = ds.length := by omega
        subst e
        refine .inl ⟨Y.stop H m2 eY gd3, ?_⟩
        rw [List.drop_length] at hl
        unfold lcF at hl
        cases hl
        split at hf
        · rename_i acc hacc
          split at hf
          · rename_i hcond
            obtain ⟨c1, c2, c3⟩ := hcond
            cases hf
            obtain ⟨l, rfl, hl0⟩ := id e3.pre
            have hl1 : l = [] := by
              have := w3.len
              rw [c1, hn1] at this
              simp at this
              exact this
            subst hl1
            rw [List.append_nil] at w3 e3
            obtain ⟨a, ha, us, h1, h2⟩ := w3.get hacc
            rw [hDm] at ha; cases ha
            have eD : Ext H1 m1 H (m1 ++ [D]) := e2.trans e3
            have hnl : ∀ o ∈ Me.take m1.length, nlO m1.length o = true := by
              rw [hn1] at c2
              rcases c2 with c2 | c2
              · rw [c2]; exact w1.nl
              · exact nlM_ok c2
            have hlen : m1.length = (Me.take m1.length).length := by
              rw [List.length_take, c1, hn1]; omega
            rw [hn1] at P c3
            have := P (del H D) m1 (e1.trans (eD.del (ws := us) (by simp))) (w3.del rfl hlen hnl h1 (by simp)) us D (Rls.del h1 (by simp) h2 c3) del_same
            rw [upd_del h1] at this
            exact this
          · cases hf
        · cases hf
theorem ce_lc (hc : X.calm = true) (hN : X.N.Nodup) (hi : CIx X tg iter it) (ok : BlkOk X.N X.env.scope scope own)
    (hg : ∀ (s : Shared) (H : Hp) (C : Addr) (cl : List (Str × Addr)) (fp : List Addr), PG (X.blk s H scope (compEnvC scope cl C X.env) fp) tg (tGw X.K (own.map (·.2)) g)) (ht : ∀ (s : Shared) (H : Hp) (C : Addr) (cl : List (Str × Addr)) (fp : List Addr), PTs (X.blk s H scope (compEnvC scope cl C X.env) fp) ifs (tT X.K tt))
    (he : ∀ (s : Shared) (H : Hp) (C : Addr) (cl : List (Str × Addr)) (fp : List Addr), PE (X.blk s H scope (compEnvC scope cl C X.env) fp) elt (tE X.K te)) (hs : ∀ x, foldedSetIterable iter X.env x = pure x := by intro _; rfl) :
    CEx X (.ListComp elt [⟨tg, iter, ifs, 0⟩] scope pos) (cLc it (own.map (·.2)) g tt te) := PE.imp (pe_lc hc hN hi ok hg ht he hs) fun _ _ _ h => lc_of h
theorem cs_setLc {i : Nat} {y : Str} {py spos : Pos} (hc : X.calm = true) (hN : X.N.Nodup) (hy : X.N[i]? = some y) (hyl : X.env.scope.names.lookup y = some .local)
    (hsw : swapsWith (.ListComp elt [⟨tg, iter, ifs, 0⟩] scope pos) (some (.Name y py)) spos.line X.env = pure true) (hi : CIx X tg iter it) (ok : BlkOk X.N X.env.scope scope own)
    (hg : ∀ (s : Shared) (H : Hp) (C : Addr) (cl : List (Str × Addr)) (fp : List Addr), PG (X.blk s H scope (compEnvC scope cl C X.env) fp) tg (tGw X.K (own.map (·.2)) g)) (ht : ∀ (s : Shared) (H : Hp) (C : Addr) (cl : List (Str × Addr)) (fp : List Addr), PTs (X.blk s H scope (compEnvC scope cl C X.env) fp) ifs (tT X.K tt))
    (he : ∀ (s : Shared) (H : Hp) (C : Addr) (cl : List (Str × Addr)) (fp : List Addr), PE (X.blk s H scope (compEnvC scope cl C X.env) fp) elt (tE X.K te)) (hs : ∀ x, foldedSetIterable iter X.env x = pure x := by intro _; rfl) :
    PS X (.Assign [.Name y py] (.ListComp elt [⟨tg, iter, ifs, 0⟩] scope pos) spos) (tAsg (tE X.K (cLc it (own.map (·.2)) g tt te)) (gName i)) := PS.imp (ps_setLc hc hN hy hyl hsw hi ok hg ht he hs) fun Dn σ H h => lc_of h
theorem cts_nil : PTs X [] (tT X.K tYesF) := ⟨fun pins s σ H Q I h => by
  obtain ⟨ρ, M, m, b, M', rs, w, hf, P⟩ := h
  cases hf
  exact pts_nil.run pins s σ H Q I (P H m .refl w)⟩
theorem cts_one {c : Expr} (h : CTx X c tt) : PTs X [c] (tT X.K tt) := pts_one h
end
end CI

/-! Ci12: stars in displays, list(range), enumerate; comprehensions reckoned -/
namespace CI
open PySem PySem.Spec PyProof.Rows L2
section
variable {X : Cx} {e : Expr} {es : List Expr} {f : Ef} {g : Af} {p pos : Pos}
/-- the items of a starred sequence are read when it is met: what follows does not change them -/
def aStar' (f : Ef) (g : Af) : Af := fun ρ M => (f ρ M).bind fun p => (asS p.2 p.1.d).bind fun ds => (g ρ p.2).bind fun q => some (ds ++ q.1, q.2)
theorem ca_star (he : CEx X e f) (hr : CAx X es g) (hs : starEach (.Starred e p :: es) X.env = (true, eval e X.env) :: starEach es X.env := by rfl) : CAx X (.Starred e p :: es) (aStar' f g) := PA.imp (StX.pa_star he hr hs) fun σ H Q ⟨ρ, M, m, ds, M', rs, w, hf, P⟩ => by
  unfold aStar' at hf
  cases ea : f ρ M with
  | none => rw [ea] at hf; cases hf
  | some p =>
    cases es : asS p.2 p.1.d with
    | none => simp [ea, es] at hf
    | some zs =>
      cases eb : g ρ p.2 with
      | none => simp [ea, es, eb] at hf
      | some q =>
        simp [ea, es, eb] at hf
        obtain ⟨rfl, rfl⟩ := hf
        refine bindE rs w ea fun H1 m1 v e1 w1 rs1 r1 => ?_
        obtain ⟨a, us, rfl, h1, h2⟩ := asS_ok w1 r1 es
        refine ⟨a, us, rfl, h1.symm, bindA rs1 w1 eb fun H2 m2 vs e2 w2 rs2 r2 => P H2 m2 _ (e1.trans e2) w2 ((h2.ext e2).append r2)⟩
/-- list(range(a, b)), tuple(range(a, b)) -/
def bRg (a b : Int) : Bool := rgB a && rgB b && decide ((b - a).toNat ≤ 16777216)
def cLRg (fa fb : Ef) : Ef := fun ρ M => (fa ρ M).bind fun p => (fb ρ p.2).bind fun q => match p.1.d, q.1.d with
  | .int i, .int j => if bRg i j = true then some (.new (rgD i (j - i).toNat), q.2) else none
  | _, _ => none
end

end CI

/-! Ci14: tuple * int, -x, constants of the module -/
namespace CI
open PySem PySem.Spec PyProof.Rows L2
theorem tuple_mul1 (l : Addr) (items : Array Value) (n : Nat) (dd : Option Addr) (sl : Array (Option Value)) (x : Int) (u : Tok) (c0 : (decide (x < -(2 ^ 63)) || decide (x ≥ 2 ^ 63)) = false) (c1 : (items.isEmpty || x == 1) = true) :
    Meets (Builtin.«tuple.__mul__» ⟨[.ref l, .int x u], []⟩) (fun _ R s => s.heap.get? l = some { cls := .type "tuple", dict := dd, data := .seq items n, slots := sl } ∧ R (.ok (.ret (Value.ref l))) s) :=
  .of_wp fun prog w A R s h => by
    obtain ⟨hp, g, d, tk, os⟩ := s
    obtain ⟨hl, h⟩ := h
    have f1 := AutoSeq1.idx_int
    wp_walk using wpAny_loadPart' hl
    repeat (first
      | (refine wpAny_ite_false (decide_eq_false (by rw [c0]; exact Bool.false_ne_true)) ?_; wp_walk using wpAny_loadPart' hl)
      | (refine wpAny_ite_true (decide_eq_true (by rw [c1])) ?_; wp_walk using wpAny_loadPart' hl))
    exact ⟨_, rfl, h⟩
theorem tuple_mul0 (l : Addr) (items : Array Value) (n : Nat) (dd : Option Addr) (sl : Array (Option Value)) (x : Int) (u : Tok) (c0 : (decide (x < -(2 ^ 63)) || decide (x ≥ 2 ^ 63)) = false) (c1 : (items.isEmpty || x == 1) = false) (c2 : (decide (x ≤ 0) || items.isEmpty) = true) :
    Meets (Builtin.«tuple.__mul__» ⟨[.ref l, .int x u], []⟩) (fun _ R s => s.heap.get? l = some { cls := .type "tuple", dict := dd, data := .seq items n, slots := sl } ∧
      R (.ok (.ret (Value.ref s.heap.objs.size))) { s with heap := s.heap.push { cls := Value.type "tuple", data := Data.seq #[] }, toks := s.toks }) :=
  .of_wp fun prog w A R s h => by
    obtain ⟨hp, g, d, tk, os⟩ := s
    obtain ⟨hl, h⟩ := h
    have f1 := AutoSeq1.idx_int
    wp_walk using wpAny_loadPart' hl
    repeat (first
      | (refine wpAny_ite_false (decide_eq_false (by rw [c0]; exact Bool.false_ne_true)) ?_; wp_walk using wpAny_loadPart' hl)
      | (refine wpAny_ite_false (decide_eq_false (by rw [c1]; exact Bool.false_ne_true)) ?_; wp_walk using wpAny_loadPart' hl)
      | (refine wpAny_ite_true (decide_eq_true (by rw [c2])) ?_; wp_walk using wpAny_loadPart' hl))
    exact ⟨_, rfl, h⟩
section
variable {X : Cx}
def rMul1 (K : PySem.W.Frag) : R2 := fun x y H Q => ∃ l xs, x = .ref l ∧ y = .int 1 ∧ SqT K H l xs ∧ Q (.ref l) H
def rMul0 (K : PySem.W.Frag) : R2 := fun x y H Q => ∃ l k xs, x = .ref l ∧ y = .int k ∧ SqT K H l xs ∧ xs ≠ [] ∧ k ≤ 0 ∧ -1000000 < k ∧ ∀ p, H p = none → Q (.ref p) (upd H p (.tup []))
theorem op_mul1 : OpR X (binaryOp .Mult) (rMul1 X.K) := by
  intro pins s σ H x y v u Q I rx ry h
  obtain ⟨l, xs, rfl, rfl, hT, q⟩ := h
  cases rx
  obtain ⟨t, rfl⟩ := ry
  obtain ⟨its, r, ⟨⟨cls, dd, data, sl⟩, ho, hc, n, hd⟩, hs⟩ := I.tuple hT
  simp only at hc hd
  subst hc hd
  have c1 : (its.toArray.isEmpty || (1 : Int) == 1) = true := by simp
  refine wpAny_binaryOp_repeat_ref (T := "tuple") (U := "int") (by decide) ⟨_, ho, rfl⟩ (fun s' => typeIs_int s' 1 t) noFill_tuple_mul F.fills_int_mul F.slot_int_rmul repeat_tuple F.slot_int_index.lookup
    (call_meets F.slot_int_rmul (typeIs_int s 1 t) F.entry_int_rmul (F.args_int_rmul_2 _ _) (int_rmul_tuple 1 t l its.toArray n dd sl)
      ⟨ho, rfl, ⟨_, ho, rfl⟩, call_meets F.slot_tuple_mul ⟨_, ho, rfl⟩ F.entry_tuple_mul (F.args_tuple_mul_2 _ _) (tuple_mul1 l its.toArray n dd sl 1 t (by decide) c1) ⟨ho, ?_⟩⟩)
  exact ⟨.ref l, H, I, rfl, q⟩
theorem op_mul0 : OpR X (binaryOp .Mult) (rMul0 X.K) := by
  intro pins s σ H x y v u Q I rx ry h
  obtain ⟨l, k, xs, rfl, rfl, hT, hne, h1, h2, q⟩ := h
  cases rx
  obtain ⟨t, rfl⟩ := ry
  obtain ⟨its, r, ⟨⟨cls, dd, data, sl⟩, ho, hc, n, hd⟩, hs⟩ := I.tuple hT
  simp only at hc hd
  subst hc hd
  have hle : its.length = xs.length := r.length.symm
  have hn : its ≠ [] := fun e => hne (by
    rw [e] at hle
    exact List.eq_nil_of_length_eq_zero hle.symm)
  have hi : its.toArray.isEmpty = false := by
    cases its with
    | nil => exact absurd rfl hn
    | cons a b => rfl
  have c0 : (decide (k < -(2 ^ 63)) || decide (k ≥ 2 ^ 63)) = false := by
    rw [decide_eq_false (by omega), decide_eq_false (by omega)] <;> rfl
  have c1 : (its.toArray.isEmpty || k == 1) = false := by
    rw [hi, Bool.false_or]
    exact beq_eq_false_iff_ne.mpr (by omega)
  have c2 : (decide (k ≤ 0) || its.toArray.isEmpty) = true := by
    rw [decide_eq_true h1]; rfl
  refine wpAny_binaryOp_repeat_ref (T := "tuple") (U := "int") (by decide) ⟨_, ho, rfl⟩ (fun s' => typeIs_int s' k t) noFill_tuple_mul F.fills_int_mul F.slot_int_rmul repeat_tuple F.slot_int_index.lookup
    (call_meets F.slot_int_rmul (typeIs_int s k t) F.entry_int_rmul (F.args_int_rmul_2 _ _) (int_rmul_tuple k t l its.toArray n dd sl)
      ⟨ho, rfl, ⟨_, ho, rfl⟩, call_meets F.slot_tuple_mul ⟨_, ho, rfl⟩ F.entry_tuple_mul (F.args_tuple_mul_2 _ _) (tuple_mul0 l its.toArray n dd sl k t c0 c1 c2) ⟨ho, ?_⟩⟩)
  refine ⟨.ref s.heap.objs.size, _, I.laid (t' := s.toks) (o := .tup []) (fun b ob q => Heap.get?_push_of_some _ q) (Nat.le_refl _) ?_, rfl, q _ (I.hok.fresh (Nat.le_refl _))⟩
  exact ⟨by simp, _, .nil, IsTup.new _ _⟩
theorem Rls.rep {K : PySem.W.Frag} {H : Hp} {m : List Addr} {ds : List D} {vs : List V} (h : Rls K H m ds vs) : ∀ k : Nat, Rls K H m (List.replicate k ds).flatten (List.replicate k vs).flatten
  | 0 => by simp [Rls]
  | k + 1 => by
    rw [List.replicate_succ, List.replicate_succ, List.flatten_cons, List.flatten_cons]
    exact h.append (Rls.rep h k)
def cNeg (f : Ef) : Ef := fun ρ M => (f ρ M).bind fun p => match p.1.d with
  | .int i => some (.val (.int (-i)), p.2)
  | _ => none
end

end CI

/-! Ci15: == of data with itself -/
namespace CI
open PySem PySem.Spec PyProof.Rows L2
def plS : Nat → D → Bool
  | 0, _ => false
  | n + 1, d => match d with
    | .tup ds => ds.all (plS n)
    | .lst ds => ds.all (plS n)
    | .str x => PyData.strOk x
    | .scr _ => false
    | .loc _ => false
    | _ => true
theorem plS_tup {n : Nat} {ds : List D} : plS (n + 1) (.tup ds) = ds.all (plS n) := rfl
theorem plS_lst {n : Nat} {ds : List D} : plS (n + 1) (.lst ds) = ds.all (plS n) := rfl
theorem plS_ok : ∀ (n : Nat) (d : D), plS n d = true → ∃ p, py0 d = some p ∧ p.canLay0 = true ∧ p.depth ≤ n
  | 0, _, h => by cases h
  | n + 1, d, h => by
    have all : ∀ ds : List D, ds.all (plS n) = true → ∃ ps, py0s ds = some ps ∧ PyData.canLayAll0 ps = true ∧ PyData.depthAll ps ≤ n := by
      intro ds
      induction ds with
      | nil => intro _; exact ⟨[], rfl, rfl, Nat.zero_le _⟩
      | cons d ds ih =>
        intro h
        rw [List.all_cons, Bool.and_eq_true] at h
        obtain ⟨p, h1, h2, h3⟩ := plS_ok n d h.1
        obtain ⟨ps, g1, g2, g3⟩ := ih h.2
        refine ⟨p :: ps, by rw [py0s, h1, g1]; rfl, ?_, ?_⟩
        · rw [PyData.canLayAll0, h2, g2]; rfl
        · rw [PyData.depthAll]; exact Nat.max_le.mpr ⟨h3, g3⟩
    cases d with
    | non => exact ⟨.none, rfl, rfl, Nat.zero_le _⟩
    | bl b => exact ⟨.bool b, rfl, rfl, Nat.zero_le _⟩
    | int b => exact ⟨.int b, rfl, rfl, Nat.zero_le _⟩
    | str x => exact ⟨.str x, rfl, h, Nat.zero_le _⟩
    | scr _ => cases h
    | loc _ => cases h
    | tup ds =>
      obtain ⟨ps, h1, h2, h3⟩ := all ds h
      refine ⟨.tuple ps, by rw [py0, h1]; rfl, ?_, ?_⟩
      · rw [PyData.canLay0]; exact h2
      · rw [PyData.depth]; omega
    | lst ds =>
      obtain ⟨ps, h1, h2, h3⟩ := all ds h
      refine ⟨.list ps, by rw [py0, h1]; rfl, ?_, ?_⟩
      · rw [PyData.canLay0]; exact h2
      · rw [PyData.depth]; omega
end CI

/-! Ci16: enumerate of a list that nothing changes -/
namespace CI
open PySem PySem.Spec PyProof.Rows L2
def enD (ds : List D) : List D := ds.zipIdx.map fun p => D.tup [.int ((p.2 : Nat) : Int), p.1]
def iEn (f : Ef) : If := fun ρ M => (f ρ M).bind fun p => match p.1.d with
  | .lst ds => some (enD ds, none, p.2)
  | .scr ns => some (enD (ns.map .int), none, p.2)
  | _ => none
end CI

/-! Ci17: the letters of a string; int of a string -/
namespace CI
open PySem PySem.Spec PyProof.Rows L2
def chD (x : Str) : List D := x.cps.toList.map fun c => D.str ⟨#[c]⟩
def iSt (f : Ef) : If := fun ρ M => (f ρ M).bind fun p => match p.1.d with
  | .str x => some (chD x, none, p.2)
  | _ => none
end CI

/-! Ci18: the digits of a number -/
namespace CI
open PySem PySem.Spec PyProof.Rows L2
end CI

/-! Ci19: defs and loops that tidy up: dead slots, objects that nobody reaches -/
namespace CI
open PySem PySem.Spec PyProof.Rows L2

/-- the objects of M stand in Me as before, or hold nothing that is newer than M -/
def trimOk (M Me : Mem) : Prop := M.length ≤ Me.length ∧ ∀ k o, k < M.length → Me[k]? = some o → M[k]? = some o ∨ nlO M.length o = true
section
variable {K : PySem.W.Frag} {H H0 : Hp} {m l : List Addr} {M Me : Mem} {a b : Addr}
theorem trim_nl (w0 : Wd K H0 m M) (t : trimOk M Me) : ∀ k o, k < m.length → Me[k]? = some o → nlO m.length o = true := fun k o hk h => by
  have hl := w0.len
  rcases t.2 k o (by omega) h with q | q
  · exact w0.nl o (List.mem_of_getElem? q)
  · rw [hl]; exact q
theorem Wd.trim (w : Wd K H (m ++ l) Me) (hl : m.length ≤ Me.length) (n : ∀ k o, k < m.length → Me[k]? = some o → nlO m.length o = true) : Wd K H m (Me.take m.length) := by
  refine ⟨by rw [List.length_take]; omega, (List.nodup_append.mp w.nd).1, fun k b o h1 h2 => ?_⟩
  have hk : k < m.length := (List.getElem?_eq_some_iff.mp h1).1
  rw [List.getElem?_take_of_lt hk] at h2
  exact (w.at_ k b o (by rw [List.getElem?_append_left hk]; exact h1) h2).cut (n k o hk h2)
theorem Wd.trimDel {ws : List V} (w : Wd K H (m ++ l) Me) (hl : m.length ≤ Me.length) (n : ∀ k o, k < m.length → Me[k]? = some o → nlO m.length o = true) (ha : H a = some (.lst ws)) (hm : a ∈ l) : Wd K (CI.del H a) m (Me.take m.length) := by
  refine ⟨by rw [List.length_take]; omega, (List.nodup_append.mp w.nd).1, fun k b o h1 h2 => ?_⟩
  have hk : k < m.length := (List.getElem?_eq_some_iff.mp h1).1
  rw [List.getElem?_take_of_lt hk] at h2
  refine (w.at_ k b o (by rw [List.getElem?_append_left hk]; exact h1) h2).del ha hm (fun z => ?_) (n k o hk h2)
  exact (List.nodup_append.mp w.nd).2.2 b (List.mem_of_getElem? h1) a hm z
end
open Classical in
noncomputable def finK (M : Mem) (r : Rz) (Me : Mem) : Rz × Mem :=
  if trimOk M Me then (match r with
    | .val (.loc k) => if k < M.length then (r, Me.take M.length) else match Me[k]? with
      | some (.lst ds) => if nls M.length ds = true then (.new ds, Me.take M.length) else (r, Me)
      | _ => (r, Me)
    | .val d => if nl M.length d = true then (r, Me.take M.length) else (r, Me)
    | .new ds => if nls M.length ds = true then (r, Me.take M.length) else (r, Me)) else (r, Me)
theorem finK_ok {K : PySem.W.Frag} {H0 : Hp} {m : List Addr} {M Me : Mem} {r : Rz} {Q : VK} (w0 : Wd K H0 m M) (P : Post K H0 m (finK M r Me).1 (finK M r Me).2 Q) : Post K H0 m r Me Q := by
  unfold finK at P
  split at P
  · rename_i ht
    have hn := trim_nl w0 ht
    have hlen := w0.len
    have hle : m.length ≤ Me.length := by rw [hlen]; exact ht.1
    rw [← hlen] at P
    cases r with
    | new ds =>
      simp only at P
      split at P
      · rename_i hd
        intro H1 m1 e1 w1 vs a r1 na
        obtain ⟨l, rfl, _⟩ := id e1.pre
        exact P H1 m e1.back (w1.trim hle hn) vs a (Rls.cut' r1 hd) na
      · exact P
    | val d =>
      have plain : ∀ d, nl m.length d = true → Post K H0 m (.val d) (Me.take m.length) Q → Post K H0 m (.val d) Me Q := fun d hd P => by
        intro H1 m1 e1 w1 v r1
        obtain ⟨l, rfl, _⟩ := id e1.pre
        exact P H1 m e1.back (w1.trim hle hn) v (r1.cut hd)
      cases d with
      | loc k =>
        simp only at P
        split at P
        · rename_i hk
          exact plain _ (by rw [nl]; exact decide_eq_true hk) P
        · rename_i hk
          split at P
          · rename_i ds hds
            split at P
            · rename_i hd
              intro H1 m1 e1 w1 v r1
              obtain ⟨l, rfl, _⟩ := id e1.pre
              rw [Rl] at r1
              obtain ⟨a, rfl, ha⟩ := r1
              obtain ⟨b, hb, vs, h1, h2⟩ := w1.get hds
              rw [ha] at hb; cases hb
              have hal : a ∈ l := by
                rw [List.getElem?_append_right (by omega)] at ha
                exact List.mem_of_getElem? ha
              have := P (del H1 a) m (e1.del (ws := vs) hal) (w1.trimDel hle hn h1 hal) vs a (Rls.del h1 hal h2 hd) del_same
              rw [upd_del h1] at this
              exact this
            · exact P
          · exact P
      | non => exact plain _ rfl (by simpa [nl] using P)
      | bl b => exact plain _ rfl (by simpa [nl] using P)
      | int b => exact plain _ rfl (by simpa [nl] using P)
      | str b => exact plain _ rfl (by simpa [nl] using P)
      | scr b => exact plain _ rfl (by simpa [nl] using P)
      | tup ds =>
        simp only at P
        split at P
        · rename_i hd; exact plain _ hd P
        · exact P
      | lst ds =>
        simp only at P
        split at P
        · rename_i hd; exact plain _ hd P
        · exact P
  · exact P

noncomputable def mkFnK (np ns : Nat) (body : Sf) : Fn := fun ds M => if ds.length = np then (match body (ds.map some ++ List.replicate (ns - ds.length) none) M with
  | some (.rt r, _, Me) => some (finK M r Me)
  | some (.nx, _, Me) => some (finK M (.val .non) Me)
  | _ => none) else none
theorem runK_ok {K : PySem.W.Frag} {N : List Str} {np : Nat} {fb : Sf} {vs : List V} {H : Hp} {Q : VK} {E : XK} (h : spF K (mkFnK np N.length fb) vs H Q E) : tS K fb { nx := fun _ H' => Q .non H', rt := Q } (L2.start N vs) H := by
  obtain ⟨ds, M, m, r, M', rd, w, hf, P⟩ := h
  unfold mkFnK at hf
  split at hf
  · split at hf
    · rename_i r' ρ' Me hb
      cases e : finK M r' Me with | mk a b =>
      rw [e] at hf; cases hf
      refine ⟨_, M, m, _, _, _, rs_start rd, w, hb, ?_⟩
      refine finK_ok w ?_
      rw [e]; exact P
    · rename_i ρ' Me hb
      cases e : finK M (.val .non) Me with | mk a b =>
      rw [e] at hf; cases hf
      refine ⟨_, M, m, _, _, _, rs_start rd, w, hb, fun H1 m1 σ1 e1 w1 rs1 => ?_⟩
      have P2 : Post K H m (.val .non) Me Q := finK_ok w (by rw [e]; exact P)
      exact P2 H1 m1 e1 w1 .non (by rw [Rl])
    · cases hf
  · cases hf
theorem spK_len {K : PySem.W.Frag} {np ns : Nat} {fb : Sf} {vs : List V} {H : Hp} {Q : VK} {E : XK} (h : spF K (mkFnK np ns fb) vs H Q E) : vs.length = np := by
  obtain ⟨ds, M, m, r, M', rd, w, hf, P⟩ := h
  unfold mkFnK at hf
  split at hf
  · rename_i hl; rw [← rd.length]; exact hl
  · cases hf
section
variable {P : Program} {w : World} {K : PySem.W.Frag} {mg : Str → Option Value} {base : Heap} {x qual : Str} {params : Arguments} {body : List Stmt} {scope : Scope} {f : Addr} {fd : FuncData}
theorem fnK_ok {N ps : List Str} {k : Nat} {fb : Sf} (F : FunD K x qual params body scope [] [] f fd) (S : FnScope N ps scope)
    (hb : ∀ (cdv : Value) (A : Around) (outer : List Env) (s : Shared) (H : Hp) (E : XK), Room k (A.deeper (envOfC qual scope s.heap.objs.size f cdv)) → CBx (cxOf CX0 P w K mg base N qual scope f cdv A outer s H E).nox body fb) :
    FnOk P w K mg base CX0 (k + 1) f fd ps (spF K (mkFnK ps.length N.length fb)) :=
  F.ok S (fun vs H Q E h => spK_len h) fun cdv A outer s H vs Q E hr h => ⟨_, PSs.nox (hb cdv A outer s H E hr), runK_ok h⟩
end

/-! ### loops that tidy up -/
def nlS (n : Nat) : Slots → Bool
  | [] => true
  | none :: ρ => nlS n ρ
  | some d :: ρ => nl n d && nlS n ρ
/-- the slots that are read later -/
def keepD : List Bool → Slots → Slots
  | true :: bs, o :: ρ => o :: keepD bs ρ
  | false :: bs, _ :: ρ => none :: keepD bs ρ
  | _, ρ => ρ
open Classical in
noncomputable def tidy (kl : List Bool) (M : Mem) (ρ : Slots) (Me : Mem) : Slots × Mem := if trimOk M Me ∧ nlS M.length (keepD kl ρ) = true then (keepD kl ρ, Me.take M.length) else (keepD kl ρ, Me)
theorem keepD_len : ∀ {kl : List Bool} {ρ : Slots}, (keepD kl ρ).length = ρ.length
  | [], _ => by simp [keepD]
  | true :: _, [] => rfl
  | false :: _, [] => rfl
  | true :: bs, o :: ρ => by rw [keepD, List.length_cons, List.length_cons, keepD_len]
  | false :: bs, o :: ρ => by rw [keepD, List.length_cons, List.length_cons, keepD_len]
theorem keepD_get : ∀ {kl : List Bool} {ρ : Slots} {i : Nat} {d : D}, (keepD kl ρ)[i]? = some (some d) → ρ[i]? = some (some d)
  | [], _, _, _, h => by simpa [keepD] using h
  | true :: _, [], _, _, h => by simp [keepD] at h
  | false :: _, [], _, _, h => by simp [keepD] at h
  | true :: bs, o :: ρ, 0, d, h => by simpa [keepD] using h
  | true :: bs, o :: ρ, i + 1, d, h => by
    rw [keepD] at h
    simpa using keepD_get (i := i) (by simpa using h)
  | false :: bs, o :: ρ, 0, d, h => by simp [keepD] at h
  | false :: bs, o :: ρ, i + 1, d, h => by
    rw [keepD] at h
    simpa using keepD_get (i := i) (by simpa using h)
theorem Rs.keep {K : PySem.W.Frag} {H : Hp} {m : List Addr} {σ : L2.St} {ρ : Slots} (kl : List Bool) (h : Rs K H m ρ σ) : Rs K H m (keepD kl ρ) σ :=
  ⟨by rw [keepD_len]; exact h.1, fun i d q => h.2 i d (keepD_get q)⟩
theorem nlS_get {n : Nat} : ∀ {ρ : Slots}, nlS n ρ = true → ∀ {i : Nat} {d : D}, ρ[i]? = some (some d) → nl n d = true
  | [], _, i, d, h => by simp at h
  | none :: ρ, h, i, d, q => by
    rw [nlS] at h
    cases i with
    | zero => simp at q
    | succ i => exact nlS_get h (i := i) (by simpa using q)
  | some e :: ρ, h, i, d, q => by
    rw [nlS, Bool.and_eq_true] at h
    cases i with
    | zero => simp at q; subst q; exact h.1
    | succ i => exact nlS_get h.2 (i := i) (by simpa using q)
theorem Rs.trim {K : PySem.W.Frag} {H : Hp} {m l : List Addr} {ρ : Slots} {σ : L2.St} (h : Rs K H (m ++ l) ρ σ) (n : nlS m.length ρ = true) : Rs K H m ρ σ :=
  ⟨h.1, fun i d q => let ⟨v, h1, h2⟩ := h.2 i d q; ⟨v, h1, h2.cut (nlS_get n q)⟩⟩
theorem tidy_ok {K : PySem.W.Frag} {H0 H1 : Hp} {m m1 : List Addr} {M Me : Mem} {ρ : Slots} {σ : L2.St} {kl : List Bool} (w0 : Wd K H0 m M) (e : Ext H0 m H1 m1) (w : Wd K H1 m1 Me) (rs : Rs K H1 m1 ρ σ) :
    ∃ m2, Ext H0 m H1 m2 ∧ Wd K H1 m2 (tidy kl M ρ Me).2 ∧ Rs K H1 m2 (tidy kl M ρ Me).1 σ := by
  unfold tidy
  split
  · rename_i h
    obtain ⟨l, rfl, _⟩ := id e.pre
    have hlen := w0.len
    refine ⟨m, e.back, ?_, ?_⟩
    · rw [← hlen]
      exact w.trim (by rw [hlen]; exact h.1.1) (trim_nl w0 h.1)
    · refine (rs.keep kl).trim ?_
      rw [hlen]; exact h.2
  · exact ⟨m1, e, w, rs.keep kl⟩
def Fl.goes : Fl → Bool
  | .nx => true
  | .ct => true
  | _ => false
open Classical in
noncomputable def stpK (kl : List Bool) (gk : Option Nat) (ds : List D) (g : Gf) (body : Sf) : Stp := fun d ρ M => (g d ρ M).bind fun p => (body p.1 p.2).bind fun q =>
  if q.1.goes = true then (if guard gk ds (tidy kl M q.2.1 q.2.2).2 then some (q.1, tidy kl M q.2.1 q.2.2) else none) else some (match q.1 with
  | .rt r => (.rt r, [], q.2.2)
  | _ => q)
noncomputable def sForK (kl : List Bool) (it : If) (g : Gf) (body : Sf) : Sf := fun ρ M => (it ρ M).bind fun p => loopF (stpK kl p.2.1 p.1 g body) p.1 (keepD kl ρ) p.2.2
section
variable {X : Cx} {tg iter : Expr} {body : List Stmt} {it : If} {g : Gf} {fb : Sf} {pos : Pos}
theorem cs_forK {kl : List Bool} (hp : PassesOwn (model X.prog X.w) X.A X.env X.xe) (hc : X.calm = true) (hi : CIx X tg iter it) (hg : CGx X tg g) (hb : CBx X body fb)
    (hs : ∀ x, foldedSetIterable iter X.env x = pure x := by intro _; rfl) : CSx X (.For tg iter body [] pos) (sForK kl it g fb) := PS.imp (ps_for hp hc hi hg hb hs) fun Dn σ H h => by
  obtain ⟨ρ, M, m, fl, ρ', M', rs, w, hf, P⟩ := h
  unfold sForK at hf
  cases ea : it ρ M with
  | none => rw [ea] at hf; cases hf
  | some p =>
    obtain ⟨ds, gk, M1⟩ := p
    rw [ea] at hf
    simp only [Option.bind_some] at hf
    refine ⟨ρ, M, m, ds, gk, M1, rs, w, ea, fun H1 m1 J e1 w1 gd1 Y => ?_⟩
    refine ⟨fun i n σ H => n = ds.length - i ∧ i ≤ ds.length ∧ ∃ ρ2 M2 m2, Ext H1 m1 H m2 ∧ Rs X.K H m2 ρ2 σ ∧ Wd X.K H m2 M2 ∧ GdOk X.K gk ds H m2 ∧ loopF (stpK kl gk ds g fb) (ds.drop i) ρ2 M2 = some (fl, ρ', M'),
      ⟨ds.length, by simp, Nat.zero_le _, keepD kl ρ, M1, m1, .refl, (rs.ext e1).keep kl, w1, gd1, by simpa using hf⟩, ?_⟩
    rintro i n σ H ⟨rfl, hle, ρ2, M2, m2, e2, rs2, w2, gd2, hl⟩
    by_cases hlt : i < ds.length
    · refine .inr ⟨Y.go i H m2 hlt e2 gd2, ?_⟩
      have hd : ds.drop i = ds[i] :: ds.drop (i + 1) := List.drop_eq_getElem_cons hlt
      rw [hd] at hl
      unfold loopF at hl
      cases es : stpK kl gk ds g fb ds[i] ρ2 M2 with
      | none => rw [es] at hl; cases hl
      | some q =>
        obtain ⟨fl1, ρ3, M3⟩ := q
        rw [es] at hl
        simp only [Option.bind_some] at hl
        refine ⟨fun σ' H' => ∃ m3, Ext H m2 H' m3 ∧ Rs X.K H' m3 ρ3 σ' ∧ Wd X.K H' m3 M3 ∧ GdOk X.K gk ds H' m3 ∧ loopF (stpK kl gk ds g fb) (ds.drop (i + 1)) ρ3 M3 = some (fl, ρ', M'),
          fun σ' H' ⟨m3, e3, rs3, w3, gd3, hl3⟩ => ⟨ds.length - (i + 1), by omega, rfl, hlt, ρ3, M3, m3, e2.trans e3, rs3, w3, gd3, hl3⟩, fun x H' y => ?_⟩
        obtain ⟨e3, w3, r3⟩ := Y.yld i ds[i] H m2 M2 x H' (List.getElem?_eq_getElem hlt) e2 gd2 w2 y
        unfold stpK at es
        cases eg : g ds[i] ρ2 M2 with
        | none => rw [eg] at es; cases es
        | some q =>
          rw [eg] at es
          simp only [Option.bind_some] at es
          cases eb : fb q.1 q.2 with
          | none => rw [eb] at es; cases es
          | some q2 =>
            obtain ⟨fl2, ρb, Mb⟩ := q2
            rw [eb] at es
            simp only [Option.bind_some] at es
            refine ⟨ds[i], ρ2, M2, m2, q.1, q.2, r3, rs2.ext e3, w3, eg, fun H4 m4 σ4 e4 w4 rs4 => ?_⟩
            refine ⟨q.1, q.2, m4, fl2, ρb, Mb, rs4, w4, eb, ?_⟩
            have eT : Ext H m2 H4 m4 := e3.trans e4
            have PT := P.ext ((e1.trans e2).trans eT)
            have goes : fl2.goes = true → PostN X.K H4 m4 ρb Mb (fun σ' H' => ∃ m3, Ext H m2 H' m3 ∧ Rs X.K H' m3 ρ3 σ' ∧ Wd X.K H' m3 M3 ∧ GdOk X.K gk ds H' m3 ∧ loopF (stpK kl gk ds g fb) (ds.drop (i + 1)) ρ3 M3 = some (fl, ρ', M')) := by
              intro hgo H5 m5 σ5 e5 w5 rs5
              rw [if_pos hgo] at es
              split at es
              · rename_i hgd
                simp only [Option.some.injEq, Prod.mk.injEq] at es
                obtain ⟨rfl, hty⟩ := es
                obtain ⟨m6, e6, w6, rs6⟩ := tidy_ok (kl := kl) w2 (eT.trans e5) w5 rs5
                -- the tidied memory stands on the memory ahead of the turn
                have h1 : (tidy kl M2 ρb Mb).1 = ρ3 := by rw [hty]
                have h2 : (tidy kl M2 ρb Mb).2 = M3 := by rw [hty]
                rw [h1] at rs6
                rw [h2] at w6 hgd
                refine ⟨m6, e6, rs6, w6, gd_of w6 hgd, ?_⟩
                cases fl2 with
                | nx => exact hl
                | ct => exact hl
                | bk => cases hgo
                | rt r => cases hgo
              · cases es
            cases fl2 with
            | nx => exact goes rfl
            | ct => exact goes rfl
            | bk =>
              simp only [Fl.goes, Bool.false_eq_true, if_false, Option.some.injEq, Prod.mk.injEq] at es
              obtain ⟨rfl, rfl, rfl⟩ := es
              simp only [Option.some.injEq, Prod.mk.injEq] at hl
              obtain ⟨rfl, rfl, rfl⟩ := hl
              exact PT
            | rt r =>
              simp only [Fl.goes, Bool.false_eq_true, if_false, Option.some.injEq, Prod.mk.injEq] at es
              obtain ⟨rfl, rfl, rfl⟩ := es
              simp only [Option.some.injEq, Prod.mk.injEq] at hl
              obtain ⟨rfl, rfl, rfl⟩ := hl
              exact PT
    · have e : i = ds.length := by omega
      subst e
      rw [List.drop_length] at hl
      cases hl
      exact .inl ⟨Y.stop H m2 e2 gd2, P H m2 σ (e1.trans e2) w2 rs2⟩
end
noncomputable def whK (kl : List Bool) (t : Tf) (body : Sf) : Nat → Slots → Mem → Option (Fl × Slots × Mem)
  | 0, _, _ => none
  | n + 1, ρ, M => (t ρ M).bind fun p => if p.1 = true then (body ρ p.2).bind fun q => (match q.1 with
      | .nx => whK kl t body n (tidy kl M q.2.1 q.2.2).1 (tidy kl M q.2.1 q.2.2).2
      | .ct => whK kl t body n (tidy kl M q.2.1 q.2.2).1 (tidy kl M q.2.1 q.2.2).2
      | .bk => some (.nx, q.2.1, q.2.2)
      | .rt r => some (.rt r, q.2.1, q.2.2)) else some (.nx, ρ, p.2)
noncomputable def sWhileK (kl : List Bool) (n : Nat) (t : Tf) (body : Sf) : Sf := fun ρ M => whK kl t body n (keepD kl ρ) M
section
variable {X : Cx} {c : Expr} {body : List Stmt} {t : Tf} {fb : Sf} {pos : Pos}
theorem cs_whileK {kl : List Bool} {n : Nat} (hp : PassesOwn (model X.prog X.w) X.A X.env X.xe) (hc : CTx X c t) (hb : CBx X body fb) : CSx X (.While c body [] pos) (sWhileK kl n t fb) := PS.imp (ps_while hp hc hb) fun Dn σ H h => by
  obtain ⟨ρ, M, m, fl, ρ', M', rs, w, hf, P⟩ := h
  unfold sWhileK at hf
  refine ⟨fun n σ H1 => ∃ ρ2 M2 m2, Ext H m H1 m2 ∧ Rs X.K H1 m2 ρ2 σ ∧ Wd X.K H1 m2 M2 ∧ whK kl t fb n ρ2 M2 = some (fl, ρ', M'), ⟨n, _, M, m, .refl, rs.keep kl, w, hf⟩, ?_⟩
  rintro n σ H1 ⟨ρ2, M2, m2, e2, rs2, w2, hl⟩
  cases n with
  | zero => cases hl
  | succ n =>
    unfold whK at hl
    cases et : t ρ2 M2 with
    | none => rw [et] at hl; cases hl
    | some p =>
      rw [et] at hl
      simp only [Option.bind_some] at hl
      refine bindT rs2 w2 et fun H3 m3 e3 w3 rs3 => ?_
      split at hl
      · rename_i hb1
        rw [if_pos hb1]
        cases eb : fb ρ2 p.2 with
        | none => rw [eb] at hl; cases hl
        | some q =>
          obtain ⟨fl1, ρ3, M3⟩ := q
          rw [eb] at hl
          simp only [Option.bind_some] at hl
          refine ⟨fun σ' H' => ∃ m4, Ext H1 m2 H' m4 ∧ Rs X.K H' m4 (tidy kl M2 ρ3 M3).1 σ' ∧ Wd X.K H' m4 (tidy kl M2 ρ3 M3).2 ∧ whK kl t fb n (tidy kl M2 ρ3 M3).1 (tidy kl M2 ρ3 M3).2 = some (fl, ρ', M'),
            fun σ' H' ⟨m4, e4, rs4, w4, hl4⟩ => ⟨n, Nat.lt_succ_self _, _, _, m4, e2.trans e4, rs4, w4, hl4⟩, ρ2, p.2, m3, fl1, ρ3, M3, rs3, w3, eb, ?_⟩
          have PT := P.ext (e2.trans e3)
          cases fl1 with
          | nx =>
            intro H5 m5 σ5 e5 w5 rs5
            obtain ⟨m6, e6, w6, rs6⟩ := tidy_ok (kl := kl) w2 (e3.trans e5) w5 rs5
            exact ⟨m6, e6, rs6, w6, hl⟩
          | ct =>
            intro H5 m5 σ5 e5 w5 rs5
            obtain ⟨m6, e6, w6, rs6⟩ := tidy_ok (kl := kl) w2 (e3.trans e5) w5 rs5
            exact ⟨m6, e6, rs6, w6, hl⟩
          | bk =>
            simp only [Option.some.injEq, Prod.mk.injEq] at hl
            obtain ⟨rfl, rfl, rfl⟩ := hl
            exact PT
          | rt r =>
            simp only [Option.some.injEq, Prod.mk.injEq] at hl
            obtain ⟨rfl, rfl, rfl⟩ := hl
            exact PT
      · rename_i hb1
        rw [if_neg hb1]
        cases hl
        exact P H3 m3 σ (e2.trans e3) w3 rs3
end
end CI

/-! N16: reckoning, step by step -/
namespace CI
open PySem PySem.Spec PyProof.Rows L2
def bnd {α β : Type} (k : α → Option β) (o : Option α) : Option β := o.bind k
@[simp] theorem bnd_some {α β : Type} {k : α → Option β} {p : α} : bnd k (some p) = k p := rfl
@[simp] theorem bnd_none {α β : Type} {k : α → Option β} : bnd k none = none := rfl
@[simp] theorem bnd_ite {α β : Type} {c : Prop} [Decidable c] {k : α → Option β} {x y : Option α} : bnd k (if c then x else y) = if c then bnd k x else bnd k y := by split <;> rfl
@[simp] theorem Rz_d_val {d : D} : (Rz.val d).d = d := rfl
@[simp] theorem Rz_d_new {ds : List D} : (Rz.new ds).d = .lst ds := rfl
section
variable {ρ : Slots} {M : Mem} {d e : D} {r : Rz} {b c : Bool} {ds : List D} {fa fb fc f fo fv : Ef} {ta tb t : Tf} {g : Af} {o o' : Bop} {i j : Int}
def ret1 (M : Mem) (r : Rz) : Option (Rz × Mem) := some (r, M)
@[simp] theorem ret1_ap : ret1 M r = some (r, M) := rfl
def var1 (M : Mem) (d : D) : Option (Rz × Mem) := some (.val d, M)
@[simp] theorem cVar_ap {i : Nat} : cVar i ρ M = bnd (var1 M) (slot ρ i) := rfl
@[simp] theorem var1_ap : var1 M d = some (.val d, M) := rfl
@[simp] theorem slot_zero {o : Option D} {ρ : Slots} : slot (o :: ρ) 0 = o := rfl
@[simp] theorem slot_succ {o : Option D} {ρ : Slots} {i : Nat} : slot (o :: ρ) (i + 1) = slot ρ i := rfl
@[simp] theorem cVal_ap : cVal d ρ M = some (.val d, M) := rfl
def cBin1 (o : Bop) (fb : Ef) (ρ : Slots) (p : Rz × Mem) : Option (Rz × Mem) := (fb ρ p.2).bind fun q => (o p.1.d q.1.d q.2).bind fun r => some (r, q.2)
def cBin2 (o : Bop) (d : D) (q : Rz × Mem) : Option (Rz × Mem) := (o d q.1.d q.2).bind fun r => some (r, q.2)
@[simp] theorem cBin_ap : cBin o fa fb ρ M = bnd (cBin1 o fb ρ) (fa ρ M) := rfl
@[simp] theorem cBin1_ap : cBin1 o fb ρ (r, M) = bnd (cBin2 o r.d) (fb ρ M) := rfl
@[simp] theorem cBin2_ap : cBin2 o d (r, M) = bnd (ret1 M) (o d r.d M) := rfl
def toB1 (p : Rz × Mem) : Option (Bool × Mem) := match p.1.d with | .bl b => some (b, p.2) | _ => none
@[simp] theorem toB_ap : toB f ρ M = bnd toB1 (f ρ M) := rfl
@[simp] theorem toB1_ap : toB1 (.val (.bl b), M) = some (b, M) := rfl
def cCh4 (o' : Bop) (e : D) (s : Rz × Mem) : Option (Rz × Mem) := (o' e s.1.d s.2).bind fun z => some (z, s.2)
def cCh3 (o' : Bop) (fc : Ef) (ρ : Slots) (e : D) (M : Mem) (r : Rz) : Option (Rz × Mem) := match r with
  | .val (.bl true) => (fc ρ M).bind (cCh4 o' e)
  | .val (.bl false) => some (.val (.bl false), M)
  | _ => none
def cCh2 (o o' : Bop) (fc : Ef) (ρ : Slots) (d : D) (q : Rz × Mem) : Option (Rz × Mem) := (o d q.1.d q.2).bind (cCh3 o' fc ρ q.1.d q.2)
def cCh1 (o o' : Bop) (fb fc : Ef) (ρ : Slots) (p : Rz × Mem) : Option (Rz × Mem) := (fb ρ p.2).bind (cCh2 o o' fc ρ p.1.d)
@[simp] theorem cChain_ap : cChain o o' fa fb fc ρ M = bnd (cCh1 o o' fb fc ρ) (fa ρ M) := rfl
@[simp] theorem cCh1_ap : cCh1 o o' fb fc ρ (r, M) = bnd (cCh2 o o' fc ρ r.d) (fb ρ M) := rfl
@[simp] theorem cCh2_ap : cCh2 o o' fc ρ d (r, M) = bnd (cCh3 o' fc ρ r.d M) (o d r.d M) := rfl
@[simp] theorem cCh3_ap : cCh3 o' fc ρ e M (.val (.bl b)) = if b = true then bnd (cCh4 o' e) (fc ρ M) else some (.val (.bl false), M) := by cases b <;> rfl
@[simp] theorem cCh4_ap : cCh4 o' e (r, M) = bnd (ret1 M) (o' e r.d M) := rfl
def kAnd1 (tb : Tf) (ρ : Slots) (p : Bool × Mem) : Option (Bool × Mem) := if p.1 = true then tb ρ p.2 else some (false, p.2)
def kOr1 (tb : Tf) (ρ : Slots) (p : Bool × Mem) : Option (Bool × Mem) := if p.1 = true then some (true, p.2) else tb ρ p.2
def kNot1 (p : Bool × Mem) : Option (Bool × Mem) := some (!p.1, p.2)
@[simp] theorem kAnd_ap : kAnd ta tb ρ M = bnd (kAnd1 tb ρ) (ta ρ M) := rfl
@[simp] theorem kAnd1_ap : kAnd1 tb ρ (b, M) = if b = true then tb ρ M else some (false, M) := rfl
@[simp] theorem kOr_ap : kOr ta tb ρ M = bnd (kOr1 tb ρ) (ta ρ M) := rfl
@[simp] theorem kOr1_ap : kOr1 tb ρ (b, M) = if b = true then some (true, M) else tb ρ M := rfl
@[simp] theorem kNot_ap : kNot ta ρ M = bnd kNot1 (ta ρ M) := rfl
@[simp] theorem kNot1_ap : kNot1 (b, M) = some (!b, M) := rfl
@[simp] theorem mg_B {p : Prop} [Decidable p] : (if p then some (b, M) else some (c, M)) = some (if p then b else c, M) := by split <;> rfl
def cAnd1 (fb : Ef) (ρ : Slots) (p : Rz × Mem) : Option (Rz × Mem) := match p.1.d with | .bl true => fb ρ p.2 | .bl false => some (.val (.bl false), p.2) | _ => none
def cOr1 (fb : Ef) (ρ : Slots) (p : Rz × Mem) : Option (Rz × Mem) := match p.1.d with | .bl true => some (.val (.bl true), p.2) | .bl false => fb ρ p.2 | _ => none
def cNot1 (p : Rz × Mem) : Option (Rz × Mem) := match p.1.d with | .bl b => some (.val (.bl (!b)), p.2) | _ => none
def cIf1 (fa fb : Ef) (ρ : Slots) (p : Bool × Mem) : Option (Rz × Mem) := if p.1 = true then fa ρ p.2 else fb ρ p.2
@[simp] theorem cAnd_ap : cAnd fa fb ρ M = bnd (cAnd1 fb ρ) (fa ρ M) := rfl
@[simp] theorem cAnd1_ap : cAnd1 fb ρ (.val (.bl b), M) = if b = true then fb ρ M else some (.val (.bl false), M) := by cases b <;> rfl
@[simp] theorem cOr_ap : cOr fa fb ρ M = bnd (cOr1 fb ρ) (fa ρ M) := rfl
@[simp] theorem cOr1_ap : cOr1 fb ρ (.val (.bl b), M) = if b = true then some (.val (.bl true), M) else fb ρ M := by cases b <;> rfl
@[simp] theorem cNot_ap : cNot fa ρ M = bnd cNot1 (fa ρ M) := rfl
@[simp] theorem cNot1_ap : cNot1 (.val (.bl b), M) = some (.val (.bl (!b)), M) := rfl
@[simp] theorem cIf_ap : cIf t fa fb ρ M = bnd (cIf1 fa fb ρ) (t ρ M) := rfl
@[simp] theorem cIf1_ap : cIf1 fa fb ρ (b, M) = if b = true then fa ρ M else fb ρ M := rfl
@[simp] theorem mg_bl {p : Prop} [Decidable p] : (if p then some (Rz.val (.bl b), M) else some (Rz.val (.bl c), M)) = some (Rz.val (.bl (if p then b else c)), M) := by split <;> rfl
@[simp] theorem mg_int {p : Prop} [Decidable p] : (if p then some (Rz.val (.int i), M) else some (Rz.val (.int j), M)) = some (Rz.val (.int (if p then i else j)), M) := by split <;> rfl
@[simp] theorem mg_str {p : Prop} [Decidable p] {i j : Str} : (if p then some (Rz.val (.str i), M) else some (Rz.val (.str j), M)) = some (Rz.val (.str (if p then i else j)), M) := by split <;> rfl
/-! argument lists, displays -/
def aCons1 (g : Af) (ρ : Slots) (p : Rz × Mem) : Option (List D × Mem) := (g ρ p.2).bind fun q => some (p.1.d :: q.1, q.2)
def aCons2 (d : D) (q : List D × Mem) : Option (List D × Mem) := some (d :: q.1, q.2)
@[simp] theorem aNil_ap : aNil ρ M = some ([], M) := rfl
@[simp] theorem aCons_ap : aCons f g ρ M = bnd (aCons1 g ρ) (f ρ M) := rfl
@[simp] theorem aCons1_ap : aCons1 g ρ (r, M) = bnd (aCons2 r.d) (g ρ M) := rfl
@[simp] theorem aCons2_ap : aCons2 d (ds, M) = some (d :: ds, M) := rfl
def aStar2 (g : Af) (ρ : Slots) (M : Mem) (ds : List D) : Option (List D × Mem) := (g ρ M).bind fun q => some (ds ++ q.1, q.2)
def aStar1 (g : Af) (ρ : Slots) (p : Rz × Mem) : Option (List D × Mem) := (asS p.2 p.1.d).bind (aStar2 g ρ p.2)
def aStar3 (ds : List D) (q : List D × Mem) : Option (List D × Mem) := some (ds ++ q.1, q.2)
@[simp] theorem aStar_ap : aStar' f g ρ M = bnd (aStar1 g ρ) (f ρ M) := rfl
@[simp] theorem aStar1_ap : aStar1 g ρ (r, M) = bnd (aStar2 g ρ M) (asS M r.d) := rfl
@[simp] theorem aStar2_ap : aStar2 g ρ M ds = bnd (aStar3 ds) (g ρ M) := rfl
@[simp] theorem aStar3_ap {es : List D} : aStar3 ds (es, M) = some (ds ++ es, M) := rfl
def cTup1 (p : List D × Mem) : Option (Rz × Mem) := if p.1.length ≤ sizeLine then some (.val (.tup p.1), p.2) else none
def cLst1 (p : List D × Mem) : Option (Rz × Mem) := if p.1.length ≤ sizeLine then some (.new p.1, p.2) else none
@[simp] theorem cTup_ap : cTup g ρ M = bnd cTup1 (g ρ M) := rfl
@[simp] theorem cTup1_ap : cTup1 (ds, M) = if ds.length ≤ sizeLine then some (.val (.tup ds), M) else none := rfl
@[simp] theorem cLst_ap : cLst g ρ M = bnd cLst1 (g ρ M) := rfl
@[simp] theorem cLst1_ap : cLst1 (ds, M) = if ds.length ≤ sizeLine then some (.new ds, M) else none := rfl
def sSome1 (p : Rz × Mem) : Option (Option Int × Mem) := match p.1.d with | .int i => some (some i, p.2) | _ => none
@[simp] theorem sNone_ap : sNone ρ M = some (none, M) := rfl
@[simp] theorem sSome_ap : sSome f ρ M = bnd sSome1 (f ρ M) := rfl
@[simp] theorem sSome1_ap : sSome1 (.val (.int i), M) = some (some i, M) := rfl
def cSl3 (lo : Option Int) (d : D) (q : Option Int × Mem) : Option (Rz × Mem) := (oSl lo q.1 d q.2).bind fun z => some (z, q.2)
def cSl2 (h : Of) (ρ : Slots) (d : D) (q : Option Int × Mem) : Option (Rz × Mem) := (h ρ q.2).bind (cSl3 q.1 d)
def cSl1 (l h : Of) (ρ : Slots) (p : Rz × Mem) : Option (Rz × Mem) := (l ρ p.2).bind (cSl2 h ρ p.1.d)
@[simp] theorem cSl_ap {l h : Of} : cSl f l h ρ M = bnd (cSl1 l h ρ) (f ρ M) := rfl
@[simp] theorem cSl1_ap {l h : Of} : cSl1 l h ρ (r, M) = bnd (cSl2 h ρ r.d) (l ρ M) := rfl
@[simp] theorem cSl2_ap {h : Of} {lo : Option Int} : cSl2 h ρ d (lo, M) = bnd (cSl3 lo d) (h ρ M) := rfl
@[simp] theorem cSl3_ap {lo hi : Option Int} : cSl3 lo d (hi, M) = bnd (ret1 M) (oSl lo hi d M) := rfl
def cCB1 (o : Cop) (p : List D × Mem) : Option (Rz × Mem) := (o p.1 p.2).bind fun r => some (r, p.2)
@[simp] theorem cCB_ap {o : Cop} : cCB o g ρ M = bnd (cCB1 o) (g ρ M) := rfl
@[simp] theorem cCB1_ap {o : Cop} : cCB1 o (ds, M) = bnd (ret1 M) (o ds M) := rfl
def isI3 (M : Mem) (b : Bool) : Option (Rz × Mem) := some (.val (.bl b), M)
def isI2 (n : String) (M : Mem) (t : String) : Option (Rz × Mem) := (kitB t n).bind (isI3 M)
def isI1 (n : String) (p : Rz × Mem) : Option (Rz × Mem) := (tyOf p.2 p.1.d).bind (isI2 n p.2)
@[simp] theorem cIsI_ap {n : String} : cIsI n f ρ M = bnd (isI1 n) (f ρ M) := rfl
@[simp] theorem isI1_ap {n : String} : isI1 n (r, M) = bnd (isI2 n M) (tyOf M r.d) := rfl
@[simp] theorem isI2_ap {n t : String} : isI2 n M t = bnd (isI3 M) (kitB t n) := rfl
@[simp] theorem isI3_ap : isI3 M b = some (.val (.bl b), M) := rfl
def toTr2 (M : Mem) (b : Bool) : Option (Bool × Mem) := some (b, M)
def toTr1 (p : Rz × Mem) : Option (Bool × Mem) := (trD p.2 p.1.d).bind (toTr2 p.2)
@[simp] theorem toTr_ap : toTr f ρ M = bnd toTr1 (f ρ M) := rfl
@[simp] theorem toTr1_ap : toTr1 (r, M) = bnd (toTr2 M) (trD M r.d) := rfl
@[simp] theorem toTr2_ap : toTr2 M b = some (b, M) := rfl
def cCall1 (F : Fn) (p : List D × Mem) : Option (Rz × Mem) := F p.1 p.2
@[simp] theorem cCall_ap {F : Fn} : cCall F g ρ M = bnd (cCall1 F) (g ρ M) := rfl
@[simp] theorem cCall1_ap {F : Fn} : cCall1 F (ds, M) = F ds M := rfl
def cNew2 (k : Nat) (q : Rz × Mem) : Option (Rz × Mem) := match q.1 with | .val .non => some (.val (.loc k), q.2) | _ => none
def cNew1 (c : Str) (F : Fn) (p : List D × Mem) : Option (Rz × Mem) := (F (.loc p.2.length :: p.1) (p.2 ++ [.ins c []])).bind (cNew2 p.2.length)
@[simp] theorem cNew_ap {F : Fn} {c : Str} : cNew c F g ρ M = bnd (cNew1 c F) (g ρ M) := rfl
@[simp] theorem cNew1_ap {F : Fn} {c : Str} : cNew1 c F (ds, M) = bnd (cNew2 M.length) (F (.loc M.length :: ds) (M ++ [.ins c []])) := rfl
@[simp] theorem cNew2_ap {k : Nat} : cNew2 k (.val .non, M) = some (.val (.loc k), M) := rfl
def cMe2 (F : Fn) (k : Nat) (q : List D × Mem) : Option (Rz × Mem) := F (.loc k :: q.1) q.2
def cMe3 (c m : Str) (F : Fn) (g : Af) (ρ : Slots) (k : Nat) (M : Mem) (o : O) : Option (Rz × Mem) := match o with
  | .ins c' fs => if c' = c ∧ fs.lookup m = none then (g ρ M).bind (cMe2 F k) else none
  | _ => none
def cMe1 (c m : Str) (F : Fn) (g : Af) (ρ : Slots) (p : Rz × Mem) : Option (Rz × Mem) := match p.1.d with
  | .loc k => (p.2[k]?).bind (cMe3 c m F g ρ k p.2)
  | _ => none
@[simp] theorem cMeth_ap {F : Fn} {c m : Str} : cMeth c m F f g ρ M = bnd (cMe1 c m F g ρ) (f ρ M) := by
  show (f ρ M).bind _ = (f ρ M).bind _
  congr 1
  funext ⟨r, M2⟩
  unfold cMe1
  cases hd : r.d with
  | loc k =>
    simp only [hd]
    cases hk : M2[k]? with
    | none => rfl
    | some o => cases o <;> rfl
  | _ => simp only [hd]
@[simp] theorem cMe1_ap {F : Fn} {c m : Str} {k : Nat} : cMe1 c m F g ρ (.val (.loc k), M) = bnd (cMe3 c m F g ρ k M) M[k]? := rfl
@[simp] theorem cMe3_ap {F : Fn} {c c' m : Str} {k : Nat} {fs : List (Str × D)} : cMe3 c m F g ρ k M (.ins c' fs) = if c' = c ∧ fs.lookup m = none then bnd (cMe2 F k) (g ρ M) else none := rfl
@[simp] theorem cMe2_ap {F : Fn} {k : Nat} : cMe2 F k (ds, M) = F (.loc k :: ds) M := rfl
def cFl2 (cs : List Str) (n : Str) (M : Mem) (o : O) : Option (Rz × Mem) := match o with
  | .ins c fs => if c ∈ cs then (fs.lookup n).bind (var1 M) else none
  | _ => none
def cFl1 (cs : List Str) (n : Str) (p : Rz × Mem) : Option (Rz × Mem) := match p.1.d with
  | .loc k => (p.2[k]?).bind (cFl2 cs n p.2)
  | _ => none
@[simp] theorem cFld_ap {cs : List Str} {n : Str} : cFld cs n f ρ M = bnd (cFl1 cs n) (f ρ M) := by
  show (f ρ M).bind _ = (f ρ M).bind _
  congr 1
  funext ⟨r, M2⟩
  unfold cFl1
  cases hd : r.d with
  | loc k =>
    simp only [hd]
    cases hk : M2[k]? with
    | none => rfl
    | some o => cases o <;> rfl
  | _ => simp only [hd]
@[simp] theorem cFl1_ap {cs : List Str} {n : Str} {k : Nat} : cFl1 cs n (.val (.loc k), M) = bnd (cFl2 cs n M) M[k]? := rfl
@[simp] theorem cFl2_ap {cs : List Str} {n c : Str} {fs : List (Str × D)} : cFl2 cs n M (.ins c fs) = if c ∈ cs then bnd (var1 M) (fs.lookup n) else none := rfl
def cBM2 (o : Mop) (d : D) (q : List D × Mem) : Option (Rz × Mem) := o d q.1 q.2
def cBM1 (T : String) (o : Mop) (g : Af) (ρ : Slots) (p : Rz × Mem) : Option (Rz × Mem) := if tyOf p.2 p.1.d = some T then (g ρ p.2).bind (cBM2 o p.1.d) else none
@[simp] theorem cBM_ap {T : String} {o : Mop} : cBM T o f g ρ M = bnd (cBM1 T o g ρ) (f ρ M) := rfl
@[simp] theorem cBM1_ap {T : String} {o : Mop} : cBM1 T o g ρ (r, M) = if tyOf M r.d = some T then bnd (cBM2 o r.d) (g ρ M) else none := rfl
@[simp] theorem cBM2_ap {o : Mop} : cBM2 o d (ds, M) = o d ds M := rfl
def cNeg1 (p : Rz × Mem) : Option (Rz × Mem) := match p.1.d with | .int i => some (.val (.int (-i)), p.2) | _ => none
@[simp] theorem cNeg_ap : cNeg f ρ M = bnd cNeg1 (f ρ M) := rfl
@[simp] theorem cNeg1_ap : cNeg1 (.val (.int i), M) = some (.val (.int (-i)), M) := rfl
def lRg2 (d : D) (q : Rz × Mem) : Option (Rz × Mem) := match d, q.1.d with
  | .int i, .int j => if bRg i j = true then some (.new (rgD i (j - i).toNat), q.2) else none
  | _, _ => none
def lRg1 (fb : Ef) (ρ : Slots) (p : Rz × Mem) : Option (Rz × Mem) := (fb ρ p.2).bind (lRg2 p.1.d)
@[simp] theorem cLRg_ap : cLRg fa fb ρ M = bnd (lRg1 fb ρ) (fa ρ M) := rfl
@[simp] theorem lRg1_ap : lRg1 fb ρ (r, M) = bnd (lRg2 r.d) (fb ρ M) := rfl
@[simp] theorem lRg2_ap : lRg2 (.int i) (.val (.int j), M) = if bRg i j = true then some (.new (rgD i (j - i).toNat), M) else none := rfl
/-! statements -/
variable {s s' : Sf} {n : Nat} {x : Str} {cs : List Str}
def sCons1 (s : Sf) (p : Fl × Slots × Mem) : Option (Fl × Slots × Mem) := match p.1 with | .nx => s p.2.1 p.2.2 | fl => some (fl, p.2.1, p.2.2)
@[simp] theorem sNil_ap : sNil ρ M = some (.nx, ρ, M) := rfl
@[simp] theorem sCons_ap : sCons s s' ρ M = bnd (sCons1 s') (s ρ M) := rfl
@[simp] theorem sCons1_nx : sCons1 s (.nx, ρ, M) = s ρ M := rfl
@[simp] theorem sCons1_rt : sCons1 s (.rt r, ρ, M) = some (.rt r, ρ, M) := rfl
@[simp] theorem sCons1_bk : sCons1 s (.bk, ρ, M) = some (.bk, ρ, M) := rfl
@[simp] theorem sCons1_ct : sCons1 s (.ct, ρ, M) = some (.ct, ρ, M) := rfl
@[simp] theorem sBreak_ap : sBreak ρ M = some (.bk, ρ, M) := rfl
@[simp] theorem sCont_ap : sCont ρ M = some (.ct, ρ, M) := rfl
def sExpr1 (ρ : Slots) (p : Rz × Mem) : Option (Fl × Slots × Mem) := some (.nx, ρ, p.2)
@[simp] theorem sExpr_ap : sExpr f ρ M = bnd (sExpr1 ρ) (f ρ M) := rfl
@[simp] theorem sExpr1_ap : sExpr1 ρ (r, M) = some (.nx, ρ, M) := rfl
def sRet1 (ρ : Slots) (p : Rz × Mem) : Option (Fl × Slots × Mem) := some (.rt p.1, ρ, p.2)
@[simp] theorem sRet_ap : sRet f ρ M = bnd (sRet1 ρ) (f ρ M) := rfl
@[simp] theorem sRet1_ap : sRet1 ρ (r, M) = some (.rt r, ρ, M) := rfl
@[simp] theorem sRetN_ap : sRetN ρ M = some (.rt (.val .non), ρ, M) := rfl
def sIf1 (s s' : Sf) (ρ : Slots) (p : Bool × Mem) : Option (Fl × Slots × Mem) := if p.1 = true then s ρ p.2 else s' ρ p.2
@[simp] theorem sIf_ap : sIf t s s' ρ M = bnd (sIf1 s s' ρ) (t ρ M) := rfl
@[simp] theorem sIf1_ap : sIf1 s s' ρ (b, M) = if b = true then s ρ M else s' ρ M := rfl
def sSet1 (n : Nat) (ρ : Slots) (p : Rz × Mem) : Option (Fl × Slots × Mem) := some (.nx, ρ.set n (some p.1.d), p.2)
@[simp] theorem sSet_ap : sSet n f ρ M = bnd (sSet1 n ρ) (f ρ M) := rfl
@[simp] theorem sSet1_ap : sSet1 n ρ (r, M) = some (.nx, ρ.set n (some r.d), M) := rfl
def sSetM1 (n : Nat) (ρ : Slots) (p : Rz × Mem) : Option (Fl × Slots × Mem) := match p.1 with
  | .new ds => some (.nx, ρ.set n (some (.loc p.2.length)), p.2 ++ [.lst ds])
  | .val d => some (.nx, ρ.set n (some d), p.2)
@[simp] theorem sSetM_ap : sSetM n f ρ M = bnd (sSetM1 n ρ) (f ρ M) := rfl
@[simp] theorem sSetM1_new : sSetM1 n ρ (.new ds, M) = some (.nx, ρ.set n (some (.loc M.length)), M ++ [.lst ds]) := rfl
@[simp] theorem sSetM1_val : sSetM1 n ρ (.val d, M) = some (.nx, ρ.set n (some d), M) := rfl
def stF2 (cs : List Str) (x : Str) (d : D) (ρ : Slots) (k : Nat) (M : Mem) (o : O) : Option (Fl × Slots × Mem) := match o with
  | .ins c fs => if c ∈ cs ∧ fs.length < 1000 then some (.nx, ρ, M.set k (.ins c (putD x d fs))) else none
  | _ => none
def stF1 (cs : List Str) (x : Str) (d : D) (ρ : Slots) (q : Rz × Mem) : Option (Fl × Slots × Mem) := match q.1.d with
  | .loc k => (q.2[k]?).bind (stF2 cs x d ρ k q.2)
  | _ => none
theorem stFld_ap : stFld cs x fo d ρ M = bnd (stF1 cs x d ρ) (fo ρ M) := by
  show (fo ρ M).bind _ = (fo ρ M).bind _
  congr 1
  funext ⟨r, M2⟩
  unfold stF1
  cases hd : r.d with
  | loc k =>
    simp only [hd]
    cases hk : M2[k]? with
    | none => rfl
    | some o => cases o <;> rfl
  | _ => simp only [hd]
@[simp] theorem stF1_ap {k : Nat} : stF1 cs x d ρ (.val (.loc k), M) = bnd (stF2 cs x d ρ k M) M[k]? := rfl
@[simp] theorem stF2_ap {k : Nat} {c : Str} {fs : List (Str × D)} : stF2 cs x d ρ k M (.ins c fs) = if c ∈ cs ∧ fs.length < 1000 then some (.nx, ρ, M.set k (.ins c (putD x d fs))) else none := rfl
def sFlS1 (cs : List Str) (x : Str) (fo : Ef) (ρ : Slots) (p : Rz × Mem) : Option (Fl × Slots × Mem) := stFld cs x fo p.1.d ρ p.2
def sFlM1 (cs : List Str) (x : Str) (fo : Ef) (ρ : Slots) (p : Rz × Mem) : Option (Fl × Slots × Mem) := match p.1 with
  | .new ds => stFld cs x fo (.loc p.2.length) ρ (p.2 ++ [.lst ds])
  | .val d => stFld cs x fo d ρ p.2
@[simp] theorem sFldS_ap : sFldS cs x fo fv ρ M = bnd (sFlS1 cs x fo ρ) (fv ρ M) := rfl
@[simp] theorem sFlS1_ap : sFlS1 cs x fo ρ (r, M) = bnd (stF1 cs x r.d ρ) (fo ρ M) := stFld_ap
@[simp] theorem sFldM_ap : sFldM cs x fo fv ρ M = bnd (sFlM1 cs x fo ρ) (fv ρ M) := rfl
@[simp] theorem sFlM1_new : sFlM1 cs x fo ρ (.new ds, M) = bnd (stF1 cs x (.loc M.length) ρ) (fo ρ (M ++ [.lst ds])) := stFld_ap
@[simp] theorem sFlM1_val : sFlM1 cs x fo ρ (.val d, M) = bnd (stF1 cs x d ρ) (fo ρ M) := stFld_ap
def sAsg2 (p : Slots × Mem) : Option (Fl × Slots × Mem) := some (.nx, p.1, p.2)
def sAsg1 (gg : Gf) (ρ : Slots) (p : Rz × Mem) : Option (Fl × Slots × Mem) := (gg p.1.d ρ p.2).bind sAsg2
@[simp] theorem sAsg_ap {gg : Gf} : sAsg gg f ρ M = bnd (sAsg1 gg ρ) (f ρ M) := rfl
@[simp] theorem sAsg1_ap {gg : Gf} : sAsg1 gg ρ (r, M) = bnd sAsg2 (gg r.d ρ M) := rfl
@[simp] theorem sAsg2_ap : sAsg2 (ρ, M) = some (.nx, ρ, M) := rfl
@[simp] theorem gNm_ap : gNm n d ρ M = some (ρ.set n (some d), M) := rfl
@[simp] theorem gsNil_ap : gsNil [] ρ M = some (ρ, M) := rfl
def gsC1 (gs : GsF) (ds : List D) (p : Slots × Mem) : Option (Slots × Mem) := gs ds p.1 p.2
@[simp] theorem gsCons_ap {gg : Gf} {gs : GsF} : gsCons gg gs (d :: ds) ρ M = bnd (gsC1 gs ds) (gg d ρ M) := rfl
@[simp] theorem gsC1_ap {gs : GsF} : gsC1 gs ds (ρ, M) = gs ds ρ M := rfl
@[simp] theorem gTp_ap {gs : GsF} : gTp n gs (.tup ds) ρ M = if ds.length = n then gs ds ρ M else none := rfl
def gIx3 (d : D) (k : Nat) (i : Int) (ρ : Slots) (M : Mem) (es : List D) (j : Nat) : Option (Slots × Mem) := some (ρ, M.set k (.lst (es.set j d)))
def gIx2 (d : D) (ρ : Slots) (e : D) (q : Rz × Mem) : Option (Slots × Mem) := match e, q.1.d with
  | .loc k, .int i => match q.2[k]? with
    | some (.lst es) => (ixN es.length i).bind (gIx3 d k i ρ q.2 es)
    | _ => none
  | _, _ => none
def gIx1 (fb : Ef) (d : D) (ρ : Slots) (p : Rz × Mem) : Option (Slots × Mem) := (fb ρ p.2).bind (gIx2 d ρ p.1.d)
@[simp] theorem gIx_ap : gIx fa fb d ρ M = bnd (gIx1 fb d ρ) (fa ρ M) := rfl
@[simp] theorem gIx1_ap : gIx1 fb d ρ (r, M) = bnd (gIx2 d ρ r.d) (fb ρ M) := rfl
def iSeq2 (d : D) (M : Mem) (ds : List D) : Option (List D × Option Nat × Mem) := some (ds, gkOf d, M)
def iSeq1 (p : Rz × Mem) : Option (List D × Option Nat × Mem) := (asS p.2 p.1.d).bind (iSeq2 p.1.d p.2)
@[simp] theorem iSeq_ap : iSeq f ρ M = bnd iSeq1 (f ρ M) := rfl
@[simp] theorem iSeq1_ap : iSeq1 (r, M) = bnd (iSeq2 r.d M) (asS M r.d) := rfl
@[simp] theorem iSeq2_ap : iSeq2 d M ds = some (ds, gkOf d, M) := rfl
def iRga (p : Rz × Mem) : Option (List D × Option Nat × Mem) := match p.1.d with | .int j => if rgB j = true then some (rgD 0 j.toNat, none, p.2) else none | _ => none
@[simp] theorem iRg1_ap : iRg1 fa ρ M = bnd iRga (fa ρ M) := rfl
@[simp] theorem iRga_ap : iRga (.val (.int j), M) = if rgB j = true then some (rgD 0 j.toNat, none, M) else none := rfl
def iRgc (d : D) (q : Rz × Mem) : Option (List D × Option Nat × Mem) := match d, q.1.d with | .int i, .int j => if rgB i = true ∧ rgB j = true then some (rgD i (j - i).toNat, none, q.2) else none | _, _ => none
def iRgb (fb : Ef) (ρ : Slots) (p : Rz × Mem) : Option (List D × Option Nat × Mem) := (fb ρ p.2).bind (iRgc p.1.d)
@[simp] theorem iRg2_ap : iRg2 fa fb ρ M = bnd (iRgb fb ρ) (fa ρ M) := rfl
@[simp] theorem iRgb_ap : iRgb fb ρ (r, M) = bnd (iRgc r.d) (fb ρ M) := rfl
@[simp] theorem iRgc_ap : iRgc (.int i) (.val (.int j), M) = if rgB i = true ∧ rgB j = true then some (rgD i (j - i).toNat, none, M) else none := rfl
def iEn1 (p : Rz × Mem) : Option (List D × Option Nat × Mem) := match p.1.d with | .lst ds => some (enD ds, none, p.2) | .scr ns => some (enD (ns.map .int), none, p.2) | _ => none
@[simp] theorem iEn_ap : iEn f ρ M = bnd iEn1 (f ρ M) := rfl
@[simp] theorem iEn1_lst : iEn1 (.val (.lst ds), M) = some (enD ds, none, M) := rfl
@[simp] theorem iEn1_new : iEn1 (.new ds, M) = some (enD ds, none, M) := rfl
def iSt1 (p : Rz × Mem) : Option (List D × Option Nat × Mem) := match p.1.d with | .str x => some (chD x, none, p.2) | _ => none
@[simp] theorem iSt_ap : iSt f ρ M = bnd iSt1 (f ρ M) := rfl
@[simp] theorem iSt1_ap : iSt1 (.val (.str x), M) = some (chD x, none, M) := rfl
/-! loops -/
variable {kl : List Bool} {it : If} {gg : Gf}
noncomputable def sForK1 (kl : List Bool) (gg : Gf) (s : Sf) (ρ : Slots) (p : List D × Option Nat × Mem) : Option (Fl × Slots × Mem) := loopF (stpK kl p.2.1 p.1 gg s) p.1 (keepD kl ρ) p.2.2
@[simp] theorem sForK_ap : sForK kl it gg s ρ M = bnd (sForK1 kl gg s ρ) (it ρ M) := rfl
@[simp] theorem sForK1_ap {gk : Option Nat} : sForK1 kl gg s ρ (ds, gk, M) = loopF (stpK kl gk ds gg s) ds (keepD kl ρ) M := rfl
@[simp] theorem sWhileK_ap : sWhileK kl n t s ρ M = whK kl t s n (keepD kl ρ) M := rfl
end
end CI

/-! N17: operators, memories, loops, reckoned -/
namespace CI
open PySem PySem.Spec PyProof.Rows L2

@[simp] theorem line_le {n : Nat} : (n ≤ sizeLine) = (n ≤ 16777216) := by rw [sizeLine_eq]
@[simp] theorem line_lt {n : Nat} : (n < sizeLine) = (n < 16777216) := by rw [sizeLine_eq]
@[simp] theorem guard_none {ds : List D} {M : Mem} : guard none ds M = True := by
  unfold guard; simp
theorem set_end {M : Mem} {a b : O} : (M ++ [a]).set M.length b = M ++ [b] := by
  rw [List.set_append_right _ _ (Nat.le_refl _)]; simp
theorem get_end {M : Mem} {a : O} : (M ++ [a])[M.length]? = some a := by simp
@[simp] theorem nls_ints {n : Nat} : ∀ {ns : List Int}, nls n (ns.map .int) = true
  | [] => rfl
  | _ :: ns => by rw [List.map_cons, nls, nls_ints, Bool.and_true]; simp [nl]
@[simp] theorem oI_int {g : Int → Int → D} {i j : Int} {M : Mem} : oI g (.int i) (.int j) M = some (.val (g i j)) := rfl
@[simp] theorem oIc_int {C : Int → Int → Bool} {g : Int → Int → D} {i j : Int} {M : Mem} : oIc C g (.int i) (.int j) M = if C i j = true then some (.val (g i j)) else none := rfl
@[simp] theorem oAdd_int {i j : Int} {M : Mem} : oAdd (.int i) (.int j) M = some (.val (.int (i + j))) := rfl
@[simp] theorem oAdd_tup {xs ys : List D} {M : Mem} : oAdd (.tup xs) (.tup ys) M = if xs.length + ys.length ≤ sizeLine then some (.val (.tup (xs ++ ys))) else none := rfl
@[simp] theorem oAdd_lst {xs ys : List D} {M : Mem} : oAdd (.lst xs) (.lst ys) M = if xs.length + ys.length ≤ sizeLine then some (.new (xs ++ ys)) else none := rfl
@[simp] theorem oEq_int {i j : Int} {M : Mem} : oEq (.int i) (.int j) M = some (.val (.bl (decide (i = j)))) := rfl
@[simp] theorem oNe_int {i j : Int} {M : Mem} : oNe (.int i) (.int j) M = some (.val (.bl (!decide (i = j)))) := rfl
@[simp] theorem oEq_str {i j : Str} {M : Mem} : oEq (.str i) (.str j) M = some (.val (.bl (decide (i = j)))) := rfl
@[simp] theorem oNe_str {i j : Str} {M : Mem} : oNe (.str i) (.str j) M = some (.val (.bl (!decide (i = j)))) := rfl
@[simp] theorem oSub_int {i j : Int} {M : Mem} : oSub (.int i) (.int j) M = some (.val (.int (i - j))) := rfl
@[simp] theorem oLt_int {i j : Int} {M : Mem} : oLt (.int i) (.int j) M = some (.val (.bl (decide (i < j)))) := rfl
@[simp] theorem oLe_int {i j : Int} {M : Mem} : oLe (.int i) (.int j) M = some (.val (.bl (decide (i ≤ j)))) := rfl
@[simp] theorem oGt_int {i j : Int} {M : Mem} : oGt (.int i) (.int j) M = some (.val (.bl (decide (j < i)))) := rfl
@[simp] theorem oGe_int {i j : Int} {M : Mem} : oGe (.int i) (.int j) M = some (.val (.bl (decide (j ≤ i)))) := rfl
@[simp] theorem oMul_int {i j : Int} {M : Mem} : oMulI (.int i) (.int j) M = if bMul i j = true then some (.val (.int (i * j))) else none := rfl
@[simp] theorem oDiv_int {i j : Int} {M : Mem} : oDiv (.int i) (.int j) M = if bDiv i j = true then some (.val (.int (i / j))) else none := rfl
@[simp] theorem oMod_int {i j : Int} {M : Mem} : oMod (.int i) (.int j) M = if bMod i j = true then some (.val (.int (i % j))) else none := rfl
@[simp] theorem oPow_int {i j : Int} {M : Mem} : oPow (.int i) (.int j) M = if bPow i j = true then some (.val (.int (i ^ j.toNat))) else none := rfl
@[simp] theorem oInt_int {i : Int} {M : Mem} : oInt [.int i] M = some (.val (.int i)) := rfl
@[simp] theorem bMul_eq {i j : Int} : bMul i j = (sm64 i || sm64 j) := rfl
theorem p64 : (2 : Int) ^ 64 = 18446744073709551616 := by decide
theorem sm64_of {i : Int} (h0 : -1000000000000000000 < i) (h1 : i < 1000000000000000000) : sm64 i = true := by
  unfold sm64
  rw [p64]
  simp only [Bool.and_eq_true, decide_eq_true_eq]
  omega
@[simp] theorem sm64_lit {n : Nat} (h : n < 1000000000000000000) : sm64 (no_index (@OfNat.ofNat Int n instOfNat)) = true := sm64_of (by show (-1000000000000000000 : Int) < (n : Int); omega) (by show (n : Int) < 1000000000000000000; omega)
@[simp] theorem bDiv_eq {i j : Int} : bDiv i j = (decide (0 < j) && decide (j < 1073741824)) := rfl
@[simp] theorem bMod_eq {i j : Int} : bMod i j = decide (0 < j) := rfl
@[simp] theorem bPow_eq {i j : Int} : bPow i j = (decide (0 ≤ j) && decide (j ≤ 1000000) && decide (i.natAbs < 2 ^ 64)) := rfl
@[simp] theorem asS_lst {ds : List D} {M : Mem} : asS M (.lst ds) = some ds := rfl
@[simp] theorem asS_tup {ds : List D} {M : Mem} : asS M (.tup ds) = some ds := rfl
@[simp] theorem asS_scr {ns : List Int} {M : Mem} : asS M (.scr ns) = some (ns.map .int) := rfl
@[simp] theorem asL_lst {ds : List D} {M : Mem} : asL M (.lst ds) = some ds := rfl
@[simp] theorem asL_scr {ns : List Int} {M : Mem} : asL M (.scr ns) = some (ns.map .int) := rfl
theorem asS_loc {k : Nat} {M : Mem} {ds : List D} (h : M[k]? = some (.lst ds)) : asS M (.loc k) = some ds := by
  show (match M[k]? with | some (.lst ds) => some ds | _ => none) = some ds
  rw [h]
@[simp] theorem oLen_lst {ds : List D} {M : Mem} : oLen [.lst ds] M = some (.val (.int ds.length)) := rfl
@[simp] theorem oLen_tup {ds : List D} {M : Mem} : oLen [.tup ds] M = some (.val (.int ds.length)) := rfl
@[simp] theorem oLen_scr {ns : List Int} {M : Mem} : oLen [.scr ns] M = some (.val (.int ns.length)) := by
  show some (Rz.val (.int (ns.map D.int).length)) = _
  rw [List.length_map]
theorem oAppend_loc {k : Nat} {M : Mem} {ds : List D} {d : D} (h : M[k]? = some (.lst ds)) (hl : ds.length < 16777216) : oAppend (.loc k) [d] M = some (.val .non, M.set k (.lst (ds ++ [d]))) := by
  show (match M[k]? with | some (.lst es) => if es.length < sizeLine then some (Rz.val D.non, M.set k (.lst (es ++ [d]))) else none | _ => none) = _
  rw [h]
  simp [hl]
theorem rgB_nat {n : Nat} (h : n < 16777216) : rgB (n : Int) = true := by
  unfold rgB; simp; omega
/-- .. counted -/
theorem loop_rg {step : Stp} {lo : Int} {n : Nat} {ρ : Slots} {M : Mem} (I : Nat → Slots → Mem → Prop) (h0 : I 0 ρ M) (hs : ∀ (i : Nat) ρ M, i < n → I i ρ M → ∃ fl ρ' M', step (.int (lo + i)) ρ M = some (fl, ρ', M') ∧ (fl = .nx ∨ fl = .ct) ∧ I (i + 1) ρ' M') :
    ∃ ρ' M', loopF step (rgD lo n) ρ M = some (.nx, ρ', M') ∧ I n ρ' M' := by
  have key : ∀ (k : Nat) ds ρ M, (rgD lo n).drop k = ds → k ≤ n → I k ρ M → ∃ ρ' M', loopF step ds ρ M = some (.nx, ρ', M') ∧ I n ρ' M' := by
    intro k ds
    induction ds generalizing k with
    | nil =>
      intro ρ M e hk h
      have : k = n := by
        have := congrArg List.length e
        rw [List.length_drop, rgD_len] at this
        simp at this; omega
      subst this
      exact ⟨ρ, M, rfl, h⟩
    | cons d ds ih =>
      intro ρ M e hk h
      have hd : (rgD lo n)[k]? = some d := by
        have := congrArg (fun l => l[0]?) e
        simpa [List.getElem?_drop] using this
      obtain ⟨hkn, rfl⟩ := rgD_get hd
      obtain ⟨fl, ρ1, M1, e1, hf, h1⟩ := hs k ρ M hkn h
      obtain ⟨ρ2, M2, e2, h2⟩ := ih (k + 1) ρ1 M1 (by rw [← List.tail_drop, e]; rfl) hkn h1
      refine ⟨ρ2, M2, ?_, h2⟩
      unfold loopF
      rw [e1]
      rcases hf with rfl | rfl <;> exact e2
  exact key 0 _ ρ M rfl (Nat.zero_le _) h0

@[simp] theorem kit_NoneType_bool : kitB "NoneType" "bool" = some false := by decide +kernel
@[simp] theorem kit_NoneType_int : kitB "NoneType" "int" = some false := by decide +kernel
@[simp] theorem kit_NoneType_str : kitB "NoneType" "str" = some false := by decide +kernel
@[simp] theorem kit_NoneType_tuple : kitB "NoneType" "tuple" = some false := by decide +kernel
@[simp] theorem kit_NoneType_list : kitB "NoneType" "list" = some false := by decide +kernel
@[simp] theorem kit_NoneType_dict : kitB "NoneType" "dict" = some false := by decide +kernel
@[simp] theorem kit_bool_bool : kitB "bool" "bool" = some true := by decide +kernel
@[simp] theorem kit_bool_int : kitB "bool" "int" = some true := by decide +kernel
@[simp] theorem kit_bool_str : kitB "bool" "str" = some false := by decide +kernel
@[simp] theorem kit_bool_tuple : kitB "bool" "tuple" = some false := by decide +kernel
@[simp] theorem kit_bool_list : kitB "bool" "list" = some false := by decide +kernel
@[simp] theorem kit_bool_dict : kitB "bool" "dict" = some false := by decide +kernel
@[simp] theorem kit_int_bool : kitB "int" "bool" = some false := by decide +kernel
@[simp] theorem kit_int_int : kitB "int" "int" = some true := by decide +kernel
@[simp] theorem kit_int_str : kitB "int" "str" = some false := by decide +kernel
@[simp] theorem kit_int_tuple : kitB "int" "tuple" = some false := by decide +kernel
@[simp] theorem kit_int_list : kitB "int" "list" = some false := by decide +kernel
@[simp] theorem kit_int_dict : kitB "int" "dict" = some false := by decide +kernel
@[simp] theorem kit_str_bool : kitB "str" "bool" = some false := by decide +kernel
@[simp] theorem kit_str_int : kitB "str" "int" = some false := by decide +kernel
@[simp] theorem kit_str_str : kitB "str" "str" = some true := by decide +kernel
@[simp] theorem kit_str_tuple : kitB "str" "tuple" = some false := by decide +kernel
@[simp] theorem kit_str_list : kitB "str" "list" = some false := by decide +kernel
@[simp] theorem kit_str_dict : kitB "str" "dict" = some false := by decide +kernel
@[simp] theorem kit_tuple_bool : kitB "tuple" "bool" = some false := by decide +kernel
@[simp] theorem kit_tuple_int : kitB "tuple" "int" = some false := by decide +kernel
@[simp] theorem kit_tuple_str : kitB "tuple" "str" = some false := by decide +kernel
@[simp] theorem kit_tuple_tuple : kitB "tuple" "tuple" = some true := by decide +kernel
@[simp] theorem kit_tuple_list : kitB "tuple" "list" = some false := by decide +kernel
@[simp] theorem kit_tuple_dict : kitB "tuple" "dict" = some false := by decide +kernel
@[simp] theorem kit_list_bool : kitB "list" "bool" = some false := by decide +kernel
@[simp] theorem kit_list_int : kitB "list" "int" = some false := by decide +kernel
@[simp] theorem kit_list_str : kitB "list" "str" = some false := by decide +kernel
@[simp] theorem kit_list_tuple : kitB "list" "tuple" = some false := by decide +kernel
@[simp] theorem kit_list_list : kitB "list" "list" = some true := by decide +kernel
@[simp] theorem kit_list_dict : kitB "list" "dict" = some false := by decide +kernel
@[simp] theorem kit_dict_bool : kitB "dict" "bool" = some false := by decide +kernel
@[simp] theorem kit_dict_int : kitB "dict" "int" = some false := by decide +kernel
@[simp] theorem kit_dict_str : kitB "dict" "str" = some false := by decide +kernel
@[simp] theorem kit_dict_tuple : kitB "dict" "tuple" = some false := by decide +kernel
@[simp] theorem kit_dict_list : kitB "dict" "list" = some false := by decide +kernel
@[simp] theorem kit_dict_dict : kitB "dict" "dict" = some true := by decide +kernel

@[simp] theorem oIs_non {b : Bool} {d : D} {M : Mem} : oIs b d .non M = some (.val (.bl (b != isNon d))) := rfl
@[simp] theorem oIs_bl {b c : Bool} {d : D} {M : Mem} : oIs b d (.bl c) M = some (.val (.bl (b != isBl c d))) := rfl
@[simp] theorem trD_bl {b : Bool} {M : Mem} : trD M (.bl b) = some b := rfl
@[simp] theorem ge_nat {n : Nat} : ((n : Int) < 0) = False := by simp

@[simp] theorem isNon_non : isNon .non = true := rfl
@[simp] theorem isNon_bl {b} : isNon (.bl b) = false := rfl
@[simp] theorem isNon_int {b} : isNon (.int b) = false := rfl
@[simp] theorem isNon_str {b} : isNon (.str b) = false := rfl
@[simp] theorem isNon_tup {b} : isNon (.tup b) = false := rfl
@[simp] theorem isNon_lst {b} : isNon (.lst b) = false := rfl
@[simp] theorem isNon_scr {b} : isNon (.scr b) = false := rfl
@[simp] theorem isNon_loc {b} : isNon (.loc b) = false := rfl
@[simp] theorem isBl_bl {b c} : isBl b (.bl c) = decide (c = b) := rfl
@[simp] theorem isBl_non {b} : isBl b .non = false := rfl
@[simp] theorem isBl_int {b c} : isBl b (.int c) = false := rfl
@[simp] theorem isBl_str {b c} : isBl b (.str c) = false := rfl
@[simp] theorem isBl_tup {b c} : isBl b (.tup c) = false := rfl
@[simp] theorem isBl_lst {b c} : isBl b (.lst c) = false := rfl
@[simp] theorem isBl_scr {b c} : isBl b (.scr c) = false := rfl
@[simp] theorem isBl_loc {b c} : isBl b (.loc c) = false := rfl
@[simp] theorem tyOf_non {M} : tyOf M .non = some "NoneType" := rfl
@[simp] theorem tyOf_bl {M b} : tyOf M (.bl b) = some "bool" := rfl
@[simp] theorem tyOf_int {M b} : tyOf M (.int b) = some "int" := rfl
@[simp] theorem tyOf_str {M b} : tyOf M (.str b) = some "str" := rfl
@[simp] theorem tyOf_tup {M b} : tyOf M (.tup b) = some "tuple" := rfl
@[simp] theorem tyOf_lst {M b} : tyOf M (.lst b) = some "list" := rfl
@[simp] theorem tyOf_scr {M b} : tyOf M (.scr b) = some "list" := rfl
theorem tyOf_loc {k : Nat} {M : Mem} {ds : List D} (h : M[k]? = some (.lst ds)) : tyOf M (.loc k) = some "list" := by
  show (match M[k]? with | some (.lst _) => some "list" | some (.dct _) => some "dict" | _ => none) = _
  rw [h]

@[simp] theorem wipeD_nil {ρ : Slots} : wipeD ρ [] = ρ := rfl
@[simp] theorem wipeD_cons {ρ : Slots} {v : Nat} {vs : List Nat} : wipeD ρ (v :: vs) = (wipeD ρ vs).set v none := rfl
@[simp] theorem tYesF_ap {ρ : Slots} {M : Mem} : tYesF ρ M = some (true, M) := rfl

@[simp] theorem filter_true {ds : List D} : ds.filter (fun _ => true) = ds := by simp

theorem guard_app {gk : Option Nat} {ds : List D} {M : Mem} (h : guard gk ds M) (x : O) : guard gk ds (M ++ [x]) := fun k e => by
  have := h k e
  rw [List.getElem?_append_left (List.getElem?_eq_some_iff.mp this).1]; exact this

/-! ### memories -/
@[simp] theorem get_app0 {M : Mem} {a : O} {A : Mem} : (M ++ a :: A)[M.length]? = some a := by
  rw [List.getElem?_append_right (Nat.le_refl _)]; simp
@[simp] theorem get_appj {M A : Mem} {j : Nat} : (M ++ A)[M.length + j]? = A[j]? := by
  rw [List.getElem?_append_right (Nat.le_add_right _ _)]; simp
@[simp] theorem set_app0 {M : Mem} {a b : O} {A : Mem} : (M ++ a :: A).set M.length b = M ++ b :: A := by
  rw [List.set_append_right _ _ (Nat.le_refl _)]; simp
@[simp] theorem set_appj {M A : Mem} {j : Nat} {b : O} : (M ++ A).set (M.length + j) b = M ++ A.set j b := by
  rw [List.set_append_right _ _ (Nat.le_add_right _ _)]; simp
@[simp] theorem take_app {M A : Mem} : (M ++ A).take M.length = M := by simp
@[simp] theorem take_appj {M A : Mem} {j : Nat} : (M ++ A).take (M.length + j) = M ++ A.take j := by
  rw [List.take_append, List.take_of_length_le (by omega), Nat.add_sub_cancel_left]
@[simp] theorem take_len {M : Mem} : M.take M.length = M := List.take_length
/-! ### what is trimmed -/
@[simp] theorem trimOk_refl {M : Mem} : trimOk M M := ⟨Nat.le_refl _, fun k o _ h => .inl h⟩
@[simp] theorem trimOk_app {M A : Mem} : trimOk M (M ++ A) := ⟨by simp, fun k o hk h => .inl (by rw [List.getElem?_append_left hk] at h; exact h)⟩
def trimC (n : Nat) : Mem → Mem → Prop
  | [], _ => True
  | o :: M, o' :: Me => (o' = o ∨ nlO n o' = true) ∧ trimC n M Me
  | _ :: _, [] => False
theorem trimC_len {n : Nat} : ∀ {M Me : Mem}, trimC n M Me → M.length ≤ Me.length
  | [], _, _ => Nat.zero_le _
  | _ :: M, _ :: Me, h => by simp; exact trimC_len h.2
theorem trimC_get {n : Nat} : ∀ {M Me : Mem}, trimC n M Me → ∀ {k : Nat} {o : O}, k < M.length → Me[k]? = some o → M[k]? = some o ∨ nlO n o = true
  | [], _, _, k, o, hk, _ => by simp at hk
  | a :: M, b :: Me, h, k, o, hk, q => by
    cases k with
    | zero =>
      simp at q
      subst q
      rcases h.1 with e | e
      · exact .inl (by rw [e]; rfl)
      · exact .inr e
    | succ k => simpa using trimC_get h.2 (k := k) (by simpa using hk) (by simpa using q)
theorem trimOk_C {M Me : Mem} (h : trimC M.length M Me) : trimOk M Me := ⟨trimC_len h, fun k o hk q => trimC_get h hk q⟩
theorem trimOk_C2 {M A B : Mem} (h : trimC (M.length + A.length) A B) : trimOk (M ++ A) (M ++ B) := by
  refine ⟨by simp; exact trimC_len h, fun k o hk q => ?_⟩
  by_cases hm : k < M.length
  · rw [List.getElem?_append_left hm] at q ⊢; exact .inl q
  · rw [List.getElem?_append_right (by omega)] at q ⊢
    rw [List.length_append] at hk ⊢
    exact trimC_get h (by omega) q
@[simp] theorem nl_non {n} : nl n .non = true := rfl
@[simp] theorem nl_bl {n b} : nl n (.bl b) = true := rfl
@[simp] theorem nl_int {n i} : nl n (.int i) = true := rfl
@[simp] theorem nl_str {n i} : nl n (.str i) = true := rfl
@[simp] theorem nl_scr {n i} : nl n (.scr i) = true := rfl
@[simp] theorem nl_tup {n ds} : nl n (.tup ds) = nls n ds := by rw [nl]
@[simp] theorem nl_lst {n ds} : nl n (.lst ds) = nls n ds := by rw [nl]
@[simp] theorem nl_loc {n k} : nl n (.loc k) = decide (k < n) := by rw [nl]
@[simp] theorem nls_nil {n} : nls n [] = true := rfl
@[simp] theorem nls_cons {n d ds} : nls n (d :: ds) = (nl n d && nls n ds) := rfl
theorem nls_of {n : Nat} : ∀ {ds : List D}, (∀ d ∈ ds, nl n d = true) → nls n ds = true
  | [], _ => rfl
  | d :: ds, h => by rw [nls, h d List.mem_cons_self, nls_of fun e he => h e (List.mem_cons_of_mem _ he)]; rfl
@[simp] theorem nls_app {n : Nat} : ∀ {ds es : List D}, nls n (ds ++ es) = (nls n ds && nls n es)
  | [], _ => by simp
  | d :: ds, es => by rw [List.cons_append, nls_cons, nls_cons, nls_app, Bool.and_assoc]
theorem nls_map {α : Type} {n : Nat} {f : α → D} (h : ∀ x, nl n (f x) = true) (xs : List α) : nls n (xs.map f) = true := nls_of fun d hd => by
  obtain ⟨x, _, rfl⟩ := List.mem_map.mp hd; exact h x
@[simp] theorem nls_mp {α : Type} {n : Nat} {f : α → D} {xs : List α} (h : ∀ x, nl n (f x) = true) : nls n (xs.map f) = true := nls_map h xs
@[simp] theorem nlO_lst {n ds} : nlO n (.lst ds) = nls n ds := rfl
@[simp] theorem nlO_ins {n c fs} : nlO n (.ins c fs) = nlF n fs := rfl
@[simp] theorem nlO_dct {n fs} : nlO n (.dct fs) = nlK n fs := rfl
@[simp] theorem nlF_nil {n} : nlF n [] = true := rfl
@[simp] theorem nlF_cons {n f d fs} : nlF n ((f, d) :: fs) = (nl n d && nlF n fs) := rfl
@[simp] theorem nlK_nil {n} : nlK n [] = true := rfl
@[simp] theorem nlK_cons {n f d fs} : nlK n ((f, d) :: fs) = (nl n d && nlK n fs) := rfl
@[simp] theorem nlS_nil {n} : nlS n [] = true := rfl
@[simp] theorem nlS_none {n ρ} : nlS n (none :: ρ) = nlS n ρ := rfl
@[simp] theorem nlS_some {n d ρ} : nlS n (some d :: ρ) = (nl n d && nlS n ρ) := rfl
@[simp] theorem keepD_nil {ρ} : keepD [] ρ = ρ := by cases ρ <;> rfl
@[simp] theorem keepD_t {bs o ρ} : keepD (true :: bs) (o :: ρ) = o :: keepD bs ρ := rfl
@[simp] theorem keepD_f {bs o ρ} : keepD (false :: bs) (o :: ρ) = none :: keepD bs ρ := rfl
/-! ### the end of a def -/
section
variable {M Me G : Mem} {r : Rz}
theorem finK_same {r : Rz} : finK M r M = (r, M) := by
  unfold finK
  rw [if_pos trimOk_refl, List.take_length]
  cases r with
  | new ds => simp only; split <;> rfl
  | val d =>
    cases d with
    | loc k =>
      simp only
      split
      · rfl
      · rename_i h
        rw [List.getElem?_eq_none (by omega)]
    | _ => simp only; split <;> rfl
theorem finK_val {d : D} (t : trimOk M Me) (h : nl M.length d = true) : finK M (.val d) Me = (.val d, Me.take M.length) := by
  unfold finK
  rw [if_pos t]
  cases d with
  | loc k => rw [nl_loc] at h; simp only; rw [if_pos (of_decide_eq_true h)]
  | _ => simp only; rw [if_pos h]
theorem finK_new {ds : List D} (t : trimOk M Me) (h : nls M.length ds = true) : finK M (.new ds) Me = (.new ds, Me.take M.length) := by
  unfold finK
  rw [if_pos t]
  simp only
  rw [if_pos h]
theorem finK_loc {k : Nat} {ds : List D} (t : trimOk M Me) (hk : ¬ k < M.length) (hd : Me[k]? = some (.lst ds)) (h : nls M.length ds = true) : finK M (.val (.loc k)) Me = (.new ds, Me.take M.length) := by
  unfold finK
  rw [if_pos t]
  simp only
  rw [if_neg hk, hd]
  simp only
  rw [if_pos h]
@[simp] theorem finK_id {r : Rz} : finK M r M = (r, M) := finK_same
@[simp] theorem finK_appV {d : D} (h : nl M.length d = true) : finK M (.val d) (M ++ G) = (.val d, M) := by rw [finK_val trimOk_app h, take_app]
@[simp] theorem finK_appN {ds : List D} (h : nls M.length ds = true) : finK M (.new ds) (M ++ G) = (.new ds, M) := by rw [finK_new trimOk_app h, take_app]
@[simp] theorem finK_appL0 {ds : List D} (h : nls M.length ds = true) : finK M (.val (.loc M.length)) (M ++ .lst ds :: G) = (.new ds, M) := by
  rw [finK_loc trimOk_app (by omega) get_app0 h, take_app]
theorem finK_appL {j : Nat} {ds : List D} (hd : G[j]? = some (.lst ds)) (h : nls M.length ds = true) : finK M (.val (.loc (M.length + j))) (M ++ G) = (.new ds, M) := by
  rw [finK_loc trimOk_app (by omega) (by rw [get_appj]; exact hd) h, take_app]
@[simp] theorem finK_appL1 {a : O} {ds : List D} (h : nls M.length ds = true) : finK M (.val (.loc (M.length + 1))) (M ++ a :: .lst ds :: G) = (.new ds, M) := finK_appL rfl h
@[simp] theorem finK_appL2 {a b : O} {ds : List D} (h : nls M.length ds = true) : finK M (.val (.loc (M.length + 2))) (M ++ a :: b :: .lst ds :: G) = (.new ds, M) := finK_appL rfl h
end
noncomputable def fnOut (M : Mem) : Option (Fl × Slots × Mem) → Option (Rz × Mem)
  | some (.rt r, _, Me) => some (finK M r Me)
  | some (.nx, _, Me) => some (finK M (.val .non) Me)
  | _ => none
theorem mkFnK_eq {np ns : Nat} {body : Sf} {ds : List D} {M : Mem} : mkFnK np ns body ds M = if ds.length = np then fnOut M (body (ds.map some ++ List.replicate (ns - ds.length) none) M) else none := by
  unfold mkFnK fnOut
  split
  · split <;> simp_all
  · rfl
@[simp] theorem fnOut_rt {M Me : Mem} {r : Rz} {ρ : Slots} : fnOut M (some (.rt r, ρ, Me)) = some (finK M r Me) := rfl
@[simp] theorem fnOut_nx {M Me : Mem} {ρ : Slots} : fnOut M (some (.nx, ρ, Me)) = some (finK M (.val .non) Me) := rfl
@[simp] theorem fnOut_ite {M : Mem} {c : Prop} [Decidable c] {a b : Option (Fl × Slots × Mem)} : fnOut M (if c then a else b) = if c then fnOut M a else fnOut M b := by split <;> rfl
/-! ### a turn of a loop -/
section
variable {kl : List Bool} {M Me G : Mem} {ρ : Slots} {gk : Option Nat} {ds : List D} {g : Gf} {body : Sf} {d : D}
@[simp] theorem tidy_same : tidy kl M ρ M = (keepD kl ρ, M) := by
  unfold tidy
  rw [List.take_length]
  split <;> rfl
theorem tidy_trim (t : trimOk M Me) (h : nlS M.length (keepD kl ρ) = true) : tidy kl M ρ Me = (keepD kl ρ, Me.take M.length) := by
  unfold tidy
  rw [if_pos ⟨t, h⟩]
@[simp] theorem tidy_app (h : nlS M.length (keepD kl ρ) = true) : tidy kl M ρ (M ++ G) = (keepD kl ρ, M) := by rw [tidy_trim trimOk_app h, take_app]
noncomputable def stpOut (kl : List Bool) (gk : Option Nat) (ds : List D) (M : Mem) (q : Fl × Slots × Mem) : Option (Fl × Slots × Mem) := open Classical in
  if q.1.goes = true then (if guard gk ds (tidy kl M q.2.1 q.2.2).2 then some (q.1, tidy kl M q.2.1 q.2.2) else none) else some (match q.1 with
  | .rt r => (.rt r, [], q.2.2)
  | _ => q)
noncomputable def stpK1 (kl : List Bool) (gk : Option Nat) (ds : List D) (body : Sf) (M : Mem) (p : Slots × Mem) : Option (Fl × Slots × Mem) := (body p.1 p.2).bind (stpOut kl gk ds M)
@[simp] theorem stpK_ap : stpK kl gk ds g body d ρ M = bnd (stpK1 kl gk ds body M) (g d ρ M) := rfl
@[simp] theorem stpK1_ap {M2 : Mem} : stpK1 kl gk ds body M (ρ, M2) = bnd (stpOut kl gk ds M) (body ρ M2) := rfl
@[simp] theorem stpOut_nx : stpOut kl none ds M (.nx, ρ, Me) = some (.nx, tidy kl M ρ Me) := by
  show (if (true = true) then _ else _) = _
  rw [if_pos rfl, if_pos (by simp)]
@[simp] theorem stpOut_ct : stpOut kl none ds M (.ct, ρ, Me) = some (.ct, tidy kl M ρ Me) := by
  show (if (true = true) then _ else _) = _
  rw [if_pos rfl, if_pos (by simp)]
@[simp] theorem stpOut_bk : stpOut kl gk ds M (.bk, ρ, Me) = some (.bk, ρ, Me) := rfl
@[simp] theorem stpOut_rt {r : Rz} : stpOut kl gk ds M (.rt r, ρ, Me) = some (.rt r, [], Me) := rfl
theorem stpOut_nxL {k : Nat} (h : (tidy kl M ρ Me).2[k]? = some (.lst ds)) : stpOut kl (some k) ds M (.nx, ρ, Me) = some (.nx, tidy kl M ρ Me) := by
  show (if (true = true) then _ else _) = _
  rw [if_pos rfl, if_pos (show guard _ _ _ from fun j e => by cases e; exact h)]
theorem stpOut_ctL {k : Nat} (h : (tidy kl M ρ Me).2[k]? = some (.lst ds)) : stpOut kl (some k) ds M (.ct, ρ, Me) = some (.ct, tidy kl M ρ Me) := by
  show (if (true = true) then _ else _) = _
  rw [if_pos rfl, if_pos (show guard _ _ _ from fun j e => by cases e; exact h)]
@[simp] theorem gkOf_lst {ds} : gkOf (.lst ds) = none := rfl
@[simp] theorem gkOf_tup {ds} : gkOf (.tup ds) = none := rfl
@[simp] theorem gkOf_scr {ds} : gkOf (.scr ds) = none := rfl
@[simp] theorem gkOf_loc {k} : gkOf (.loc k) = some k := rfl
end
/-! ### loops over typed items -/
/-! ### comprehensions over typed items -/
def elemF (g : Gf) (tt : Tf) (te : Ef) (ρw : Slots) (d : D) (M : Mem) : Option (Option D × Mem) := (g d ρw M).bind fun p => (tt p.1 p.2).bind fun b => if b.1 = true then (te p.1 b.2).bind fun r => some (some r.1.d, r.2) else some (none, b.2)
def elem3 (r : Rz × Mem) : Option (Option D × Mem) := some (some r.1.d, r.2)
def elem2 (te : Ef) (ρ : Slots) (b : Bool × Mem) : Option (Option D × Mem) := if b.1 = true then (te ρ b.2).bind elem3 else some (none, b.2)
def elem1 (tt : Tf) (te : Ef) (p : Slots × Mem) : Option (Option D × Mem) := (tt p.1 p.2).bind (elem2 te p.1)
@[simp] theorem elemF_ap {g : Gf} {tt : Tf} {te : Ef} {ρw : Slots} {d : D} {M : Mem} : elemF g tt te ρw d M = bnd (elem1 tt te) (g d ρw M) := rfl
@[simp] theorem elem1_ap {tt : Tf} {te : Ef} {ρ : Slots} {M : Mem} : elem1 tt te (ρ, M) = bnd (elem2 te ρ) (tt ρ M) := rfl
@[simp] theorem elem2_ap {te : Ef} {ρ : Slots} {b : Bool} {M : Mem} : elem2 te ρ (b, M) = if b = true then bnd elem3 (te ρ M) else some (none, M) := rfl
@[simp] theorem elem3_ap {r : Rz} {M : Mem} : elem3 (r, M) = some (some r.d, M) := rfl
/-! ### methods of lists -/
@[simp] theorem oAppend_ap {k : Nat} {x : D} {M : Mem} : oAppend (.loc k) [x] M = (match M[k]? with
    | some (.lst es) => if es.length < sizeLine then some (.val .non, M.set k (.lst (es ++ [x]))) else none
    | _ => none) := rfl
/-- None or an int -/
def stD : Option Int → D
  | none => .non
  | some i => .int i
@[simp] theorem nl_stD {n : Nat} {s : Option Int} : nl n (stD s) = true := by cases s <;> simp [stD, nl]
@[simp] theorem isNon_st {s : Option Int} : isNon (stD s) = s.isNone := by cases s <;> rfl

end CI

/-! N18: more methods of lists -/
namespace CI
open PySem PySem.Spec PyProof.Rows L2
def oPop : Mop := fun d ds M => match d, ds with
  | .loc k, [] => match M[k]? with
    | some (.lst es) => (es[es.length - 1]?).bind fun y => some (.val y, M.set k (.lst es.dropLast))
    | _ => none
  | _, _ => none
def oPopAt : Mop := fun d ds M => match d, ds with
  | .loc k, [.int i] => match M[k]? with
    | some (.lst es) => if -(2 ^ 63) ≤ i ∧ i < 2 ^ 63 then (seqIndex? i es.length).bind fun j => (es[j]?).bind fun y => some (.val y, M.set k (.lst (es.eraseIdx j))) else none
    | _ => none
  | _, _ => none
def oInsert : Mop := fun d ds M => match d, ds with
  | .loc k, [.int i, y] => match M[k]? with
    | some (.lst es) => if es.length < sizeLine ∧ 0 ≤ i ∧ i < 2 ^ 63 then some (.val .non, M.set k (.lst (es.take i.toNat ++ y :: es.drop i.toNat))) else none
    | _ => none
  | _, _ => none
def oReverse : Mop := fun d ds M => match d, ds with
  | .loc k, [] => match M[k]? with
    | some (.lst es) => some (.val .non, M.set k (.lst es.reverse))
    | _ => none
  | _, _ => none
section
variable {K : PySem.W.Frag} {H : Hp} {m : List Addr}
theorem Rls.dropLast : ∀ {ds : List D} {vs : List V}, Rls K H m ds vs → Rls K H m ds.dropLast vs.dropLast
  | ds, vs, h => by rw [List.dropLast_eq_take, List.dropLast_eq_take, ← h.length]; exact h.take _
theorem Rls.snoc {ds : List D} {vs : List V} {d : D} {v : V} (h : Rls K H m ds vs) (r : Rl K H m d v) : Rls K H m (d :: ds) (v :: vs) := by
  rw [Rls]; exact ⟨v, vs, rfl, r, h⟩
theorem Rls.reverse : ∀ {ds : List D} {vs : List V}, Rls K H m ds vs → Rls K H m ds.reverse vs.reverse
  | [], _, h => by rw [rls_nil h]; rw [List.reverse_nil, List.reverse_nil, Rls]
  | d :: ds, _, h => by
    rw [Rls] at h
    obtain ⟨v, r, rfl, h1, h2⟩ := h
    rw [List.reverse_cons, List.reverse_cons]
    exact (Rls.reverse h2).append (by rw [Rls]; exact ⟨v, [], rfl, h1, by rw [Rls]⟩)
end
section
variable {X : Cx}
end
section
variable {k : Nat} {M : Mem} {i : Int} {y : D}
@[simp] theorem oPop_ap : oPop (.loc k) [] M = (match M[k]? with
    | some (.lst es) => (es[es.length - 1]?).bind fun y => some (.val y, M.set k (.lst es.dropLast))
    | _ => none) := rfl
@[simp] theorem oPopAt_ap : oPopAt (.loc k) [.int i] M = (match M[k]? with
    | some (.lst es) => if -(2 ^ 63) ≤ i ∧ i < 2 ^ 63 then (seqIndex? i es.length).bind fun j => (es[j]?).bind fun y => some (.val y, M.set k (.lst (es.eraseIdx j))) else none
    | _ => none) := rfl
@[simp] theorem oInsert_ap : oInsert (.loc k) [.int i, y] M = (match M[k]? with
    | some (.lst es) => if es.length < sizeLine ∧ 0 ≤ i ∧ i < 2 ^ 63 then some (.val .non, M.set k (.lst (es.take i.toNat ++ y :: es.drop i.toNat))) else none
    | _ => none) := rfl
@[simp] theorem oReverse_ap : oReverse (.loc k) [] M = (match M[k]? with
    | some (.lst es) => some (.val .non, M.set k (.lst es.reverse))
    | _ => none) := rfl
end
end CI

/-! N19: memories with a part at the end; places in lists; typed items -/
namespace CI
open PySem PySem.Spec PyProof.Rows L2
def tyO : Option O → Option String
  | some (.lst _) => some "list"
  | some (.dct _) => some "dict"
  | _ => none
@[simp] theorem tyOf_loc' {k : Nat} {M : Mem} : tyOf M (.loc k) = tyO M[k]? := by
  show (match M[k]? with | some (.lst _) => some "list" | some (.dct _) => some "dict" | _ => none) = _
  cases M[k]? with
  | none => rfl
  | some o => cases o <;> rfl
@[simp] theorem tyO_lst {ds} : tyO (some (.lst ds)) = some "list" := rfl
@[simp] theorem tyO_dct {ds} : tyO (some (.dct ds)) = some "dict" := rfl
def lsO : Option O → Option (List D)
  | some (.lst ds) => some ds
  | _ => none
@[simp] theorem asS_loc' {k : Nat} {M : Mem} : asS M (.loc k) = lsO M[k]? := by
  show (match M[k]? with | some (.lst ds) => some ds | _ => none) = _
  cases M[k]? with
  | none => rfl
  | some o => cases o <;> rfl
@[simp] theorem lsO_lst {ds} : lsO (some (.lst ds)) = some ds := rfl
@[simp] theorem asL_loc' {k : Nat} {M : Mem} : asL M (.loc k) = lsO M[k]? := asS_loc'
def lenO (ds : List D) : Option Rz := some (.val (.int ds.length))
@[simp] theorem lenO_ap {ds} : lenO ds = some (.val (.int ds.length)) := rfl
@[simp] theorem oLen_loc' {k : Nat} {M : Mem} : oLen [.loc k] M = bnd lenO (lsO M[k]?) := by
  show ((asS M (.loc k)).bind fun es => some (Rz.val (.int es.length))) = _
  rw [asS_loc']; rfl
section
variable {kl : List Bool} {M A B : Mem} {ρ : Slots}
theorem tidy_C2 (t : trimC (M.length + A.length) A B) (h : nlS (M.length + A.length) (keepD kl ρ) = true) : tidy kl (M ++ A) ρ (M ++ B) = (keepD kl ρ, M ++ B.take A.length) := by
  rw [tidy_trim (trimOk_C2 t) (by rw [List.length_append]; exact h), List.length_append, take_appj]
theorem tidy_C (t : trimC A.length A B) (h : nlS A.length (keepD kl ρ) = true) : tidy kl A ρ B = (keepD kl ρ, B.take A.length) := tidy_trim (trimOk_C t) h
@[simp] theorem tidy_a1 {a a' : O} (t : a' = a ∨ nlO (M.length + 1) a' = true) (h : nlS (M.length + 1) (keepD kl ρ) = true) : tidy kl (M ++ [a]) ρ (M ++ a' :: B) = (keepD kl ρ, M ++ [a']) := tidy_C2 (A := [a]) ⟨t, trivial⟩ h
@[simp] theorem tidy_a2 {a a' b b' : O} (t : a' = a ∨ nlO (M.length + 2) a' = true) (t2 : b' = b ∨ nlO (M.length + 2) b' = true) (h : nlS (M.length + 2) (keepD kl ρ) = true) : tidy kl (M ++ [a, b]) ρ (M ++ a' :: b' :: B) = (keepD kl ρ, M ++ [a', b']) := tidy_C2 (A := [a, b]) ⟨t, t2, trivial⟩ h
@[simp] theorem tidy_a3 {a a' b b' c c' : O} (t : a' = a ∨ nlO (M.length + 3) a' = true) (t2 : b' = b ∨ nlO (M.length + 3) b' = true) (t3 : c' = c ∨ nlO (M.length + 3) c' = true) (h : nlS (M.length + 3) (keepD kl ρ) = true) : tidy kl (M ++ [a, b, c]) ρ (M ++ a' :: b' :: c' :: B) = (keepD kl ρ, M ++ [a', b', c']) := tidy_C2 (A := [a, b, c]) ⟨t, t2, t3, trivial⟩ h
@[simp] theorem trimC_nil {n} {B} : trimC n [] B = True := rfl
@[simp] theorem trimC_cons {n a b} {A B} : trimC n (a :: A) (b :: B) = ((b = a ∨ nlO n b = true) ∧ trimC n A B) := rfl
end
/-! ### places -/
theorem at_nat {α : Type} {xs : List α} {i : Int} (h0 : 0 ≤ i) : L2.atI xs i = xs[i.toNat]? := by
  unfold L2.atI
  by_cases h : i < xs.length
  · have : ixN xs.length i = some i.toNat := by unfold ixN; split <;> (try split) <;> first | rfl | omega | simp_all
    rw [this]; rfl
  · have e : xs[i.toNat]? = none := List.getElem?_eq_none (by omega)
    have : ixN xs.length i = none := by unfold ixN; split <;> (try split) <;> first | rfl | omega | simp_all
    rw [this, e]; rfl
theorem at_map {α : Type} {xs : List α} {f : α → D} {i : Int} : L2.atI (xs.map f) i = (L2.atI xs i).map f := by
  unfold L2.atI
  rw [List.length_map]
  cases ixN xs.length i with
  | none => rfl
  | some j => simp
def ixO (o : Option D) : Option Rz := o.bind fun x => some (.val x)
@[simp] theorem ixO_some {x : D} : ixO (some x) = some (.val x) := rfl
@[simp] theorem oIx_tup {ds : List D} {i : Int} {M : Mem} : oIx (.tup ds) (.int i) M = ixO (L2.atI ds i) := rfl
@[simp] theorem oIx_lst {ds : List D} {i : Int} {M : Mem} : oIx (.lst ds) (.int i) M = ixO (L2.atI ds i) := rfl
@[simp] theorem oIx_scr {ns : List Int} {i : Int} {M : Mem} : oIx (.scr ns) (.int i) M = ixO (L2.atI (ns.map D.int) i) := rfl
def ixL (i : Int) (ds : List D) : Option Rz := ixO (L2.atI ds i)
@[simp] theorem ixL_ap {i ds} : ixL i ds = ixO (L2.atI ds i) := rfl
@[simp] theorem oIx_loc {k : Nat} {i : Int} {M : Mem} : oIx (.loc k) (.int i) M = bnd (ixL i) (lsO M[k]?) := by
  show ((asS M (.loc k)).bind fun ds => (L2.atI ds i).bind fun x => some (Rz.val x)) = _
  rw [asS_loc']; rfl
@[simp] theorem atI_0 {α : Type} {x : α} {xs : List α} : L2.atI (x :: xs) 0 = some x := by rw [at_nat (by omega)]; rfl
@[simp] theorem atI_1 {α : Type} {x y : α} {xs : List α} : L2.atI (x :: y :: xs) 1 = some y := by rw [at_nat (by omega)]; rfl
@[simp] theorem atI_2 {α : Type} {x y z : α} {xs : List α} : L2.atI (x :: y :: z :: xs) 2 = some z := by rw [at_nat (by omega)]; rfl
@[simp] theorem atI_3 {α : Type} {x y z u : α} {xs : List α} : L2.atI (x :: y :: z :: u :: xs) 3 = some u := by rw [at_nat (by omega)]; rfl
@[simp] theorem atI_4 {α : Type} {x y z u v : α} {xs : List α} : L2.atI (x :: y :: z :: u :: v :: xs) 4 = some v := by rw [at_nat (by omega)]; rfl
@[simp] theorem atI_5 {α : Type} {x y z u v w : α} {xs : List α} : L2.atI (x :: y :: z :: u :: v :: w :: xs) 5 = some w := by rw [at_nat (by omega)]; rfl
/-! ### slices -/
def cutL {α : Type} (xs : List α) (lo hi : Option Int) : List α := (xs.drop (HT.sIx xs.length 0 lo)).take (HT.sIx xs.length xs.length hi - HT.sIx xs.length 0 lo)
@[simp] theorem cutD_map {α : Type} {xs : List α} {f : α → D} {lo hi : Option Int} : cutD (xs.map f) lo hi = (cutL xs lo hi).map f := by
  unfold cutD cutL
  rw [List.length_map, List.map_take, List.map_drop]
@[simp] theorem oSl_tup {ds : List D} {lo hi : Option Int} {M : Mem} : oSl lo hi (.tup ds) M = some (.val (.tup (cutD ds lo hi))) := rfl
@[simp] theorem oSl_lst {ds : List D} {lo hi : Option Int} {M : Mem} : oSl lo hi (.lst ds) M = some (.new (cutD ds lo hi)) := rfl
@[simp] theorem oSl_scr {ns : List Int} {lo hi : Option Int} {M : Mem} : oSl lo hi (.scr ns) M = some (.new ((cutL ns lo hi).map .int)) := by
  rw [← cutD_map]; rfl
def slL (lo hi : Option Int) (ds : List D) : Option Rz := some (.new (cutD ds lo hi))
@[simp] theorem slL_ap {lo hi ds} : slL lo hi ds = some (.new (cutD ds lo hi)) := rfl
@[simp] theorem oSl_loc {k : Nat} {lo hi : Option Int} {M : Mem} : oSl lo hi (.loc k) M = bnd (slL lo hi) (lsO M[k]?) := by
  show ((asL M (.loc k)).bind fun ds => some (Rz.new (cutD ds lo hi))) = _
  rw [asL_loc']; rfl
section
variable {α : Type} {xs : List α} {a b : Int}
theorem cutL_mid (h : 0 ≤ a) (h2 : 0 ≤ b) : cutL xs (some a) (some b) = (xs.take b.toNat).drop a.toNat := by
  show (xs.drop (if a < 0 then (a + (xs.length : Int)).toNat else min a.toNat xs.length)).take ((if b < 0 then (b + (xs.length : Int)).toNat else min b.toNat xs.length) - (if a < 0 then (a + (xs.length : Int)).toNat else min a.toNat xs.length)) = _
  rw [if_neg (by omega), if_neg (by omega), List.drop_take]
  by_cases q : a.toNat ≤ xs.length
  · rw [Nat.min_eq_left q]
    by_cases q2 : b.toNat ≤ xs.length
    · rw [Nat.min_eq_left q2]
    · rw [Nat.min_eq_right (by omega)]
      rw [List.take_of_length_le (by simp), List.take_of_length_le (by simp; omega)]
  · rw [Nat.min_eq_right (a := a.toNat) (b := xs.length) (by omega), List.drop_length, List.drop_of_length_le (by omega), List.take_nil, List.take_nil]
end
@[simp] theorem inD_str {k : Str} : ∀ {ks : List Str}, inD (.str k) (ks.map .str) = decide (k ∈ ks)
  | [] => by simp [inD]
  | x :: ks => by
    have ih := inD_str (k := k) (ks := ks)
    unfold inD at ih ⊢
    rw [List.map_cons, List.any_cons, ih]
    show ((x == k) || decide (k ∈ ks)) = _
    by_cases h : x = k
    · subst h; simp
    · have h2 : ¬ k = x := fun e => h e.symm
      simp [h, h2]
@[simp] theorem inD_int {k : Int} : ∀ {ks : List Int}, inD (.int k) (ks.map .int) = decide (k ∈ ks)
  | [] => by simp [inD]
  | x :: ks => by
    have ih := inD_int (k := k) (ks := ks)
    unfold inD at ih ⊢
    rw [List.map_cons, List.any_cons, ih]
    show ((x == k) || decide (k ∈ ks)) = _
    by_cases h : x = k
    · subst h; simp
    · have h2 : ¬ k = x := fun e => h e.symm
      simp [h, h2]
@[simp] theorem allfl_str {ks : List Str} : (ks.map D.str).all fl = true := by
  rw [List.all_eq_true]; intro x hx
  obtain ⟨y, _, rfl⟩ := List.mem_map.mp hx; rfl
@[simp] theorem allfl_int {ks : List Int} : (ks.map D.int).all fl = true := by
  rw [List.all_eq_true]; intro x hx
  obtain ⟨y, _, rfl⟩ := List.mem_map.mp hx; rfl
@[simp] theorem fl_str {x} : fl (.str x) = true := rfl
@[simp] theorem fl_int {x} : fl (.int x) = true := rfl
def in1 (neg : Bool) (d : D) (ds : List D) : Option Rz := if fl d = true ∧ ds.all fl = true then some (.val (.bl (if neg then !inD d ds else inD d ds))) else none
@[simp] theorem oIn_ap {neg : Bool} {d e : D} {M : Mem} : oIn neg d e M = bnd (in1 neg d) (asS M e) := rfl
@[simp] theorem in1_str {neg : Bool} {k : Str} {ks : List Str} : in1 neg (.str k) (ks.map .str) = some (.val (.bl (if neg then !decide (k ∈ ks) else decide (k ∈ ks)))) := by
  unfold in1; rw [if_pos ⟨rfl, allfl_str⟩, inD_str]
@[simp] theorem in1_int {neg : Bool} {k : Int} {ks : List Int} : in1 neg (.int k) (ks.map .int) = some (.val (.bl (if neg then !decide (k ∈ ks) else decide (k ∈ ks)))) := by
  unfold in1; rw [if_pos ⟨rfl, allfl_int⟩, inD_int]
/-! loops over written lists -/
def loopF1 (step : Stp) (ds : List D) (p : Fl × Slots × Mem) : Option (Fl × Slots × Mem) := match p.1 with
  | .nx => loopF step ds p.2.1 p.2.2
  | .ct => loopF step ds p.2.1 p.2.2
  | .bk => some (.nx, p.2.1, p.2.2)
  | .rt r => some (.rt r, p.2.1, p.2.2)
section
variable {step : Stp} {d : D} {ds : List D} {ρ : Slots} {M : Mem} {r : Rz}
@[simp] theorem loopF_nil : loopF step [] ρ M = some (.nx, ρ, M) := rfl
@[simp] theorem loopF_cons : loopF step (d :: ds) ρ M = bnd (loopF1 step ds) (step d ρ M) := rfl
@[simp] theorem loopF1_nx : loopF1 step ds (.nx, ρ, M) = loopF step ds ρ M := rfl
@[simp] theorem loopF1_ct : loopF1 step ds (.ct, ρ, M) = loopF step ds ρ M := rfl
@[simp] theorem loopF1_bk : loopF1 step ds (.bk, ρ, M) = some (.nx, ρ, M) := rfl
@[simp] theorem loopF1_rt : loopF1 step ds (.rt r, ρ, M) = some (.rt r, ρ, M) := rfl
end
/-! calls -/
def tupO (ds : List D) : Option Rz := some (.val (.tup ds))
@[simp] theorem tupO_ap {ds} : tupO ds = some (.val (.tup ds)) := rfl
@[simp] theorem oTuple_ap {d : D} {M : Mem} : oTuple [d] M = bnd tupO (asS M d) := rfl
def lisO (ds : List D) : Option Rz := some (.new ds)
@[simp] theorem lisO_ap {ds} : lisO ds = some (.new ds) := rfl
@[simp] theorem oList_ap {d : D} {M : Mem} : oList [d] M = bnd lisO (asS M d) := rfl
theorem oMin2_if {i j : Int} {M : Mem} : oMin2 [.int i, .int j] M = some (.val (.int (if j < i then j else i))) := rfl
theorem oMax2_if {i j : Int} {M : Mem} : oMax2 [.int i, .int j] M = some (.val (.int (if j > i then j else i))) := rfl
@[simp] theorem oMin2_ap {i j : Int} {M : Mem} : oMin2 [.int i, .int j] M = some (.val (.int (min i j))) := by
  rw [oMin2_if]; congr 3; split <;> omega
@[simp] theorem oMax2_ap {i j : Int} {M : Mem} : oMax2 [.int i, .int j] M = some (.val (.int (max i j))) := by
  rw [oMax2_if]; congr 3; split <;> omega
@[simp] theorem oInt_bl {b : Bool} {M : Mem} : oInt [.bl b] M = some (.val (.int (if b then 1 else 0))) := rfl
def srt2 (is : List Int) : Option Rz := some (.new ((isort is).map .int))
def srt1 (ds : List D) : Option Rz := (intsD ds).bind srt2
@[simp] theorem oSorted_ap {d : D} {M : Mem} : oSorted [d] M = bnd srt1 (asL M d) := rfl
@[simp] theorem srt1_ints {is : List Int} : srt1 (is.map .int) = some (.new ((isort is).map .int)) := by unfold srt1; rw [intsD_map]; rfl
@[simp] theorem oStr_int {i : Int} {M : Mem} : oStr [.int i] M = if i.natAbs.log2 < 1920 then some (.val (.str (toString i))) else none := rfl
@[simp] theorem trD_int {i : Int} {M : Mem} : trD M (.int i) = some (i != 0) := rfl
@[simp] theorem trD_non {M : Mem} : trD M .non = some false := rfl
def trO (ds : List D) : Option Bool := some (!ds.isEmpty)
@[simp] theorem trO_ap {ds} : trO ds = some (!ds.isEmpty) := rfl
@[simp] theorem trD_tup {ds} {M : Mem} : trD M (.tup ds) = some (!ds.isEmpty) := rfl
@[simp] theorem trD_lst {ds} {M : Mem} : trD M (.lst ds) = some (!ds.isEmpty) := rfl
@[simp] theorem trD_loc {k : Nat} {M : Mem} : trD M (.loc k) = bnd trO (lsO M[k]?) := by
  show ((asS M (.loc k)).bind fun ds => some (!ds.isEmpty)) = _
  rw [asS_loc']; rfl
end CI

/-! N20: * of ints, tuples, lists -/
namespace CI
open PySem PySem.Spec PyProof.Rows L2
section
variable {X : Cx}
def rMulE (K : PySem.W.Frag) : R2 := fun x y H Q => ∃ l k, x = .ref l ∧ y = .int k ∧ SqT K H l [] ∧ -1000000 < k ∧ k < 1000000 ∧ Q (.ref l) H
theorem op_mulE : OpR X (binaryOp .Mult) (rMulE X.K) := by
  intro pins s σ H x y v u Q I rx ry h
  obtain ⟨l, k, rfl, rfl, hT, h1, h2, q⟩ := h
  cases rx
  obtain ⟨t, rfl⟩ := ry
  obtain ⟨its, r, ⟨⟨cls, dd, data, sl⟩, ho, hc, n, hd⟩, hs⟩ := I.tuple hT
  simp only at hc hd
  subst hc hd
  have hle : its.length = 0 := r.length.symm
  have hn : its = [] := List.eq_nil_of_length_eq_zero hle
  have c0 : (decide (k < -(2 ^ 63)) || decide (k ≥ 2 ^ 63)) = false := by
    rw [decide_eq_false (by omega), decide_eq_false (by omega)] <;> rfl
  have c1 : (its.toArray.isEmpty || k == 1) = true := by rw [hn]; rfl
  refine wpAny_binaryOp_repeat_ref (T := "tuple") (U := "int") (by decide) ⟨_, ho, rfl⟩ (fun s' => typeIs_int s' k t) noFill_tuple_mul F.fills_int_mul F.slot_int_rmul repeat_tuple F.slot_int_index.lookup
    (call_meets F.slot_int_rmul (typeIs_int s k t) F.entry_int_rmul (F.args_int_rmul_2 _ _) (int_rmul_tuple k t l its.toArray n dd sl)
      ⟨ho, rfl, ⟨_, ho, rfl⟩, call_meets F.slot_tuple_mul ⟨_, ho, rfl⟩ F.entry_tuple_mul (F.args_tuple_mul_2 _ _) (tuple_mul1 l its.toArray n dd sl k t c0 c1) ⟨ho, ?_⟩⟩)
  exact ⟨.ref l, H, I, rfl, q⟩
def oMulA : Bop := fun d e M => match d, e with
  | .int i, .int j => if bMul i j = true then some (.val (.int (i * j))) else none
  | .tup ds, .int k => if -1000000 < k ∧ k ≤ 1000 ∧ ds.length ≤ 1000 then some (.val (.tup (List.replicate k.toNat ds).flatten)) else none
  | d, .int k => (asW M d).bind fun ds => if -1000000 < k ∧ k ≤ 1000 ∧ ds.length ≤ 1000 then some (.new (List.replicate k.toNat ds).flatten) else none
  | _, _ => none
theorem rep_nil {α : Type} : ∀ n : Nat, (List.replicate n ([] : List α)).flatten = []
  | 0 => rfl
  | n + 1 => by rw [List.replicate_succ, List.flatten_cons, rep_nil n]; rfl
theorem ok_mulA : OpOk X (binaryOp .Mult) oMulA := by
  refine ⟨_, op_mul.or (op_repT.or (op_mul1.or (op_mul0.or (op_mulE.or op_rep)))), fun H m M d e x y z Q w rd re ho P => ?_⟩
  unfold oMulA at ho
  split at ho
  · rename_i i j
    split at ho
    · rename_i hb
      cases ho
      rw [Rl] at rd; rw [Rl] at re
      refine .inl ⟨i, j, rd, re, ?_, P.val w rl_int⟩
      unfold bMul sm64 at hb
      simp only [Bool.or_eq_true, Bool.and_eq_true, decide_eq_true_eq] at hb
      exact hb
    · cases ho
  · rename_i ds k
    split at ho
    · rename_i hc
      obtain ⟨h2, h3, h4⟩ := hc
      cases ho
      have rd0 := rd
      rw [Rl] at rd; rw [Rl] at re; subst re
      obtain ⟨a, vs, rfl, hs, hr⟩ := rd
      by_cases hd : ds = []
      · subst hd
        have hv := rls_nil hr
        subst hv
        rw [rep_nil] at P
        exact .inr (.inr (.inr (.inr (.inl ⟨a, k, rfl, rfl, hs, h2, by omega, P.val w rd0⟩))))
      · have hv : vs ≠ [] := fun e => hd (by subst e; exact rls_of_nil hr)
        by_cases q1 : 2 ≤ k
        · exact .inr (.inl ⟨a, k, vs, rfl, rfl, hs, hv, q1, h3, by rw [← hr.length]; exact h4, P.tup w (hr.rep _)⟩)
        · by_cases q2 : k = 1
          · subst q2
            refine .inr (.inr (.inl ⟨a, vs, rfl, rfl, hs, P.val w ?_⟩))
            simpa using rd0
          · have hk : k.toNat = 0 := by omega
            rw [hk] at P
            exact .inr (.inr (.inr (.inl ⟨a, k, vs, rfl, rfl, hs, hv, by omega, h2, P.tup (ds := []) w (by rw [Rls])⟩)))
    · cases ho
  · rename_i k h1 h2
    cases q : asW M d with
    | none => rw [q] at ho; cases ho
    | some ds =>
      rw [q] at ho
      simp only [Option.bind_some] at ho
      split at ho
      · rename_i hc
        cases ho
        obtain ⟨a, vs, rfl, hv, hr⟩ := asW_ok w rd q
        rw [Rl] at re; subst re
        refine .inr (.inr (.inr (.inr (.inr ⟨a, k, vs, rfl, rfl, hv, by omega, by omega, ?_, P.new w (hr.rep _)⟩))))
        rw [← hr.length, sizeLine_eq]
        have : k.toNat ≤ 1000 := by omega
        calc ds.length * k.toNat ≤ 1000 * 1000 := Nat.mul_le_mul hc.2.2 this
          _ ≤ _ := by decide
      · cases ho
  · cases ho
@[simp] theorem oMulA_int {i j : Int} {M : Mem} : oMulA (.int i) (.int j) M = if bMul i j = true then some (.val (.int (i * j))) else none := rfl
@[simp] theorem oMulA_tup {ds : List D} {k : Int} {M : Mem} : oMulA (.tup ds) (.int k) M = if -1000000 < k ∧ k ≤ 1000 ∧ ds.length ≤ 1000 then some (.val (.tup (List.replicate k.toNat ds).flatten)) else none := rfl
@[simp] theorem oMulA_lst {ds : List D} {k : Int} {M : Mem} : oMulA (.lst ds) (.int k) M = if -1000000 < k ∧ k ≤ 1000 ∧ ds.length ≤ 1000 then some (.new (List.replicate k.toNat ds).flatten) else none := rfl
end
end CI

/-! N21: == of data, by their trees -/
namespace CI
open PySem PySem.Spec PyProof.Rows L2
mutual
def deq : D → D → Bool
  | .non, .non => true
  | .bl a, .bl b => decide (a = b)
  | .bl a, .int b => decide ((if a then 1 else 0) = b)
  | .int a, .bl b => decide (a = (if b then 1 else 0))
  | .int a, .int b => decide (a = b)
  | .str a, .str b => decide (a = b)
  | .tup a, .tup b => deqs a b
  | .lst a, .lst b => deqs a b
  | _, _ => false
def deqs : List D → List D → Bool
  | [], [] => true
  | a :: as, b :: bs => deq a b && deqs as bs
  | _, _ => false
end
mutual
theorem deq_py : ∀ (n m : Nat) (d e : D) (p q : PyData), py0 d = some p → py0 e = some q → plS n d = true → plS m e = true → PyData.eqv p q = deq d e
  | 0, _, d, _, _, _, _, _, h, _ => by cases h
  | _ + 1, 0, _, e, _, _, _, _, _, h => by cases h
  | n + 1, m + 1, d, e, p, q, hp, hq, h1, h2 => by
    cases d with
    | scr _ => cases h1
    | loc _ => cases h1
    | non => cases hp; cases e <;> first | (cases h2; done) | (simp [py0] at hq; first | (subst hq; simp [PyData.eqv, deq]; done) | (subst hq; simp only [PyData.eqv, deq]; first | rfl | (rw [Bool.eq_iff_iff]; simp; done)) | (obtain ⟨ps, hps, rfl⟩ := hq; simp [PyData.eqv, deq]; done))
    | bl b => cases hp; cases e <;> first | (cases h2; done) | (simp [py0] at hq; first | (subst hq; simp [PyData.eqv, deq]; done) | (subst hq; simp only [PyData.eqv, deq]; first | rfl | (rw [Bool.eq_iff_iff]; simp; done)) | (obtain ⟨ps, hps, rfl⟩ := hq; simp [PyData.eqv, deq]; done))
    | int b => cases hp; cases e <;> first | (cases h2; done) | (simp [py0] at hq; first | (subst hq; simp [PyData.eqv, deq]; done) | (subst hq; simp only [PyData.eqv, deq]; first | rfl | (rw [Bool.eq_iff_iff]; simp; done)) | (obtain ⟨ps, hps, rfl⟩ := hq; simp [PyData.eqv, deq]; done))
    | str b => cases hp; cases e <;> first | (cases h2; done) | (simp [py0] at hq; first | (subst hq; simp [PyData.eqv, deq]; done) | (subst hq; simp only [PyData.eqv, deq]; first | rfl | (rw [Bool.eq_iff_iff]; simp; done)) | (obtain ⟨ps, hps, rfl⟩ := hq; simp [PyData.eqv, deq]; done))
    | tup as =>
      simp [py0] at hp
      obtain ⟨ps, hps, rfl⟩ := hp
      cases e with
      | scr _ => cases h2
      | loc _ => cases h2
      | tup bs =>
        simp [py0] at hq
        obtain ⟨qs, hqs, rfl⟩ := hq
        rw [PyData.eqv, deq]
        exact deqs_py n m as bs ps qs hps hqs h1 h2
      | lst bs => simp [py0] at hq; obtain ⟨qs, hqs, rfl⟩ := hq; simp [PyData.eqv, deq]
      | _ => simp [py0] at hq; subst hq; simp [PyData.eqv, deq]
    | lst as =>
      simp [py0] at hp
      obtain ⟨ps, hps, rfl⟩ := hp
      cases e with
      | scr _ => cases h2
      | loc _ => cases h2
      | lst bs =>
        simp [py0] at hq
        obtain ⟨qs, hqs, rfl⟩ := hq
        rw [PyData.eqv, deq]
        exact deqs_py n m as bs ps qs hps hqs h1 h2
      | tup bs => simp [py0] at hq; obtain ⟨qs, hqs, rfl⟩ := hq; simp [PyData.eqv, deq]
      | _ => simp [py0] at hq; subst hq; simp [PyData.eqv, deq]
theorem deqs_py : ∀ (n m : Nat) (ds es : List D) (ps qs : List PyData), py0s ds = some ps → py0s es = some qs → ds.all (plS n) = true → es.all (plS m) = true → PyData.eqvAll ps qs = deqs ds es
  | _, _, [], [], _, _, hp, hq, _, _ => by cases hp; cases hq; simp [PyData.eqvAll, deqs]
  | _, _, [], e :: es, _, qs, hp, hq, _, _ => by
    cases hp
    rw [py0s] at hq
    cases h : py0 e with
    | none => rw [h] at hq; cases hq
    | some q => cases h' : py0s es with
      | none => rw [h, h'] at hq; cases hq
      | some qs' => rw [h, h'] at hq; cases hq; simp [PyData.eqvAll, deqs]
  | _, _, d :: ds, [], ps, _, hp, hq, _, _ => by
    cases hq
    rw [py0s] at hp
    cases h : py0 d with
    | none => rw [h] at hp; cases hp
    | some q => cases h' : py0s ds with
      | none => rw [h, h'] at hp; cases hp
      | some qs' => rw [h, h'] at hp; cases hp; simp [PyData.eqvAll, deqs]
  | n, m, d :: ds, e :: es, ps, qs, hp, hq, h1, h2 => by
    rw [py0s] at hp hq
    rw [List.all_cons, Bool.and_eq_true] at h1 h2
    cases a1 : py0 d with
    | none => rw [a1] at hp; cases hp
    | some p =>
      cases a2 : py0s ds with
      | none => rw [a1, a2] at hp; cases hp
      | some ps' =>
        cases b1 : py0 e with
        | none => rw [b1] at hq; cases hq
        | some q =>
          cases b2 : py0s es with
          | none => rw [b1, b2] at hq; cases hq
          | some qs' =>
            rw [a1, a2] at hp; rw [b1, b2] at hq; cases hp; cases hq
            rw [PyData.eqvAll, deqs, deq_py n m d e p q a1 b1 h1.1 h2.1, deqs_py n m ds es ps' qs' a2 b2 h1.2 h2.2]
end
theorem eqB_deq {M : Mem} {n m : Nat} {d e : D} (hn : n ≤ 64) (hm : m ≤ 64) (h1 : plS n d = true) (h2 : plS m e = true) : eqB M d e = some (deq d e) := by
  obtain ⟨p, p1, p2, p3⟩ := plS_ok n d h1
  obtain ⟨q, q1, q2, q3⟩ := plS_ok m e h2
  have sp : SeqAt.shaped p = true := by unfold SeqAt.shaped; rw [p2, Bool.true_and]; exact decide_eq_true (by omega)
  have sq : SeqAt.shaped q = true := by unfold SeqAt.shaped; rw [q2, Bool.true_and]; exact decide_eq_true (by omega)
  have hk := deq_py n m d e p q p1 q1 h1 h2
  have hd : py M d = some p := by cases d <;> first | exact p1 | cases p1
  have he : py M e = some q := by cases e <;> first | exact q1 | cases q1
  have gen : (match py M d, py M e with
    | some a, some b => if SeqAt.shaped a = true ∧ SeqAt.shaped b = true then some (PyData.eqv a b) else none
    | _, _ => none) = some (deq d e) := by
    rw [hd, he]
    simp only [sp, sq, and_self, if_true, hk]
  unfold eqB
  split
  · rw [deq]
  · rw [deq]
  · rw [deq]
  · exact gen
theorem deqs_map {α : Type} [DecidableEq α] {f : α → D} (hf : ∀ a b, deq (f a) (f b) = decide (a = b)) : ∀ xs ys : List α, deqs (xs.map f) (ys.map f) = decide (xs = ys)
  | [], [] => by simp [deqs]
  | [], y :: ys => by simp [deqs]
  | x :: xs, [] => by simp [deqs]
  | x :: xs, y :: ys => by
    rw [List.map_cons, List.map_cons, deqs, hf, deqs_map hf xs ys]
    by_cases h : x = y <;> by_cases h' : xs = ys <;> simp [h, h']
@[simp] theorem deq_int (a b : Int) : deq (.int a) (.int b) = decide (a = b) := by rw [deq]
@[simp] theorem deq_bl (a b : Bool) : deq (.bl a) (.bl b) = decide (a = b) := by rw [deq]
@[simp] theorem deq_str (a b : Str) : deq (.str a) (.str b) = decide (a = b) := by rw [deq]
@[simp] theorem deq_tup (a b : List D) : deq (.tup a) (.tup b) = deqs a b := by rw [deq]
@[simp] theorem deq_lst (a b : List D) : deq (.lst a) (.lst b) = deqs a b := by rw [deq]
@[simp] theorem deqs_nil : deqs [] [] = true := by rw [deqs]
@[simp] theorem deqs_nc {a as} : deqs [] (a :: as) = false := by simp [deqs]
@[simp] theorem deqs_cn {a as} : deqs (a :: as) [] = false := by simp [deqs]
@[simp] theorem deqs_cons {a b as bs} : deqs (a :: as) (b :: bs) = (deq a b && deqs as bs) := by rw [deqs]
@[simp] theorem deq_non : deq .non .non = true := by rw [deq]
@[simp] theorem deqs_ints {a b : List Int} : deqs (a.map .int) (b.map .int) = decide (a = b) := deqs_map (fun x y => deq_int x y) a b
end CI

/-! N22: memories that are written out -/
namespace CI
open PySem PySem.Spec PyProof.Rows L2
section
variable {kl : List Bool} {M A B Me : Mem} {ρ : Slots} {a b : O} {d : D} {ds : List D} {k : Nat}
theorem trimOk_nil : trimOk [] Me := ⟨Nat.zero_le _, fun k o hk _ => by simp at hk⟩
@[simp] theorem tidy_nil (h : nlS 0 (keepD kl ρ) = true) : tidy kl [] ρ Me = (keepD kl ρ, []) := tidy_trim trimOk_nil h
@[simp] theorem tidy_cons (t : trimC (A.length + 1) (a :: A) (b :: B)) (h : nlS (A.length + 1) (keepD kl ρ) = true) : tidy kl (a :: A) ρ (b :: B) = (keepD kl ρ, b :: B.take A.length) := tidy_C t h
@[simp] theorem finK_nil (h : nl 0 d = true) : finK [] (.val d) Me = (.val d, []) := finK_val trimOk_nil h
@[simp] theorem finK_nilN (h : nls 0 ds = true) : finK [] (.new ds) Me = (.new ds, []) := finK_new trimOk_nil h
end
@[simp] theorem nls_take {n k : Nat} {ds : List D} (h : nls n ds = true) : nls n (ds.take k) = true := by
  have : nls n (ds.take k ++ ds.drop k) = true := by rw [List.take_append_drop]; exact h
  rw [nls_app, Bool.and_eq_true] at this
  exact this.1
@[simp] theorem nls_drop {n k : Nat} {ds : List D} (h : nls n ds = true) : nls n (ds.drop k) = true := by
  have : nls n (ds.take k ++ ds.drop k) = true := by rw [List.take_append_drop]; exact h
  rw [nls_app, Bool.and_eq_true] at this
  exact this.2
end CI

/-! N23: enumerate of a tuple -/
namespace CI
open PySem PySem.Spec PyProof.Rows L2
open AutoSeq1 (wpAny_loadPart')
section enumT
variable {pg : Program} {wd : World} {Ar : Around} {Er : Value → Shared → Prop} {sh : Shared} {e it tu : Addr} {i : Nat} {items : Array Value} {x old : Value}
end enumT
def iEnT (f : Ef) : If := fun ρ M => (f ρ M).bind fun p => match p.1.d with
  | .tup ds => some (enD ds, none, p.2)
  | .lst ds => some (enD ds, none, p.2)
  | .scr ns => some (enD (ns.map .int), none, p.2)
  | _ => none
def iEnT1 (p : Rz × Mem) : Option (List D × Option Nat × Mem) := match p.1.d with | .tup ds => some (enD ds, none, p.2) | .lst ds => some (enD ds, none, p.2) | .scr ns => some (enD (ns.map .int), none, p.2) | _ => none
section
variable {f : Ef} {ρ : Slots} {M : Mem} {ds : List D}
@[simp] theorem iEnT_ap : iEnT f ρ M = bnd iEnT1 (f ρ M) := rfl
@[simp] theorem iEnT1_tup : iEnT1 (.val (.tup ds), M) = some (enD ds, none, M) := rfl
@[simp] theorem iEnT1_lst : iEnT1 (.val (.lst ds), M) = some (enD ds, none, M) := rfl
@[simp] theorem iEnT1_new : iEnT1 (.new ds, M) = some (enD ds, none, M) := rfl
end
end CI

/-! N24: stores at places -/
namespace CI
open PySem PySem.Spec PyProof.Rows L2
section
variable {d : D} {ρ : Slots} {k : Nat} {i : Int} {M : Mem} {es : List D} {j : Nat}
def gIx4 (d : D) (ρ : Slots) (k : Nat) (i : Int) (M : Mem) (es : List D) : Option (Slots × Mem) := (ixN es.length i).bind (gIx3 d k i ρ M es)
@[simp] theorem gIx2_loc : gIx2 d ρ (.loc k) (.val (.int i), M) = bnd (gIx4 d ρ k i M) (lsO M[k]?) := by
  show (match M[k]? with | some (.lst es) => (ixN es.length i).bind (gIx3 d k i ρ M es) | _ => none) = _
  cases M[k]? with
  | none => rfl
  | some o => cases o <;> rfl
@[simp] theorem gIx4_ap : gIx4 d ρ k i M es = bnd (gIx3 d k i ρ M es) (ixN es.length i) := rfl
@[simp] theorem gIx3_ap : gIx3 d k i ρ M es j = some (ρ, M.set k (.lst (es.set j d))) := rfl
end
@[simp] theorem nls_set {n : Nat} {e : D} (he : nl n e = true) : ∀ {ds : List D} {i : Nat}, nls n ds = true → nls n (ds.set i e) = true
  | [], _, _ => rfl
  | d :: ds, 0, h => by
    rw [nls_cons, Bool.and_eq_true] at h
    rw [List.set_cons_zero, nls_cons, he, h.2]; rfl
  | d :: ds, i + 1, h => by
    rw [nls_cons, Bool.and_eq_true] at h
    rw [List.set_cons_succ, nls_cons, h.1, nls_set he h.2]; rfl
end CI

/-! N25: x in range(..) -/
namespace CI
open PySem PySem.Spec PyProof.Rows L2
section
variable {X : Cx} {a b c : Expr} {fa fb fc : Ef} {p pos pos2 : Pos}
/-- x in range(lo, hi) -/
def cInR (neg : Bool) (fa fb fc : Ef) : Ef := fun ρ M => (fa ρ M).bind fun p => (fb ρ p.2).bind fun q => (fc ρ q.2).bind fun r => match p.1.d, q.1.d, r.1.d with
  | .int i, .int lo, .int hi => some (.val (.bl (if neg then !decide (lo ≤ i ∧ i < hi) else decide (lo ≤ i ∧ i < hi))), r.2)
  | _, _, _ => none
def cInR1 (neg : Bool) (fa fc : Ef) : Ef := cInR neg fa (cInt 0) fc
def inR3 (neg : Bool) (d e : D) (r : Rz × Mem) : Option (Rz × Mem) := match d, e, r.1.d with
  | .int i, .int lo, .int hi => some (.val (.bl (if neg then !decide (lo ≤ i ∧ i < hi) else decide (lo ≤ i ∧ i < hi))), r.2)
  | _, _, _ => none
def inR2 (neg : Bool) (fc : Ef) (ρ : Slots) (d : D) (q : Rz × Mem) : Option (Rz × Mem) := (fc ρ q.2).bind (inR3 neg d q.1.d)
def inR1 (neg : Bool) (fb fc : Ef) (ρ : Slots) (p : Rz × Mem) : Option (Rz × Mem) := (fb ρ p.2).bind (inR2 neg fc ρ p.1.d)
variable {ρ : Slots} {M : Mem} {neg : Bool} {r : Rz} {d : D} {i lo hi : Int}
@[simp] theorem cInR_ap : cInR neg fa fb fc ρ M = bnd (inR1 neg fb fc ρ) (fa ρ M) := rfl
@[simp] theorem cInR1_ap : cInR1 neg fa fc ρ M = bnd (inR1 neg (cInt 0) fc ρ) (fa ρ M) := rfl
@[simp] theorem inR1_ap : inR1 neg fb fc ρ (r, M) = bnd (inR2 neg fc ρ r.d) (fb ρ M) := rfl
@[simp] theorem inR2_ap : inR2 neg fc ρ d (r, M) = bnd (inR3 neg d r.d) (fc ρ M) := rfl
@[simp] theorem inR3_ap : inR3 neg (.int i) (.int lo) (.val (.int hi), M) = some (.val (.bl (if neg then !decide (lo ≤ i ∧ i < hi) else decide (lo ≤ i ∧ i < hi))), M) := rfl
end
end CI

/-! N26: small helps for walks: == of objects, results that hold an object, loops with an accumulating list -/
namespace CI
open PySem PySem.Spec PyProof.Rows L2
theorem py_loc {M : Mem} {k : Nat} {es : List D} (hk : M[k]? = some (.lst es)) : py M (.loc k) = py M (.lst es) := by
  have a : py M (.loc k) = (py0s es).map PyData.list := by
    show (match M[k]? with | some (.lst ds) => (py0s ds).map PyData.list | _ => none) = _
    rw [hk]
  have b : py M (.lst es) = (py0s es).map PyData.list := by
    show py0 (.lst es) = _
    rw [py0]
  rw [a, b]
theorem eqB_locL {M : Mem} {k : Nat} {es : List D} {e : D} (hk : M[k]? = some (.lst es)) : eqB M (.loc k) e = eqB M (.lst es) e := by
  have h := py_loc hk
  unfold eqB
  cases e <;> simp only [h]
theorem eqB_locR {M : Mem} {k : Nat} {es : List D} {e : D} (hk : M[k]? = some (.lst es)) : eqB M e (.loc k) = eqB M e (.lst es) := by
  have h := py_loc hk
  unfold eqB
  cases e <;> simp only [h]
end CI

/-! N27: lists lent to a def that only reads them -/
namespace CI
open PySem PySem.Spec PyProof.Rows L2
mutual
/-- no list and no place in it: numbers, words, tuples of such -/
def flat : D → Bool
  | .tup ds => flats ds
  | .lst _ => false
  | .loc _ => false
  | _ => true
def flats : List D → Bool
  | [] => true
  | d :: ds => flat d && flats ds
end
def flatR : Rz → Bool
  | .val d => flat d
  | .new ds => flats ds
def lend (M : Mem) (d : D) : D := match d with
  | .loc k => match M[k]? with
    | some (.lst ds) => .lst ds
    | _ => .loc k
  | d => d
def cLend1 (F : Fn) (p : List D × Mem) : Option (Rz × Mem) :=
  if nls 0 (p.1.map (lend p.2)) = true then (F (p.1.map (lend p.2)) []).bind fun q => if q.2 = [] ∧ flatR q.1 = true then some (q.1, p.2) else none else none
def cLend (F : Fn) (g : Af) : Ef := fun ρ M => (g ρ M).bind (cLend1 F)
section
variable {K : PySem.W.Frag} {H : Hp} {m : List Addr} {M : Mem}
mutual
theorem Rl.up : ∀ {d : D} {v : V}, flat d = true → Rl K H [] d v → Rl K H m d v
  | .non, _, _, h => h
  | .bl _, _, _, h => h
  | .int _, _, _, h => h
  | .str _, _, _, h => h
  | .scr _, _, _, h => h
  | .tup ds, _, f, h => by
    rw [Rl] at h ⊢
    obtain ⟨a, vs, h1, h2, h3⟩ := h
    rw [flat] at f
    exact ⟨a, vs, h1, h2, Rls.up f h3⟩
  | .lst _, _, f, _ => by rw [flat] at f; cases f
  | .loc _, _, f, _ => by rw [flat] at f; cases f
theorem Rls.up : ∀ {ds : List D} {vs : List V}, flats ds = true → Rls K H [] ds vs → Rls K H m ds vs
  | [], _, _, h => by rw [Rls] at h ⊢; exact h
  | d :: ds, _, f, h => by
    rw [Rls] at h ⊢
    obtain ⟨v, r, h1, h2, h3⟩ := h
    rw [flats, Bool.and_eq_true] at f
    exact ⟨v, r, h1, Rl.up f.1 h2, Rls.up f.2 h3⟩
end
theorem lend_ok {d : D} {v : V} (w : Wd K H m M) (r : Rl K H m d v) (n : nl 0 (lend M d) = true) : Rl K H [] (lend M d) v := by
  have cut : ∀ {d : D} {v : V}, nl 0 d = true → Rl K H m d v → Rl K H [] d v := fun n r => Rl.cut (m := []) (l := m) r n
  cases d with
  | loc k =>
    unfold lend at n ⊢
    simp only at n ⊢
    cases q : M[k]? with
    | none => rw [q] at n; simp [nl] at n
    | some o =>
      rw [q] at n
      cases o with
      | lst ds =>
        simp only at n ⊢
        rw [Rl] at r
        obtain ⟨a, rfl, hk⟩ := r
        have ro := w.at_ k a _ hk q
        obtain ⟨vs, h1, h2⟩ := ro
        rw [Rl]
        refine ⟨a, vs, rfl, by simp, h1, ?_⟩
        exact Rls.cut' (m := []) (l := m) h2 (by simpa [nl] using n)
      | ins c fs => simp [nl] at n
      | dct kv => simp [nl] at n
  | _ => exact cut n r
theorem lends_ok (w : Wd K H m M) : ∀ {ds : List D} {vs : List V}, Rls K H m ds vs → nls 0 (ds.map (lend M)) = true → Rls K H [] (ds.map (lend M)) vs
  | [], _, r, _ => by rw [Rls] at r; rw [List.map_nil, Rls]; exact r
  | d :: ds, _, r, n => by
    rw [Rls] at r
    obtain ⟨v, vs, rfl, h1, h2⟩ := r
    rw [List.map_cons, nls, Bool.and_eq_true] at n
    rw [List.map_cons, Rls]
    exact ⟨v, vs, rfl, lend_ok w h1 n.1, lends_ok w h2 n.2⟩
/-- what a def did that held nothing: all that stood stands -/
theorem back_ok (w : Wd K H m M) {H1 : Hp} {m1 : List Addr} (e : Ext H [] H1 m1) (w1 : Wd K H1 m1 []) : Ext H m H1 m ∧ Wd K H1 m M := by
  have hm1 : m1 = [] := List.length_eq_zero_iff.mp w1.len
  subst hm1
  have e2 : Ext H m H1 m := ⟨e.tup, e.frz, fun a u _ h => e.oth a u (by simp) h, e.trk, [], by simp, fun _ h => nomatch h⟩
  refine ⟨e2, w.len, w.nd, fun k a o h1 h2 => ?_⟩
  have ro := w.at_ k a o h1 h2
  obtain ⟨u, h3, _⟩ := ro.there
  exact ro.ext e2 (by rw [h3]; exact e.oth a u (by simp) h3)
end
section
variable {X : Cx} {k : Nat} {f : Addr} {fd : FuncData} {ps : List Str} {x m c : Str} {p pos apos : Pos} {e o : Expr} {es : List Expr} {G : Fn} {fo : Ef} {g : Af}
theorem lend_of {σ : L2.St} {H : Hp} {Q : VK} {E : XK} (h : tE X.K (cLend G g) σ H Q) : tCall (spF X.K G) [] E (tA X.K g) σ H Q := by
  obtain ⟨ρ, M, m, z, M', rs, w, hf, P⟩ := h
  unfold cLend at hf
  cases ea : g ρ M with
  | none => rw [ea] at hf; cases hf
  | some p =>
    rw [ea] at hf
    simp only [Option.bind_some] at hf
    unfold cLend1 at hf
    split at hf
    · rename_i hc
      cases eb : G (p.1.map (lend p.2)) [] with
      | none => rw [eb] at hf; cases hf
      | some q =>
        rw [eb] at hf
        simp only [Option.bind_some] at hf
        split at hf
        · rename_i hq
          cases hf
          refine bindA rs w ea fun H1 m1 vs e1 w1 rs1 r1 => ?_
          obtain ⟨q1, q2⟩ := q
          simp only at hq hc
          obtain ⟨rfl, hfl⟩ := hq
          refine ⟨p.1.map (lend p.2), [], [], q1, [], by rw [List.append_nil]; exact lends_ok w1 r1 hc, ⟨rfl, .nil, fun _ _ _ h => by cases h⟩, eb, ?_⟩
          intro H2 m2 e2 w2
          obtain ⟨e3, w3⟩ := back_ok w1 e2 w2
          have hm2 : m2 = [] := List.length_eq_zero_iff.mp w2.len
          subst hm2
          have P2 := P H2 m1 (e1.trans e3) w3
          cases q1 with
          | val d => exact fun v r => P2 v (Rl.up hfl r)
          | new ds => exact fun vs a r n => P2 vs a (Rls.up hfl r) n
        · cases hf
    · cases hf
theorem ce_lend (F : FnOk X.prog X.w X.K X.mg X.base CX0 k f fd ps (spF X.K G)) (hr : Room k X.A) (hg : Gl X x) (hm : X.mg x = some (.ref f)) (hk : PySem.W.keepIn X.K (.ref f) = true) (hb : Binds X.K fd ps [])
    (ha : CAx X (e :: es) g) (hdb : (x == ("__debug__" : Str)) = false := by decide) (he : starEach (e :: es) X.env = (false, eval e X.env) :: starEach es X.env := by rfl) (hpl : (backTo pos (starEach es X.env)).any (·.1) = false := by rfl) :
    CEx X (.Call (.Name x p) (e :: es) [] pos) (cLend G g) := PE.imp (pe_call F hr hg hm hk hb .nil pass0 ha hdb he hpl) fun _ _ _ h => lend_of h
end
@[simp] theorem cLend_ap {F : Fn} {g : Af} {ρ : Slots} {M : Mem} : cLend F g ρ M = bnd (cLend1 F) (g ρ M) := rfl
end CI

/-! N28: written dicts: d[k], k in d for a dict of the module's top -/
namespace CI
open PySem PySem.Spec PyProof.Rows L2
def keyD : D → Option Key
  | .int i => some (.inl i)
  | .str x => some (.inr x)
  | _ => none
def lkD (kvs : List (Key × D)) (k : Key) : Option D := (kvs.find? fun p => decide (p.1 = k)).map (·.2)
@[simp] theorem lkD_nil {k : Key} : lkD [] k = none := rfl
@[simp] theorem lkD_cons {k : Key} {p : Key × D} {kvs : List (Key × D)} : lkD (p :: kvs) k = if p.1 = k then some p.2 else lkD kvs k := by
  unfold lkD
  rw [List.find?_cons]
  by_cases h : p.1 = k <;> simp [h]
theorem keyIs_inj {v : Value} {a b : Key} (ha : keyIs a v = true) (hb : keyIs b v = true) : a = b := by
  rcases keyIs_shape ha with ⟨i, t, rfl, rfl⟩ | ⟨x, t, rfl, rfl⟩
  · rcases keyIs_shape hb with ⟨j, u, rfl, e⟩ | ⟨y, u, rfl, e⟩
    · injection e with e1 _; rw [e1]
    · exact nomatch e
  · rcases keyIs_shape hb with ⟨j, u, rfl, e⟩ | ⟨y, u, rfl, e⟩
    · exact nomatch e
    · injection e with e1 _; rw [e1]
theorem ents_find {K : PySem.W.Frag} {w : World} (k : Key) : ∀ {es : List DictEntry} {ps : List (Key × D)}, Ents K w es ps → match lkD ps k with
    | some d => ∃ e, es.find? (fun e => keyIs k e.key) = some e ∧ cv K d e.val = true
    | none => es.find? (fun e => keyIs k e.key) = none
  | [], [], _ => rfl
  | [], _ :: _, h => h.elim
  | _ :: _, [], h => h.elim
  | e :: es, p :: ps, h => by
    obtain ⟨⟨h1, h2, h3⟩, h4⟩ := h
    rw [lkD_cons, List.find?_cons]
    by_cases z : p.1 = k
    · rw [if_pos z, ← z, h1]
      exact ⟨e, rfl, h3⟩
    · have n : keyIs k e.key = false := by
        cases q : keyIs k e.key with
        | false => rfl
        | true => exact absurd (keyIs_inj h1 q) z
      rw [if_neg z, n]
      exact ents_find k h4
theorem ents_keys {K : PySem.W.Frag} {w : World} : ∀ {es : List DictEntry} {ps : List (Key × D)}, Ents K w es ps → ∀ e ∈ es, ∃ k, keyIs k e.key = true ∧ e.hash = keyH w k
  | [], [], _, _, h => nomatch h
  | [], _ :: _, h, _, _ => h.elim
  | _ :: _, [], h, _, _ => h.elim
  | e :: es, p :: ps, h, x, hx => by
    rcases List.mem_cons.mp hx with rfl | q
    · exact ⟨p.1, h.1.1, h.1.2.1⟩
    · exact ents_keys h.2 x q
theorem WD.map {K : PySem.W.Frag} {w : World} {P : Program} {h : Heap} {a : Addr} {kvs : List (Key × D)} (W : WD K w a kvs) (X : K.In h) : ∃ f : Key → Option Value, h.MapOf (mixKind P w) a f ∧ (a == sysModules) = false ∧ ∀ k, match lkD kvs k with
    | some d => ∃ v x, f k = some v ∧ RelV x v ∧ ∀ H m, Rl K H m d x
    | none => f k = none := by
  obtain ⟨es, n, h1, h2, h3⟩ := W
  refine ⟨fun k => findBy keyIs es k, ⟨_, es, n, X _ _ h1, ⟨rfl, rfl, rfl⟩, rfl, fun e he => ?_, fun _ => rfl⟩, h2, fun k => ?_⟩
  · exact ents_keys h3 e (Array.mem_toList_iff.mpr he)
  · have := ents_find k h3
    have e1 : findBy keyIs es k = (es.toList.find? fun e => keyIs k e.key).map (·.val) := by
      obtain ⟨l⟩ := es
      unfold findBy
      rw [List.find?_toArray]
    dsimp only
    rw [e1]
    cases q : lkD kvs k with
    | none => rw [q] at this; simp only at this ⊢; rw [this]; rfl
    | some d =>
      rw [q] at this
      obtain ⟨e, h4, h5⟩ := this
      obtain ⟨x, h6, h7⟩ := cv_ok h5
      simp only
      rw [h4]
      exact ⟨e.val, x, rfl, h6, h7⟩
/-! ### expressions -/
def cGIx (kvs : List (Key × D)) (f : Ef) : Ef := fun ρ M => (f ρ M).bind fun p => (keyD p.1.d).bind fun k => (lkD kvs k).bind fun d => some (.val d, p.2)
section
variable {X : Cx} {a b : Expr} {x : Str} {f : Ef} {p pos : Pos} {kvs : List (Key × D)} {ad : Addr}
end
/-! ### reckoning -/
section
variable {ρ : Slots} {M : Mem} {f : Ef} {kvs : List (Key × D)} {neg : Bool}
def gix1 (kvs : List (Key × D)) (M : Mem) (k : Key) : Option (Rz × Mem) := (lkD kvs k).bind fun d => some (.val d, M)
def cGIx1 (kvs : List (Key × D)) (p : Rz × Mem) : Option (Rz × Mem) := (keyD p.1.d).bind (gix1 kvs p.2)
@[simp] theorem cGIx_ap : cGIx kvs f ρ M = bnd (cGIx1 kvs) (f ρ M) := rfl
end
end CI

/-! N29: dicts of one's own: displays, d[k], k in d, d[k] = v; results without what was made on the way -/
namespace CI
open PySem PySem.Spec PyProof.Rows L2
/-- in its place, or at the end -/
def putKD (kvs : List (Key × D)) (k : Key) (d : D) : List (Key × D) := if (kvs.any fun p => decide (p.1 = k)) = true then kvs.map (fun p => if p.1 = k then (p.1, d) else p) else kvs ++ [(k, d)]
section
variable {K : PySem.W.Frag} {H : Hp} {m : List Addr} {M : Mem}
theorem Rks.any_ {k : Key} : ∀ {kvs : List (Key × D)} {gs : List (Key × V)}, Rks K H m kvs gs → (gs.any fun p => decide (p.1 = k)) = kvs.any fun p => decide (p.1 = k)
  | [], _, h => by rw [Rks] at h; subst h; rfl
  | (f, d) :: kvs, _, h => by
    rw [Rks] at h
    obtain ⟨v, r, rfl, h1, h2⟩ := h
    rw [List.any_cons, List.any_cons, Rks.any_ h2]
theorem Rks.repl {k : Key} {d : D} {v : V} (rd : Rl K H m d v) : ∀ {kvs : List (Key × D)} {gs : List (Key × V)}, Rks K H m kvs gs → Rks K H m (kvs.map fun p => if p.1 = k then (p.1, d) else p) (gs.map fun p => if p.1 = k then (p.1, v) else p)
  | [], _, h => by rw [Rks] at h; subst h; rw [List.map_nil, Rks]; rfl
  | (f, e) :: kvs, _, h => by
    rw [Rks] at h
    obtain ⟨u, r, rfl, h1, h2⟩ := h
    rw [List.map_cons, List.map_cons]
    by_cases z : f = k
    · rw [if_pos z, if_pos z, Rks]; exact ⟨v, _, rfl, rd, Rks.repl rd h2⟩
    · rw [if_neg z, if_neg z, Rks]; exact ⟨u, _, rfl, h1, Rks.repl rd h2⟩
theorem Rks.snoc {k : Key} {d : D} {v : V} (rd : Rl K H m d v) : ∀ {kvs : List (Key × D)} {gs : List (Key × V)}, Rks K H m kvs gs → Rks K H m (kvs ++ [(k, d)]) (gs ++ [(k, v)])
  | [], _, h => by rw [Rks] at h; subst h; rw [List.nil_append, List.nil_append, Rks]; exact ⟨v, [], rfl, rd, by rw [Rks]⟩
  | (f, e) :: kvs, _, h => by
    rw [Rks] at h
    obtain ⟨u, r, rfl, h1, h2⟩ := h
    rw [List.cons_append, List.cons_append, Rks]
    exact ⟨u, _, rfl, h1, Rks.snoc rd h2⟩
theorem Rks.put {k : Key} {d : D} {v : V} (rd : Rl K H m d v) {kvs : List (Key × D)} {gs : List (Key × V)} (h : Rks K H m kvs gs) : Rks K H m (putKD kvs k d) (putK gs k v) := by
  unfold putKD putK
  rw [h.any_]
  split
  · exact h.repl rd
  · exact h.snoc rd
theorem Rks.length : ∀ {kvs : List (Key × D)} {gs : List (Key × V)}, Rks K H m kvs gs → kvs.length = gs.length
  | [], _, h => by rw [Rks] at h; subst h; rfl
  | (f, e) :: kvs, _, h => by
    rw [Rks] at h
    obtain ⟨u, r, rfl, h1, h2⟩ := h
    rw [List.length_cons, List.length_cons, Rks.length h2]
end
/-! ### displays -/
abbrev Pf := Slots → Mem → Option (List (Key × D) × Mem)
def tPf (K : PySem.W.Frag) (r : Pf) (trs : List (TE × TE)) : Prop := ∀ σ H (Q : List (V × V) → Hp → Prop), (∃ ρ M m kvs M', Rs K H m ρ σ ∧ Wd K H m M ∧ r ρ M = some (kvs, M') ∧ ∀ H1 m1 gs, Ext H m H1 m1 → Wd K H1 m1 M' → Rks K H1 m1 kvs gs → Q (gs.map fun p => (kV p.1, p.2)) H1) → tPairs trs σ H Q
structure CPs (X : Cx) (pos : Pos) (keys : List (Option Expr)) (values : List Expr) (r : Pf) : Prop where
  pps : ∃ trs, PPs X pos keys values trs ∧ tPf X.K r trs
  all : keys.all (·.isSome) = true
  len : keys.length = values.length
section
variable {X : Cx} {pos : Pos} {k v : Expr} {ks : List (Option Expr)} {vs : List Expr} {fk fv : Ef} {r : Pf}
end
/-! ### d[k], k in d -/
section
variable {X : Cx} {pos pos' : Pos} {o i value : Expr} {fd fk fv : Ef}
/-! ### d[k] = v -/
/-! ### a result without what was made on the way -/
end
end CI

/-! N30: attributes as targets of an unpacking; xs.count(k); sep.join(xs) -/
namespace CI
open PySem PySem.Spec PyProof.Rows L2
section
variable {X : Cx} {o : Expr} {n : Str} {pos : Pos} {fo : Ef} {cs : List Str}
/-! ### count, join -/
end
end CI

/-! N31: a new list inside a returned tuple becomes a value -/
namespace CI
open PySem PySem.Spec PyProof.Rows L2
mutual
def resD (n : Nat) (Me : Mem) : D → Option D
  | .loc k => if k < n then some (.loc k) else match Me[k]? with
    | some (.lst ds) => if nls n ds = true then some (.lst ds) else none
    | _ => none
  | .tup ds => (resDs n Me ds).map .tup
  | .lst ds => if nls n ds = true then some (.lst ds) else none
  | .non => some .non
  | .bl b => some (.bl b)
  | .int i => some (.int i)
  | .str x => some (.str x)
  | .scr x => some (.scr x)
def resDs (n : Nat) (Me : Mem) : List D → Option (List D)
  | [] => some []
  | d :: ds => (resD n Me d).bind fun e => (resDs n Me ds).map fun es => e :: es
end
section
variable {K : PySem.W.Frag} {H H0 : Hp} {m l : List Addr} {M Me : Mem}
open Classical in
noncomputable def finR (M : Mem) (r : Rz) (Me : Mem) : Rz × Mem := match r with
  | .val (.tup ds) => if trimOk M Me then (match resD M.length Me (.tup ds) with
    | some e => (.val e, Me.take M.length)
    | none => finK M r Me) else finK M r Me
  | r => finK M r Me
end
noncomputable def mkFnR (np ns : Nat) (body : Sf) : Fn := fun ds M => if ds.length = np then (match body (ds.map some ++ List.replicate (ns - ds.length) none) M with
  | some (.rt r, _, Me) => some (finR M r Me)
  | some (.nx, _, Me) => some (finR M (.val .non) Me)
  | _ => none) else none
section
variable {P : Program} {w : World} {K : PySem.W.Frag} {mg : Str → Option Value} {base : Heap} {x qual : Str} {params : Arguments} {body : List Stmt} {scope : Scope} {f : Addr} {fd : FuncData}
end
end CI

/-! N32: the least and greatest of a list of ints; range with a step -/
namespace CI
open PySem PySem.Spec PyProof.Rows L2
section
variable {X : Cx}
end
/-! ### range with a step -/
section
variable {K : PySem.W.Frag} {H : Hp} {m : List Addr} {M : Mem}
end
section
variable {X : Cx} {tg e a b c : Expr} {f fa fb fc : Ef} {p pos : Pos}
end
end CI

/-! N33: the two ways of a world, where the top holds a dict -/
namespace CI
open PySem PySem.Spec PyProof.Rows L2
end CI

/-! N34: in of a tuple of data of any depth -/
namespace CI
open PySem PySem.Spec PyProof.Rows L2
section
variable {X : Cx}
def anyE (neg : Bool) (p : PyData) (ps : List PyData) : Bool := if neg = true then !(ps.any fun z => PyData.eqv z p) else ps.any fun z => PyData.eqv z p
theorem any_deq {n m : Nat} {d : D} {p : PyData} (hp : py0 d = some p) (h1 : plS n d = true) : ∀ {es : List D} {ps : List PyData}, py0s es = some ps → es.all (plS m) = true → (ps.any fun z => PyData.eqv z p) = es.any fun e => deq e d
  | [], ps, h, _ => by cases h; rfl
  | e :: es, ps, h, h2 => by
    rw [List.all_cons, Bool.and_eq_true] at h2
    rw [py0s] at h
    cases q : py0 e with
    | none => rw [q] at h; cases h
    | some p2 =>
      cases q2 : py0s es with
      | none => rw [q, q2] at h; cases h
      | some ps2 =>
        rw [q, q2] at h; cases h
        rw [List.any_cons, List.any_cons, deq_py m n e d p2 p q hp h2.1 h1, any_deq hp h1 q2 h2.2]
theorem hu65 {k : Nat} {A : Around} (hr : Room k A) : A.units + 65 < cLine := by have := hr.un; omega
end
end CI

/-! N35: a op b op' c op'' d -/
namespace CI
open PySem PySem.Spec PyProof.Rows L2
section
variable {X : Cx} {a b c d : Expr} {pos : Pos} {fa fb fc fd : Ef} {o o' o'' : Bop}
end
end CI

/-! N36: == of dicts whose values are data -/
namespace CI
open PySem PySem.Spec PyProof.Rows L2
section
variable {X : Cx}
/-- what each key of ks has in ls, compared -/
inductive HitV (K : PySem.W.Frag) (H : Hp) (ls : List (Key × V)) : List (Key × V) → Bool → Prop
  | nil : HitV K H ls [] true
  | cons {k : Key} {v y : V} {r : List (Key × V)} {p q : PyData} {b : Bool} : valV ls k = some y → Dp K H v p → Dp K H y q → SeqAt.shaped p = true → SeqAt.shaped q = true → HitV K H ls r b → HitV K H ls ((k, v) :: r) (PyData.eqv p q && b)
end
end CI

/-! N37: a, b = x, y with names of the def (the machine stores them without a tuple) -/
namespace CI
open PySem PySem.Spec PyProof.Rows L2
section
variable {X : Cx}
end
end CI

/-! N38: loops over enumerate of an own list that stays as it is -/
namespace CI
open PySem PySem.Spec PyProof.Rows L2
structure YlE (K : PySem.W.Frag) (H0 : Hp) (m0 : List Addr) (J : It) (is ds : List D) (gk : Option Nat) : Prop where
  go : ∀ i H m, i < is.length → Ext H0 m0 H m → GdOk K gk ds H m → J.go i H
  yld : ∀ i d H m M x H', is[i]? = some d → Ext H0 m0 H m → GdOk K gk ds H m → Wd K H m M → J.yld i H x H' → Ext H m H' m ∧ Wd K H' m M ∧ Rl K H' m d x
  stop : ∀ H m, Ext H0 m0 H m → GdOk K gk ds H m → J.stop is.length H
theorem YlE.of {K : PySem.W.Frag} {H : Hp} {m : List Addr} {J : It} {is ds : List D} (y : Yl K H m J is none) : YlE K H m J is ds none :=
  ⟨fun i H1 m1 hi e _ => y.go i H1 m1 hi e gd_none, fun i d H1 m1 M1 x H' q e _ w z => y.yld i d H1 m1 M1 x H' q e gd_none w z, fun H1 m1 e _ => y.stop H1 m1 e gd_none⟩
section
variable {X : Cx} {iter : Expr} {body : List Stmt} {g : Gf} {fb : Sf} {pos : Pos}
end
end CI

/-! N39: exceptions as tagged values: calls of defs that may raise -/
namespace CI
open PySem PySem.Spec PyProof.Rows L2
def xTag : Str := "!raised"
def mkX (c f : Str) (d : D) : D := .tup [.str xTag, .str c, .str f, d]
def flatV : D → Option V
  | .int i => some (.int i)
  | .str x => some (.str x)
  | _ => none
def asX : D → Option (Str × Str × D)
  | .tup [.str t, .str c, .str f, .int i] => if t = xTag then some (c, f, .int i) else none
  | .tup [.str t, .str c, .str f, .str x] => if t = xTag then some (c, f, .str x) else none
  | _ => none
/-- what is wanted where the exception (c with f = d) leaves -/
def XOut (K : PySem.W.Frag) (H : Hp) (m : List Addr) (c f : Str) (d : D) (M' : Mem) (Q : XK) : Prop := ∀ H1 m1, Ext H m H1 m1 → Wd K H1 m1 M' →
  ∀ dx fs v, H1 dx = none → fs.lookup f = some v → flatV d = some v → Q (.ref (He.ga K c)) (some dx) (upd H1 dx (.xd fs))
def PostX (K : PySem.W.Frag) (H : Hp) (m : List Addr) (r : Rz) (M' : Mem) (Q : VK) (E : XK) : Prop := match asX r.d with
  | none => Post K H m r M' Q
  | some (c, f, d) => XOut K H m c f d M' E
theorem XOut.ext {K : PySem.W.Frag} {H H1 : Hp} {m m1 : List Addr} {c f : Str} {d : D} {M' : Mem} {Q : XK} (P : XOut K H m c f d M' Q) (e : Ext H m H1 m1) : XOut K H1 m1 c f d M' Q :=
  fun H2 m2 e2 w => P H2 m2 (e.trans e2) w
theorem PostX.ext {K : PySem.W.Frag} {H H1 : Hp} {m m1 : List Addr} {r : Rz} {M' : Mem} {Q : VK} {E : XK} (P : PostX K H m r M' Q E) (e : Ext H m H1 m1) : PostX K H1 m1 r M' Q E := by
  unfold PostX at P ⊢
  split at P
  · exact Post.ext P e
  · exact XOut.ext P e
section
variable {X : Cx} {k : Nat} {f : Addr} {fd : FuncData} {ps : List Str} {x m c : Str} {p pos apos : Pos} {e o : Expr} {es : List Expr} {G : Fn} {fo : Ef} {g : Af}
end
end CI

/-! N40: statements that may raise; try .. except -/
namespace CI
open PySem PySem.Spec PyProof.Rows L2
def XOutS (K : PySem.W.Frag) (H : Hp) (m : List Addr) (c f : Str) (d : D) (ρ' : Slots) (M' : Mem) (W : WX) : Prop := ∀ H1 m1 σ1, Ext H m H1 m1 → Wd K H1 m1 M' → Rs K H1 m1 ρ' σ1 →
  ∀ dx fs v, H1 dx = none → fs.lookup f = some v → flatV d = some v → W (.ref (He.ga K c)) (some dx) σ1 (upd H1 dx (.xd fs))
def PostSX (K : PySem.W.Frag) (H : Hp) (m : List Addr) (fl : Fl) (ρ' : Slots) (M' : Mem) (Dn : Ends) (W : WX) : Prop := match fl with
  | .nx => PostN K H m ρ' M' Dn.nx
  | .bk => PostN K H m ρ' M' Dn.bk
  | .ct => PostN K H m ρ' M' Dn.ct
  | .rt r => match asX r.d with
    | none => Post K H m r M' Dn.rt
    | some (c, f, d) => XOutS K H m c f d ρ' M' W
theorem PostSX.ext {K : PySem.W.Frag} {H H1 : Hp} {m m1 : List Addr} {fl : Fl} {ρ' : Slots} {M' : Mem} {Dn : Ends} {W : WX} (P : PostSX K H m fl ρ' M' Dn W) (e : Ext H m H1 m1) : PostSX K H1 m1 fl ρ' M' Dn W := by
  cases fl with
  | nx => exact PostN.ext P e
  | bk => exact PostN.ext P e
  | ct => exact PostN.ext P e
  | rt r =>
    unfold PostSX at P ⊢
    dsimp only at P ⊢
    split at P
    · exact Post.ext P e
    · exact fun H2 m2 σ2 e2 w2 r2 => P H2 m2 σ2 (e.trans e2) w2 r2
section
variable {X : Cx} {st : Stmt} {rest : List Stmt} {f g : Sf} {fe fo : Ef} {ft : Tf} {e : Expr} {pos : Pos}
end
/-! ### the handler: the exception's field is known -/
structure Fct (a dx : Addr) (i : Nat) (fs : List (Str × V)) (σ : L2.St) (H : Hp) (m : List Addr) : Prop where
  sl : σ[i]? = some (some (.ref a))
  at_ : H dx = some (.xd fs)
  nm : dx ∉ m
theorem Fct.ext {a dx : Addr} {i : Nat} {fs : List (Str × V)} {σ : L2.St} {H H1 : Hp} {m m1 : List Addr} (h : Fct a dx i fs σ H m) (e : Ext H m H1 m1) : Fct a dx i fs σ H1 m1 := by
  refine ⟨h.sl, e.oth dx _ h.nm h.at_, fun q => ?_⟩
  obtain ⟨l, rfl, hl⟩ := e.pre
  rcases List.mem_append.mp q with q | q
  · exact h.nm q
  · have := hl dx q
    rw [h.at_] at this
    cases this
/-- what the handler knows: a the exception, dx its dict, dv its field fld, slot i -/
structure Hd where
  a : Addr
  dx : Addr
  i : Nat
  fld : Str
  dv : D
section
variable {X : Cx} {h : Hd} {a b : Expr} {rest : List Expr} {sts : List Stmt} {fa fb fe : Ef} {f : Sf} {pos : Pos} {o : Bop}
end
/-! ### try .. except C as e -/
theorem Rs.clr {K : PySem.W.Frag} {H : Hp} {m : List Addr} {ρ : Slots} {σ : L2.St} {x : Option V} (h : Rs K H m ρ σ) (i : Nat) : Rs K H m (ρ.set i none) (σ.set i x) := by
  refine ⟨by simp [h.1], fun j d q => ?_⟩
  by_cases z : j = i
  · subst z
    obtain ⟨z, _⟩ := List.getElem?_eq_some_iff.mp q
    rw [List.length_set] at z
    rw [List.getElem?_set_self z] at q
    cases q
  · rw [List.getElem?_set_ne (Ne.symm z)] at q
    rw [List.getElem?_set_ne (Ne.symm z)]
    exact h.2 j d q
section
variable {X : Cx} {c fld n : Str} {i : Nat} {body suite : List Stmt} {b₀ : Stmt} {np pos pos' : Pos} {fb : Sf} {hs : D → Sf} {hn : Sf}
end
end CI

/-! N41: defs that may raise; C(e) raised -/
namespace CI
open PySem PySem.Spec PyProof.Rows L2
/-- self.f = y of an exception -/
def spI (K : PySem.W.Frag) (C : Addr) (f : Str) : Sp := fun vs H Q _ => ∃ a y, vs = [.ref a, y] ∧ H a = some (exo a C none) ∧ ∀ dx, H dx = none → dx ≠ a → Q .non (upd (upd H dx (exd dx [(f, y)])) a (exo a C (some dx)))
section
variable {P : Program} {w : World} {K : PySem.W.Frag} {mg : Str → Option Value} {base : Heap} {x qual : Str} {params : Arguments} {body : List Stmt} {scope : Scope} {f : Addr} {fd : FuncData}
theorem init_ok {p0 p1 n : Str} {N ps : List Str} {k : Nat} {C : Addr} (F : FunD K x qual params body scope [] [] f fd) (T : OexC K C) (no : PySem.W.findIn K (.ref C) n = some none) (S : FnScope [p0, p1] [p0, p1] scope)
    (hb : ∀ (cdv : Value) (A : Around) (outer : List Env) (s : Shared) (H : Hp) (E : XK), PSs (cxOf CX0 P w K mg base [p0, p1] qual scope f cdv A outer s H E) body (tOst K n (tVar 0) (tVar 1))) :
    FnOk P w K mg base CX0 (k + 1) f fd [p0, p1] (spI K C n) :=
  F.ok S (fun vs H Q E ⟨a, y, e, _⟩ => by rw [e]; rfl) fun cdv A outer s H vs Q E hr ⟨a, y, e, ha, h⟩ => ⟨_, hb cdv A outer s H E, by
    subst e
    refine ⟨y, rfl, .ref a, rfl, a, C, rfl, T, no, .inl ⟨ha, fun dx n1 n2 => h dx n1 n2⟩⟩⟩
end
section
variable {X : Cx} {k : Nat} {fd : FuncData} {ps : List Str} {c f : Str} {p pos : Pos} {e : Expr} {fe : Ef}
end
/-! ### not e, as a value, of what is no bool -/
end CI

/-! N42: a new list as an object of one's own, within an expression -/
namespace CI
open PySem PySem.Spec PyProof.Rows L2
end CI

/-! N43: the result of a call that may raise is appended -/
namespace CI
open PySem PySem.Spec PyProof.Rows L2
end CI

/-! N44: `[d[x] for x in d if d[x] > 0]`, d an own dict of numbers -/
namespace CI
open PySem PySem.Spec PyProof.Rows L2
section
variable {K : PySem.W.Frag} {H : Hp} {m : List Addr} {M : Mem}
theorem Rks.keys : ∀ {kvs : List (Key × D)} {gs : List (Key × V)}, Rks K H m kvs gs → gs.map (·.1) = kvs.map (·.1)
  | [], _, h => by rw [Rks] at h; subst h; rfl
  | (f, d) :: kvs, _, h => by
    rw [Rks] at h
    obtain ⟨v, r, rfl, h1, h2⟩ := h
    rw [List.map_cons, List.map_cons, Rks.keys h2]
end
end CI

/-! N45: `while (x := e) is not None: ..` -/
namespace CI
open PySem PySem.Spec PyProof.Rows L2
noncomputable def wwK (kl : List Bool) (i : Nat) (fe : Ef) (body : Sf) : Nat → Slots → Mem → Option (Fl × Slots × Mem)
  | 0, _, _ => none
  | n + 1, ρ, M => (fe ρ M).bind fun p => if isNon p.1.d then some (.nx, ρ.set i (some p.1.d), p.2) else (body (ρ.set i (some p.1.d)) p.2).bind fun q => (match q.1 with
      | .nx => wwK kl i fe body n (tidy kl M q.2.1 q.2.2).1 (tidy kl M q.2.1 q.2.2).2
      | .ct => wwK kl i fe body n (tidy kl M q.2.1 q.2.2).1 (tidy kl M q.2.1 q.2.2).2
      | .bk => some (.nx, q.2.1, q.2.2)
      | .rt r => some (.rt r, q.2.1, q.2.2))
noncomputable def sWhileW (kl : List Bool) (n : Nat) (i : Nat) (fe : Ef) (body : Sf) : Sf := fun ρ M => wwK kl i fe body n (keepD kl ρ) M
section
variable {X : Cx} {e : Expr} {body : List Stmt} {fe : Ef} {fb : Sf} {pos px pe pc p3 : Pos}
theorem cs_whileW {kl : List Bool} {n i : Nat} {x : Str} {jj} (hp : PassesOwn (model X.prog X.w) X.A X.env X.xe) (hN : X.N.Nodup) (hi : X.N[i]? = some x) (hx : Loc X.env.scope x) (hf : X.fn x = true ∨ X.env.scope.names.lookup x = some .local) (hm : behindInMarks .IsNot (.Constant .none jj p3) = false) (he : CEx X e fe) (hb : CBx X body fb) :
    CSx X (.While (.Compare (.NamedExpr (.Name x px) e pe) [.IsNot] [.Constant .none jj p3] pc) body [] pos) (sWhileW kl n i fe fb) := by
  obtain ⟨r, o1, o2⟩ := (ok_isnot : OpOk X (compareOp .IsNot) (oIs true))
  refine PS.imp (ps_whileW hp (ptw_cmp o1 (pew_named hN hi hx (pew_of he) hf) pe_non hm) hb pss_nil) fun Dn σ H h => ?_
  obtain ⟨ρ, M, m, fl, ρ', M', rs, w, hf, P⟩ := h
  unfold sWhileW at hf
  refine ⟨fun n σ H1 => ∃ ρ2 M2 m2, Ext H m H1 m2 ∧ Rs X.K H1 m2 ρ2 σ ∧ Wd X.K H1 m2 M2 ∧ wwK kl i fe fb n ρ2 M2 = some (fl, ρ', M'), ⟨n, _, M, m, .refl, rs.keep kl, w, hf⟩, ?_⟩
  rintro n σ H1 ⟨ρ2, M2, m2, e2, rs2, w2, hl⟩
  cases n with
  | zero => cases hl
  | succ n =>
    unfold wwK at hl
    cases et : fe ρ2 M2 with
    | none => rw [et] at hl; cases hl
    | some p =>
      rw [et] at hl
      simp only [Option.bind_some] at hl
      refine bindE rs2 w2 et fun H3 m3 v e3 w3 rs3 r3 => ?_
      refine o2 H3 m3 p.2 p.1.d .non v .non (.val (.bl (true != isNon p.1.d))) _ w3 r3 (by rw [Rl]) rfl (Post.use fun H4 m4 u e4 w4 r4 => ?_)
      rw [show (Rz.val (D.bl (true != isNon p.1.d))).d = .bl (true != isNon p.1.d) from rfl, Rl] at r4
      refine ⟨_, r4, ?_⟩
      have rs4 := (rs3.ext e4).set (r3.ext e4) i
      split at hl
      · rename_i hz
        rw [hz]
        cases hl
        exact P H4 m4 _ ((e2.trans e3).trans e4) w4 rs4
      · rename_i hz
        have hz : isNon p.1.d = false := by simpa using hz
        rw [hz]
        show ite (true = true) _ _
        rw [if_pos rfl]
        cases eb : fb (ρ2.set i (some p.1.d)) p.2 with
        | none => rw [eb] at hl; cases hl
        | some q =>
          obtain ⟨fl1, ρ3, M3⟩ := q
          rw [eb] at hl
          simp only [Option.bind_some] at hl
          refine ⟨fun σ' H' => ∃ m5, Ext H1 m2 H' m5 ∧ Rs X.K H' m5 (tidy kl M2 ρ3 M3).1 σ' ∧ Wd X.K H' m5 (tidy kl M2 ρ3 M3).2 ∧ wwK kl i fe fb n (tidy kl M2 ρ3 M3).1 (tidy kl M2 ρ3 M3).2 = some (fl, ρ', M'),
            fun σ' H' ⟨m5, e5, rs5, w5, hl5⟩ => ⟨n, Nat.lt_succ_self _, _, _, m5, e2.trans e5, rs5, w5, hl5⟩, _, p.2, m4, fl1, ρ3, M3, rs4, w4, eb, ?_⟩
          have PT := P.ext ((e2.trans e3).trans e4)
          have e34 := e3.trans e4
          cases fl1 with
          | nx =>
            intro H5 m5 σ5 e5 w5 rs5
            obtain ⟨m6, e6, w6, rs6⟩ := tidy_ok (kl := kl) w2 (e34.trans e5) w5 rs5
            exact ⟨m6, e6, rs6, w6, hl⟩
          | ct =>
            intro H5 m5 σ5 e5 w5 rs5
            obtain ⟨m6, e6, w6, rs6⟩ := tidy_ok (kl := kl) w2 (e34.trans e5) w5 rs5
            exact ⟨m6, e6, rs6, w6, hl⟩
          | bk =>
            simp only [Option.some.injEq, Prod.mk.injEq] at hl
            obtain ⟨rfl, rfl, rfl⟩ := hl
            exact PT
          | rt r =>
            simp only [Option.some.injEq, Prod.mk.injEq] at hl
            obtain ⟨rfl, rfl, rfl⟩ := hl
            exact PT
end
end CI

/-! N46: list.remove where the items are data of any depth -/
namespace CI
open PySem PySem.Spec PyProof.Rows L2
section
variable {X : Cx}
def rRemD (K : PySem.W.Frag) : V → List V → Hp → VK → Prop := fun x xs H Q => ∃ (a : Addr) (y : V) (vs : List V) (d : PyData) (ds : List PyData) (j : Nat) (z : PyData), x = V.ref a ∧ xs = [y] ∧ H a = some (.lst vs) ∧ DpAll K H vs ds ∧ Dp K H y d ∧
  SeqAt.shaped (.list ds) = true ∧ SeqAt.shaped d = true ∧ ds[j]? = some z ∧ PyData.eqv z d = true ∧ (∀ (m : Nat) (z' : PyData), m < j → ds[m]? = some z' → PyData.eqv z' d = false) ∧ Q .non (upd H a (.lst (vs.eraseIdx j)))
theorem mt_removeD (hu : X.A.units + 65 < cLine) : MtR X "list.remove" (rRemD X.K) := by
  intro pins s σ H x xs v us Q I rx rxs h
  obtain ⟨a, y, vs, d, ds, j, z, rfl, rfl, hH, ha, hy, sl, sd, hz, hzj, hno, q⟩ := h
  cases rx
  obtain ⟨uy, rfl, ry⟩ := rxs.one
  obtain ⟨bs, r1⟩ := Dp.reads I d y uy hy ry
  have hxs : PyData.canLayAll0 ds = true := SeqAt.canLay_of_shaped sl
  have hroom : X.A.units + 1 + min (PyData.depthAll ds) d.depth < cLine := room_in_shaped sd hu
  obtain ⟨zl, its, n, rv, hl, e⟩ := I.lstM hH
  obtain ⟨as, h4⟩ := Dp.readsAll I ds _ its ha rv
  have hn : its.length = ds.length := SeqAt.ReadsAll.length ds its as h4
  have hmap : its.map (SeqAt.readOf s.heap) = ds := SeqAt.readsAll_map ds its as hxs h4
  obtain ⟨hjd, _⟩ := List.getElem?_eq_some_iff.mp hz
  have hjl : j < its.length := by omega
  have hj : j < its.toArray.size := by simpa using hjl
  have at_ : ∀ (m : Nat) (hm : m < its.toArray.size) (z' : PyData), ds[m]? = some z' → SeqAt.readOf s.heap its.toArray[m] = z' := fun m hm z' hz' => by
    have hml : m < its.length := by simpa using hm
    rw [← hmap, List.getElem?_map, List.getElem?_eq_getElem hml] at hz'
    have e1 : SeqAt.readOf s.heap its[m] = z' := Option.some.inj hz'
    simpa using e1
  have hsz : its.toArray.size ≤ sizeLine := by rw [List.size_toArray]; omega
  refine call_meets PySem.F.slot_list_remove ⟨_, e, rfl⟩ PySem.F.entry_list_remove (PySem.F.args_list_remove_2 _ _)
    (SeqAt.list_removeAt a its.toArray n _ _ uy (fun u => PyData.eqv (SeqAt.readOf s.heap u) d) j hj ?_ ?_ hsz) ⟨e, SeqAt.items_eqAt (vs := its.toArray) (show ReadsAll s.heap its.toArray.toList ds as from h4) r1 hxs (SeqAt.canLay_of_shaped sd) hroom, ?_⟩
  · show PyData.eqv (SeqAt.readOf s.heap its.toArray[j]) d = true
    rw [at_ j hj z hz]
    exact hzj
  · intro m hm hmj
    have hmd : m < ds.length := by omega
    have hz' : ds[m]? = some ds[m] := List.getElem?_eq_getElem hmd
    show PyData.eqv (SeqAt.readOf s.heap its.toArray[m]) d = false
    rw [at_ m hm _ hz']
    exact hno m _ hmj hz'
  · refine ⟨.non, _, I.lset (its' := its.eraseIdx j) (t' := s.toks) hH e ?_ (rv.eraseIdx j) ?_, rfl, q⟩
    · show its.toArray.eraseIdxIfInBounds j = (its.eraseIdx j).toArray
      rw [List.eraseIdxIfInBounds_toArray]
    · have := List.length_eraseIdx_le vs j
      omega
/-- the first item that is like y is taken out -/
def oRemove : Mop := fun d ds M => match d, ds with
  | .loc k, [y] => match M[k]? with
    | some (.lst es) => if plS 64 y = true ∧ plS 64 (.lst es) = true then (es.findIdx? fun z => deq z y).map fun j => (.val .non, M.set k (.lst (es.eraseIdx j))) else none
    | _ => none
  | _, _ => none
theorem py0s_at : ∀ {es : List D} {ps : List PyData}, py0s es = some ps → ps.length = es.length ∧ ∀ (i : Nat) (p : PyData), ps[i]? = some p → ∃ e, es[i]? = some e ∧ py0 e = some p
  | [], ps, h => by cases h; exact ⟨rfl, fun i p q => by cases i <;> cases q⟩
  | e :: es, ps, h => by
    rw [py0s] at h
    cases h1 : py0 e with
    | none => rw [h1] at h; cases h
    | some p =>
      cases h2 : py0s es with
      | none => rw [h1, h2] at h; cases h
      | some qs =>
        rw [h1, h2] at h
        cases h
        obtain ⟨l, g⟩ := py0s_at h2
        refine ⟨by rw [List.length_cons, List.length_cons, l], fun i q hq => ?_⟩
        cases i with
        | zero => cases hq; exact ⟨e, rfl, h1⟩
        | succ i => exact g i q hq
theorem rls_erase {K : PySem.W.Frag} {H : Hp} {m : List Addr} : ∀ {ds : List D} {vs : List V} (j : Nat), Rls K H m ds vs → Rls K H m (ds.eraseIdx j) (vs.eraseIdx j)
  | [], _, j, h => by rw [Rls] at h; subst h; rw [List.eraseIdx_nil, List.eraseIdx_nil, Rls]
  | d :: ds, _, j, h => by
    rw [Rls] at h
    obtain ⟨v, r, rfl, h1, h2⟩ := h
    cases j with
    | zero => exact h2
    | succ j =>
      rw [List.eraseIdx_cons_succ, List.eraseIdx_cons_succ, Rls]
      exact ⟨v, _, rfl, h1, rls_erase j h2⟩
theorem ok_remove (hu : X.A.units + 65 < cLine) : MtOk X "list" "list.remove" oRemove := by
  refine ⟨_, mt_removeD hu, fun H m M d ds x xs z M' Q w rd rds ho P => ?_⟩
  unfold oRemove at ho
  split at ho
  · rename_i k y
    split at ho
    · rename_i es hk
      split at ho
      · rename_i hp
        cases hj : es.findIdx? fun z => deq z y with
        | none => rw [hj] at ho; cases ho
        | some j =>
          rw [hj] at ho
          cases ho
          rw [Rl] at rd
          obtain ⟨a, rfl, ha⟩ := rd
          obtain ⟨b, hb, vs, h1, h2⟩ := w.get hk
          rw [ha] at hb; cases hb
          obtain ⟨v, rfl, rv⟩ := rds.one
          obtain ⟨p, p1, p2, p3⟩ := plS_ok 64 y hp.1
          obtain ⟨q, q1, q2, q3⟩ := plS_ok 64 _ hp.2
          have sp : SeqAt.shaped p = true := by unfold SeqAt.shaped; rw [p2, Bool.true_and]; exact decide_eq_true (by omega)
          have sq : SeqAt.shaped q = true := by unfold SeqAt.shaped; rw [q2, Bool.true_and]; exact decide_eq_true (by omega)
          rw [py0] at q1
          cases q5 : py0s es with
          | none => rw [q5] at q1; cases q1
          | some ps =>
            rw [q5] at q1
            cases q1
            obtain ⟨l1, l2⟩ := py0s_at q5
            have hes : ∀ e ∈ es, plS 63 e = true := List.all_eq_true.mp hp.2
            have hf := List.findIdx?_eq_some_iff_getElem.mp hj
            obtain ⟨jl, j1, j2⟩ := hf
            have eqv_ : ∀ (i : Nat) (z : PyData), ps[i]? = some z → ∃ hi : i < es.length, PyData.eqv z p = deq es[i] y := fun i z hz => by
              obtain ⟨e, e1, e2⟩ := l2 i z hz
              obtain ⟨hi, e3⟩ := List.getElem?_eq_some_iff.mp e1
              refine ⟨hi, ?_⟩
              rw [e3]
              exact deq_py 63 64 e y z p e2 p1 (hes e (List.mem_of_getElem? e1)) hp.1
            have hpj : ps[j]? = some (ps[j]'(by omega)) := List.getElem?_eq_getElem (by omega)
            refine ⟨a, v, vs, p, ps, j, _, rfl, rfl, h1, py0s_ok h2 q5, py0_ok rv p1, sq, sp, hpj, ?_, fun i z hi hz => ?_, P.set w ha ⟨_, upd_same, ?_⟩ rl_non⟩
            · obtain ⟨hi, e⟩ := eqv_ j _ hpj
              rw [e]; exact j1
            · obtain ⟨hi2, e⟩ := eqv_ i z hz
              rw [e]
              have := j2 i hi
              simpa using this
            · have e := w.ext_set (K := X.K) (u := .lst (vs.eraseIdx j)) ha
              exact rls_erase j (h2.ext e)
      · cases ho
    · cases ho
  · cases ho
end
end CI

/-! T1: the typed reading: values of Lean types, an environment of such values, what stands for it in slots and memory -/
namespace TL
open PySem PySem.Spec PyProof.Rows L2 CI
class Enc (α : Type) where
  enc : α → D
  nle : ∀ (n : Nat) (x : α), nl n (enc x) = true
structure Tu (α : Type) where
  l : List α
  deriving DecidableEq
structure Scr where
  l : List Int
structure P3 (α β γ : Type) where
  a : α
  b : β
  c : γ
  deriving DecidableEq
structure P4 (α β γ δ : Type) where
  a : α
  b : β
  c : γ
  d : δ
  deriving DecidableEq
structure P5 (α β γ δ ε : Type) where
  a : α
  b : β
  c : γ
  d : δ
  e : ε
  deriving DecidableEq
section
variable {α β γ δ ε : Type} [Enc α] [Enc β] [Enc γ] [Enc δ] [Enc ε]
instance : Enc Int := ⟨.int, fun _ _ => rfl⟩
instance : Enc Bool := ⟨.bl, fun _ _ => rfl⟩
instance : Enc Str := ⟨.str, fun _ _ => rfl⟩
instance : Enc Unit := ⟨fun _ => .non, fun _ _ => rfl⟩
instance : Enc Scr := ⟨fun s => .scr s.l, fun _ _ => rfl⟩
theorem nls_enc (n : Nat) (xs : List α) : nls n (xs.map Enc.enc) = true := nls_of fun d hd => by
  obtain ⟨x, _, rfl⟩ := List.mem_map.mp hd
  exact Enc.nle n x
instance : Enc (List α) := ⟨fun xs => .lst (xs.map Enc.enc), fun n xs => by rw [nl_lst]; exact nls_enc n xs⟩
instance : Enc (Tu α) := ⟨fun xs => .tup (xs.l.map Enc.enc), fun n xs => by rw [nl_tup]; exact nls_enc n xs.l⟩
instance : Enc (α × β) := ⟨fun p => .tup [Enc.enc p.1, Enc.enc p.2], fun n p => by simp [Enc.nle]⟩
instance : Enc (P3 α β γ) := ⟨fun p => .tup [Enc.enc p.a, Enc.enc p.b, Enc.enc p.c], fun n p => by simp [Enc.nle]⟩
instance : Enc (P4 α β γ δ) := ⟨fun p => .tup [Enc.enc p.a, Enc.enc p.b, Enc.enc p.c, Enc.enc p.d], fun n p => by simp [Enc.nle]⟩
instance : Enc (P5 α β γ δ ε) := ⟨fun p => .tup [Enc.enc p.a, Enc.enc p.b, Enc.enc p.c, Enc.enc p.d, Enc.enc p.e], fun n p => by simp [Enc.nle]⟩
instance : Enc (Option α) := ⟨fun o => match o with | some x => Enc.enc x | none => .non, fun n o => by cases o <;> simp [Enc.nle]⟩
end
abbrev enc {α : Type} [Enc α] (x : α) : D := Enc.enc x

/-! ### objects -/
/-- memories in which no object points beyond the end -/
def Cl (M : Mem) : Prop := ∀ (j : Nat) (o : O), M[j]? = some o → nlO M.length o = true
abbrev Fp := Nat → Prop
def Frm (M : Mem) (fp : Fp) (M' : Mem) : Prop := M.length ≤ M'.length ∧ ∀ (j : Nat), j < M.length → ¬ fp j → M'[j]? = M[j]?
theorem Frm.refl {M : Mem} {fp : Fp} : Frm M fp M := ⟨Nat.le_refl _, fun _ _ _ => rfl⟩
theorem Frm.trans {M M1 M2 : Mem} {fp fp1 : Fp} (h : Frm M fp M1) (hf : ∀ j, fp1 j → fp j ∨ M.length ≤ j) (h1 : Frm M1 fp1 M2) : Frm M fp M2 :=
  ⟨Nat.le_trans h.1 h1.1, fun j hj hn => by
    rw [h1.2 j (Nat.lt_of_lt_of_le hj h.1) (fun q => by rcases hf j q with q | q <;> first | exact hn q | omega), h.2 j hj hn]⟩
class Rep (σ : Type) where
  rep : Mem → Nat → σ → Fp → Prop
  frame : ∀ {M M' k s fp}, rep M k s fp → (∀ j, fp j → M'[j]? = M[j]?) → rep M' k s fp
  bnd : ∀ {M k s fp}, rep M k s fp → ∀ j, fp j → j < M.length
  self : ∀ {M k s fp}, rep M k s fp → fp k
  trim : ∀ {M k s fp} {n : Nat}, rep M k s fp → k < n → (∀ (j : Nat) (o : O), j < n → M[j]? = some o → nlO n o = true) → ∀ j, fp j → j < n
/-- a list of a name of its own -/
structure LS (α : Type) where
  l : List α
theorem lt_of_get {M : Mem} {k : Nat} {o : O} (h : M[k]? = some o) : k < M.length := by
  rcases Nat.lt_or_ge k M.length with q | q
  · exact q
  · rw [List.getElem?_eq_none q] at h; cases h
instance {α : Type} [Enc α] : Rep (LS α) where
  rep M k s fp := M[k]? = some (.lst (s.l.map Enc.enc)) ∧ ∀ j, fp j ↔ j = k
  frame h hf := ⟨by rw [hf _ ((h.2 _).mpr rfl)]; exact h.1, h.2⟩
  bnd h j hj := by rw [(h.2 j).mp hj]; exact lt_of_get h.1
  self h := (h.2 _).mpr rfl
  trim h hk _ j hj := by rw [(h.2 j).mp hj]; exact hk
structure Ob (σ : Type) where
  v : Option σ

/-! ### environments -/
class SlotR (τ : Type) where
  rel : τ → Option D → Mem → Fp → Prop
  frame : ∀ {t d M M' fp}, rel t d M fp → (∀ j, fp j → M'[j]? = M[j]?) → rel t d M' fp
  bnd : ∀ {t d M fp}, rel t d M fp → ∀ j, fp j → j < M.length
  emp : τ
  emp_rel : ∀ d M, rel emp d M fun _ => False
  trim : ∀ {t d M fp} {n : Nat}, rel t d M fp → (∀ x, d = some x → nl n x = true) → (∀ (j : Nat) (o : O), j < n → M[j]? = some o → nlO n o = true) → ∀ j, fp j → j < n
instance {α : Type} [Enc α] : SlotR (Option α) where
  rel t d M fp := (∀ v, t = some v → d = some (Enc.enc v)) ∧ ∀ j, ¬ fp j
  frame h _ := h
  bnd h j hj := absurd hj (h.2 j)
  emp := none
  emp_rel d M := ⟨fun v h => (nomatch h), fun _ h => h⟩
  trim h _ _ j hj := absurd hj (h.2 j)
instance {σ : Type} [Rep σ] : SlotR (Ob σ) where
  rel t d M fp := match t.v with
    | none => ∀ j, ¬ fp j
    | some s => ∃ k, d = some (.loc k) ∧ Rep.rep M k s fp
  frame {t d M M' fp} h hf := by
    cases e : t.v with
    | none => rw [e] at h; exact h
    | some s => rw [e] at h; obtain ⟨k, h1, h2⟩ := h; exact ⟨k, h1, Rep.frame h2 hf⟩
  bnd {t d M fp} h j hj := by
    cases e : t.v with
    | none => rw [e] at h; exact absurd hj (h j)
    | some s => rw [e] at h; obtain ⟨k, h1, h2⟩ := h; exact Rep.bnd h2 j hj
  emp := ⟨none⟩
  emp_rel d M := fun _ h => h
  trim {t d M fp n} h hd hM j hj := by
    cases e : t.v with
    | none => rw [e] at h; exact absurd hj (h j)
    | some s =>
      rw [e] at h
      obtain ⟨k, h1, h2⟩ := h
      have := hd _ h1
      rw [nl_loc] at this
      exact Rep.trim h2 (of_decide_eq_true this) hM j hj
class EnvR (E : Type) where
  rel : E → Slots → Mem → Fp → Prop
  frame : ∀ {e ρ M M' fp}, rel e ρ M fp → (∀ j, fp j → M'[j]? = M[j]?) → rel e ρ M' fp
  bnd : ∀ {e ρ M fp}, rel e ρ M fp → ∀ j, fp j → j < M.length
  keep : List Bool → E → E
  keep_rel : ∀ {e ρ M fp} kl, rel e ρ M fp → ∃ fp', rel (keep kl e) (keepD kl ρ) M fp' ∧ ∀ j, fp' j → fp j
  trim : ∀ {e ρ M fp} {n : Nat}, rel e ρ M fp → nlS n ρ = true → (∀ (j : Nat) (o : O), j < n → M[j]? = some o → nlO n o = true) → ∀ j, fp j → j < n
instance : EnvR Unit where
  rel _ _ _ fp := ∀ j, ¬ fp j
  frame h _ := h
  bnd h j hj := absurd hj (h j)
  keep _ e := e
  keep_rel _ h := ⟨_, h, fun _ q => q⟩
  trim h _ _ j hj := absurd hj (h j)
def keepC {τ E : Type} [SlotR τ] (kE : List Bool → E → E) : List Bool → τ × E → τ × E
  | true :: bs, e => (e.1, kE bs e.2)
  | false :: bs, e => (SlotR.emp, kE bs e.2)
  | [], e => e
instance {τ E : Type} [SlotR τ] [EnvR E] : EnvR (τ × E) where
  rel e ρ M fp := ∃ d ρ' f1 f2, ρ = d :: ρ' ∧ SlotR.rel e.1 d M f1 ∧ EnvR.rel e.2 ρ' M f2 ∧ (∀ j, f1 j → ¬ f2 j) ∧ ∀ j, fp j ↔ f1 j ∨ f2 j
  frame {e ρ M M' fp} h hf := by
    obtain ⟨d, ρ', f1, f2, h1, h2, h3, h4, h5⟩ := h
    exact ⟨d, ρ', f1, f2, h1, SlotR.frame h2 fun j q => hf j ((h5 j).mpr (.inl q)), EnvR.frame h3 fun j q => hf j ((h5 j).mpr (.inr q)), h4, h5⟩
  bnd {e ρ M fp} h j hj := by
    obtain ⟨d, ρ', f1, f2, h1, h2, h3, h4, h5⟩ := h
    rcases (h5 j).mp hj with q | q
    · exact SlotR.bnd h2 j q
    · exact EnvR.bnd h3 j q
  keep := keepC EnvR.keep
  keep_rel {e ρ M fp} kl h := by
    obtain ⟨d, ρ', f1, f2, rfl, h2, h3, h4, h5⟩ := id h
    cases kl with
    | nil => exact ⟨fp, by rw [keepD_nil]; exact h, fun _ q => q⟩
    | cons b bs =>
      obtain ⟨f3, h6, h7⟩ := EnvR.keep_rel bs h3
      cases b with
      | true => exact ⟨fun j => f1 j ∨ f3 j, ⟨d, _, f1, f3, rfl, h2, h6, fun j q q2 => h4 j q (h7 j q2), fun _ => Iff.rfl⟩, fun j q => (h5 j).mpr (q.imp id (h7 j))⟩
      | false => exact ⟨f3, ⟨none, _, _, f3, rfl, SlotR.emp_rel _ _, h6, fun j q => q.elim, fun j => ⟨.inr, fun q => q.elim False.elim id⟩⟩, fun j q => (h5 j).mpr (.inr (h7 j q))⟩
  trim {e ρ M fp n} h hn hM j hj := by
    obtain ⟨d, ρ', f1, f2, rfl, h2, h3, h4, h5⟩ := h
    have n1 : ∀ x, d = some x → nl n x = true := fun x q => by subst q; rw [nlS_some, Bool.and_eq_true] at hn; exact hn.1
    have n2 : nlS n ρ' = true := by
      cases d with
      | none => rw [nlS_none] at hn; exact hn
      | some x => rw [nlS_some, Bool.and_eq_true] at hn; exact hn.2
    rcases (h5 j).mp hj with q | q
    · exact SlotR.trim h2 n1 hM j q
    · exact EnvR.trim h3 n2 hM j q
theorem rel_nil {ρ : Slots} {M : Mem} : EnvR.rel () ρ M fun _ => False := fun _ h => h
theorem rel_cons {τ E : Type} [SlotR τ] [EnvR E] {t : τ} {e : E} {d : Option D} {ρ : Slots} {M : Mem} (h1 : SlotR.rel t d M fun _ => False) (h2 : EnvR.rel e ρ M fun _ => False) : EnvR.rel (t, e) (d :: ρ) M fun _ => False :=
  ⟨d, ρ, _, _, rfl, h1, h2, fun _ q => q.elim, fun _ => ⟨.inl, fun q => q.elim id id⟩⟩
theorem rel_val {α : Type} [Enc α] {v : α} {M : Mem} : SlotR.rel (some v) (some (Enc.enc v)) M fun _ => False := ⟨fun w h => by cases h; rfl, fun _ h => h⟩
theorem ob_some {σ : Type} [Rep σ] {t : Ob σ} {d : Option D} {M : Mem} {fp : Fp} {s : σ} (h : SlotR.rel t d M fp) (e : t.v = some s) : ∃ k, d = some (.loc k) ∧ Rep.rep M k s fp := by
  cases t with
  | mk v =>
    have e : v = some s := e
    subst e
    exact h
theorem ob_mk {σ : Type} [Rep σ] {d : Option D} {M : Mem} {fp : Fp} {s : σ} {k : Nat} (h1 : d = some (.loc k)) (h : Rep.rep M k s fp) : SlotR.rel (⟨some s⟩ : Ob σ) d M fp := ⟨k, h1, h⟩
theorem ls_get {α : Type} [Enc α] {M : Mem} {k : Nat} {s : LS α} {fp : Fp} (h : Rep.rep M k s fp) : M[k]? = some (.lst (s.l.map Enc.enc)) ∧ ∀ j, fp j ↔ j = k := h
/-- a place of an environment -/
structure Lens (E τ : Type) (i : Nat) where
  get : E → τ
  set : E → τ → E
class LOk {E τ : Type} [EnvR E] [SlotR τ] {i : Nat} (ln : Lens E τ i) : Prop where
  okd : ∀ e ρ M fp, EnvR.rel e ρ M fp → ∃ f1, SlotR.rel (ln.get e) (slot ρ i) M f1 ∧ (∀ j, f1 j → fp j) ∧
    ∀ t' d' M' f1', SlotR.rel t' d' M' f1' → (∀ j, fp j → ¬ f1 j → M'[j]? = M[j]?) → (∀ j, f1' j → fp j → f1 j) →
      ∃ fp', EnvR.rel (ln.set e t') (ρ.set i d') M' fp' ∧ ∀ j, fp' j → (fp j ∧ ¬ f1 j) ∨ f1' j
  gs : ∀ e t, ln.get (ln.set e t) = t
  ss : ∀ e t t', ln.set (ln.set e t) t' = ln.set e t'
theorem LOk.ok {E τ : Type} [EnvR E] [SlotR τ] {i : Nat} {ln : Lens E τ i} [LOk ln] (e : E) (ρ : Slots) (M : Mem) (fp : Fp) (R : EnvR.rel e ρ M fp) : ∃ f1, SlotR.rel (ln.get e) (slot ρ i) M f1 ∧ (∀ j, f1 j → fp j) ∧
    ∀ t' d' M' f1', SlotR.rel t' d' M' f1' → (∀ j, fp j → ¬ f1 j → M'[j]? = M[j]?) → (∀ j, f1' j → f1 j ∨ M.length ≤ j) →
      ∃ fp', EnvR.rel (ln.set e t') (ρ.set i d') M' fp' ∧ ∀ j, fp' j → (fp j ∧ ¬ f1 j) ∨ f1' j := by
  obtain ⟨f1, h1, h2, h3⟩ := LOk.okd (ln := ln) e ρ M fp R
  refine ⟨f1, h1, h2, fun t' d' M' f1' r hf hn => h3 t' d' M' f1' r hf fun j q q2 => ?_⟩
  rcases hn j q with z | z
  · exact z
  · have := EnvR.bnd R j q2; omega
@[reducible] def Lens.hd {E τ : Type} : Lens (τ × E) τ 0 := ⟨fun e => e.1, fun e t => (t, e.2)⟩
@[reducible] def Lens.tl {E τ υ : Type} {i : Nat} (l : Lens E τ i) : Lens (υ × E) τ (i + 1) := ⟨fun e => l.get e.2, fun e t => (e.1, l.set e.2 t)⟩
instance {E τ : Type} [EnvR E] [SlotR τ] : LOk (Lens.hd : Lens (τ × E) τ 0) where
  gs _ _ := rfl
  ss _ _ _ := rfl
  okd e ρ M fp h := by
    obtain ⟨d, ρ', f1, f2, rfl, h2, h3, h4, h5⟩ := h
    refine ⟨f1, h2, fun j q => (h5 j).mpr (.inl q), fun t' d' M' f1' r hf hn => ?_⟩
    refine ⟨fun j => f1' j ∨ f2 j, ⟨d', ρ', f1', f2, rfl, r, EnvR.frame h3 fun j q => hf j ((h5 j).mpr (.inr q)) (fun z => h4 j z q), fun j q q2 => h4 j (hn j q ((h5 j).mpr (.inr q2))) q2, fun _ => Iff.rfl⟩, fun j q => ?_⟩
    rcases q with q | q
    · exact .inr q
    · exact .inl ⟨(h5 j).mpr (.inr q), fun z => h4 j z q⟩
instance {E τ υ : Type} [EnvR E] [SlotR τ] [SlotR υ] {i : Nat} (l : Lens E τ i) [LOk l] : LOk (Lens.tl l : Lens (υ × E) τ (i + 1)) where
  gs e t := LOk.gs (ln := l) e.2 t
  ss e t t' := by show (e.1, l.set (l.set e.2 t) t') = (e.1, l.set e.2 t'); rw [LOk.ss]
  okd e ρ M fp h := by
    obtain ⟨d, ρ', f1, f2, rfl, h2, h3, h4, h5⟩ := h
    obtain ⟨g1, k1, k2, k3⟩ := LOk.okd (ln := l) e.2 ρ' M f2 h3
    refine ⟨g1, k1, fun j q => (h5 j).mpr (.inr (k2 j q)), fun t' d' M' g1' r hf hn => ?_⟩
    obtain ⟨f2', k4, k5⟩ := k3 t' d' M' g1' r (fun j q q2 => hf j ((h5 j).mpr (.inr q)) q2) (fun j q q2 => hn j q ((h5 j).mpr (.inr q2)))
    refine ⟨fun j => f1 j ∨ f2' j, ⟨d, ρ'.set i d', f1, f2', rfl, SlotR.frame h2 fun j q => hf j ((h5 j).mpr (.inl q)) (fun z => h4 j q (k2 j z)), k4, fun j q q2 => ?_, fun _ => Iff.rfl⟩, fun j q => ?_⟩
    · rcases k5 j q2 with z | z
      · exact h4 j q z.1
      · exact h4 j q (k2 j (hn j z ((h5 j).mpr (.inl q))))
    · rcases q with q | q
      · exact .inl ⟨(h5 j).mpr (.inl q), fun z => h4 j q (k2 j z)⟩
      · rcases k5 j q with z | z
        · exact .inl ⟨(h5 j).mpr (.inr z.1), z.2⟩
        · exact .inr z
/-- what is kept of an environment -/
@[simp] def kpU : Unit → Unit := id
@[simp] def kpT {τ E : Type} (k : E → E) : τ × E → τ × E := fun e => (e.1, k e.2)
@[simp] def kpF {τ E : Type} (z : τ) (k : E → E) : τ × E → τ × E := fun e => (z, k e.2)
class KOk {E : Type} [EnvR E] (kl : List Bool) (kp : E → E) : Prop where
  eq : ∀ e, EnvR.keep kl e = kp e
instance : KOk [] kpU := ⟨fun _ => rfl⟩
instance {τ E : Type} [SlotR τ] [EnvR E] {kl : List Bool} {k : E → E} [h : KOk kl k] : KOk (true :: kl) (kpT k : τ × E → τ × E) := ⟨fun e => by
  show (e.1, EnvR.keep kl e.2) = _
  rw [KOk.eq (kl := kl) (kp := k)]; rfl⟩
instance {α E : Type} [Enc α] [EnvR E] {kl : List Bool} {k : E → E} [h : KOk kl k] : KOk (false :: kl) (kpF none k : Option α × E → Option α × E) := ⟨fun e => by
  show ((none : Option α), EnvR.keep kl e.2) = _
  rw [KOk.eq (kl := kl) (kp := k)]; rfl⟩
instance {σ E : Type} [Rep σ] [EnvR E] {kl : List Bool} {k : E → E} [h : KOk kl k] : KOk (false :: kl) (kpF ⟨none⟩ k : Ob σ × E → Ob σ × E) := ⟨fun e => by
  show ((⟨none⟩ : Ob σ), EnvR.keep kl e.2) = _
  rw [KOk.eq (kl := kl) (kp := k)]; rfl⟩
theorem rel_none {α : Type} [Enc α] {d : Option D} {M : Mem} : SlotR.rel (none : Option α) d M fun _ => False := SlotR.emp_rel (τ := Option α) d M
theorem rel_obn {σ : Type} [Rep σ] {d : Option D} {M : Mem} : SlotR.rel (⟨none⟩ : Ob σ) d M fun _ => False := SlotR.emp_rel (τ := Ob σ) d M
end TL

/-! T2: the typed reading of expressions -/
namespace TL
open PySem PySem.Spec PyProof.Rows L2 CI
def DenF (fp : Fp) (M : Mem) (d d0 : D) : Prop := d = d0 ∨ ∃ k ds, d = .loc k ∧ d0 = .lst ds ∧ M[k]? = some (.lst ds) ∧ fp k
section
variable {E : Type} [EnvR E] {α β γ δ ε σ : Type} [Enc α] [Enc β] [Enc γ] [Enc δ] [Enc ε] [Enc σ]
def EV (g : E → Option α) (f : Ef) : Prop := ∀ e ρ M fp, EnvR.rel e ρ M fp → Cl M → ∀ v, g e = some v → ∃ r, f ρ M = some (r, M) ∧ DenF fp M r.d (Enc.enc v)
def EP (g : E → Option α) (f : Ef) : Prop := ∀ e ρ M fp, EnvR.rel e ρ M fp → Cl M → ∀ v, g e = some v → ∃ r, f ρ M = some (r, M) ∧ r.d = Enc.enc v
def EN (g : E → Option α) (f : Ef) : Prop := ∀ e ρ M fp, EnvR.rel e ρ M fp → Cl M → ∀ v, g e = some v → ∃ ds, f ρ M = some (.new ds, M) ∧ Enc.enc v = .lst ds
def TP (g : E → Option Bool) (t : Tf) : Prop := ∀ e ρ M fp, EnvR.rel e ρ M fp → Cl M → ∀ b, g e = some b → t ρ M = some (b, M)
def OV (g : E → Option (Option Int)) (o : Of) : Prop := ∀ e ρ M fp, EnvR.rel e ρ M fp → Cl M → ∀ v, g e = some v → o ρ M = some (v, M)
theorem EP.v {g : E → Option α} {f : Ef} (h : EP g f) : EV g f := fun e ρ M fp R C v q => by
  obtain ⟨r, h1, h2⟩ := h e ρ M fp R C v q
  exact ⟨r, h1, .inl h2⟩
theorem EN.p {g : E → Option α} {f : Ef} (h : EN g f) : EP g f := fun e ρ M fp R C v q => by
  obtain ⟨ds, h1, h2⟩ := h e ρ M fp R C v q
  exact ⟨_, h1, h2.symm⟩
theorem EN.v {g : E → Option α} {f : Ef} (h : EN g f) : EV g f := h.p.v
/-- values that are no lists -/
class NL (α : Type) [Enc α] : Prop where
  ne : ∀ (x : α) ds, Enc.enc x ≠ D.lst ds
instance : NL Int := ⟨fun _ _ h => nomatch h⟩
instance : NL Bool := ⟨fun _ _ h => nomatch h⟩
instance : NL Str := ⟨fun _ _ h => nomatch h⟩
instance : NL Unit := ⟨fun _ _ h => nomatch h⟩
instance : NL Scr := ⟨fun _ _ h => nomatch h⟩
instance : NL (Tu α) := ⟨fun _ _ h => nomatch h⟩
instance : NL (α × β) := ⟨fun _ _ h => nomatch h⟩
instance : NL (P3 α β γ) := ⟨fun _ _ h => nomatch h⟩
instance : NL (P4 α β γ δ) := ⟨fun _ _ h => nomatch h⟩
instance : NL (P5 α β γ δ ε) := ⟨fun _ _ h => nomatch h⟩
instance [NL α] : NL (Option α) := ⟨fun x ds h => by cases x with | none => exact nomatch h | some x => exact NL.ne x ds h⟩
theorem den [NL α] {fp : Fp} {M : Mem} {d : D} {x : α} (h : DenF fp M d (Enc.enc x)) : d = Enc.enc x := by
  rcases h with h | ⟨k, ds, _, h, _⟩
  · exact h
  · exact absurd h (NL.ne x ds)
theorem EV.p [NL α] {g : E → Option α} {f : Ef} (h : EV g f) : EP g f := fun e ρ M fp R C v q => by
  obtain ⟨r, h1, h2⟩ := h e ρ M fp R C v q
  exact ⟨r, h1, den h2⟩
/-! ### names and constants -/
omit [EnvR E] in
@[simp] def tV {i : Nat} (ln : Lens E (Option α) i) : E → Option α := fun e => ln.get e
theorem t_var {i : Nat} (ln : Lens E (Option α) i) [LOk ln] : EP (tV ln) (cVar i) := fun e ρ M fp R C v q => by
  obtain ⟨f1, h1, _⟩ := LOk.ok (ln := ln) e ρ M fp R
  have h2 := h1.1 v q
  exact ⟨.val (Enc.enc v), by rw [cVar_ap, h2]; rfl, rfl⟩
omit [EnvR E] in
@[simp] def tL {i : Nat} (ln : Lens E (Ob (LS α)) i) : E → Option (List α) := fun e => (ln.get e).v.map (·.l)
theorem t_loc {i : Nat} (ln : Lens E (Ob (LS α)) i) [LOk ln] : EV (tL ln) (cVar i) := fun e ρ M fp R C v q => by
  obtain ⟨f1, h1, h2, _⟩ := LOk.ok (ln := ln) e ρ M fp R
  unfold tL at q
  cases hv : (ln.get e).v with
  | none => rw [hv] at q; cases q
  | some s =>
    rw [hv] at q; cases q
    obtain ⟨k, h3, h4⟩ := ob_some h1 hv
    obtain ⟨h4, h5⟩ := ls_get h4
    exact ⟨.val (.loc k), by rw [cVar_ap, h3]; rfl, .inr ⟨k, _, rfl, rfl, h4, h2 k ((h5 k).mpr rfl)⟩⟩
omit [EnvR E] in
@[simp] def tK (v : α) : E → Option α := fun _ => some v
theorem t_val {v : α} {d : D} (h : Enc.enc v = d) : EP (E := E) (tK v) (cVal d) := fun e ρ M fp R C w q => by
  cases q; exact ⟨.val d, rfl, h.symm⟩
/-! ### coercions -/
omit [EnvR E] in
@[simp] def tSome (g : E → Option α) : E → Option (Option α) := fun e => (g e).map some
omit [EnvR E] in
@[simp] def tUn (g : E → Option (Option α)) : E → Option α := fun e => (g e).bind id
theorem EP.some {g : E → Option α} {f : Ef} (h : EP g f) : EP (tSome g) f := fun e ρ M fp R C v q => by
  unfold tSome at q
  cases hg : g e with
  | none => rw [hg] at q; cases q
  | some x => rw [hg] at q; cases q; exact h e ρ M fp R C x hg
theorem EP.un {g : E → Option (Option α)} {f : Ef} (h : EP g f) : EP (tUn g) f := fun e ρ M fp R C v q => by
  unfold tUn at q
  cases hg : g e with
  | none => rw [hg] at q; cases q
  | some x =>
    rw [hg] at q
    cases x with
    | none => cases q
    | some x => cases q; exact h e ρ M fp R C _ hg
omit [EnvR E] in
@[simp] def tNone (_ : Unit) : E → Option (Option α) := fun _ => some none
theorem t_none : EP (E := E) (α := Option α) (tNone ()) cNon := fun e ρ M fp R C w q => by cases q; exact ⟨.val .non, rfl, rfl⟩
/-! ### operators -/
def OpV (o : Bop) (t : α → β → Option γ) : Prop := ∀ a b c M fp d1 d2, DenF fp M d1 (Enc.enc a) → DenF fp M d2 (Enc.enc b) → t a b = some c → ∃ r, o d1 d2 M = some r ∧ r.d = Enc.enc c
omit [EnvR E] in
@[simp] def tB (t : α → β → Option γ) (ga : E → Option α) (gb : E → Option β) : E → Option γ := fun e => (ga e).bind fun a => (gb e).bind fun b => t a b
theorem t_bin {o : Bop} {t : α → β → Option γ} {ga : E → Option α} {gb : E → Option β} {fa fb : Ef} (ho : OpV o t) (ha : EV ga fa) (hb : EV gb fb) : EP (tB t ga gb) (cBin o fa fb) := fun e ρ M fp R C v q => by
  unfold tB at q
  cases h1 : ga e with
  | none => rw [h1] at q; cases q
  | some a =>
    cases h2 : gb e with
    | none => rw [h1, h2] at q; cases q
    | some b =>
      rw [h1, h2] at q
      obtain ⟨r1, e1, k1⟩ := ha e ρ M fp R C a h1
      obtain ⟨r2, e2, k2⟩ := hb e ρ M fp R C b h2
      obtain ⟨r, e3, k3⟩ := ho a b v M fp _ _ k1 k2 q
      exact ⟨r, by simp [cBin, e1, e2, e3], k3⟩
theorem OpV.of [NL α] [NL β] {o : Bop} {t : α → β → Option γ} (h : ∀ a b c M, t a b = some c → ∃ r, o (Enc.enc a) (Enc.enc b) M = some r ∧ r.d = Enc.enc c) : OpV o t := fun a b c M fp d1 d2 h1 h2 q => by
  rw [den h1, den h2]; exact h a b c M q
@[simp] def addI (a b : Int) : Option Int := some (a + b)
@[simp] def subI (a b : Int) : Option Int := some (a - b)
@[simp] def mulI (a b : Int) : Option Int := if bMul a b = true then some (a * b) else none
@[simp] def divI (a b : Int) : Option Int := if bDiv a b = true then some (a / b) else none
@[simp] def modI (a b : Int) : Option Int := if bMod a b = true then some (a % b) else none
@[simp] def powI (a b : Int) : Option Int := if bPow a b = true then some (a ^ b.toNat) else none
@[simp] def ltI (a b : Int) : Option Bool := some (decide (a < b))
@[simp] def leI (a b : Int) : Option Bool := some (decide (a ≤ b))
@[simp] def gtI (a b : Int) : Option Bool := some (decide (b < a))
@[simp] def geI (a b : Int) : Option Bool := some (decide (b ≤ a))
theorem o_add : OpV oAdd addI := .of fun a b c M q => by cases q; exact ⟨_, rfl, rfl⟩
theorem o_sub : OpV oSub subI := .of fun a b c M q => by cases q; exact ⟨_, rfl, rfl⟩
theorem o_mul : OpV oMulA mulI := .of fun a b c M q => by
  unfold mulI at q; split at q
  · rename_i h; cases q
    exact ⟨_, (oMulA_int (i := a) (j := b) (M := M)).trans (if_pos h), rfl⟩
  · cases q
theorem oic {C : Int → Int → Bool} {g : Int → Int → Int} : OpV (oIc C fun i j => .int (g i j)) (fun a b => if C a b = true then some (g a b) else none) := .of fun a b c M q => by
  split at q
  · rename_i h; cases q; exact ⟨.val (.int (g a b)), if_pos h, rfl⟩
  · cases q
theorem o_div : OpV oDiv divI := oic
theorem o_mod : OpV oMod modI := oic
theorem o_pow : OpV oPow powI := oic
theorem o_lt : OpV oLt ltI := .of fun a b c M q => by cases q; exact ⟨_, rfl, rfl⟩
theorem o_le : OpV oLe leI := .of fun a b c M q => by cases q; exact ⟨_, rfl, rfl⟩
theorem o_gt : OpV oGt gtI := .of fun a b c M q => by cases q; exact ⟨_, rfl, rfl⟩
theorem o_ge : OpV oGe geI := .of fun a b c M q => by cases q; exact ⟨_, rfl, rfl⟩
end
/-! ### equality -/
class EncEq (α : Type) [DecidableEq α] [Enc α] where
  okE : α → Bool
  lv : Nat
  pl : ∀ x, okE x = true → plS lv (Enc.enc x) = true
  dq : ∀ x y : α, deq (Enc.enc x) (Enc.enc y) = decide (x = y)
class NN (α : Type) [Enc α] : Prop where
  nn : ∀ x : α, isNon (Enc.enc x) = false
theorem plS_up : ∀ {n m : Nat} {d : D}, n ≤ m → plS n d = true → plS m d = true
  | 0, _, d, _, h => by simp [plS] at h
  | n + 1, 0, d, hn, _ => by omega
  | n + 1, m + 1, d, hn, h => by
    cases d with
    | tup ds =>
      rw [plS_tup] at h ⊢
      exact List.all_eq_true.mpr fun x hx => plS_up (by omega) (List.all_eq_true.mp h x hx)
    | lst ds =>
      rw [plS_lst] at h ⊢
      exact List.all_eq_true.mpr fun x hx => plS_up (by omega) (List.all_eq_true.mp h x hx)
    | non => rfl
    | bl b => rfl
    | int i => rfl
    | str x => exact h
    | scr x => simp [plS] at h
    | loc x => simp [plS] at h
section
variable {α β γ δ ε : Type} [DecidableEq α] [DecidableEq β] [DecidableEq γ] [DecidableEq δ] [DecidableEq ε] [Enc α] [Enc β] [Enc γ] [Enc δ] [Enc ε] [EncEq α] [EncEq β] [EncEq γ] [EncEq δ] [EncEq ε]
instance : NN Int := ⟨fun _ => rfl⟩
instance : NN Bool := ⟨fun _ => rfl⟩
instance : NN Str := ⟨fun _ => rfl⟩
instance {α : Type} [Enc α] : NN (List α) := ⟨fun _ => rfl⟩
instance {α : Type} [Enc α] : NN (Tu α) := ⟨fun _ => rfl⟩
instance {α β : Type} [Enc α] [Enc β] : NN (α × β) := ⟨fun _ => rfl⟩
instance {α β γ : Type} [Enc α] [Enc β] [Enc γ] : NN (P3 α β γ) := ⟨fun _ => rfl⟩
instance {α β γ δ : Type} [Enc α] [Enc β] [Enc γ] [Enc δ] : NN (P4 α β γ δ) := ⟨fun _ => rfl⟩
instance {α β γ δ ε : Type} [Enc α] [Enc β] [Enc γ] [Enc δ] [Enc ε] : NN (P5 α β γ δ ε) := ⟨fun _ => rfl⟩
instance : EncEq Int := ⟨fun _ => true, 1, fun _ _ => rfl, fun x y => deq_int x y⟩
instance : EncEq Bool := ⟨fun _ => true, 1, fun _ _ => rfl, fun x y => deq_bl x y⟩
instance : EncEq Str := ⟨fun x => PyData.strOk x, 1, fun _ h => h, fun x y => deq_str x y⟩
instance : EncEq Unit := ⟨fun _ => true, 1, fun _ _ => rfl, fun x y => by simp [Enc.enc]⟩
theorem pl_all {xs : List α} (h : xs.all EncEq.okE = true) : (xs.map Enc.enc).all (plS (EncEq.lv α)) = true := by
  rw [List.all_map]
  exact List.all_eq_true.mpr fun x hx => EncEq.pl x (List.all_eq_true.mp h x hx)
instance : EncEq (List α) := ⟨fun xs => xs.all EncEq.okE, EncEq.lv α + 1, fun xs h => by
  show plS _ (.lst _) = true
  rw [plS_lst]; exact pl_all h, fun x y => by
  show deq (.lst _) (.lst _) = _
  rw [deq_lst]; exact deqs_map EncEq.dq x y⟩
instance : EncEq (Tu α) := ⟨fun xs => xs.l.all EncEq.okE, EncEq.lv α + 1, fun xs h => by
  show plS _ (.tup _) = true
  rw [plS_tup]; exact pl_all h, fun x y => by
  show deq (.tup _) (.tup _) = _
  rw [deq_tup, deqs_map EncEq.dq x.l y.l]
  cases x; cases y; simp⟩
instance : EncEq (α × β) := ⟨fun p => EncEq.okE p.1 && EncEq.okE p.2, max (EncEq.lv α) (EncEq.lv β) + 1, fun p h => by
  rw [Bool.and_eq_true] at h
  show plS _ (.tup _) = true
  rw [plS_tup]
  simp [plS_up (Nat.le_max_left _ _) (EncEq.pl p.1 h.1), plS_up (Nat.le_max_right _ _) (EncEq.pl p.2 h.2)], fun x y => by
  show deq (.tup _) (.tup _) = _
  obtain ⟨a, b⟩ := x; obtain ⟨a', b'⟩ := y
  simp [EncEq.dq]⟩
instance : EncEq (P3 α β γ) := ⟨fun p => EncEq.okE p.a && (EncEq.okE p.b && EncEq.okE p.c), max (EncEq.lv α) (max (EncEq.lv β) (EncEq.lv γ)) + 1, fun p h => by
  simp only [Bool.and_eq_true] at h
  show plS _ (.tup _) = true
  rw [plS_tup]
  simp [plS_up (m := max (EncEq.lv α) (max (EncEq.lv β) (EncEq.lv γ))) (by omega) (EncEq.pl p.a h.1), plS_up (m := max (EncEq.lv α) (max (EncEq.lv β) (EncEq.lv γ))) (by omega) (EncEq.pl p.b h.2.1), plS_up (m := max (EncEq.lv α) (max (EncEq.lv β) (EncEq.lv γ))) (by omega) (EncEq.pl p.c h.2.2)], fun x y => by
  show deq (.tup _) (.tup _) = _
  obtain ⟨a, b, c⟩ := x; obtain ⟨a', b', c'⟩ := y
  simp [EncEq.dq]⟩
instance : EncEq (P4 α β γ δ) := ⟨fun p => EncEq.okE p.a && (EncEq.okE p.b && (EncEq.okE p.c && EncEq.okE p.d)), max (EncEq.lv α) (max (EncEq.lv β) (max (EncEq.lv γ) (EncEq.lv δ))) + 1, fun p h => by
  simp only [Bool.and_eq_true] at h
  show plS _ (.tup _) = true
  rw [plS_tup]
  have le : ∀ {m : Nat}, EncEq.lv α ≤ m → EncEq.lv β ≤ m → EncEq.lv γ ≤ m → EncEq.lv δ ≤ m → [Enc.enc p.a, Enc.enc p.b, Enc.enc p.c, Enc.enc p.d].all (plS m) = true := fun h1 h2 h3 h4 => by
    simp [plS_up h1 (EncEq.pl p.a h.1), plS_up h2 (EncEq.pl p.b h.2.1), plS_up h3 (EncEq.pl p.c h.2.2.1), plS_up h4 (EncEq.pl p.d h.2.2.2)]
  exact le (by omega) (by omega) (by omega) (by omega), fun x y => by
  show deq (.tup _) (.tup _) = _
  obtain ⟨a, b, c, d⟩ := x; obtain ⟨a', b', c', d'⟩ := y
  simp [EncEq.dq]⟩
instance : EncEq (P5 α β γ δ ε) := ⟨fun p => EncEq.okE p.a && (EncEq.okE p.b && (EncEq.okE p.c && (EncEq.okE p.d && EncEq.okE p.e))), max (EncEq.lv α) (max (EncEq.lv β) (max (EncEq.lv γ) (max (EncEq.lv δ) (EncEq.lv ε)))) + 1, fun p h => by
  simp only [Bool.and_eq_true] at h
  show plS _ (.tup _) = true
  rw [plS_tup]
  have le : ∀ {m : Nat}, EncEq.lv α ≤ m → EncEq.lv β ≤ m → EncEq.lv γ ≤ m → EncEq.lv δ ≤ m → EncEq.lv ε ≤ m → [Enc.enc p.a, Enc.enc p.b, Enc.enc p.c, Enc.enc p.d, Enc.enc p.e].all (plS m) = true := fun h1 h2 h3 h4 h5 => by
    simp [plS_up h1 (EncEq.pl p.a h.1), plS_up h2 (EncEq.pl p.b h.2.1), plS_up h3 (EncEq.pl p.c h.2.2.1), plS_up h4 (EncEq.pl p.d h.2.2.2.1), plS_up h5 (EncEq.pl p.e h.2.2.2.2)]
  exact le (by omega) (by omega) (by omega) (by omega) (by omega), fun x y => by
  show deq (.tup _) (.tup _) = _
  obtain ⟨a, b, c, d, e⟩ := x; obtain ⟨a', b', c', d', e'⟩ := y
  simp [EncEq.dq]⟩
theorem deq_nonL {d : D} (h : isNon d = false) : deq .non d = false := by cases d <;> first | (cases h; done) | simp [deq]
theorem deq_nonR {d : D} (h : isNon d = false) : deq d .non = false := by cases d <;> first | (cases h; done) | simp [deq]
instance [NN α] : EncEq (Option α) := ⟨fun o => match o with | some x => EncEq.okE x | none => true, EncEq.lv α + 1, fun o h => by
  cases o with
  | none => rfl
  | some x => exact plS_up (Nat.le_succ _) (EncEq.pl x h), fun x y => by
  cases x with
  | none => cases y with
    | none => simp [Enc.enc]
    | some y => rw [show (Enc.enc (none : Option α)) = D.non from rfl, show (Enc.enc (some y)) = Enc.enc y from rfl, deq_nonL (NN.nn y)]; simp
  | some x => cases y with
    | none => rw [show (Enc.enc (none : Option α)) = D.non from rfl, show (Enc.enc (some x)) = Enc.enc x from rfl, deq_nonR (NN.nn x)]; simp
    | some y => rw [show (Enc.enc (some y)) = Enc.enc y from rfl, show (Enc.enc (some x)) = Enc.enc x from rfl, EncEq.dq]; simp⟩
@[simp] def eqT (a b : α) : Option Bool := if (EncEq.okE a && EncEq.okE b) = true then some (decide (a = b)) else none
theorem eqB_T {a b : α} {M : Mem} {fp : Fp} {d1 d2 : D} (hl : EncEq.lv α ≤ 64) (h1 : DenF fp M d1 (Enc.enc a)) (h2 : DenF fp M d2 (Enc.enc b)) (h : (EncEq.okE a && EncEq.okE b) = true) : eqB M d1 d2 = some (decide (a = b)) := by
  rw [Bool.and_eq_true] at h
  have key : eqB M (Enc.enc a) (Enc.enc b) = some (decide (a = b)) := by
    rw [eqB_deq hl hl (EncEq.pl a h.1) (EncEq.pl b h.2), EncEq.dq]
  have left : eqB M d1 (Enc.enc b) = some (decide (a = b)) := by
    rcases h1 with h1 | ⟨k, ds, h1, h3, h4, _⟩
    · rw [h1]; exact key
    · rw [h1, eqB_locL h4, ← h3]; exact key
  rcases h2 with h2 | ⟨k, ds, h2, h3, h4, _⟩
  · rw [h2]; exact left
  · rw [h2, eqB_locR h4, ← h3]; exact left
theorem o_eq (hl : EncEq.lv α ≤ 64) : OpV oEq (eqT (α := α)) := fun a b c M fp d1 d2 h1 h2 q => by
  unfold eqT at q
  split at q
  · rename_i h; cases q
    exact ⟨_, by unfold oEq; rw [eqB_T hl h1 h2 h]; rfl, rfl⟩
  · cases q
end
section
variable {E : Type} [EnvR E] {α β γ δ ε σ : Type} [Enc α] [Enc β] [Enc γ] [Enc δ] [Enc ε] [Enc σ]
/-! ### is None -/
omit [EnvR E] in
@[simp] def tIsN (g : E → Option (Option α)) : E → Option Bool := fun e => (g e).map fun o => o.isNone
omit [EnvR E] in
@[simp] def tNotN (g : E → Option (Option α)) : E → Option Bool := fun e => (g e).map fun o => o.isSome
theorem isn [NN α] {fp : Fp} {M : Mem} {d : D} {o : Option α} (h : DenF fp M d (Enc.enc o)) : isNon d = o.isNone := by
  rcases h with h | ⟨k, ds, h, h2, _⟩
  · rw [h]
    cases o with
    | none => rfl
    | some x => exact NN.nn x
  · rw [h]
    cases o with
    | none => exact nomatch h2
    | some x => rfl
theorem t_isn [NN α] {g : E → Option (Option α)} {f : Ef} (h : EV g f) : EP (tIsN g) (cBin (oIs false) f cNon) := fun e ρ M fp R C v q => by
  unfold tIsN at q
  cases hg : g e with
  | none => rw [hg] at q; cases q
  | some o =>
    rw [hg] at q; cases q
    obtain ⟨r, h1, h2⟩ := h e ρ M fp R C o hg
    refine ⟨.val (.bl (o.isNone)), ?_, rfl⟩
    simp [h1, isn h2]
theorem t_notn [NN α] {g : E → Option (Option α)} {f : Ef} (h : EV g f) : EP (tNotN g) (cBin (oIs true) f cNon) := fun e ρ M fp R C v q => by
  unfold tNotN at q
  cases hg : g e with
  | none => rw [hg] at q; cases q
  | some o =>
    rw [hg] at q; cases q
    obtain ⟨r, h1, h2⟩ := h e ρ M fp R C o hg
    refine ⟨.val (.bl (o.isSome)), ?_, rfl⟩
    cases o <;> simp [h1, isn h2]
/-! ### sequences -/
class Sq (σ : Type) [Enc σ] (α : outParam Type) [Enc α] where
  toL : σ → List α
  ok : ∀ M x, asS M (Enc.enc x) = some ((toL x).map Enc.enc)
instance : Sq (List α) α := ⟨id, fun M x => rfl⟩
instance : Sq (Tu α) α := ⟨Tu.l, fun M x => rfl⟩
instance : Sq Scr Int := ⟨Scr.l, fun M x => rfl⟩
theorem sq_den [Sq σ α] {fp : Fp} {M : Mem} {d : D} {x : σ} (h : DenF fp M d (Enc.enc x)) : asS M d = some ((Sq.toL x).map Enc.enc) := by
  rcases h with h | ⟨k, ds, h, h2, h3, _⟩
  · rw [h]; exact Sq.ok M x
  · have := Sq.ok M x
    rw [h2] at this
    rw [h, asS_loc h3]; exact this
theorem oIx_of {M : Mem} {d : D} {ds : List D} {i : Int} (h : asS M d = some ds) : oIx d (.int i) M = (L2.atI ds i).bind fun x => some (.val x) := by
  cases d <;> first | (unfold oIx; simp only; rw [h]; rfl) | (simp [asS, asL] at h)
@[simp] def tIx [Sq σ α] (x : σ) (i : Int) : Option α := L2.atI (Sq.toL x) i
theorem o_ix [Sq σ α] : OpV oIx (tIx (σ := σ) (α := α)) := fun a b c M fp d1 d2 h1 h2 q => by
  rw [den h2, show (Enc.enc b) = D.int b from rfl, oIx_of (sq_den h1), at_map]
  unfold tIx at q
  rw [q]; exact ⟨_, rfl, rfl⟩
@[simp] def lenT [Sq σ α] (x : σ) : Option Int := some ((Sq.toL x).length : Int)
omit [EnvR E] in
@[simp] def t1 (t : α → Option β) (g : E → Option α) : E → Option β := fun e => (g e).bind t
theorem oLen_of {M : Mem} {d : D} {ds : List D} (h : asS M d = some ds) : oLen [d] M = some (.val (.int ds.length)) := by
  cases d <;> first | (unfold oLen; simp only; rw [h]; rfl) | (simp [asS, asL] at h)
def Op1 (o : Cop) (t : α → Option β) : Prop := ∀ a c M fp d, DenF fp M d (Enc.enc a) → t a = some c → ∃ r, o [d] M = some r ∧ r.d = Enc.enc c
def Op1N (o : Cop) (t : α → Option β) : Prop := ∀ a c M fp d, DenF fp M d (Enc.enc a) → t a = some c → ∃ ds, o [d] M = some (.new ds) ∧ Enc.enc c = .lst ds
theorem t_cb1 {o : Cop} {t : α → Option β} {g : E → Option α} {f : Ef} (ho : Op1 o t) (h : EV g f) : EP (t1 t g) (cCB o (aCons f aNil)) := fun e ρ M fp R C v q => by
  unfold t1 at q
  cases hg : g e with
  | none => rw [hg] at q; cases q
  | some a =>
    rw [hg] at q
    obtain ⟨r, h1, h2⟩ := h e ρ M fp R C a hg
    obtain ⟨r2, h3, h4⟩ := ho a v M fp _ h2 q
    exact ⟨r2, by simp [cCB, aCons, aNil, h1, h3], h4⟩
theorem t_cb1N {o : Cop} {t : α → Option β} {g : E → Option α} {f : Ef} (ho : Op1N o t) (h : EV g f) : EN (t1 t g) (cCB o (aCons f aNil)) := fun e ρ M fp R C v q => by
  unfold t1 at q
  cases hg : g e with
  | none => rw [hg] at q; cases q
  | some a =>
    rw [hg] at q
    obtain ⟨r, h1, h2⟩ := h e ρ M fp R C a hg
    obtain ⟨r2, h3, h4⟩ := ho a v M fp _ h2 q
    exact ⟨r2, by simp [cCB, aCons, aNil, h1, h3], h4⟩
theorem o_len [Sq σ α] : Op1 oLen (lenT (σ := σ) (α := α)) := fun a c M fp d h q => by
  cases q; rw [oLen_of (sq_den h), List.length_map]; exact ⟨_, rfl, rfl⟩
@[simp] def tupT [Sq σ α] (x : σ) : Option (Tu α) := some ⟨Sq.toL x⟩
theorem o_tup [Sq σ α] : Op1 oTuple (tupT (σ := σ) (α := α)) := fun a c M fp d h q => by
  cases q; exact ⟨.val (.tup ((Sq.toL a).map Enc.enc)), by simp [sq_den h], rfl⟩
theorem Op1.of [NL α] {o : Cop} {t : α → Option β} (h : ∀ a c M, t a = some c → ∃ r, o [Enc.enc a] M = some r ∧ r.d = Enc.enc c) : Op1 o t := fun a c M fp d h1 q => by rw [den h1]; exact h a c M q
@[simp] def intI (a : Int) : Option Int := some a
theorem o_intI : Op1 oInt intI := .of fun a c M q => by cases q; exact ⟨_, rfl, rfl⟩
@[simp] def srtT (a : List Int) : Option (List Int) := some (isort a)
theorem asL_den {fp : Fp} {M : Mem} {d : D} {x : List α} (h : DenF fp M d (Enc.enc x)) : asL M d = some (x.map Enc.enc) := by
  rcases h with h | ⟨k, ds, h, h2, h3, _⟩
  · rw [h]; rfl
  · cases h2; rw [h, asL_loc', h3]; rfl
theorem o_srt : Op1N oSorted srtT := fun a c M fp d h q => by
  cases q
  refine ⟨(isort a).map .int, ?_, rfl⟩
  rw [oSorted_ap, asL_den h, bnd_some]
  exact srt1_ints
@[simp] def minI (a b : Int) : Option Int := some (min a b)
theorem t_cb2 {o : Cop} {t : Int → Int → Option Int} {ga gb : E → Option Int} {fa fb : Ef} (ho : ∀ a b c M, t a b = some c → o [.int a, .int b] M = some (.val (.int c))) (ha : EV ga fa) (hb : EV gb fb) : EP (tB t ga gb) (cCB o (aCons fa (aCons fb aNil))) := fun e ρ M fp R C v q => by
  unfold tB at q
  cases h1 : ga e with
  | none => rw [h1] at q; cases q
  | some a =>
    cases h2 : gb e with
    | none => rw [h1, h2] at q; cases q
    | some b =>
      rw [h1, h2] at q
      obtain ⟨r1, e1, k1⟩ := ha.p e ρ M fp R C a h1
      obtain ⟨r2, e2, k2⟩ := hb.p e ρ M fp R C b h2
      exact ⟨.val (.int v), by simp [cCB, aCons, aNil, e1, e2, k1, k2, Enc.enc, ho a b v M q], rfl⟩
theorem o_min : ∀ (a b c : Int) (M : Mem), minI a b = some c → oMin2 [.int a, .int b] M = some (.val (.int c)) := fun a b c M q => by cases q; exact oMin2_ap
/-! ### + and * of sequences -/
end
end TL

/-! T3: the typed reading of expressions: slices, displays, tests, calls, comprehensions -/
namespace TL
open PySem PySem.Spec PyProof.Rows L2 CI
section
variable {E : Type} [EnvR E] {α β γ δ ε σ : Type} [Enc α] [Enc β] [Enc γ] [Enc δ] [Enc ε] [Enc σ]
/-! ### slices -/
omit [EnvR E] in
@[simp] def vSome (g : E → Option Int) : E → Option (Option Int) := fun e => (g e).map some
theorem v_some {g : E → Option Int} {f : Ef} (h : EV g f) : OV (vSome g) (sSome f) := fun e ρ M fp R C v q => by
  unfold vSome at q
  cases hg : g e with
  | none => rw [hg] at q; cases q
  | some a =>
    rw [hg] at q; cases q
    obtain ⟨r, h1, h2⟩ := h.p e ρ M fp R C a hg
    simp [sSome, h1, h2, Enc.enc]
omit [EnvR E] in
@[simp] def tSlS (ga : E → Option Scr) (gl gh : E → Option (Option Int)) : E → Option (List Int) := fun e => (ga e).bind fun a => (gl e).bind fun l => (gh e).map fun h => cutL a.l l h
theorem t_slS {ga : E → Option Scr} {gl gh : E → Option (Option Int)} {f : Ef} {l h : Of} (ha : EV ga f) (hl : OV gl l) (hh : OV gh h) : EN (tSlS ga gl gh) (cSl f l h) := fun e ρ M fp R C v q => by
  unfold tSlS at q
  cases h1 : ga e with
  | none => rw [h1] at q; cases q
  | some a =>
    cases h2 : gl e with
    | none => rw [h1, h2] at q; cases q
    | some lo =>
      cases h3 : gh e with
      | none => rw [h1, h2, h3] at q; cases q
      | some hi =>
        rw [h1, h2, h3] at q; cases q
        obtain ⟨r1, e1, k1⟩ := ha.p e ρ M fp R C a h1
        exact ⟨(cutL a.l lo hi).map .int, by simp [cSl, e1, hl e ρ M fp R C lo h2, hh e ρ M fp R C hi h3, k1, Enc.enc], rfl⟩
/-! ### in -/
class Fla (α : Type) [DecidableEq α] [Enc α] : Prop where
  f : ∀ x : α, fl (Enc.enc x) = true
  eq : ∀ x y : α, eqF (Enc.enc x) (Enc.enc y) = decide (x = y)
instance : Fla Int := ⟨fun _ => rfl, fun x y => by show (x == y) = _; by_cases h : x = y <;> simp [h]⟩
instance : Fla Str := ⟨fun _ => rfl, fun x y => by show (x == y) = _; by_cases h : x = y <;> simp [h]⟩
instance : Fla (Option Int) := ⟨fun x => by cases x <;> rfl, fun x y => by
  cases x with
  | none => cases y with
    | none => rfl
    | some y => rfl
  | some x => cases y with
    | none => rfl
    | some y => show (x == y) = _; by_cases h : x = y <;> simp [h]⟩
@[simp] def inT [DecidableEq α] [Sq σ α] (x : α) (xs : σ) : Option Bool := some (decide (x ∈ Sq.toL xs))
@[simp] def ninT [DecidableEq α] [Sq σ α] (x : α) (xs : σ) : Option Bool := some (!decide (x ∈ Sq.toL xs))
theorem inD_T [DecidableEq α] [Fla α] (x : α) : ∀ xs : List α, inD (Enc.enc x) (xs.map Enc.enc) = decide (x ∈ xs)
  | [] => by simp [inD]
  | y :: xs => by
    have := inD_T x xs
    unfold inD at this ⊢
    rw [List.map_cons, List.any_cons, this, Fla.eq]
    by_cases h : y = x
    · subst h; simp
    · have h2 : ¬ x = y := fun z => h z.symm
      simp [h, h2]
theorem allfl_T [DecidableEq α] [Fla α] (xs : List α) : (xs.map Enc.enc).all fl = true := by
  rw [List.all_map]; exact List.all_eq_true.mpr fun x _ => Fla.f x
theorem den_fl [DecidableEq α] [Fla α] {fp : Fp} {M : Mem} {d : D} {x : α} (h : DenF fp M d (Enc.enc x)) : d = Enc.enc x := by
  rcases h with h | ⟨k, ds, _, h, _⟩
  · exact h
  · have := Fla.f x; rw [h] at this; cases this
theorem o_in [DecidableEq α] [Fla α] [Sq σ α] : OpV (oIn false) (inT (α := α) (σ := σ)) := fun a b c M fp d1 d2 h1 h2 q => by
  cases q
  refine ⟨.val (.bl _), ?_, rfl⟩
  rw [den_fl h1]
  unfold oIn
  rw [sq_den h2]
  simp only [Option.bind_some]
  rw [if_pos ⟨Fla.f a, allfl_T _⟩, inD_T]; rfl
theorem o_nin [DecidableEq α] [Fla α] [Sq σ α] : OpV (oIn true) (ninT (α := α) (σ := σ)) := fun a b c M fp d1 d2 h1 h2 q => by
  cases q
  refine ⟨.val (.bl _), ?_, rfl⟩
  rw [den_fl h1]
  unfold oIn
  rw [sq_den h2]
  simp only [Option.bind_some]
  rw [if_pos ⟨Fla.f a, allfl_T _⟩, inD_T]; rfl
/-! ### arguments and displays -/
class Args (A : Type) where
  encs : A → List D
instance : Args Unit := ⟨fun _ => []⟩
instance {A : Type} [Args A] : Args (α × A) := ⟨fun p => Enc.enc p.1 :: Args.encs p.2⟩
def AP {A : Type} [Args A] (g : E → Option A) (f : Af) : Prop := ∀ e ρ M fp, EnvR.rel e ρ M fp → Cl M → ∀ v, g e = some v → f ρ M = some (Args.encs v, M)
omit [EnvR E] in
@[simp] def pNil : E → Option Unit := fun _ => some ()
omit [EnvR E] in
@[simp] def pCons {A : Type} (g : E → Option α) (gs : E → Option A) : E → Option (α × A) := fun e => (g e).bind fun a => (gs e).map fun r => (a, r)
theorem p_nil : AP (E := E) pNil aNil := fun e ρ M fp R C v q => by cases q; rfl
theorem p_cons {A : Type} [Args A] {g : E → Option α} {gs : E → Option A} {f : Ef} {fs : Af} (h1 : EP g f) (h2 : AP gs fs) : AP (pCons g gs) (aCons f fs) := fun e ρ M fp R C v q => by
  unfold pCons at q
  cases hg : g e with
  | none => rw [hg] at q; cases q
  | some a =>
    cases hr : gs e with
    | none => rw [hg, hr] at q; cases q
    | some rr =>
      rw [hg, hr] at q; cases q
      obtain ⟨r, k1, k2⟩ := h1 e ρ M fp R C a hg
      simp [aCons, k1, k2, h2 e ρ M fp R C rr hr, Args.encs]
def AL (g : E → Option (List α)) (f : Af) : Prop := ∀ e ρ M fp, EnvR.rel e ρ M fp → Cl M → ∀ v, g e = some v → f ρ M = some (v.map Enc.enc, M)
omit [EnvR E] in
@[simp] def lNil : E → Option (List α) := fun _ => some []
omit [EnvR E] in
@[simp] def lCons (g : E → Option α) (gs : E → Option (List α)) : E → Option (List α) := fun e => (g e).bind fun a => (gs e).map fun r => a :: r
omit [EnvR E] in
@[simp] def lStar [Sq σ α] (g : E → Option σ) (gs : E → Option (List α)) : E → Option (List α) := fun e => (g e).bind fun a => (gs e).map fun r => Sq.toL a ++ r
theorem l_nil : AL (E := E) (α := α) lNil aNil := fun e ρ M fp R C v q => by cases q; rfl
theorem l_cons {g : E → Option α} {gs : E → Option (List α)} {f : Ef} {fs : Af} (h1 : EP g f) (h2 : AL gs fs) : AL (lCons g gs) (aCons f fs) := fun e ρ M fp R C v q => by
  unfold lCons at q
  cases hg : g e with
  | none => rw [hg] at q; cases q
  | some a =>
    cases hr : gs e with
    | none => rw [hg, hr] at q; cases q
    | some rr =>
      rw [hg, hr] at q; cases q
      obtain ⟨r, k1, k2⟩ := h1 e ρ M fp R C a hg
      simp [aCons, k1, k2, h2 e ρ M fp R C rr hr]
theorem l_star [Sq σ α] {g : E → Option σ} {gs : E → Option (List α)} {f : Ef} {fs : Af} (h1 : EV g f) (h2 : AL gs fs) : AL (lStar g gs) (aStar' f fs) := fun e ρ M fp R C v q => by
  unfold lStar at q
  cases hg : g e with
  | none => rw [hg] at q; cases q
  | some a =>
    cases hr : gs e with
    | none => rw [hg, hr] at q; cases q
    | some rr =>
      rw [hg, hr] at q; cases q
      obtain ⟨r, k1, k2⟩ := h1 e ρ M fp R C a hg
      simp [aStar', k1, sq_den k2, h2 e ρ M fp R C rr hr]
omit [EnvR E] in
@[simp] def tLst (g : E → Option (List α)) : E → Option (List α) := fun e => (g e).bind fun xs => if xs.length ≤ 16777216 then some xs else none
theorem t_lst {g : E → Option (List α)} {f : Af} (h : AL g f) : EN (tLst g) (cLst f) := fun e ρ M fp R C v q => by
  unfold tLst at q
  cases hg : g e with
  | none => rw [hg] at q; cases q
  | some xs =>
    rw [hg] at q; simp only [Option.bind_some] at q
    split at q
    · rename_i hl; cases q
      exact ⟨_, by simp [cLst, h e ρ M fp R C _ hg, sizeLine, hl], rfl⟩
    · cases q
omit [EnvR E] in
/-- tuples of written length -/
@[simp] def tPr (conv : γ → δ) (g : E → Option γ) : E → Option δ := fun e => (g e).map conv
@[simp] def mk2 (p : α × β × Unit) : α × β := (p.1, p.2.1)
@[simp] def mk4 (p : α × β × γ × δ × Unit) : P4 α β γ δ := ⟨p.1, p.2.1, p.2.2.1, p.2.2.2.1⟩
theorem t_pr {A : Type} [Args A] {conv : A → δ} {g : E → Option A} {f : Af} (h : AP g f) (hc : ∀ a, Enc.enc (conv a) = .tup (Args.encs a)) (hl : ∀ a : A, (Args.encs a).length ≤ 16777216) : EP (tPr conv g) (cTup f) := fun e ρ M fp R C v q => by
  unfold tPr at q
  cases hg : g e with
  | none => rw [hg] at q; cases q
  | some a =>
    rw [hg] at q; cases q
    exact ⟨.val (.tup (Args.encs a)), by simp [cTup, h e ρ M fp R C _ hg, sizeLine, hl a], (hc a).symm⟩
theorem t_pr2 {g : E → Option (α × β × Unit)} {f : Af} (h : AP g f) : EP (tPr mk2 g) (cTup f) := t_pr h (fun _ => rfl) fun _ => by show 2 ≤ _; decide
theorem t_pr4 {g : E → Option (α × β × γ × δ × Unit)} {f : Af} (h : AP g f) : EP (tPr mk4 g) (cTup f) := t_pr h (fun _ => rfl) fun _ => by show 4 ≤ _; decide
omit [EnvR E] in
/-- a written place of a tuple of written length -/
@[simp] def tMap (p : α → β) (g : E → Option α) : E → Option β := fun e => (g e).map p
theorem t_at {p : α → β} {g : E → Option α} {f : Ef} {i : Int} (h : EP g f) (hp : ∀ a M, oIx (Enc.enc a) (.int i) M = some (.val (Enc.enc (p a)))) : EP (tMap p g) (cBin oIx f (cInt i)) := fun e ρ M fp R C v q => by
  unfold tMap at q
  cases hg : g e with
  | none => rw [hg] at q; cases q
  | some a =>
    rw [hg] at q; cases q
    obtain ⟨r, k1, k2⟩ := h e ρ M fp R C a hg
    exact ⟨.val (Enc.enc (p a)), by simp [cBin, cVal, k1, k2, hp a M], rfl⟩
/-! ### tests -/
theorem p_B {g : E → Option Bool} {f : Ef} (h : EV g f) : TP g (toB f) := fun e ρ M fp R C b q => by
  obtain ⟨r, k1, k2⟩ := h.p e ρ M fp R C b q
  simp [toB, k1, k2, Enc.enc]
class Tr (α : Type) [Enc α] where
  tr : α → Bool
  ok : ∀ x M d fp, DenF fp M d (Enc.enc x) → trD M d = some (tr x)
instance : Tr Int := ⟨fun x => x != 0, fun x M d fp h => by rw [den h]; rfl⟩
instance : Tr Bool := ⟨id, fun x M d fp h => by rw [den h]; rfl⟩
instance : Tr Unit := ⟨fun _ => false, fun x M d fp h => by rw [den h]; rfl⟩
theorem isE_map {xs : List α} {f : α → D} : (xs.map f).isEmpty = xs.isEmpty := by cases xs <;> rfl
instance : Tr (List α) := ⟨fun x => !x.isEmpty, fun x M d fp h => by
  have := sq_den h
  rcases h with h | ⟨k, ds, h, h2, h3, _⟩
  · rw [h]; show some (!(List.map _ _).isEmpty) = _; rw [isE_map]
  · cases h2; rw [h, trD_loc, h3]; show some (!(List.map _ _).isEmpty) = _; rw [isE_map]⟩
instance : Tr (Tu α) := ⟨fun x => !x.l.isEmpty, fun x M d fp h => by rw [den h]; show some (!(List.map _ _).isEmpty) = _; rw [isE_map]⟩
omit [EnvR E] in
@[simp] def tTr [Tr α] (g : E → Option α) : E → Option Bool := fun e => (g e).map Tr.tr
theorem p_Tr [Tr α] {g : E → Option α} {f : Ef} (h : EV g f) : TP (tTr g) (toTr f) := fun e ρ M fp R C b q => by
  unfold tTr at q
  cases hg : g e with
  | none => rw [hg] at q; cases q
  | some a =>
    rw [hg] at q; cases q
    obtain ⟨r, k1, k2⟩ := h e ρ M fp R C a hg
    simp [toTr, k1, Tr.ok a M _ fp k2]
omit [EnvR E] in
@[simp] def tAnd (ga gb : E → Option Bool) : E → Option Bool := fun e => (ga e).bind fun b => if b = true then gb e else some false
omit [EnvR E] in
@[simp] def tOr (ga gb : E → Option Bool) : E → Option Bool := fun e => (ga e).bind fun b => if b = true then some true else gb e
omit [EnvR E] in
@[simp] def tNot (ga : E → Option Bool) : E → Option Bool := fun e => (ga e).map fun b => !b
theorem p_or {ga gb : E → Option Bool} {a b : Tf} (ha : TP ga a) (hb : TP gb b) : TP (tOr ga gb) (kOr a b) := fun e ρ M fp R C v q => by
  unfold tOr at q
  cases hg : ga e with
  | none => rw [hg] at q; cases q
  | some x =>
    rw [hg] at q
    cases x with
    | false => simp [kOr, ha e ρ M fp R C _ hg, hb e ρ M fp R C v (by simpa using q)]
    | true => simp at q; subst q; simp [kOr, ha e ρ M fp R C _ hg]
theorem p_not {ga : E → Option Bool} {a : Tf} (ha : TP ga a) : TP (tNot ga) (kNot a) := fun e ρ M fp R C v q => by
  unfold tNot at q
  cases hg : ga e with
  | none => rw [hg] at q; cases q
  | some x => rw [hg] at q; cases q; simp [kNot, ha e ρ M fp R C _ hg]
theorem t_and {ga gb : E → Option Bool} {a b : Ef} (ha : EV ga a) (hb : EV gb b) : EP (tAnd ga gb) (cAnd a b) := fun e ρ M fp R C v q => by
  unfold tAnd at q
  cases hg : ga e with
  | none => rw [hg] at q; cases q
  | some x =>
    rw [hg] at q
    obtain ⟨r, k1, k2⟩ := ha.p e ρ M fp R C x hg
    cases x with
    | true =>
      obtain ⟨r2, k3, k4⟩ := hb.p e ρ M fp R C v (by simpa using q)
      exact ⟨r2, by simp [cAnd, k1, k2, k3, Enc.enc], k4⟩
    | false => simp at q; subst q; exact ⟨.val (.bl false), by simp [cAnd, k1, k2, Enc.enc], rfl⟩
end
end TL

/-! T4: the typed reading of calls, iterables, comprehensions -/
namespace TL
open PySem PySem.Spec PyProof.Rows L2 CI
mutual
theorem nl_mono {n m : Nat} (h : n ≤ m) : ∀ {d : D}, nl n d = true → nl m d = true
  | .loc k, q => by rw [nl_loc] at q ⊢; simp at q ⊢; omega
  | .tup ds, q => by rw [nl_tup] at q ⊢; exact nls_mono h q
  | .lst ds, q => by rw [nl_lst] at q ⊢; exact nls_mono h q
  | .non, _ => rfl
  | .bl _, _ => rfl
  | .int _, _ => rfl
  | .str _, _ => rfl
  | .scr _, _ => rfl
theorem nls_mono {n m : Nat} (h : n ≤ m) : ∀ {ds : List D}, nls n ds = true → nls m ds = true
  | [], _ => rfl
  | d :: ds, q => by
    rw [nls_cons, Bool.and_eq_true] at q ⊢
    exact ⟨nl_mono h q.1, nls_mono h q.2⟩
end
theorem nlF_mono {n m : Nat} (h : n ≤ m) : ∀ {fs : List (Str × D)}, nlF n fs = true → nlF m fs = true
  | [], _ => rfl
  | (f, d) :: ds, q => by
    rw [nlF_cons, Bool.and_eq_true] at q ⊢
    exact ⟨nl_mono h q.1, nlF_mono h q.2⟩
theorem nlK_mono {n m : Nat} (h : n ≤ m) : ∀ {fs : List (Key × D)}, nlK n fs = true → nlK m fs = true
  | [], _ => rfl
  | (f, d) :: ds, q => by
    rw [nlK_cons, Bool.and_eq_true] at q ⊢
    exact ⟨nl_mono h q.1, nlK_mono h q.2⟩
theorem nlO_mono {n m : Nat} (h : n ≤ m) : ∀ {o : O}, nlO n o = true → nlO m o = true
  | .lst ds, q => nls_mono h q
  | .ins c fs, q => nlF_mono h q
  | .dct fs, q => nlK_mono h q
theorem cl_nil : Cl [] := fun j o h => by simp at h
theorem cl_push {M : Mem} {o : O} (C : Cl M) (h : nlO M.length o = true) : Cl (M ++ [o]) := fun j x q => by
  rw [List.length_append]
  rcases Nat.lt_or_ge j M.length with z | z
  · rw [List.getElem?_append_left z] at q
    exact nlO_mono (by simp) (C j x q)
  · rw [List.getElem?_append_right z] at q
    cases y : j - M.length with
    | zero => rw [y] at q; simp at q; subst q; exact nlO_mono (by simp) h
    | succ i => rw [y] at q; simp at q
theorem cl_set {M : Mem} {o : O} {k : Nat} (C : Cl M) (h : nlO M.length o = true) : Cl (M.set k o) := fun j x q => by
  rw [List.length_set]
  by_cases z : k = j
  · subst z
    rw [List.getElem?_set_self'] at q
    cases y : M[k]? with
    | none => rw [y] at q; simp at q
    | some u => rw [y] at q; simp at q; subst q; exact h
  · rw [List.getElem?_set_ne z] at q; exact C j x q
section
variable {E : Type} [EnvR E] {α β γ δ ε σ : Type} [Enc α] [Enc β] [Enc γ] [Enc δ] [Enc ε] [Enc σ] {A : Type} [Args A]
/-! ### calls -/
def FnT (F : Fn) (T : A → Option β) : Prop := ∀ a b, T a = some b → ∀ M, Cl M → ∃ r, F (Args.encs a) M = some (r, M) ∧ r.d = Enc.enc b
def FnN (F : Fn) (T : A → Option β) : Prop := ∀ a b, T a = some b → ∀ M, Cl M → ∃ ds, F (Args.encs a) M = some (.new ds, M) ∧ Enc.enc b = .lst ds
theorem FnN.t {F : Fn} {T : A → Option β} (h : FnN F T) : FnT F T := fun a b q M C => by
  obtain ⟨ds, h1, h2⟩ := h a b q M C
  exact ⟨_, h1, h2.symm⟩
omit [EnvR E] in
@[simp] def tCall (T : A → Option β) (g : E → Option A) : E → Option β := fun e => (g e).bind T
theorem t_call {F : Fn} {T : A → Option β} {g : E → Option A} {f : Af} (h : FnT F T) (ha : AP g f) : EP (tCall T g) (cCall F f) := fun e ρ M fp R C v q => by
  unfold tCall at q
  cases hg : g e with
  | none => rw [hg] at q; cases q
  | some a =>
    rw [hg] at q
    obtain ⟨r, h1, h2⟩ := h a v q M C
    exact ⟨r, by simp [cCall, ha e ρ M fp R C a hg, h1], h2⟩
theorem t_callN {F : Fn} {T : A → Option β} {g : E → Option A} {f : Af} (h : FnN F T) (ha : AP g f) : EN (tCall T g) (cCall F f) := fun e ρ M fp R C v q => by
  unfold tCall at q
  cases hg : g e with
  | none => rw [hg] at q; cases q
  | some a =>
    rw [hg] at q
    obtain ⟨r, h1, h2⟩ := h a v q M C
    exact ⟨r, by simp [cCall, ha e ρ M fp R C a hg, h1], h2⟩
def AV (g : E → Option A) (f : Af) : Prop := ∀ e ρ M fp, EnvR.rel e ρ M fp → Cl M → ∀ v, g e = some v → ∃ ds, f ρ M = some (ds, M) ∧ ds.map (lend M) = Args.encs v
theorem den_lend {fp : Fp} {M : Mem} {d : D} {x : α} (h : DenF fp M d (Enc.enc x)) : lend M d = Enc.enc x := by
  rcases h with h | ⟨k, ds, h, h2, h3, _⟩
  · have := Enc.nle 0 x
    rw [h]
    cases hx : Enc.enc x with
    | loc k => rw [hx, nl_loc] at this; simp at this
    | _ => rfl
  · rw [h]; unfold lend; simp only; rw [h3, h2]
theorem v_nil : AV (E := E) pNil aNil := fun e ρ M fp R C v q => by cases q; exact ⟨[], rfl, rfl⟩
theorem v_cons {g : E → Option α} {gs : E → Option A} {f : Ef} {fs : Af} (h1 : EV g f) (h2 : AV gs fs) : AV (pCons g gs) (aCons f fs) := fun e ρ M fp R C v q => by
  unfold pCons at q
  cases hg : g e with
  | none => rw [hg] at q; cases q
  | some a =>
    cases hr : gs e with
    | none => rw [hg, hr] at q; cases q
    | some rr =>
      rw [hg, hr] at q; cases q
      obtain ⟨r, k1, k2⟩ := h1 e ρ M fp R C a hg
      obtain ⟨ds, k3, k4⟩ := h2 e ρ M fp R C rr hr
      exact ⟨r.d :: ds, by simp [aCons, k1, k3], by rw [List.map_cons, k4, den_lend k2]; rfl⟩
class FlatE (α : Type) [Enc α] : Prop where
  f : ∀ x : α, flat (Enc.enc x) = true
theorem flats_map [FlatE α] (xs : List α) : flats (xs.map Enc.enc) = true := by
  induction xs with
  | nil => rfl
  | cons x xs ih => rw [List.map_cons, flats, FlatE.f x, ih]; rfl
instance : FlatE Int := ⟨fun _ => rfl⟩
instance : FlatE Bool := ⟨fun _ => rfl⟩
instance : FlatE Str := ⟨fun _ => rfl⟩
instance : FlatE Unit := ⟨fun _ => rfl⟩
instance [FlatE α] : FlatE (Tu α) := ⟨fun x => by show flat (.tup _) = true; rw [flat]; exact flats_map x.l⟩
instance [FlatE α] [FlatE β] : FlatE (α × β) := ⟨fun x => by show flat (.tup [_, _]) = true; simp [flat, flats, FlatE.f]⟩
instance [FlatE α] [FlatE β] [FlatE γ] : FlatE (P3 α β γ) := ⟨fun x => by show flat (.tup [_, _, _]) = true; simp [flat, flats, FlatE.f]⟩
instance [FlatE α] [FlatE β] [FlatE γ] [FlatE δ] : FlatE (P4 α β γ δ) := ⟨fun x => by show flat (.tup [_, _, _, _]) = true; simp [flat, flats, FlatE.f]⟩
instance [FlatE α] : FlatE (Option α) := ⟨fun x => by cases x with | none => rfl | some x => exact FlatE.f x⟩
theorem lend1_T {F : Fn} {T : A → Option β} (h : FnT F T) {a : A} {b : β} {M : Mem} {ds : List D} (hq : T a = some b) (hd : ds.map (lend M) = Args.encs a) (hn : nls 0 (Args.encs a) = true) :
    ∃ r, F (Args.encs a) [] = some (r, []) ∧ r.d = Enc.enc b ∧ (flatR r = true → cLend1 F (ds, M) = some (r, M)) := by
  obtain ⟨r, h1, h2⟩ := h a b hq [] cl_nil
  refine ⟨r, h1, h2, fun hf => ?_⟩
  unfold cLend1
  simp only
  rw [hd, if_pos hn, h1]
  simp [hf]
theorem t_lend [FlatE β] {F : Fn} {T : A → Option β} {g : E → Option A} {f : Af} (h : FnT F T) (hn : ∀ a : A, nls 0 (Args.encs a) = true) (ha : AV g f) : EP (tCall T g) (cLend F f) := fun e ρ M fp R C v q => by
  unfold tCall at q
  cases hg : g e with
  | none => rw [hg] at q; cases q
  | some a =>
    rw [hg] at q
    obtain ⟨ds, k1, k2⟩ := ha e ρ M fp R C a hg
    obtain ⟨r, h1, h2, h3⟩ := lend1_T h q k2 (hn a)
    have fr : flatR r = true := by
      have := FlatE.f v
      cases r with
      | val d => rw [← h2] at this; exact this
      | new ds => rw [← h2] at this; simp [flat] at this
    exact ⟨r, by simp [k1, h3 fr], h2⟩
theorem t_lendN [FlatE β] {F : Fn} {T : A → Option (List β)} {g : E → Option A} {f : Af} (h : FnN F T) (hn : ∀ a : A, nls 0 (Args.encs a) = true) (ha : AV g f) : EN (tCall T g) (cLend F f) := fun e ρ M fp R C v q => by
  unfold tCall at q
  cases hg : g e with
  | none => rw [hg] at q; cases q
  | some a =>
    rw [hg] at q
    obtain ⟨ds, k1, k2⟩ := ha e ρ M fp R C a hg
    obtain ⟨r, h1, h2, h3⟩ := lend1_T h.t q k2 (hn a)
    obtain ⟨ds2, h4, h5⟩ := h a v q [] cl_nil
    rw [h1] at h4; cases h4
    have h5 : D.lst (v.map Enc.enc) = .lst ds2 := h5
    have fr : flatR (.new ds2) = true := by cases h5; exact flats_map v
    exact ⟨ds2, by simp [k1, h3 fr], h5⟩
/-! ### iterables -/
def IV (g : E → Option (List α)) (it : If) : Prop := ∀ e ρ M fp, EnvR.rel e ρ M fp → Cl M → ∀ xs, g e = some xs → ∃ gk, it ρ M = some (xs.map Enc.enc, gk, M) ∧ ∀ k, gk = some k → M[k]? = some (.lst (xs.map Enc.enc)) ∧ fp k
def IP (g : E → Option (List α)) (it : If) : Prop := ∀ e ρ M fp, EnvR.rel e ρ M fp → Cl M → ∀ xs, g e = some xs → it ρ M = some (xs.map Enc.enc, none, M)
theorem IP.v {g : E → Option (List α)} {it : If} (h : IP g it) : IV g it := fun e ρ M fp R C xs q => ⟨none, h e ρ M fp R C xs q, fun k z => nomatch z⟩
omit [EnvR E] in
@[simp] def iL [Sq σ α] (g : E → Option σ) : E → Option (List α) := fun e => (g e).map Sq.toL
theorem gk_enc (x : α) : gkOf (Enc.enc x) = none := by
  have := Enc.nle 0 x
  cases hx : Enc.enc x with
  | loc k => rw [hx, nl_loc] at this; simp at this
  | _ => rfl
theorem i_seq [Sq σ α] {g : E → Option σ} {f : Ef} (h : EP g f) : IP (iL g) (iSeq f) := fun e ρ M fp R C xs q => by
  unfold iL at q
  cases hg : g e with
  | none => rw [hg] at q; cases q
  | some a =>
    rw [hg] at q; cases q
    obtain ⟨r, k1, k2⟩ := h e ρ M fp R C a hg
    simp [iSeq, k1, k2, Sq.ok, gk_enc]
theorem i_seqV {g : E → Option (List α)} {f : Ef} (h : EV g f) : IV (iL g) (iSeq f) := fun e ρ M fp R C xs q => by
  unfold iL at q
  cases hg : g e with
  | none => rw [hg] at q; cases q
  | some a =>
    rw [hg] at q; cases q
    obtain ⟨r, k1, k2⟩ := h e ρ M fp R C a hg
    have k3 := sq_den k2
    rcases k2 with k2 | ⟨k, ds, k2, k4, k5, k6⟩
    · exact ⟨none, by simp [iSeq, k1, k3]; rw [k2]; exact gk_enc a, fun k z => nomatch z⟩
    · refine ⟨some k, by simp [iSeq, k1, k3]; rw [k2]; rfl, fun k' z => ?_⟩
      cases z; cases k4; exact ⟨k5, k6⟩
def rgT (lo : Int) (n : Nat) : List Int := (List.range n).map fun (i : Nat) => lo + i
theorem rgT_D {lo : Int} {n : Nat} : rgD lo n = (rgT lo n).map Enc.enc := by unfold rgD rgT; rw [List.map_map]; rfl
omit [EnvR E] in
@[simp] def iR1 (g : E → Option Int) : E → Option (List Int) := fun e => (g e).bind fun j => if rgB j = true then some (rgT 0 j.toNat) else none
omit [EnvR E] in
@[simp] def iR2 (ga gb : E → Option Int) : E → Option (List Int) := fun e => (ga e).bind fun i => (gb e).bind fun j => if rgB i = true ∧ rgB j = true then some (rgT i (j - i).toNat) else none
theorem i_rg1 {g : E → Option Int} {f : Ef} (h : EV g f) : IP (iR1 g) (iRg1 f) := fun e ρ M fp R C xs q => by
  unfold iR1 at q
  cases hg : g e with
  | none => rw [hg] at q; cases q
  | some a =>
    rw [hg] at q
    obtain ⟨r, k1, k2⟩ := h.p e ρ M fp R C a hg
    simp only [Option.bind_some] at q
    split at q
    · rename_i hb; cases q
      have k2 : r.d = .int a := k2
      unfold iRg1
      rw [k1]
      simp only [Option.bind_some]
      rw [k2]
      simp only
      rw [if_pos hb, rgT_D]
    · cases q
theorem i_rg2 {ga gb : E → Option Int} {fa fb : Ef} (ha : EV ga fa) (hb : EV gb fb) : IP (iR2 ga gb) (iRg2 fa fb) := fun e ρ M fp R C xs q => by
  unfold iR2 at q
  cases h1 : ga e with
  | none => rw [h1] at q; cases q
  | some a =>
    cases h2 : gb e with
    | none => rw [h1, h2] at q; cases q
    | some b =>
      rw [h1, h2] at q
      obtain ⟨r, k1, k2⟩ := ha.p e ρ M fp R C a h1
      obtain ⟨r2, k3, k4⟩ := hb.p e ρ M fp R C b h2
      simp only [Option.bind_some] at q
      split at q
      · rename_i hc; cases q
        have k2 : r.d = .int a := k2
        have k4 : r2.d = .int b := k4
        unfold iRg2
        rw [k1]
        simp only [Option.bind_some]
        rw [k3]
        simp only [Option.bind_some]
        rw [k2, k4]
        simp only
        rw [if_pos hc, rgT_D]
      · cases q
def enT (xs : List α) : List (Int × α) := xs.zipIdx.map fun p => (((p.2 : Nat) : Int), p.1)
omit [EnvR E] in
@[simp] def iEn [Sq σ α] (g : E → Option σ) : E → Option (List (Int × α)) := fun e => (g e).map fun x => enT (Sq.toL x)
/-! ### targets -/
def GP (p : α → E → Option E) (g : Gf) : Prop := ∀ x e ρ M fp, EnvR.rel e ρ M fp → ∀ e', p x e = some e' → ∃ ρ' fp', g (Enc.enc x) ρ M = some (ρ', M) ∧ EnvR.rel e' ρ' M fp' ∧ ∀ j, fp' j → fp j
theorem lens_val {i : Nat} (ln : Lens E (Option α) i) [LOk ln] {e : E} {ρ : Slots} {M : Mem} {fp : Fp} (R : EnvR.rel e ρ M fp) (v : α) : ∃ fp', EnvR.rel (ln.set e (some v)) (ρ.set i (some (Enc.enc v))) M fp' ∧ ∀ j, fp' j → fp j := by
  obtain ⟨f1, h1, h2, h3⟩ := LOk.ok (ln := ln) e ρ M fp R
  obtain ⟨fp', h4, h5⟩ := h3 (some v) (some (Enc.enc v)) M (fun _ => False) rel_val (fun _ _ _ => rfl) (fun _ q => q.elim)
  exact ⟨fp', h4, fun j q => (h5 j q).elim (·.1) False.elim⟩
omit [EnvR E] in
@[simp] def pNm {i : Nat} (ln : Lens E (Option α) i) : α → E → Option E := fun x e => some (ln.set e (some x))
theorem g_nm {i : Nat} (ln : Lens E (Option α) i) [LOk ln] : GP (pNm ln) (gNm i) := fun x e ρ M fp R e' q => by
  cases q
  obtain ⟨fp', h1, h2⟩ := lens_val ln R x
  exact ⟨_, fp', rfl, h1, h2⟩
/-! ### comprehensions -/
def WP (w : E → E) (vs : List Nat) : Prop := ∀ e ρ M fp, EnvR.rel e ρ M fp → ∃ fp', EnvR.rel (w e) (wipeD ρ vs) M fp' ∧ ∀ j, fp' j → fp j
omit [EnvR E] in
@[simp] def wNil : E → E := id
omit [EnvR E] in
@[simp] def wCons {α : Type} {i : Nat} (ln : Lens E (Option α) i) (w : E → E) : E → E := fun e => ln.set (w e) none
theorem w_nil : WP (E := E) wNil [] := fun e ρ M fp R => ⟨fp, R, fun _ q => q⟩
theorem w_cons {i : Nat} {vs : List Nat} (ln : Lens E (Option α) i) [LOk ln] {w : E → E} (h : WP w vs) : WP (wCons ln w) (i :: vs) := fun e ρ M fp R => by
  obtain ⟨f0, h1, h2⟩ := h e ρ M fp R
  obtain ⟨f1, k1, k2, k3⟩ := LOk.ok (ln := ln) (w e) (wipeD ρ vs) M f0 h1
  obtain ⟨fp', h4, h5⟩ := k3 none none M (fun _ => False) (SlotR.emp_rel (τ := Option α) _ _) (fun _ _ _ => rfl) (fun _ q => q.elim)
  exact ⟨fp', h4, fun j q => (h5 j q).elim (fun z => h2 j z.1) False.elim⟩
def filtM (f : α → Option (Option β)) : List α → Option (List β)
  | [] => some []
  | x :: xs => (f x).bind fun o => (filtM f xs).map fun r => match o with
    | some y => y :: r
    | none => r
omit [EnvR E] in
@[simp] def tElt (asg : α → E → Option E) (tt : E → Option Bool) (te : E → Option β) (e : E) (x : α) : Option (Option β) := (asg x e).bind fun e' => (tt e').bind fun b => if b = true then (te e').map some else some none
omit [EnvR E] in
@[simp] def tC (gi : E → Option (List α)) (w : E → E) (asg : α → E → Option E) (tt : E → Option Bool) (te : E → Option β) : E → Option (List β) := fun e => (gi e).bind fun xs => if xs.length ≤ 16777216 then filtM (tElt asg tt te (w e)) xs else none
omit [EnvR E] in
@[simp] def tYes : E → Option Bool := fun _ => some true
theorem p_yes : TP (E := E) tYes tYesF := fun e ρ M fp R C b q => by cases q; rfl
theorem lcF_T {asg : α → E → Option E} {tt : E → Option Bool} {te : E → Option β} {g : Gf} {t : Tf} {f : Ef} (hg : GP asg g) (ht : TP tt t) (hf : EP te f) {e : E} {ρ : Slots} {M : Mem} {fp : Fp} (R : EnvR.rel e ρ M fp) (C : Cl M) {gk : Option Nat} {ds0 : List D} (hgd : ∀ x : O, guard gk ds0 (M ++ [x])) :
    ∀ (xs : List α) (acc ys : List β), acc.length + xs.length ≤ 16777216 → filtM (tElt asg tt te e) xs = some ys → lcF g t f ρ M.length gk ds0 (xs.map Enc.enc) (M ++ [.lst (acc.map Enc.enc)]) = some (M ++ [.lst ((acc ++ ys).map Enc.enc)])
  | [], acc, ys, _, h => by cases h; simp [lcF]
  | x :: xs, acc, ys, hl, h => by
    unfold filtM at h
    cases q : tElt asg tt te e x with
    | none => rw [q] at h; cases h
    | some o =>
      rw [q] at h
      simp only [Option.bind_some] at h
      cases q2 : filtM (tElt asg tt te e) xs with
      | none => rw [q2] at h; cases h
      | some r =>
        rw [q2] at h
        simp only [Option.map_some, Option.some.injEq] at h
        unfold tElt at q
        have C1 : Cl (M ++ [.lst (acc.map Enc.enc)]) := cl_push C (nls_enc _ acc)
        have R1 : EnvR.rel e ρ (M ++ [.lst (acc.map Enc.enc)]) fp := EnvR.frame R fun j z => List.getElem?_append_left (EnvR.bnd R j z)
        cases q3 : asg x e with
        | none => rw [q3] at q; cases q
        | some e1 =>
          rw [q3] at q; simp only [Option.bind_some] at q
          obtain ⟨ρ1, f1, k1, k2, k3⟩ := hg x e ρ _ fp R1 e1 q3
          cases q4 : tt e1 with
          | none => rw [q4] at q; cases q
          | some b =>
            rw [q4] at q; simp only [Option.bind_some] at q
            have k4 := ht e1 ρ1 _ f1 k2 C1 b q4
            rw [List.map_cons]
            unfold lcF
            rw [k1]
            simp only [Option.bind_some]
            rw [k4]
            simp only [Option.bind_some]
            cases b with
            | false =>
              simp at q
              subst q
              subst h
              rw [if_neg (by simp), if_pos (hgd _)]
              exact lcF_T hg ht hf R C hgd xs acc r (by simp at hl ⊢; omega) q2
            | true =>
              simp only [if_true] at q ⊢
              cases q5 : te e1 with
              | none => rw [q5] at q; cases q
              | some y =>
                rw [q5] at q
                cases q
                subst h
                obtain ⟨z, k5, k6⟩ := hf e1 ρ1 _ f1 k2 C1 y q5
                rw [k5]
                simp only [Option.bind_some]
                rw [get_end]
                simp only [List.length_map]
                have hz : acc.length < sizeLine := by rw [line_lt]; simp at hl; omega
                rw [if_pos hz, set_end, if_pos (hgd _), k6]
                have := lcF_T hg ht hf R C hgd xs (acc ++ [y]) r (by simp at hl ⊢; omega) q2
                rw [List.map_append] at this
                simp only [List.map_cons, List.map_nil] at this
                rw [this]
                simp
theorem t_lc {gi : E → Option (List α)} {w : E → E} {vs : List Nat} {asg : α → E → Option E} {tt : E → Option Bool} {te : E → Option β} {it : If} {g : Gf} {t : Tf} {f : Ef} (hi : IV gi it) (hw : WP w vs) (hg : GP asg g) (ht : TP tt t) (hf : EP te f) :
    EN (tC gi w asg tt te) (cLc it vs g t f) := fun e ρ M fp R C v q => by
  unfold tC at q
  cases q1 : gi e with
  | none => rw [q1] at q; cases q
  | some xs =>
    rw [q1] at q; simp only [Option.bind_some] at q
    split at q
    · rename_i hl
      obtain ⟨gk, k1, k2⟩ := hi e ρ M fp R C xs q1
      obtain ⟨fw, k3, k4⟩ := hw e ρ M fp R
      have gd : guard gk (xs.map Enc.enc) M := fun k z => (k2 k z).1
      have := lcF_T hg ht hf k3 C (guard_app gd) xs [] v (by simpa using hl) q
      simp only [List.map_nil, List.nil_append] at this
      refine ⟨v.map Enc.enc, ?_, rfl⟩
      unfold cLc
      rw [k1]
      simp only [Option.bind_some]
      rw [this]
      simp only [Option.bind_some]
      rw [get_end]
      simp only
      rw [if_pos]
      · simp
      · exact ⟨by simp, .inl (by simp), nls_enc _ v⟩
    · cases q
end
end TL

/-! T5: the typed reading of statements and defs -/
namespace TL
open PySem PySem.Spec PyProof.Rows L2 CI
inductive Fw (β E : Type) where
  | nx (e : E) | bk (e : E) | ct (e : E) | rt (b : β)
/-- how a def hands back: a value, a new list, a tuple with new lists in it -/
inductive RM where
  | v | n | r
  deriving DecidableEq
/-- what a def hands back, by a relation that grows with the places of its own -/
structure RTy (β : Type) where
  R : β → Rz → Mem → Fp → Prop
  mono : ∀ {b r M fp fp1}, (∀ j, fp1 j → fp j) → R b r M fp1 → R b r M fp
section
variable {E : Type} [EnvR E] {α β γ δ ε σ : Type} [Enc α] [Enc γ] [Enc δ] [Enc ε] [Enc σ] {A : Type} [Args A] {fr : RM} {RT : RTy β}
def RelQ (n : Nat) (fp : Fp) (e : E) (ρ : Slots) (M : Mem) : Prop := ∃ fp', EnvR.rel e ρ M fp' ∧ ∀ j, fp' j → fp j ∨ n ≤ j
def RetR [Enc β] (fr : RM) (b : β) (r : Rz) (M : Mem) (fp : Fp) : Prop := (fr ≠ .n ∧ r.d = Enc.enc b) ∨ (∃ ds, r = .new ds ∧ Enc.enc b = .lst ds) ∨ (∃ k ds, r = .val (.loc k) ∧ M[k]? = some (.lst ds) ∧ Enc.enc b = .lst ds ∧ fp k) ∨ (fr = .r ∧ ∃ ds, r = .val (.tup ds) ∧ ∀ n, (∀ k, fp k → n ≤ k) → resD n M (.tup ds) = some (Enc.enc b))
def Out (RT : RTy β) (n : Nat) (fp : Fp) : Fw β E → Fl → Slots → Mem → Prop
  | .nx e, fl, ρ, M => fl = .nx ∧ RelQ n fp e ρ M
  | .bk e, fl, ρ, M => fl = .bk ∧ RelQ n fp e ρ M
  | .ct e, fl, ρ, M => fl = .ct ∧ RelQ n fp e ρ M
  | .rt b, fl, ρ, M => ∃ r, fl = .rt r ∧ RT.R b r M fun j => fp j ∨ n ≤ j
def SP (RT : RTy β) (g : E → Option (Fw β E)) (f : Sf) : Prop := ∀ e ρ M fp, EnvR.rel e ρ M fp → Cl M → ∀ o, g e = some o → ∃ fl ρ' M', f ρ M = some (fl, ρ', M') ∧ Frm M fp M' ∧ Cl M' ∧ Out RT M.length fp o fl ρ' M'
theorem RelQ.mono {n n1 : Nat} {fp fp1 : Fp} {e : E} {ρ : Slots} {M : Mem} (hf : ∀ j, fp1 j → fp j ∨ n ≤ j) (hn : n ≤ n1) (h : RelQ n1 fp1 e ρ M) : RelQ n fp e ρ M := by
  obtain ⟨fp', h1, h2⟩ := h
  exact ⟨fp', h1, fun j q => (h2 j q).elim (hf j) fun z => .inr (by omega)⟩
theorem RetR.mono [Enc β] {b : β} {r : Rz} {M : Mem} {fp fp1 : Fp} (hf : ∀ j, fp1 j → fp j) (h : RetR fr b r M fp1) : RetR fr b r M fp := by
  rcases h with h | h | ⟨k, ds, h1, h2, h3, h4⟩ | ⟨h0, ds, h1, h2⟩
  · exact .inl h
  · exact .inr (.inl h)
  · exact .inr (.inr (.inl ⟨k, ds, h1, h2, h3, hf k h4⟩))
  · exact .inr (.inr (.inr ⟨h0, ds, h1, fun n q => h2 n fun k z => q k (hf k z)⟩))
abbrev rt [Enc β] (fr : RM) : RTy β := ⟨RetR fr, RetR.mono⟩
theorem Out.mono {n n1 : Nat} {fp fp1 : Fp} (hf : ∀ j, fp1 j → fp j ∨ n ≤ j) (hn : n ≤ n1) : ∀ {o : Fw β E} {fl : Fl} {ρ : Slots} {M : Mem}, Out RT n1 fp1 o fl ρ M → Out RT n fp o fl ρ M
  | .nx _, _, _, _, h => ⟨h.1, h.2.mono hf hn⟩
  | .bk _, _, _, _, h => ⟨h.1, h.2.mono hf hn⟩
  | .ct _, _, _, _, h => ⟨h.1, h.2.mono hf hn⟩
  | .rt _, _, _, _, ⟨r, h1, h2⟩ => ⟨r, h1, RT.mono (fun j z => z.elim (hf j) fun z => .inr (by omega)) h2⟩
/-! ### plain statements -/
omit [EnvR E] in
@[simp] def tNil : E → Option (Fw β E) := fun e => some (.nx e)
theorem s_nil : SP (E := E) (β := β) RT tNil sNil := fun e ρ M fp R C o q => by
  cases q; exact ⟨_, _, _, rfl, .refl, C, rfl, fp, R, fun _ z => .inl z⟩
omit [EnvR E] in
@[simp] def tSeq1 (g2 : E → Option (Fw β E)) : Fw β E → Option (Fw β E)
  | .nx e => g2 e
  | .bk e => some (.bk e)
  | .ct e => some (.ct e)
  | .rt b => some (.rt b)
omit [EnvR E] in
@[simp] def tSeq (g1 g2 : E → Option (Fw β E)) : E → Option (Fw β E) := fun e => (g1 e).bind (tSeq1 g2)
theorem s_cons {g1 g2 : E → Option (Fw β E)} {f1 f2 : Sf} (h1 : SP RT g1 f1) (h2 : SP RT g2 f2) : SP RT (tSeq g1 g2) (sCons f1 f2) := fun e ρ M fp R C o q => by
  unfold tSeq at q
  cases q1 : g1 e with
  | none => rw [q1] at q; cases q
  | some o1 =>
    rw [q1] at q; simp only [Option.bind_some] at q
    obtain ⟨fl, ρ1, M1, k1, k2, k3, k4⟩ := h1 e ρ M fp R C o1 q1
    unfold sCons
    rw [k1]; simp only [Option.bind_some]
    cases o1 with
    | nx e1 =>
      obtain ⟨rfl, fp1, k5, k6⟩ := k4
      obtain ⟨fl2, ρ2, M2, l1, l2, l3, l4⟩ := h2 e1 ρ1 M1 fp1 k5 k3 o q
      exact ⟨fl2, ρ2, M2, l1, k2.trans k6 l2, l3, l4.mono k6 k2.1⟩
    | bk e1 => cases q; obtain ⟨rfl, k4⟩ := k4; exact ⟨_, _, _, rfl, k2, k3, rfl, k4⟩
    | ct e1 => cases q; obtain ⟨rfl, k4⟩ := k4; exact ⟨_, _, _, rfl, k2, k3, rfl, k4⟩
    | rt b => cases q; obtain ⟨r, rfl, k4⟩ := k4; exact ⟨_, _, _, rfl, k2, k3, r, rfl, k4⟩
omit [EnvR E] in
@[simp] def tSet {i : Nat} (ln : Lens E (Option α) i) (g : E → Option α) : E → Option (Fw β E) := fun e => (g e).map fun v => .nx (ln.set e (some v))
theorem s_set {i : Nat} (ln : Lens E (Option α) i) [LOk ln] {g : E → Option α} {f : Ef} (h : EP g f) : SP (β := β) RT (tSet ln g) (sSet i f) := fun e ρ M fp R C o q => by
  unfold tSet at q
  cases q1 : g e with
  | none => rw [q1] at q; cases q
  | some v =>
    rw [q1] at q; cases q
    obtain ⟨r, k1, k2⟩ := h e ρ M fp R C v q1
    obtain ⟨fp', k3, k4⟩ := lens_val ln R v
    exact ⟨_, _, _, by simp [sSet, k1, k2], .refl, C, rfl, fp', k3, fun j z => .inl (k4 j z)⟩
omit [EnvR E] in
@[simp] def tSetL {i : Nat} (ln : Lens E (Ob (LS α)) i) (g : E → Option (List α)) : E → Option (Fw β E) := fun e => (g e).map fun v => .nx (ln.set e ⟨some ⟨v⟩⟩)
theorem s_setL {i : Nat} (ln : Lens E (Ob (LS α)) i) [LOk ln] {g : E → Option (List α)} {f : Ef} (h : EN g f) : SP (β := β) RT (tSetL ln g) (sSetM i f) := fun e ρ M fp R C o q => by
  unfold tSetL at q
  cases q1 : g e with
  | none => rw [q1] at q; cases q
  | some v =>
    rw [q1] at q; cases q
    obtain ⟨ds, k1, k2⟩ := h e ρ M fp R C v q1
    have k2 : D.lst (v.map Enc.enc) = .lst ds := k2
    cases k2
    obtain ⟨f1, h1, h2, h3⟩ := LOk.ok (ln := ln) e ρ M fp R
    obtain ⟨fp', h4, h5⟩ := h3 ⟨some ⟨v⟩⟩ (some (.loc M.length)) (M ++ [.lst (v.map Enc.enc)]) (fun j => j = M.length) (ob_mk rfl ⟨get_end, fun _ => Iff.rfl⟩)
      (fun j z _ => List.getElem?_append_left (EnvR.bnd R j z)) (fun j z => .inr (by omega))
    refine ⟨.nx, ρ.set i (some (.loc M.length)), M ++ [.lst (v.map Enc.enc)], by simp [sSetM, k1], ⟨by simp, fun j z _ => List.getElem?_append_left z⟩, cl_push C (show nlO M.length (.lst (v.map Enc.enc)) = true from nls_enc _ v), rfl, fp', h4, fun j z => ?_⟩
    rcases h5 j z with z | z
    · exact .inl z.1
    · exact .inr (by omega)
/-- a list of a name of its own is changed in its place -/
theorem ls_upd {i : Nat} (ln : Lens E (Ob (LS α)) i) [LOk ln] {e : E} {ρ : Slots} {M : Mem} {fp : Fp} (R : EnvR.rel e ρ M fp) (C : Cl M) {s : LS α} (hv : (ln.get e).v = some s) : ∃ k, slot ρ i = some (.loc k) ∧ M[k]? = some (.lst (s.l.map Enc.enc)) ∧ fp k ∧
    ∀ xs : List α, (∃ fp', EnvR.rel (ln.set e ⟨some ⟨xs⟩⟩) ρ (M.set k (.lst (xs.map Enc.enc))) fp' ∧ ∀ j, fp' j → fp j) ∧ Frm M fp (M.set k (.lst (xs.map Enc.enc))) ∧ Cl (M.set k (.lst (xs.map Enc.enc))) := by
  obtain ⟨f1, h1, h2, h3⟩ := LOk.ok (ln := ln) e ρ M fp R
  obtain ⟨k, k1, k2⟩ := ob_some h1 hv
  obtain ⟨k3, k4⟩ := ls_get k2
  have hk := lt_of_get k3
  refine ⟨k, k1, k3, h2 k ((k4 k).mpr rfl), fun xs => ⟨?_, ⟨by simp, fun j _ z => List.getElem?_set_ne (fun y => z (by rw [← y]; exact h2 k ((k4 k).mpr rfl)))⟩, cl_set C (nls_enc _ xs)⟩⟩
  obtain ⟨fp', h4, h5⟩ := h3 ⟨some ⟨xs⟩⟩ (some (.loc k)) (M.set k (.lst (xs.map Enc.enc))) (fun j => j = k) (ob_mk rfl ⟨by rw [List.getElem?_set_self hk], fun _ => Iff.rfl⟩)
    (fun j _ z => List.getElem?_set_ne (fun y => z ((k4 j).mpr y.symm))) (fun j z => .inl ((k4 j).mpr z))
  have e1 : ρ.set i (some (.loc k)) = ρ := by
    have := slot_some k1
    exact List.ext_getElem? fun j => by
      by_cases y : i = j
      · subst y; rw [List.getElem?_set_self (List.getElem?_eq_some_iff.mp this).1, this]
      · rw [List.getElem?_set_ne y]
  rw [e1] at h4
  refine ⟨fp', h4, fun j z => ?_⟩
  rcases h5 j z with z | z
  · exact z.1
  · rw [z]; exact h2 k ((k4 k).mpr rfl)
theorem cBM_of {T : String} {o : Mop} {f : Ef} {g : Af} {ρ : Slots} {M : Mem} {k : Nat} (h1 : f ρ M = some (.val (.loc k), M)) (h2 : tyOf M (.loc k) = some T) : cBM T o f g ρ M = (g ρ M).bind fun q => o (.loc k) q.1 q.2 := by
  unfold cBM; rw [h1]; simp only [Option.bind_some]; exact if_pos h2
omit [EnvR E] in
@[simp] def tApp {i : Nat} (ln : Lens E (Ob (LS α)) i) (g : E → Option α) : E → Option (Fw β E) := fun e => (ln.get e).v.bind fun s => (g e).bind fun v => if s.l.length < 16777216 then some (.nx (ln.set e ⟨some ⟨s.l ++ [v]⟩⟩)) else none
theorem s_app {i : Nat} (ln : Lens E (Ob (LS α)) i) [LOk ln] {g : E → Option α} {f : Ef} (h : EP g f) : SP (β := β) RT (tApp ln g) (sExpr (cBM "list" oAppend (cVar i) (aCons f aNil))) := fun e ρ M fp R C o q => by
  unfold tApp at q
  cases hv : (ln.get e).v with
  | none => rw [hv] at q; cases q
  | some s =>
    rw [hv] at q; simp only [Option.bind_some] at q
    cases q1 : g e with
    | none => rw [q1] at q; cases q
    | some v =>
      rw [q1] at q; simp only [Option.bind_some] at q
      split at q
      · rename_i hl; cases q
        obtain ⟨k, k1, k2, k3, k4⟩ := ls_upd ln R C hv
        obtain ⟨⟨fp', k5, k6⟩, k7, k8⟩ := k4 (s.l ++ [v])
        obtain ⟨r, k9, k10⟩ := h e ρ M fp R C v q1
        refine ⟨.nx, ρ, M.set k (.lst ((s.l ++ [v]).map Enc.enc)), ?_, k7, k8, rfl, fp', k5, fun j z => .inl (k6 j z)⟩
        have hap : oAppend (.loc k) [Enc.enc v] M = some (.val .non, M.set k (.lst (s.l.map Enc.enc ++ [Enc.enc v]))) := oAppend_loc k2 (by simpa using hl)
        unfold sExpr
        rw [cBM_of (by rw [cVar_ap, k1]; rfl) (tyOf_loc k2)]
        simp only [aCons, aNil, k9, Option.bind_some, k10, hap]
        simp
      · cases q
omit [EnvR E] in
@[simp] def tAsg (p : α → E → Option E) (g : E → Option α) : E → Option (Fw β E) := fun e => (g e).bind fun v => (p v e).map .nx
omit [EnvR E] in
@[simp] def tIfS (gt : E → Option Bool) (g1 g2 : E → Option (Fw β E)) : E → Option (Fw β E) := fun e => (gt e).bind fun b => if b = true then g1 e else g2 e
theorem s_if {gt : E → Option Bool} {g1 g2 : E → Option (Fw β E)} {t : Tf} {f1 f2 : Sf} (ht : TP gt t) (h1 : SP RT g1 f1) (h2 : SP RT g2 f2) : SP RT (tIfS gt g1 g2) (sIf t f1 f2) := fun e ρ M fp R C o q => by
  unfold tIfS at q
  cases q1 : gt e with
  | none => rw [q1] at q; cases q
  | some b =>
    rw [q1] at q; simp only [Option.bind_some] at q
    have k := ht e ρ M fp R C b q1
    unfold sIf
    rw [k]; simp only [Option.bind_some]
    cases b with
    | true => exact h1 e ρ M fp R C o (by simpa using q)
    | false => exact h2 e ρ M fp R C o (by simpa using q)
omit [EnvR E] in
@[simp] def tRet (g : E → Option β) : E → Option (Fw β E) := fun e => (g e).map .rt
theorem s_ret [Enc β] {g : E → Option β} {f : Ef} (h : EP g f) (hm : fr ≠ .n := by decide) : SP (rt fr) (tRet g) (sRet f) := fun e ρ M fp R C o q => by
  unfold tRet at q
  cases q1 : g e with
  | none => rw [q1] at q; cases q
  | some v =>
    rw [q1] at q; cases q
    obtain ⟨r, k1, k2⟩ := h e ρ M fp R C v q1
    exact ⟨.rt r, ρ, M, by simp [sRet, k1], .refl, C, r, rfl, .inl ⟨hm, k2⟩⟩
theorem s_retN [Enc β] {g : E → Option β} {f : Ef} (h : EN g f) : SP (rt fr) (tRet g) (sRet f) := fun e ρ M fp R C o q => by
  unfold tRet at q
  cases q1 : g e with
  | none => rw [q1] at q; cases q
  | some v =>
    rw [q1] at q; cases q
    obtain ⟨ds, k1, k2⟩ := h e ρ M fp R C v q1
    exact ⟨.rt (.new ds), ρ, M, by simp [sRet, k1], .refl, C, _, rfl, .inr (.inl ⟨ds, rfl, k2⟩)⟩
theorem s_retL {i : Nat} (ln : Lens E (Ob (LS α)) i) [LOk ln] : SP (rt fr) (tRet (tL ln)) (sRet (cVar i)) := fun e ρ M fp R C o q => by
  unfold tRet tL at q
  cases hv : (ln.get e).v with
  | none => rw [hv] at q; cases q
  | some s =>
    rw [hv] at q; cases q
    obtain ⟨k, k1, k2, k3, k4⟩ := ls_upd ln R C hv
    exact ⟨.rt (.val (.loc k)), ρ, M, by simp [sRet, k1], .refl, C, _, rfl, .inr (.inr (.inl ⟨k, _, rfl, k2, rfl, .inl k3⟩))⟩
theorem resD_enc (n : Nat) (M : Mem) : (∀ d, nl 0 d = true → resD n M d = some d) ∧ ∀ ds, nls 0 ds = true → resDs n M ds = some ds := by
  have key : ∀ (k : Nat), (∀ d, sizeOf d < k → nl 0 d = true → resD n M d = some d) ∧ ∀ ds : List D, sizeOf ds < k → nls 0 ds = true → resDs n M ds = some ds := by
    intro k
    induction k with
    | zero => exact ⟨fun d h => by omega, fun ds h => by omega⟩
    | succ k ih =>
      refine ⟨fun d hk h => ?_, fun ds hk h => ?_⟩
      · cases d with
        | loc j => rw [nl_loc] at h; simp at h
        | tup ds => rw [nl_tup] at h; rw [resD, ih.2 ds (by simp at hk; omega) h]; rfl
        | lst ds => rw [nl_lst] at h; rw [resD, if_pos (nls_mono (Nat.zero_le _) h)]
        | _ => rw [resD]
      · cases ds with
        | nil => rw [resDs]
        | cons d ds =>
          rw [nls_cons, Bool.and_eq_true] at h
          simp at hk
          rw [resDs, ih.1 d (by omega) h.1, Option.bind_some, ih.2 ds (by omega) h.2]; rfl
  exact ⟨fun d h => (key (sizeOf d + 1)).1 d (by omega) h, fun ds h => (key (sizeOf ds + 1)).2 ds (by omega) h⟩
/-! ### loops -/
theorem tidy_T {kl : List Bool} {e : E} {ρ : Slots} {M Me : Mem} {fp fpe : Fp} (C : Cl M) (Ce : Cl Me) (F : Frm M fp Me) (R : EnvR.rel e ρ Me fpe) (hf : ∀ j, fpe j → fp j ∨ M.length ≤ j) :
    ∃ M3, tidy kl M ρ Me = (keepD kl ρ, M3) ∧ Cl M3 ∧ Frm M fp M3 ∧ RelQ M.length fp (EnvR.keep kl e) (keepD kl ρ) M3 ∧ ∀ (k : Nat) (o : O), k < M.length → Me[k]? = some o → M3[k]? = some o := by
  obtain ⟨f3, k1, k2⟩ := EnvR.keep_rel kl R
  unfold tidy
  split
  · rename_i h
    refine ⟨Me.take M.length, rfl, ?_, ?_, ?_, ?_⟩
    · intro j o q
      have hj := lt_of_get q
      rw [List.length_take] at hj ⊢
      have e1 : min M.length Me.length = M.length := Nat.min_eq_left F.1
      rw [e1] at hj ⊢
      rw [List.getElem?_take_of_lt hj] at q
      rcases h.1.2 j o hj q with z | z
      · exact C j o z
      · exact z
    · refine ⟨by rw [List.length_take]; have := F.1; omega, fun j z y => ?_⟩
      rw [List.getElem?_take_of_lt z]
      exact F.2 j z y
    · have tr : ∀ j, f3 j → j < M.length := EnvR.trim k1 h.2 fun j o z q => by
        rcases h.1.2 j o z q with y | y
        · exact C j o y
        · exact y
      exact ⟨f3, EnvR.frame k1 fun j z => List.getElem?_take_of_lt (tr j z), fun j z => hf j (k2 j z)⟩
    · intro k o z q
      rw [List.getElem?_take_of_lt z]; exact q
  · exact ⟨Me, rfl, Ce, F, ⟨f3, k1, fun j z => hf j (k2 j z)⟩, fun _ _ _ q => q⟩
omit [EnvR E] in
def forT1 (kp : E → E) (asg : α → E → Option E) (body : E → Option (Fw β E)) (rec_ : E → Option (Fw β E)) : Fw β E → Option (Fw β E)
  | .nx e => rec_ (kp e)
  | .ct e => rec_ (kp e)
  | .bk e => some (.nx e)
  | .rt b => some (.rt b)
omit [EnvR E] in
def forT (kp : E → E) (asg : α → E → Option E) (body : E → Option (Fw β E)) : List α → E → Option (Fw β E)
  | [], e => some (.nx e)
  | x :: xs, e => (asg x e).bind fun e1 => (body e1).bind (forT1 kp asg body (forT kp asg body xs))
theorem for_T {kl : List Bool} {asg : α → E → Option E} {body : E → Option (Fw β E)} {g : Gf} {f : Sf} {ds0 : List D} (hg : GP asg g) (hb : SP RT body f) : ∀ (xs : List α) (e : E) (ρ : Slots) (M : Mem) (fp : Fp), EnvR.rel e ρ M fp → Cl M → ∀ o, forT (EnvR.keep kl) asg body xs e = some o →
    ∃ fl ρ' M', loopF (stpK kl none ds0 g f) (xs.map Enc.enc) ρ M = some (fl, ρ', M') ∧ Frm M fp M' ∧ Cl M' ∧ Out RT M.length fp o fl ρ' M'
  | [], e, ρ, M, fp, R, C, o, q => by
    cases q
    exact ⟨.nx, ρ, M, rfl, .refl, C, rfl, fp, R, fun _ z => .inl z⟩
  | x :: xs, e, ρ, M, fp, R, C, o, q => by
    unfold forT at q
    cases q1 : asg x e with
    | none => rw [q1] at q; cases q
    | some e1 =>
      rw [q1] at q; simp only [Option.bind_some] at q
      obtain ⟨ρ1, f1, k1, k2, k3⟩ := hg x e ρ M fp R e1 q1
      cases q2 : body e1 with
      | none => rw [q2] at q; cases q
      | some o1 =>
        rw [q2] at q; simp only [Option.bind_some] at q
        obtain ⟨fl, ρ2, M2, k4, k5, k6, k7⟩ := hb e1 ρ1 M f1 k2 C o1 q2
        have F2 : Frm M fp M2 := ⟨k5.1, fun j z y => k5.2 j z fun w => y (k3 j w)⟩
        have go : ∀ {e2 : E}, RelQ M.length f1 e2 ρ2 M2 → (fl = .nx ∨ fl = .ct) → forT (EnvR.keep kl) asg body xs (EnvR.keep kl e2) = some o →
            ∃ fl' ρ' M', loopF (stpK kl none ds0 g f) ((x :: xs).map Enc.enc) ρ M = some (fl', ρ', M') ∧ Frm M fp M' ∧ Cl M' ∧ Out RT M.length fp o fl' ρ' M' := by
          intro e2 r2 hfl hq
          obtain ⟨fp2, r3, r4⟩ := r2
          obtain ⟨M3, t1, t2, t3, ⟨f3, t4, t5⟩, _⟩ := tidy_T (kl := kl) C k6 F2 r3 fun j z => (r4 j z).elim (fun y => .inl (k3 j y)) .inr
          obtain ⟨fl', ρ', M', l1, l2, l3, l4⟩ := for_T (ds0 := ds0) hg hb xs _ _ M3 f3 t4 t2 o hq
          refine ⟨fl', ρ', M', ?_, t3.trans t5 l2, l3, l4.mono t5 t3.1⟩
          rw [List.map_cons, loopF_cons, stpK_ap, k1, bnd_some, stpK1_ap, k4, bnd_some]
          rcases hfl with rfl | rfl
          · rw [stpOut_nx, t1, bnd_some, loopF1_nx, l1]
          · rw [stpOut_ct, t1, bnd_some, loopF1_ct, l1]
        cases o1 with
        | nx e2 => exact go k7.2 (.inl k7.1) q
        | ct e2 => exact go k7.2 (.inr k7.1) q
        | bk e2 =>
          cases q
          obtain ⟨rfl, fp2, r3, r4⟩ := k7
          refine ⟨.nx, ρ2, M2, ?_, F2, k6, rfl, fp2, r3, fun j z => (r4 j z).elim (fun y => .inl (k3 j y)) .inr⟩
          rw [List.map_cons, loopF_cons, stpK_ap, k1, bnd_some, stpK1_ap, k4, bnd_some, stpOut_bk, bnd_some, loopF1_bk]
        | rt b =>
          cases q
          obtain ⟨r, rfl, r2⟩ := k7
          refine ⟨.rt r, [], M2, ?_, F2, k6, r, rfl, RT.mono (fun j z => z.elim (fun y => .inl (k3 j y)) .inr) r2⟩
          rw [List.map_cons, loopF_cons, stpK_ap, k1, bnd_some, stpK1_ap, k4, bnd_some, stpOut_rt, bnd_some, loopF1_rt]
omit [EnvR E] in
@[simp] def tFor (kp : E → E) (gi : E → Option (List α)) (asg : α → E → Option E) (body : E → Option (Fw β E)) : E → Option (Fw β E) := fun e => (gi e).bind fun xs => forT kp asg body xs (kp e)
theorem s_for {kp : E → E} {kl : List Bool} {gi : E → Option (List α)} {asg : α → E → Option E} {body : E → Option (Fw β E)} {it : If} {g : Gf} {f : Sf} (hi : IP gi it) (hg : GP asg g) (hb : SP RT body f) [KOk kl kp] : SP RT (tFor kp gi asg body) (sForK kl it g f) := fun e ρ M fp R C o q => by
  have ek : kp = EnvR.keep kl := funext fun e => (KOk.eq (kl := kl) e).symm
  subst ek
  unfold tFor at q
  cases q1 : gi e with
  | none => rw [q1] at q; cases q
  | some xs =>
    rw [q1] at q; simp only [Option.bind_some] at q
    have k1 := hi e ρ M fp R C xs q1
    obtain ⟨f2, k2, k3⟩ := EnvR.keep_rel kl R
    obtain ⟨fl, ρ', M', l1, l2, l3, l4⟩ := for_T (ds0 := xs.map Enc.enc) hg hb xs _ _ M f2 k2 C o q
    refine ⟨fl, ρ', M', ?_, ⟨l2.1, fun j z y => l2.2 j z fun w => y (k3 j w)⟩, l3, l4.mono (fun j z => .inl (k3 j z)) (Nat.le_refl _)⟩
    unfold sForK
    rw [k1]
    exact l1
end
end TL

/-! T6: the typed reading of loops over own lists, while, defs; reckoning with them -/
namespace TL
open PySem PySem.Spec PyProof.Rows L2 CI
section
variable {E : Type} [EnvR E] {α β γ δ ε σ : Type} [Enc α] [Enc γ] [Enc δ] [Enc ε] [Enc σ] {A : Type} [Args A] {fr : RM} {RT : RTy β}
/-! ### while -/
omit [EnvR E] in
def whT1 (kp : E → E) (rec_ : E → Option (Fw β E)) : Fw β E → Option (Fw β E)
  | .nx e => rec_ (kp e)
  | .ct e => rec_ (kp e)
  | .bk e => some (.nx e)
  | .rt b => some (.rt b)
omit [EnvR E] in
def whT (kp : E → E) (t : E → Option Bool) (body : E → Option (Fw β E)) : Nat → E → Option (Fw β E)
  | 0, _ => none
  | n + 1, e => (t e).bind fun b => if b = true then (body e).bind (whT1 kp (whT kp t body n)) else some (.nx e)
theorem wh_T {kl : List Bool} {gt : E → Option Bool} {body : E → Option (Fw β E)} {t : Tf} {f : Sf} (ht : TP gt t) (hb : SP RT body f) : ∀ (n : Nat) (e : E) (ρ : Slots) (M : Mem) (fp : Fp), EnvR.rel e ρ M fp → Cl M → ∀ o, whT (EnvR.keep kl) gt body n e = some o →
    ∃ fl ρ' M', whK kl t f n ρ M = some (fl, ρ', M') ∧ Frm M fp M' ∧ Cl M' ∧ Out RT M.length fp o fl ρ' M'
  | 0, _, _, _, _, _, _, o, q => by cases q
  | n + 1, e, ρ, M, fp, R, C, o, q => by
    unfold whT at q
    cases q1 : gt e with
    | none => rw [q1] at q; cases q
    | some b =>
      rw [q1] at q; simp only [Option.bind_some] at q
      have k1 := ht e ρ M fp R C b q1
      unfold whK
      rw [k1]; simp only [Option.bind_some]
      cases b with
      | false => simp at q; subst q; exact ⟨.nx, ρ, M, by simp, .refl, C, rfl, fp, R, fun _ z => .inl z⟩
      | true =>
        simp only [if_true] at q ⊢
        cases q2 : body e with
        | none => rw [q2] at q; cases q
        | some o1 =>
          rw [q2] at q; simp only [Option.bind_some] at q
          obtain ⟨fl, ρ2, M2, k4, k5, k6, k7⟩ := hb e ρ M fp R C o1 q2
          rw [k4]; simp only [Option.bind_some]
          have go : ∀ {e2 : E}, RelQ M.length fp e2 ρ2 M2 → whT (EnvR.keep kl) gt body n (EnvR.keep kl e2) = some o →
              ∃ fl' ρ' M', whK kl t f n (tidy kl M ρ2 M2).1 (tidy kl M ρ2 M2).2 = some (fl', ρ', M') ∧ Frm M fp M' ∧ Cl M' ∧ Out RT M.length fp o fl' ρ' M' := by
            intro e2 r2 hq
            obtain ⟨fp2, r3, r4⟩ := r2
            obtain ⟨M3, t1, t2, t3, ⟨f3, t4, t5⟩, _⟩ := tidy_T (kl := kl) C k6 k5 r3 r4
            obtain ⟨fl', ρ', M', l1, l2, l3, l4⟩ := wh_T ht hb n _ _ M3 f3 t4 t2 o hq
            exact ⟨fl', ρ', M', by rw [t1]; exact l1, t3.trans t5 l2, l3, l4.mono t5 t3.1⟩
          cases o1 with
          | nx e2 => obtain ⟨rfl, k7⟩ := k7; exact go k7 q
          | ct e2 => obtain ⟨rfl, k7⟩ := k7; exact go k7 q
          | bk e2 => cases q; obtain ⟨rfl, k7⟩ := k7; exact ⟨_, _, _, rfl, k5, k6, rfl, k7⟩
          | rt b => cases q; obtain ⟨r, rfl, r2⟩ := k7; exact ⟨_, _, _, rfl, k5, k6, r, rfl, r2⟩
omit [EnvR E] in
@[simp] def tWhile (kp : E → E) (n : Nat) (gt : E → Option Bool) (body : E → Option (Fw β E)) : E → Option (Fw β E) := fun e => whT kp gt body n (kp e)
theorem s_while {kp : E → E} {kl : List Bool} {n : Nat} {gt : E → Option Bool} {body : E → Option (Fw β E)} {t : Tf} {f : Sf} (ht : TP gt t) (hb : SP RT body f) [KOk kl kp] : SP RT (tWhile kp n gt body) (sWhileK kl n t f) := fun e ρ M fp R C o q => by
  have ek : kp = EnvR.keep kl := funext fun e => (KOk.eq (kl := kl) e).symm
  subst ek
  obtain ⟨f2, k2, k3⟩ := EnvR.keep_rel kl R
  obtain ⟨fl, ρ', M', l1, l2, l3, l4⟩ := wh_T ht hb n _ _ M f2 k2 C o q
  exact ⟨fl, ρ', M', l1, ⟨l2.1, fun j z y => l2.2 j z fun w => y (k3 j w)⟩, l3, l4.mono (fun j z => .inl (k3 j z)) (Nat.le_refl _)⟩
/-! ### defs -/
omit [EnvR E] in
@[simp] def fnE (nx : Option β) : Fw β E → Option β
  | .rt b => some b
  | .nx _ => nx
  | _ => none
omit [EnvR E] in
@[simp] def fnT (init : A → E) (nx : Option β) (body : E → Option (Fw β E)) : A → Option β := fun a => (body (init a)).bind (fnE nx)
theorem frm_app {M M' : Mem} (F : Frm M (fun _ => False) M') : ∃ G, M' = M ++ G := by
  refine ⟨M'.drop M.length, ?_⟩
  conv => lhs; rw [← List.take_append_drop M.length M']
  congr 1
  apply List.ext_getElem?
  intro j
  by_cases h : j < M.length
  · rw [List.getElem?_take_of_lt h]; exact F.2 j h id
  · rw [List.getElem?_eq_none (by rw [List.length_take]; omega), List.getElem?_eq_none (by omega)]
theorem fin_T [Enc β] {b : β} {r : Rz} {M M' : Mem} (F : Frm M (fun _ => False) M') (h : RetR fr b r M' fun j => False ∨ M.length ≤ j) : (fr ≠ .n ∧ ∃ r', finR M r M' = (r', M) ∧ r'.d = Enc.enc b ∧ (fr = .v → finK M r M' = (r', M))) ∨ ∃ ds, finR M r M' = (.new ds, M) ∧ finK M r M' = (.new ds, M) ∧ Enc.enc b = .lst ds := by
  obtain ⟨G, rfl⟩ := frm_app F
  have n := Enc.nle M.length b
  rcases h with ⟨h0, h⟩ | ⟨ds, rfl, h⟩ | ⟨k, ds, rfl, h1, h2, h3⟩ | ⟨h0, ds, rfl, h1⟩
  · left
    refine ⟨h0, ?_⟩
    have n0 := Enc.nle 0 b
    rw [← h] at n n0
    cases r with
    | val d =>
      have fk : finK M (.val d) (M ++ G) = (.val d, M) := finK_appV n
      refine ⟨.val d, ?_, h, fun _ => fk⟩
      unfold finR
      split
      · rename_i ds e
        cases e
        rw [if_pos trimOk_app, (resD_enc _ _).1 (.tup ds) n0]
        simp
      · exact fk
    | new ds =>
      have fk : finK M (.new ds) (M ++ G) = (.new ds, M) := finK_appN (by simpa using n)
      exact ⟨.new ds, fk, h, fun _ => fk⟩
  · right
    rw [h] at n
    have fk : finK M (.new ds) (M ++ G) = (.new ds, M) := finK_appN (by simpa using n)
    exact ⟨ds, fk, fk, h⟩
  · right
    rw [h2] at n
    have h3 : M.length ≤ k := h3.elim False.elim id
    obtain ⟨j, rfl⟩ : ∃ j, k = M.length + j := ⟨k - M.length, by omega⟩
    rw [get_appj] at h1
    have fk := finK_appL (M := M) h1 (by simpa using n)
    exact ⟨ds, fk, fk, h2⟩
  · left
    refine ⟨by rw [h0]; decide, .val (Enc.enc b), ?_, rfl, fun z => by rw [h0] at z; cases z⟩
    unfold finR
    simp only
    rw [if_pos trimOk_app, h1 M.length fun k z => z.elim False.elim id]
    simp
theorem rnOut {np ns : Nat} {body : Sf} {ds : List D} {M : Mem} : mkFnR np ns body ds M = if ds.length = np then (match body (ds.map some ++ List.replicate (ns - ds.length) none) M with
  | some (.rt r, _, Me) => some (finR M r Me)
  | some (.nx, _, Me) => some (finR M (.val .non) Me)
  | _ => none) else none := rfl
theorem knOut {np ns : Nat} {body : Sf} {ds : List D} {M : Mem} : mkFnK np ns body ds M = if ds.length = np then (match body (ds.map some ++ List.replicate (ns - ds.length) none) M with
  | some (.rt r, _, Me) => some (finK M r Me)
  | some (.nx, _, Me) => some (finK M (.val .non) Me)
  | _ => none) else none := rfl
theorem fn_run [Enc β] {np ns : Nat} {init : A → E} {nx : Option β} {body : E → Option (Fw β E)} {f : Sf} (hi : ∀ a M, EnvR.rel (init a) ((Args.encs a).map some ++ List.replicate (ns - (Args.encs a).length) none) M fun _ => False) (hl : ∀ a : A, (Args.encs a).length = np)
    (hb : SP (rt fr) body f) (hn : ∀ b, nx = some b → fr ≠ .n ∧ Enc.enc b = .non) {a : A} {b : β} (q : fnT init nx body a = some b) {M : Mem} (C : Cl M) :
    (fr ≠ .n ∧ ∃ r', mkFnR np ns f (Args.encs a) M = some (r', M) ∧ r'.d = Enc.enc b ∧ (fr = .v → mkFnK np ns f (Args.encs a) M = some (r', M))) ∨ ∃ ds, mkFnR np ns f (Args.encs a) M = some (.new ds, M) ∧ mkFnK np ns f (Args.encs a) M = some (.new ds, M) ∧ Enc.enc b = .lst ds := by
  unfold fnT at q
  cases q1 : body (init a) with
  | none => rw [q1] at q; cases q
  | some o =>
    rw [q1] at q; simp only [Option.bind_some] at q
    obtain ⟨fl, ρ', M', k1, k2, k3, k4⟩ := hb (init a) _ M _ (hi a M) C o q1
    rw [rnOut, knOut, if_pos (hl a), if_pos (hl a), k1]
    cases o with
    | rt b' =>
      cases q
      obtain ⟨r, rfl, k5⟩ := k4
      simp only
      rcases fin_T k2 k5 with ⟨h0, r', h1, h2, h3⟩ | ⟨ds, h1, h2, h3⟩
      · exact .inl ⟨h0, r', by rw [h1], h2, fun z => by rw [h3 z]⟩
      · exact .inr ⟨ds, by rw [h1], by rw [h2], h3⟩
    | nx e' =>
      obtain ⟨rfl, _⟩ := k4
      simp only
      obtain ⟨h0, h1⟩ := hn b q
      rcases fin_T (fr := fr) (b := b) (r := .val .non) k2 (.inl ⟨h0, h1.symm⟩) with ⟨h0, r', h1, h2, h3⟩ | ⟨ds, h1, h2, h3⟩
      · exact .inl ⟨h0, r', by rw [h1], h2, fun z => by rw [h3 z]⟩
      · exact .inr ⟨ds, by rw [h1], by rw [h2], h3⟩
    | bk e' => cases q
    | ct e' => cases q
theorem fn_T [Enc β] {np ns : Nat} {init : A → E} {nx : Option β} {body : E → Option (Fw β E)} {f : Sf} (hi : ∀ a M, EnvR.rel (init a) ((Args.encs a).map some ++ List.replicate (ns - (Args.encs a).length) none) M fun _ => False) (hl : ∀ a : A, (Args.encs a).length = np)
    (hb : SP (rt .v) body f) (hn : ∀ b, nx = some b → Enc.enc b = .non) : FnT (mkFnK np ns f) (fnT init nx body) := fun a b q M C => by
  rcases fn_run hi hl hb (fun b z => ⟨by decide, hn b z⟩) q C with ⟨_, r, h1, h2, h3⟩ | ⟨ds, h1, h2, h3⟩
  · exact ⟨r, h3 rfl, h2⟩
  · exact ⟨_, h2, h3.symm⟩
theorem fn_N [Enc β] {np ns : Nat} {init : A → E} {body : E → Option (Fw β E)} {f : Sf} (hi : ∀ a M, EnvR.rel (init a) ((Args.encs a).map some ++ List.replicate (ns - (Args.encs a).length) none) M fun _ => False) (hl : ∀ a : A, (Args.encs a).length = np)
    (hb : SP (rt .n) body f) : FnN (mkFnK np ns f) (fnT init none body) := fun a b q M C => by
  rcases fn_run hi hl hb (fun b z => by cases z) q C with ⟨h, _⟩ | ⟨ds, h1, h2, h3⟩
  · exact absurd rfl h
  · exact ⟨ds, h2, h3⟩
/-! ### reckoning -/
/-- a loop by an invariant -/
theorem forT_inv {kp : E → E} {asg : α → E → Option E} {body : E → Option (Fw β E)} (I : List α → E → Prop)
    (hs : ∀ x xs e, I (x :: xs) e → ∃ e1, asg x e = some e1 ∧ ∃ e2, (body e1 = some (.nx e2) ∨ body e1 = some (.ct e2)) ∧ I xs (kp e2)) :
    ∀ xs e, I xs e → ∃ e', forT kp asg body xs e = some (.nx e') ∧ I [] e'
  | [], e, h => ⟨e, rfl, h⟩
  | x :: xs, e, h => by
    obtain ⟨e1, h1, e2, h2, h3⟩ := hs x xs e h
    unfold forT
    rw [h1]; simp only [Option.bind_some]
    obtain ⟨e', h4, h5⟩ := forT_inv I hs xs _ h3
    rcases h2 with h2 | h2 <;> (rw [h2]; simp only [Option.bind_some, forT1]; exact ⟨e', h4, h5⟩)
theorem filtM_map {f : α → Option (Option β)} {h : α → β} : ∀ {xs : List α}, (∀ x ∈ xs, f x = some (some (h x))) → filtM f xs = some (xs.map h)
  | [], _ => rfl
  | x :: xs, q => by
    unfold filtM
    rw [q x List.mem_cons_self, filtM_map fun y hy => q y (List.mem_cons_of_mem _ hy)]; rfl
theorem filtM_filter {f : α → Option (Option β)} {p : α → Bool} {h : α → β} : ∀ {xs : List α}, (∀ x ∈ xs, f x = some (if p x = true then some (h x) else none)) → filtM f xs = some ((xs.filter p).map h)
  | [], _ => rfl
  | x :: xs, q => by
    unfold filtM
    rw [q x List.mem_cons_self, filtM_filter fun y hy => q y (List.mem_cons_of_mem _ hy)]
    by_cases z : p x = true <;> simp [z]
end
end TL

/-! T7: the typed reading of dicts, count, join, signs of words -/
namespace TL
open PySem PySem.Spec PyProof.Rows L2 CI
section
variable {E : Type} [EnvR E] {α β γ κ σ : Type} [Enc α] [Enc γ] [Enc κ] [Enc σ] {RT : RTy β}
/-! ### dicts -/
class KeyE (κ : Type) [Enc κ] where
  key : κ → Key
  ok : ∀ k : κ, keyD (Enc.enc k) = some (key k)
  inj : ∀ a b : κ, key a = key b → a = b
instance : KeyE Int := ⟨Sum.inl, fun _ => rfl, fun _ _ h => Sum.inl.inj h⟩
instance : KeyE Str := ⟨Sum.inr, fun _ => rfl, fun _ _ h => Sum.inr.inj h⟩
variable [DecidableEq κ] [KeyE κ] [NL κ]
def tblD (t : List (κ × α)) : List (Key × D) := t.map fun p => (KeyE.key p.1, Enc.enc p.2)
/-- a dict of a name of its own -/
structure DS (κ α : Type) where
  l : List (κ × α)
instance : Rep (DS κ α) where
  rep M k s fp := M[k]? = some (.dct (tblD s.l)) ∧ ∀ j, fp j ↔ j = k
  frame h hf := ⟨by rw [hf _ ((h.2 _).mpr rfl)]; exact h.1, h.2⟩
  bnd h j hj := by rw [(h.2 j).mp hj]; exact lt_of_get h.1
  self h := (h.2 _).mpr rfl
  trim h hk _ j hj := by rw [(h.2 j).mp hj]; exact hk
/-! assigned, asked, changed -/
end
end TL

/-! T8: the rest of the typed reading; reckoning -/
namespace TL
open PySem PySem.Spec PyProof.Rows L2 CI
section
variable {E : Type} [EnvR E] {α β γ κ σ τ : Type} [Enc α] [Enc β] [Enc γ] {i : Nat}
omit [EnvR E] in
@[simp] theorem get_hd {e : τ × E} : (Lens.hd : Lens (τ × E) τ 0).get e = e.1 := rfl
omit [EnvR E] in
@[simp] theorem set_hd {e : τ × E} {t : τ} : (Lens.hd : Lens (τ × E) τ 0).set e t = (t, e.2) := rfl
omit [EnvR E] in
@[simp] theorem get_tl {υ : Type} {l : Lens E τ i} {e : υ × E} : (Lens.tl l : Lens (υ × E) τ (i + 1)).get e = l.get e.2 := rfl
omit [EnvR E] in
@[simp] theorem set_tl {υ : Type} {l : Lens E τ i} {e : υ × E} {t : τ} : (Lens.tl l : Lens (υ × E) τ (i + 1)).set e t = (e.1, l.set e.2 t) := rfl
@[simp] theorem toL_l {xs : List α} : Sq.toL xs = xs := rfl
@[simp] theorem toL_t {xs : Tu α} : Sq.toL xs = xs.l := rfl
@[simp] theorem toL_s {xs : Scr} : Sq.toL xs = xs.l := rfl
@[simp] theorem tr_int {x : Int} : Tr.tr x = (x != 0) := rfl
@[simp] theorem tr_bl {x : Bool} : Tr.tr x = x := rfl
@[simp] theorem tr_l {x : List α} : Tr.tr x = !x.isEmpty := rfl
@[simp] theorem tr_t {x : Tu α} : Tr.tr x = !x.l.isEmpty := rfl
@[simp] theorem okE_int {x : Int} : EncEq.okE x = true := rfl
@[simp] theorem okE_bl {x : Bool} : EncEq.okE x = true := rfl
@[simp] theorem okE_l [DecidableEq α] [EncEq α] {x : List α} : EncEq.okE x = x.all EncEq.okE := rfl
@[simp] theorem okE_t [DecidableEq α] [EncEq α] {x : Tu α} : EncEq.okE x = x.l.all EncEq.okE := rfl
@[simp] theorem okE_p [DecidableEq α] [EncEq α] [DecidableEq β] [EncEq β] {x : α × β} : EncEq.okE x = (EncEq.okE x.1 && EncEq.okE x.2) := rfl
@[simp] theorem all_okI {xs : List Int} : xs.all EncEq.okE = true := by simp
omit [EnvR E] in
@[simp] theorem forT_nil {kp : E → E} {asg : α → E → Option E} {body : E → Option (Fw β E)} {e : E} : forT kp asg body [] e = some (.nx e) := rfl
omit [EnvR E] in
@[simp] theorem forT1_nx {kp : E → E} {asg : α → E → Option E} {body : E → Option (Fw β E)} {r : E → Option (Fw β E)} {e : E} : forT1 kp asg body r (.nx e) = r (kp e) := rfl
omit [EnvR E] in
@[simp] theorem forT1_ct {kp : E → E} {asg : α → E → Option E} {body : E → Option (Fw β E)} {r : E → Option (Fw β E)} {e : E} : forT1 kp asg body r (.ct e) = r (kp e) := rfl
omit [EnvR E] in
@[simp] theorem forT1_rt {kp : E → E} {asg : α → E → Option E} {body : E → Option (Fw β E)} {r : E → Option (Fw β E)} {b : β} : forT1 kp asg body r (.rt b) = some (.rt b) := rfl
end
/-! names that hold values of two types by turns -/
section
variable {E : Type} [EnvR E] {α β : Type} [Enc α] [Enc β] {i : Nat}
instance : Enc (α ⊕ β) := ⟨fun x => match x with | .inl a => Enc.enc a | .inr b => Enc.enc b, fun n x => by cases x <;> simp [Enc.nle]⟩
end
/-- the end: a law whose typed reading is true -/
theorem law_of {F : Fn} {T : Scr × Unit → Option Bool} (h : FnT F T) (t : ∀ ns : List Int, ns.length ≤ 63 → T (⟨ns⟩, ()) = some true) : ∀ ns : List Int, ns.length ≤ 63 → ∃ M, F [.scr ns] [] = some (.val (.bl true), M) := fun ns hn => by
  obtain ⟨r, h1, h2⟩ := h _ _ (t ns hn) [] cl_nil
  have h1 : F [.scr ns] [] = some (r, []) := h1
  have h2 : r.d = .bl true := h2
  cases r with
  | val d => have h2 : d = .bl true := h2; subst h2; exact ⟨[], h1⟩
  | new ds => cases h2
end TL

/-! T9: objects with attributes, holders of objects, places -/
namespace TL
open PySem PySem.Spec PyProof.Rows L2 CI
/-! ### objects with attributes -/
structure Ins (C : Str) (ns : List Str) (E : Type) where
  e : E
def flds (ns : List Str) (fs : List (Str × D)) : Slots := ns.map fun n => fs.lookup n
theorem lk_eq {f : Str} {x : D} {r : List (Str × D)} : ((f, x) :: r).lookup f = some x := by rw [List.lookup_cons, beq_self_eq_true]
theorem lk_ne {f g : Str} {x : D} {r : List (Str × D)} (h : g ≠ f) : ((f, x) :: r).lookup g = r.lookup g := by rw [List.lookup_cons, beq_eq_false_iff_ne.mpr h]
theorem putD_lookup {f g : Str} {v : D} : ∀ {fs : List (Str × D)}, (putD f v fs).lookup g = if g = f then some v else fs.lookup g
  | [] => by
    unfold putD
    by_cases h : g = f
    · subst h; rw [lk_eq, if_pos rfl]
    · rw [lk_ne h, if_neg h]
  | (h, x) :: r => by
    unfold putD
    by_cases q : h = f
    · subst q
      rw [if_pos rfl]
      by_cases z : g = h
      · subst z; rw [lk_eq, if_pos rfl]
      · rw [lk_ne z, if_neg z, lk_ne z]
    · rw [if_neg q]
      by_cases z : g = h
      · subst z; rw [lk_eq, if_neg q, lk_eq]
      · rw [lk_ne z, putD_lookup, lk_ne z]
theorem putD_key {f : Str} {v : D} : ∀ {fs : List (Str × D)} {p : Str × D}, p ∈ putD f v fs → p.1 = f ∨ p.1 ∈ fs.map (·.1)
  | [], p, h => by simp [putD] at h; rw [h]; exact .inl rfl
  | (h, x) :: r, p, q => by
    unfold putD at q
    split at q
    · rename_i e
      rcases List.mem_cons.mp q with z | z
      · rw [z]; exact .inr (by simp)
      · exact .inr (List.mem_cons_of_mem _ (List.mem_map_of_mem z))
    · rcases List.mem_cons.mp q with z | z
      · rw [z]; exact .inr (by simp)
      · exact (putD_key z).imp id fun y => List.mem_cons_of_mem _ y
theorem putD_nd {f : Str} {v : D} : ∀ {fs : List (Str × D)}, (fs.map (·.1)).Nodup → ((putD f v fs).map (·.1)).Nodup
  | [], _ => by simp [putD]
  | (h, x) :: r, q => by
    rw [List.map_cons, List.nodup_cons] at q
    unfold putD
    split
    · rw [List.map_cons, List.nodup_cons]; exact q
    · rename_i e
      rw [List.map_cons, List.nodup_cons]
      refine ⟨fun z => ?_, putD_nd q.2⟩
      obtain ⟨p, hp, z⟩ := List.mem_map.mp z
      have z : p.1 = h := z
      rcases putD_key hp with y | y
      · exact e (by rw [← z, y])
      · exact q.1 (by show h ∈ _; rw [← z]; exact y)
theorem len_nd {α : Type} [DecidableEq α] : ∀ {xs ys : List α}, xs.Nodup → (∀ x ∈ xs, x ∈ ys) → xs.length ≤ ys.length
  | [], _, _, _ => Nat.zero_le _
  | x :: xs, ys, h, s => by
    rw [List.nodup_cons] at h
    have hx := s x List.mem_cons_self
    have := len_nd (ys := ys.erase x) h.2 fun y hy => by
      have : y ≠ x := fun e => h.1 (e ▸ hy)
      exact (List.mem_erase_of_ne this).mpr (s y (List.mem_cons_of_mem _ hy))
    have e := List.length_erase_of_mem hx
    have p := List.length_pos_of_mem hx
    simp only [List.length_cons]
    omega
theorem flds_put {ns : List Str} {n : Str} {i : Nat} {v : D} {fs : List (Str × D)} (hi : ns[i]? = some n) (nd : ns.Nodup) : flds ns (putD n v fs) = (flds ns fs).set i (some v) := by
  apply List.ext_getElem?
  intro j
  unfold flds
  rw [List.getElem?_map]
  by_cases h : i = j
  · subst h
    rw [List.getElem?_set_self (by rw [List.length_map]; exact (List.getElem?_eq_some_iff.mp hi).1), hi]
    simp [putD_lookup]
  · rw [List.getElem?_set_ne h, List.getElem?_map]
    cases hj : ns[j]? with
    | none => rfl
    | some m =>
      have : m ≠ n := fun e => by
        subst e
        obtain ⟨a, b⟩ := List.getElem?_eq_some_iff.mp hi
        obtain ⟨c, d⟩ := List.getElem?_eq_some_iff.mp hj
        exact h ((List.getElem_inj nd).mp (b.trans d.symm))
      simp [putD_lookup, this]
theorem flds_slot {ns : List Str} {n : Str} {i : Nat} {fs : List (Str × D)} (hi : ns[i]? = some n) : slot (flds ns fs) i = fs.lookup n := by
  unfold slot flds
  rw [List.getD_eq_getElem?_getD, List.getElem?_map, hi]; rfl
theorem nlF_lookup {m : Nat} {n : Str} {d : D} : ∀ {fs : List (Str × D)}, nlF m fs = true → fs.lookup n = some d → nl m d = true
  | [], _, q => by simp at q
  | (g, x) :: r, h, q => by
    rw [nlF_cons, Bool.and_eq_true] at h
    rw [List.lookup_cons] at q
    split at q
    · cases q; exact h.1
    · exact nlF_lookup h.2 q
theorem flds_nl {m : Nat} {fs : List (Str × D)} (h : nlF m fs = true) : ∀ {ns : List Str}, nlS m (flds ns fs) = true
  | [] => rfl
  | n :: ns => by
    have ih := flds_nl h (ns := ns)
    unfold flds at ih ⊢
    rw [List.map_cons]
    cases e : fs.lookup n with
    | none => rw [nlS_none]; exact ih
    | some d => rw [nlS_some, nlF_lookup h e, ih]; rfl
theorem nlF_put {m : Nat} {n : Str} {v : D} (hv : nl m v = true) : ∀ {fs : List (Str × D)}, nlF m fs = true → nlF m (putD n v fs) = true
  | [], _ => by simp [putD, hv]
  | (g, x) :: r, h => by
    rw [nlF_cons, Bool.and_eq_true] at h
    unfold putD
    split
    · rw [nlF_cons, hv, h.2]; rfl
    · rw [nlF_cons, h.1, nlF_put hv h.2]; rfl
def InsR {E : Type} [EnvR E] (C : Str) (ns : List Str) (M : Mem) (k : Nat) (e : E) (fp : Fp) : Prop :=
  ∃ fs f', M[k]? = some (.ins C fs) ∧ (fs.map (·.1)).Nodup ∧ (∀ p ∈ fs, p.1 ∈ ns) ∧ EnvR.rel e (flds ns fs) M f' ∧ ¬ f' k ∧ ∀ j, fp j ↔ j = k ∨ f' j
instance {C : Str} {ns : List Str} {E : Type} [EnvR E] : Rep (Ins C ns E) where
  rep M k s fp := InsR C ns M k s.e fp
  frame {M M' k s fp} h hf := by
    obtain ⟨fs, f', h1, h2, h3, h4, h5, h6⟩ := h
    exact ⟨fs, f', by rw [hf k ((h6 k).mpr (.inl rfl))]; exact h1, h2, h3, EnvR.frame h4 fun j q => hf j ((h6 j).mpr (.inr q)), h5, h6⟩
  bnd {M k s fp} h j hj := by
    obtain ⟨fs, f', h1, h2, h3, h4, h5, h6⟩ := h
    rcases (h6 j).mp hj with q | q
    · rw [q]; exact lt_of_get h1
    · exact EnvR.bnd h4 j q
  self {M k s fp} h := by
    obtain ⟨fs, f', h1, h2, h3, h4, h5, h6⟩ := h
    exact (h6 k).mpr (.inl rfl)
  trim {M k s fp n} h hk hM j hj := by
    obtain ⟨fs, f', h1, h2, h3, h4, h5, h6⟩ := h
    rcases (h6 j).mp hj with q | q
    · rw [q]; exact hk
    · exact EnvR.trim h4 (flds_nl (by have := hM k _ hk h1; rwa [nlO_ins] at this)) hM j q
theorem ins_mk {C : Str} {ns : List Str} {E : Type} [EnvR E] {M : Mem} {k : Nat} {s : Ins C ns E} {fp : Fp} (h : InsR C ns M k s.e fp) : Rep.rep M k s fp := h
theorem ins_get {C : Str} {ns : List Str} {E : Type} [EnvR E] {M : Mem} {k : Nat} {s : Ins C ns E} {fp : Fp} (h : Rep.rep M k s fp) : InsR C ns M k s.e fp := h
/-! ### names of objects -/
inductive Oj (σ : Type) where
  | no | own (s : σ) | at_ (k : Nat) (s : σ) | hole (k : Nat)
def OjR {σ : Type} [Rep σ] : Oj σ → Option D → Mem → Fp → Prop
  | .no, _, _, fp => ∀ j, ¬ fp j
  | .own s, d, M, fp => ∃ k, d = some (.loc k) ∧ Rep.rep M k s fp
  | .at_ k s, d, M, fp => d = some (.loc k) ∧ Rep.rep M k s fp
  | .hole k, d, _, fp => d = some (.loc k) ∧ ∀ j, ¬ fp j
instance {σ : Type} [Rep σ] : SlotR (Oj σ) where
  rel := OjR
  frame {t d M M' fp} h hf := by
    cases t with
    | no => exact h
    | own s => obtain ⟨k, h1, h2⟩ := h; exact ⟨k, h1, Rep.frame h2 hf⟩
    | at_ k s => exact ⟨h.1, Rep.frame h.2 hf⟩
    | hole k => exact h
  bnd {t d M fp} h j hj := by
    cases t with
    | no => exact absurd hj (h j)
    | own s => obtain ⟨k, h1, h2⟩ := h; exact Rep.bnd h2 j hj
    | at_ k s => exact Rep.bnd h.2 j hj
    | hole k => exact absurd hj (h.2 j)
  emp := .no
  emp_rel d M := fun _ h => h
  trim {t d M fp n} h hd hM j hj := by
    cases t with
    | no => exact absurd hj (h j)
    | own s =>
      obtain ⟨k, h1, h2⟩ := h
      have := hd _ h1
      rw [nl_loc] at this
      exact Rep.trim h2 (of_decide_eq_true this) hM j hj
    | at_ k s =>
      have := hd _ h.1
      rw [nl_loc] at this
      exact Rep.trim h.2 (of_decide_eq_true this) hM j hj
    | hole k => exact absurd hj (h.2 j)
instance {σ E : Type} [Rep σ] [EnvR E] {kl : List Bool} {k : E → E} [h : KOk kl k] : KOk (false :: kl) (kpF Oj.no k : Oj σ × E → Oj σ × E) := ⟨fun e => by
  show ((Oj.no : Oj σ), EnvR.keep kl e.2) = _
  rw [KOk.eq (kl := kl) (kp := k)]; rfl⟩
theorem rel_ojn {σ : Type} [Rep σ] {d : Option D} {M : Mem} : SlotR.rel (Oj.no : Oj σ) d M fun _ => False := SlotR.emp_rel (τ := Oj σ) d M
/-- a slot that may hold an object -/
class Hd (τ : Type) (σ : outParam Type) where
  get : τ → Option σ
  clr : τ → τ
  put : τ → σ → τ
  cut : Nat → τ → τ
  hol : τ → Option Nat
  own : σ → τ
class HdOk (τ : Type) (σ : outParam Type) [SlotR τ] [Rep σ] [Hd τ σ] : Prop where
  ok : ∀ {t : τ} {d M fp} {s : σ}, SlotR.rel t d M fp → Hd.get t = some s → ∃ k, d = some (.loc k) ∧ Rep.rep M k s fp ∧ SlotR.rel (Hd.clr t) d M (fun _ => False) ∧ SlotR.rel (Hd.cut k t) d M (fun _ => False)
  ins : ∀ {t : τ} {d M f0 fp k} {s : σ}, SlotR.rel t d M f0 → d = some (.loc k) → Rep.rep M k s fp → SlotR.rel (Hd.put t s) d M fp
  own : ∀ {d M fp k} {s : σ}, d = some (.loc k) → Rep.rep M k s fp → SlotR.rel (Hd.own s : τ) d M fp
  hole : ∀ {t : τ} {d M f0 k}, SlotR.rel t d M f0 → Hd.hol t = some k → d = some (.loc k)
  gp : ∀ (t : τ) (s : σ), Hd.get (Hd.put t s) = some s
instance {σ : Type} [Rep σ] : Hd (Ob σ) σ where
  get t := t.v
  clr _ := ⟨none⟩
  put _ s := ⟨some s⟩
  cut _ _ := ⟨none⟩
  hol _ := none
  own s := ⟨some s⟩
instance {σ : Type} [Rep σ] : HdOk (Ob σ) σ where
  ok h e := by
    obtain ⟨k, h1, h2⟩ := ob_some h e
    exact ⟨k, h1, h2, rel_obn, rel_obn⟩
  ins _ h1 h2 := ob_mk h1 h2
  own h1 h2 := ob_mk h1 h2
  hole _ e := nomatch e
  gp _ _ := rfl
def Oj.get {σ : Type} : Oj σ → Option σ
  | .own s => some s
  | .at_ _ s => some s
  | _ => none
def Oj.clr {σ : Type} : Oj σ → Oj σ
  | .own _ => .no
  | .at_ k _ => .hole k
  | t => t
def Oj.put {σ : Type} : Oj σ → σ → Oj σ
  | .hole k, s => .at_ k s
  | .at_ k _, s => .at_ k s
  | _, s => .own s
def Oj.hol {σ : Type} : Oj σ → Option Nat
  | .hole k => some k
  | _ => none
@[simp] theorem oj_g1 {σ : Type} {s : σ} : (Oj.own s).get = some s := rfl
@[simp] theorem oj_g2 {σ : Type} {k : Nat} {s : σ} : (Oj.at_ k s).get = some s := rfl
@[simp] theorem oj_g3 {σ : Type} : (Oj.no : Oj σ).get = none := rfl
@[simp] theorem oj_g4 {σ : Type} {k : Nat} : (Oj.hole k : Oj σ).get = none := rfl
@[simp] theorem oj_c1 {σ : Type} {s : σ} : (Oj.own s).clr = .no := rfl
@[simp] theorem oj_c2 {σ : Type} {k : Nat} {s : σ} : (Oj.at_ k s).clr = .hole k := rfl
@[simp] theorem oj_p1 {σ : Type} {k : Nat} {s : σ} : (Oj.hole k).put s = .at_ k s := rfl
@[simp] theorem oj_p2 {σ : Type} {k : Nat} {s s' : σ} : (Oj.at_ k s').put s = .at_ k s := rfl
@[simp] theorem oj_p3 {σ : Type} {s : σ} : (Oj.no).put s = .own s := rfl
@[simp] theorem oj_p4 {σ : Type} {s s' : σ} : (Oj.own s').put s = .own s := rfl
@[simp] theorem oj_h1 {σ : Type} {k : Nat} : (Oj.hole k : Oj σ).hol = some k := rfl
instance {σ : Type} [Rep σ] : Hd (Oj σ) σ where
  get := Oj.get
  clr := Oj.clr
  put := Oj.put
  cut k _ := .hole k
  hol := Oj.hol
  own := .own
instance {σ : Type} [Rep σ] : HdOk (Oj σ) σ where
  ok {t d M fp s} h e := by
    cases t with
    | no => cases e
    | own s' => cases e; obtain ⟨k, h1, h2⟩ := h; exact ⟨k, h1, h2, rel_ojn, ⟨h1, fun _ z => z⟩⟩
    | at_ k s' => cases e; exact ⟨k, h.1, h.2, ⟨h.1, fun _ z => z⟩, ⟨h.1, fun _ z => z⟩⟩
    | hole k => cases e
  ins {t d M f0 fp k s} h h1 h2 := by
    cases t with
    | no => exact ⟨k, h1, h2⟩
    | own s' => exact ⟨k, h1, h2⟩
    | at_ k' s' =>
      have e := h.1
      rw [h1] at e
      cases e
      exact ⟨h1, h2⟩
    | hole k' =>
      have e := h.1
      rw [h1] at e
      cases e
      exact ⟨h1, h2⟩
  own h1 h2 := ⟨_, h1, h2⟩
  hole {t d M f0 k} h e := by
    cases t with
    | hole k' => cases e; exact h.1
    | _ => cases e
  gp t s := by cases t <;> rfl
/-! ### places -/
structure Pl (E σ : Type) where
  get : E → Option σ
  clr : E → E
  put : E → σ → E
  pre : E → Bool
  cut : Nat → E → E
  hol : E → Option Nat
  fill : E → σ → E
section
variable {E : Type} [EnvR E]
structure POk {σ : Type} [Rep σ] (p : Pl E σ) (f : Ef) : Prop where
  get : ∀ {e ρ M fp s}, EnvR.rel e ρ M fp → p.get e = some s → ∃ k f1, f ρ M = some (.val (.loc k), M) ∧ Rep.rep M k s f1 ∧ (∀ j, f1 j → fp j) ∧ (∃ f0, EnvR.rel (p.clr e) ρ M f0 ∧ ∀ j, f0 j → fp j ∧ ¬ f1 j) ∧ ∃ f0, EnvR.rel (p.cut k e) ρ M f0 ∧ ∀ j, f0 j → fp j ∧ ¬ f1 j
  stb : ∀ {e ρ M fp M' k}, EnvR.rel e ρ M fp → p.pre e = true → f ρ M = some (.val (.loc k), M) → (∀ j, fp j → M'[j]? = M[j]?) → f ρ M' = some (.val (.loc k), M')
  put : ∀ {e ρ M fp f1 k s}, EnvR.rel e ρ M fp → p.pre e = true → f ρ M = some (.val (.loc k), M) → Rep.rep M k s f1 → (∀ j, f1 j → ¬ fp j) → ∃ fp', EnvR.rel (p.put e s) ρ M fp' ∧ ∀ j, fp' j → fp j ∨ f1 j
  fill : ∀ {e ρ M fp f1 k s}, EnvR.rel e ρ M fp → p.hol e = some k → Rep.rep M k s f1 → (∀ j, f1 j → ¬ fp j) → ∃ fp', EnvR.rel (p.fill e s) ρ M fp' ∧ ∀ j, fp' j → fp j ∨ f1 j
  pg : ∀ e s, p.pre e = true → p.get (p.put e s) = some s
  pc : ∀ e s, p.get e = some s → p.pre (p.clr e) = true
theorem slot_set {ρ : Slots} {i : Nat} {d : D} (h : slot ρ i = some d) : ρ.set i (some d) = ρ := by
  have := slot_some h
  exact List.ext_getElem? fun j => by
    by_cases y : i = j
    · subst y; rw [List.getElem?_set_self (List.getElem?_eq_some_iff.mp this).1, this]
    · rw [List.getElem?_set_ne y]
abbrev pVar {τ σ : Type} [Hd τ σ] {i : Nat} (ln : Lens E τ i) : Pl E σ where
  get e := Hd.get (ln.get e)
  clr e := ln.set e (Hd.clr (ln.get e))
  put e s := ln.set e (Hd.put (ln.get e) s)
  pre _ := true
  cut k e := ln.set e (Hd.cut k (ln.get e))
  hol e := Hd.hol (ln.get e)
  fill e s := ln.set e (Hd.own s)
theorem cVar_loc {ρ : Slots} {M : Mem} {i k : Nat} (h : cVar i ρ M = some (.val (.loc k), M)) : slot ρ i = some (.loc k) := by
  unfold cVar at h
  cases e : slot ρ i with
  | none => rw [e] at h; cases h
  | some d => rw [e] at h; cases h; rfl
theorem cVar_of {ρ : Slots} {M : Mem} {i : Nat} {d : D} (h : slot ρ i = some d) : cVar i ρ M = some (.val d, M) := by unfold cVar; rw [h]; rfl
theorem pk_var {τ σ : Type} [SlotR τ] [Rep σ] [Hd τ σ] [HdOk τ σ] {i : Nat} (ln : Lens E τ i) [LOk ln] : POk (pVar ln) (cVar i) where
  get {e ρ M fp s} R q := by
    obtain ⟨f1, h1, h2, h3⟩ := LOk.okd (ln := ln) e ρ M fp R
    obtain ⟨k, k1, k2, k3, k4⟩ := HdOk.ok h1 q
    rw [k1] at k3 k4
    obtain ⟨g1, l1, l2⟩ := h3 _ _ M _ k3 (fun _ _ _ => rfl) (fun _ z => z.elim)
    obtain ⟨g2, l3, l4⟩ := h3 _ _ M _ k4 (fun _ _ _ => rfl) (fun _ z => z.elim)
    rw [slot_set k1] at l1 l3
    exact ⟨k, f1, cVar_of k1, k2, h2, ⟨g1, l1, fun j z => (l2 j z).elim id False.elim⟩, g2, l3, fun j z => (l4 j z).elim id False.elim⟩
  stb R _ h _ := cVar_of (cVar_loc h)
  put {e ρ M fp f1 k s} R _ h r hd := by
    obtain ⟨g1, h1, h2, h3⟩ := LOk.okd (ln := ln) e ρ M fp R
    have k1 := cVar_loc h
    have h4 := HdOk.ins h1 k1 r
    rw [k1] at h4
    obtain ⟨g2, l1, l2⟩ := h3 _ _ M f1 h4 (fun _ _ _ => rfl) (fun j z y => absurd y (hd j z))
    rw [slot_set k1] at l1
    exact ⟨g2, l1, fun j z => (l2 j z).imp (·.1) id⟩
  fill {e ρ M fp f1 k s} R q r hd := by
    obtain ⟨g1, h1, h2, h3⟩ := LOk.okd (ln := ln) e ρ M fp R
    have k1 := HdOk.hole h1 q
    obtain ⟨g2, l1, l2⟩ := h3 (Hd.own s) _ M f1 (HdOk.own k1 r) (fun _ _ _ => rfl) (fun j z y => absurd y (hd j z))
    rw [k1, slot_set k1] at l1
    exact ⟨g2, l1, fun j z => (l2 j z).imp (·.1) id⟩
  pg e s _ := by
    show Hd.get (ln.get (ln.set e (Hd.put (ln.get e) s))) = some s
    rw [LOk.gs, HdOk.gp]
  pc _ _ _ := rfl
abbrev pFld {C : Str} {ns : List Str} {F τ σ : Type} {i : Nat} [Hd τ σ] (q : Pl E (Ins C ns F)) (l : Lens F τ i) : Pl E σ where
  get e := (q.get e).bind fun s => Hd.get (l.get s.e)
  clr e := (q.get e).elim e fun s => q.put (q.clr e) ⟨l.set s.e (Hd.clr (l.get s.e))⟩
  put e v := (q.get e).elim e fun s => q.put (q.clr e) ⟨l.set s.e (Hd.put (l.get s.e) v)⟩
  pre e := (q.get e).isSome
  cut k e := (q.get e).elim e fun s => q.put (q.clr e) ⟨l.set s.e (Hd.cut k (l.get s.e))⟩
  hol e := (q.get e).bind fun s => Hd.hol (l.get s.e)
  fill e v := (q.get e).elim e fun s => q.put (q.clr e) ⟨l.set s.e (Hd.own v)⟩
theorem cFld_of {cs : List Str} {n : Str} {fq : Ef} {ρ : Slots} {M : Mem} {k : Nat} {C : Str} {fs : List (Str × D)} {d : D} (h : fq ρ M = some (.val (.loc k), M)) (hM : M[k]? = some (.ins C fs)) (hC : C ∈ cs) (hd : fs.lookup n = some d) : cFld cs n fq ρ M = some (.val d, M) := by
  unfold cFld
  rw [h]
  simp only [Option.bind_some, Rz_d_val]
  rw [hM]
  simp only
  rw [if_pos hC, hd]; rfl
theorem cFld_inv {cs : List Str} {n : Str} {fq : Ef} {ρ : Slots} {M : Mem} {k : Nat} {C : Str} {fs : List (Str × D)} {d : D} (h : fq ρ M = some (.val (.loc k), M)) (hM : M[k]? = some (.ins C fs)) (q : cFld cs n fq ρ M = some (.val d, M)) : fs.lookup n = some d := by
  unfold cFld at q
  rw [h] at q
  simp only [Option.bind_some, Rz_d_val] at q
  rw [hM] at q
  simp only at q
  split at q
  · cases e : fs.lookup n with
    | none => rw [e] at q; cases q
    | some x => rw [e] at q; cases q; rfl
  · cases q
theorem pl_env {C : Str} {ns : List Str} {F : Type} [EnvR F] {q : Pl E (Ins C ns F)} {fq : Ef} (hq : POk q fq) {e : E} {ρ : Slots} {M : Mem} {fp : Fp} {s : Ins C ns F} (R : EnvR.rel e ρ M fp) (h : q.get e = some s) :
    ∃ (k : Nat) (f1 : Fp) (fs : List (Str × D)) (f' : Fp), fq ρ M = some (.val (.loc k), M) ∧ M[k]? = some (.ins C fs) ∧ (fs.map (·.1)).Nodup ∧ (∀ p ∈ fs, p.1 ∈ ns) ∧ EnvR.rel s.e (flds ns fs) M f' ∧ ¬ f' k ∧ (∀ j, f1 j ↔ j = k ∨ f' j) ∧ (∀ j, f1 j → fp j) ∧
      ∀ (M' : Mem) (fs' : List (Str × D)) (e' : F) (f'' : Fp), M'[k]? = some (.ins C fs') → (fs'.map (·.1)).Nodup → (∀ p ∈ fs', p.1 ∈ ns) → EnvR.rel e' (flds ns fs') M' f'' → ¬ f'' k → (∀ j, fp j → ¬ f1 j → M'[j]? = M[j]?) → (∀ j, f'' j → fp j → f' j) →
        ∃ fp' : Fp, EnvR.rel (q.put (q.clr e) ⟨e'⟩) ρ M' fp' ∧ ∀ j, fp' j → (fp j ∧ ¬ f1 j) ∨ j = k ∨ f'' j := by
  obtain ⟨k, f1, k1, k2, k3, ⟨f0, k4, k5⟩, _⟩ := hq.get R h
  obtain ⟨fs, f', h1, h2, h3, h4, h5, h6⟩ := ins_get k2
  refine ⟨k, f1, fs, f', k1, h1, h2, h3, h4, h5, h6, k3, fun M' fs' e' f'' l1 l2 l3 l4 l5 l6 l7 => ?_⟩
  have R0 : EnvR.rel (q.clr e) ρ M' f0 := EnvR.frame k4 fun j z => l6 j (k5 j z).1 (k5 j z).2
  have S0 := hq.stb k4 (hq.pc _ _ h) k1 fun j z => l6 j (k5 j z).1 (k5 j z).2
  obtain ⟨fp', r1, r2⟩ := hq.put (s := ⟨e'⟩) (f1 := fun j => j = k ∨ f'' j) R0 (hq.pc _ _ h) S0 (ins_mk ⟨fs', f'', l1, l2, l3, l4, l5, fun _ => Iff.rfl⟩) (fun j z y => by
    rcases z with z | z
    · subst z; exact (k5 _ y).2 ((h6 _).mpr (.inl rfl))
    · exact (k5 _ y).2 ((h6 _).mpr (.inr (l7 j z (k5 _ y).1))))
  exact ⟨fp', r1, fun j z => (r2 j z).imp (k5 j) id⟩
theorem pk_fld {C : Str} {ns : List Str} {F τ σ : Type} [EnvR F] [SlotR τ] [Rep σ] [Hd τ σ] [HdOk τ σ] {i : Nat} {q : Pl E (Ins C ns F)} {fq : Ef} {cs : List Str} {n : Str} (hq : POk q fq) (l : Lens F τ i) [LOk l] (hi : ns[i]? = some n) (hC : C ∈ cs) : POk (pFld q l) (cFld cs n fq) where
  get {e ρ M fp v} R h := by
    cases hs : q.get e with
    | none => simp only [hs, Option.bind_none] at h; cases h
    | some s =>
      simp only [hs, Option.bind_some] at h
      obtain ⟨kq, f1, fs, f', h1, h2, h3, h4, h5, h6, h7, h8, h9⟩ := pl_env hq R hs
      obtain ⟨g1, l1, l2, l3⟩ := LOk.okd (ln := l) _ _ _ _ h5
      rw [flds_slot hi] at l1
      obtain ⟨k, k1, k2, k3, k4⟩ := HdOk.ok l1 h
      rw [k1] at k3 k4
      have sl : slot (flds ns fs) i = some (.loc k) := by rw [flds_slot hi, k1]
      obtain ⟨g2, m1, m2⟩ := l3 _ _ M _ k3 (fun _ _ _ => rfl) (fun _ z => z.elim)
      obtain ⟨g3, m3, m4⟩ := l3 _ _ M _ k4 (fun _ _ _ => rfl) (fun _ z => z.elim)
      rw [slot_set sl] at m1 m3
      have m2 : ∀ j, g2 j → f' j ∧ ¬ g1 j := fun j z => (m2 j z).elim id False.elim
      have m4 : ∀ j, g3 j → f' j ∧ ¬ g1 j := fun j z => (m4 j z).elim id False.elim
      obtain ⟨fa, a1, a2⟩ := h9 M fs _ g2 h2 h3 h4 m1 (fun z => h6 (m2 _ z).1) (fun _ _ _ => rfl) fun j z _ => (m2 j z).1
      obtain ⟨fb, b1, b2⟩ := h9 M fs _ g3 h2 h3 h4 m3 (fun z => h6 (m4 _ z).1) (fun _ _ _ => rfl) fun j z _ => (m4 j z).1
      have inf : ∀ j, f' j → fp j := fun j z => h8 j ((h7 j).mpr (.inr z))
      refine ⟨k, g1, cFld_of h1 h2 hC k1, k2, fun j z => inf j (l2 j z), ⟨fa, ?_, fun j z => ?_⟩, fb, ?_, fun j z => ?_⟩
      · show EnvR.rel ((q.get e).elim e _) ρ M fa
        rw [hs]; exact a1
      · rcases a2 j z with y | y | y
        · exact ⟨y.1, fun w => y.2 ((h7 j).mpr (.inr (l2 j w)))⟩
        · subst y; exact ⟨h8 _ ((h7 _).mpr (.inl rfl)), fun w => h6 (l2 _ w)⟩
        · exact ⟨inf j (m2 j y).1, (m2 j y).2⟩
      · show EnvR.rel ((q.get e).elim e _) ρ M fb
        rw [hs]; exact b1
      · rcases b2 j z with y | y | y
        · exact ⟨y.1, fun w => y.2 ((h7 j).mpr (.inr (l2 j w)))⟩
        · subst y; exact ⟨h8 _ ((h7 _).mpr (.inl rfl)), fun w => h6 (l2 _ w)⟩
        · exact ⟨inf j (m4 j y).1, (m4 j y).2⟩
  stb {e ρ M fp M' k} R h hf hM := by
    cases hs : q.get e with
    | none => simp only [hs] at h; cases h
    | some s =>
      obtain ⟨kq, f1, k1, k2, k3, ⟨f0, k4, k5⟩, _⟩ := hq.get R hs
      obtain ⟨fs, f', h1, h2, h3, h4, h5, h6⟩ := ins_get k2
      have S0 := hq.stb k4 (hq.pc _ _ hs) k1 fun j z => hM j (k5 j z).1
      have := cFld_inv k1 h1 hf
      exact cFld_of S0 (by rw [hM kq (k3 _ ((h6 _).mpr (.inl rfl)))]; exact h1) hC this
  put {e ρ M fp f1 k v} R h hf r hd := by
    cases hs : q.get e with
    | none => simp only [hs] at h; cases h
    | some s =>
      obtain ⟨kq, fq1, fs, f', h1, h2, h3, h4, h5, h6, h7, h8, h9⟩ := pl_env hq R hs
      obtain ⟨g1, l1, l2, l3⟩ := LOk.okd (ln := l) _ _ _ _ h5
      have k1 := cFld_inv h1 h2 hf
      have sl : slot (flds ns fs) i = some (.loc k) := by rw [flds_slot hi, k1]
      have inf : ∀ j, f' j → fp j := fun j z => h8 j ((h7 j).mpr (.inr z))
      obtain ⟨g2, m1, m2⟩ := l3 _ _ M f1 (HdOk.ins l1 sl r) (fun _ _ _ => rfl) (fun j z y => absurd (inf j y) (hd j z))
      rw [sl, slot_set sl] at m1
      obtain ⟨fa, a1, a2⟩ := h9 M fs _ g2 h2 h3 h4 m1 (fun z => (m2 _ z).elim (fun y => h6 y.1) fun y => hd _ y (h8 _ ((h7 _).mpr (.inl rfl)))) (fun _ _ _ => rfl) fun j z y => (m2 j z).elim (·.1) fun w => absurd y (hd j w)
      refine ⟨fa, ?_, fun j z => ?_⟩
      · show EnvR.rel ((q.get e).elim e _) ρ M fa
        rw [hs]; exact a1
      · rcases a2 j z with y | y | y
        · exact .inl y.1
        · subst y; exact .inl (h8 _ ((h7 _).mpr (.inl rfl)))
        · exact (m2 j y).imp (fun w => inf j w.1) id
  fill {e ρ M fp f1 k v} R h r hd := by
    cases hs : q.get e with
    | none => simp only [hs, Option.bind_none] at h; cases h
    | some s =>
      simp only [hs, Option.bind_some] at h
      obtain ⟨kq, fq1, fs, f', h1, h2, h3, h4, h5, h6, h7, h8, h9⟩ := pl_env hq R hs
      obtain ⟨g1, l1, l2, l3⟩ := LOk.okd (ln := l) _ _ _ _ h5
      have sl := HdOk.hole l1 h
      have inf : ∀ j, f' j → fp j := fun j z => h8 j ((h7 j).mpr (.inr z))
      obtain ⟨g2, m1, m2⟩ := l3 _ _ M f1 (HdOk.own (τ := τ) sl r) (fun _ _ _ => rfl) (fun j z y => absurd (inf j y) (hd j z))
      rw [sl, slot_set sl] at m1
      obtain ⟨fa, a1, a2⟩ := h9 M fs _ g2 h2 h3 h4 m1 (fun z => (m2 _ z).elim (fun y => h6 y.1) fun y => hd _ y (h8 _ ((h7 _).mpr (.inl rfl)))) (fun _ _ _ => rfl) fun j z y => (m2 j z).elim (·.1) fun w => absurd y (hd j w)
      refine ⟨fa, ?_, fun j z => ?_⟩
      · show EnvR.rel ((q.get e).elim e _) ρ M fa
        rw [hs]; exact a1
      · rcases a2 j z with y | y | y
        · exact .inl y.1
        · subst y; exact .inl (h8 _ ((h7 _).mpr (.inl rfl)))
        · exact (m2 j y).imp (fun w => inf j w.1) id
  pg e v h := by
    cases hs : q.get e with
    | none => simp only [hs] at h; cases h
    | some s =>
      show ((q.get ((q.get e).elim e _)).bind fun s => Hd.get (l.get s.e)) = some v
      rw [hs]
      simp only [Option.elim]
      rw [hq.pg _ _ (hq.pc _ _ hs)]
      simp only [Option.bind_some]
      rw [LOk.gs, HdOk.gp]
  pc e v h := by
    cases hs : q.get e with
    | none => simp only [hs, Option.bind_none] at h; cases h
    | some s =>
      show (q.get ((q.get e).elim e _)).isSome = true
      rw [hs]
      simp only [Option.elim]
      rw [hq.pg _ _ (hq.pc _ _ hs)]; rfl
end
end TL

/-! T10: expressions with effects -/
namespace TL
open PySem PySem.Spec PyProof.Rows L2 CI
/-! ### ways of handing back -/
theorem bx {τ γ : Type} {a : Option τ} {b : τ → Option γ} {c : γ} (h : (a.bind b) = some c) : ∃ x, a = some x ∧ b x = some c := by
  cases a with
  | none => cases h
  | some x => exact ⟨x, rfl, h⟩
theorem mx {τ γ : Type} {a : Option τ} {b : τ → γ} {c : γ} (h : (a.map b) = some c) : ∃ x, a = some x ∧ b x = c := by
  cases a with
  | none => cases h
  | some x => cases h; exact ⟨x, rfl, rfl⟩
section
variable {α σ : Type} [Enc α] [Rep σ]
def rV : RTy α := ⟨fun b r _ _ => r.d = Enc.enc b, fun _ h => h⟩
def rD : RTy α := ⟨fun b r M fp => DenF fp M r.d (Enc.enc b), fun hf h => h.imp id fun ⟨k, ds, h1, h2, h3, h4⟩ => ⟨k, ds, h1, h2, h3, hf k h4⟩⟩
/-- a list that nobody else holds -/
def rO : RTy (List α) := ⟨fun b r M fp => r = .new (b.map Enc.enc) ∨ ∃ k, r = .val (.loc k) ∧ M[k]? = some (.lst (b.map Enc.enc)) ∧ fp k, fun hf h => h.imp id fun ⟨k, h1, h2, h3⟩ => ⟨k, h1, h2, hf k h3⟩⟩
def rN : RTy (List α) := ⟨fun b r _ _ => r = .new (b.map Enc.enc), fun _ h => h⟩
def rJ : RTy σ := ⟨fun b r M fp => ∃ k f', r = .val (.loc k) ∧ Rep.rep M k b f' ∧ ∀ j, f' j → fp j, fun hf ⟨k, f', h1, h2, h3⟩ => ⟨k, f', h1, h2, fun j z => hf j (h3 j z)⟩⟩
end
section
variable {E : Type} [EnvR E] {α β γ δ σ τ : Type} [Enc α] [Enc β] [Enc γ] [Enc δ]
def EX (RT : RTy τ) (g : E → Option (τ × E)) (f : Ef) : Prop := ∀ e ρ M fp, EnvR.rel e ρ M fp → Cl M → ∀ v e', g e = some (v, e') → ∃ r M' f1 f2, f ρ M = some (r, M') ∧ Frm M fp M' ∧ Cl M' ∧ EnvR.rel e' ρ M' f1 ∧ RT.R v r M' f2 ∧ (∀ j, f1 j → ¬ f2 j) ∧ ∀ j, f1 j ∨ f2 j → fp j ∨ M.length ≤ j
/-- the last operand: it may lie within the environment -/
def EY (g : E → Option (α × E)) (f : Ef) : Prop := ∀ e ρ M fp, EnvR.rel e ρ M fp → Cl M → ∀ v e', g e = some (v, e') → ∃ r M' f1 f2, f ρ M = some (r, M') ∧ Frm M fp M' ∧ Cl M' ∧ EnvR.rel e' ρ M' f1 ∧ DenF f2 M' r.d (Enc.enc v) ∧ (∀ j, f1 j → fp j ∨ M.length ≤ j) ∧ ∀ j, f2 j → j < M'.length
def TX (g : E → Option (Bool × E)) (t : Tf) : Prop := ∀ e ρ M fp, EnvR.rel e ρ M fp → Cl M → ∀ b e', g e = some (b, e') → ∃ M' f1, t ρ M = some (b, M') ∧ Frm M fp M' ∧ Cl M' ∧ EnvR.rel e' ρ M' f1 ∧ ∀ j, f1 j → fp j ∨ M.length ≤ j
omit [EnvR E] in
@[simp] def tX (g : E → Option τ) : E → Option (τ × E) := fun e => (g e).map fun v => (v, e)
theorem EP.x {g : E → Option α} {f : Ef} (h : EP g f) : EX rV (tX g) f := fun e ρ M fp R C v e' q => by
  obtain ⟨x, q1, q2⟩ := mx q; cases q2
  obtain ⟨r, h1, h2⟩ := h e ρ M fp R C _ q1
  exact ⟨r, M, fp, fun _ => False, h1, .refl, C, R, h2, fun _ _ z => z, fun j z => z.elim .inl False.elim⟩
theorem EN.xn {g : E → Option (List α)} {f : Ef} (h : EN g f) : EX rN (tX g) f := fun e ρ M fp R C v e' q => by
  obtain ⟨x, q1, q2⟩ := mx q; cases q2
  obtain ⟨ds, h1, h2⟩ := h e ρ M fp R C _ q1
  have h2 : D.lst (v.map Enc.enc) = .lst ds := h2
  cases h2
  exact ⟨_, M, fp, fun _ => False, h1, .refl, C, R, rfl, fun _ _ z => z, fun j z => z.elim .inl False.elim⟩
theorem EX.no {g : E → Option (List α × E)} {f : Ef} (h : EX rN g f) : EX rO g f := fun e ρ M fp R C v e' q => by
  obtain ⟨r, M', f1, f2, h1, h2, h3, h4, h5, h6, h7⟩ := h e ρ M fp R C v e' q
  exact ⟨r, M', f1, f2, h1, h2, h3, h4, .inl h5, h6, h7⟩
theorem EX.od {g : E → Option (List α × E)} {f : Ef} (h : EX rO g f) : EX rD g f := fun e ρ M fp R C v e' q => by
  obtain ⟨r, M', f1, f2, h1, h2, h3, h4, h5, h6, h7⟩ := h e ρ M fp R C v e' q
  refine ⟨r, M', f1, f2, h1, h2, h3, h4, ?_, h6, h7⟩
  rcases h5 with h5 | ⟨k, h5, h8, h9⟩
  · exact .inl (by rw [h5]; rfl)
  · exact .inr ⟨k, _, by rw [h5]; rfl, rfl, h8, h9⟩
theorem EX.y {g : E → Option (α × E)} {f : Ef} (h : EX rD g f) : EY g f := fun e ρ M fp R C v e' q => by
  obtain ⟨r, M', f1, f2, h1, h2, h3, h4, h5, h6, h7⟩ := h e ρ M fp R C v e' q
  refine ⟨r, M', f1, fun j => f2 j ∧ j < M'.length, h1, h2, h3, h4, ?_, fun j z => h7 j (.inl z), fun j z => z.2⟩
  exact h5.imp id fun ⟨k, ds, a, b, c, d⟩ => ⟨k, ds, a, b, c, d, lt_of_get c⟩
theorem EV.y {g : E → Option α} {f : Ef} (h : EV g f) : EY (tX g) f := fun e ρ M fp R C v e' q => by
  obtain ⟨x, q1, q2⟩ := mx q; cases q2
  obtain ⟨r, h1, h2⟩ := h e ρ M fp R C _ q1
  exact ⟨r, M, fp, fp, h1, .refl, C, R, h2, fun j z => .inl z, fun j z => EnvR.bnd R j z⟩
theorem den_frm {fp : Fp} {M M' : Mem} {d d0 : D} (h : DenF fp M d d0) (hf : ∀ j, fp j → j < M.length → M'[j]? = M[j]?) : DenF fp M' d d0 := h.imp id fun ⟨k, ds, a, b, c, d⟩ => ⟨k, ds, a, b, by rw [hf k d (lt_of_get c)]; exact c, d⟩
theorem den_sub {fp fp' : Fp} {M : Mem} {d d0 : D} (h : DenF fp M d d0) (hf : ∀ j, fp j → fp' j) : DenF fp' M d d0 := h.imp id fun ⟨k, ds, a, b, c, d⟩ => ⟨k, ds, a, b, c, hf k d⟩
theorem two {ga : E → Option (α × E)} {gb : E → Option (β × E)} {fa fb : Ef} (ha : EX rD ga fa) (hb : EY gb fb) {e e1 e2 : E} {ρ : Slots} {M : Mem} {fp : Fp} {a : α} {b : β} (R : EnvR.rel e ρ M fp) (C : Cl M) (q1 : ga e = some (a, e1)) (q2 : gb e1 = some (b, e2)) :
    ∃ r1 M1 r2 M2 f1 f2, fa ρ M = some (r1, M1) ∧ fb ρ M1 = some (r2, M2) ∧ Frm M fp M2 ∧ Cl M2 ∧ EnvR.rel e2 ρ M2 f1 ∧ (∀ j, f1 j → fp j ∨ M.length ≤ j) ∧ DenF f2 M2 r1.d (Enc.enc a) ∧ DenF f2 M2 r2.d (Enc.enc b) := by
  obtain ⟨r1, M1, f1, f2, h1, h2, h3, h4, h5, h6, h7⟩ := ha e ρ M fp R C a e1 q1
  obtain ⟨r2, M2, g1, g2, k1, k2, k3, k4, k5, k6, k7⟩ := hb e1 ρ M1 f1 h4 h3 b e2 q2
  refine ⟨r1, M1, r2, M2, g1, fun j => f2 j ∨ g2 j, h1, k1, h2.trans (fun j z => h7 j (.inl z)) k2, k3, k4, fun j z => ?_, ?_, den_sub k5 fun j z => .inr z⟩
  · rcases k6 j z with y | y
    · exact h7 j (.inl y)
    · exact .inr (Nat.le_trans h2.1 y)
  · exact den_sub (den_frm h5 fun j z y => k2.2 j y fun w => h6 j w z) fun j z => .inl z
theorem EX.ov {g : E → Option (List α × E)} {f : Ef} (h : EX rO g f) : EX rD g f := h.od
omit [EnvR E] in
@[simp] def x1 (t : α → Option β) (g : E → Option (α × E)) : E → Option (β × E) := fun e => (g e).bind fun a => (t a.1).map fun c => (c, a.2)
/-! ### slices -/
/-! ### tests -/
theorem TP.x {g : E → Option Bool} {t : Tf} (h : TP g t) : TX (tX g) t := fun e ρ M fp R C b e' q => by
  obtain ⟨x, q1, q2⟩ := mx q; cases q2
  exact ⟨M, fp, h e ρ M fp R C b q1, .refl, C, R, fun j z => .inl z⟩
theorem TX.go {ga gb : E → Option (Bool × E)} {ta tb : Tf} (ha : TX ga ta) (hb : TX gb tb) {e e1 e' : E} {ρ : Slots} {M : Mem} {fp : Fp} {a b : Bool} (R : EnvR.rel e ρ M fp) (C : Cl M) (q1 : ga e = some (a, e1)) (q2 : gb e1 = some (b, e')) :
    ∃ M1 M2 f1, ta ρ M = some (a, M1) ∧ tb ρ M1 = some (b, M2) ∧ Frm M fp M2 ∧ Cl M2 ∧ EnvR.rel e' ρ M2 f1 ∧ ∀ j, f1 j → fp j ∨ M.length ≤ j := by
  obtain ⟨M1, f1, h1, h2, h3, h4, h5⟩ := ha e ρ M fp R C a e1 q1
  obtain ⟨M2, f2, k1, k2, k3, k4, k5⟩ := hb e1 ρ M1 f1 h4 h3 b e' q2
  exact ⟨M1, M2, f2, h1, k1, h2.trans h5 k2, k3, k4, fun j z => (k5 j z).elim (h5 j) fun y => .inr (Nat.le_trans h2.1 y)⟩
/-! ### and, or, not as values; one or the other -/
/-! ### tuples -/
def AX {A : Type} [Args A] (g : E → Option (A × E)) (f : Af) : Prop := ∀ e ρ M fp, EnvR.rel e ρ M fp → Cl M → ∀ v e', g e = some (v, e') → ∃ M' f1, f ρ M = some (Args.encs v, M') ∧ Frm M fp M' ∧ Cl M' ∧ EnvR.rel e' ρ M' f1 ∧ ∀ j, f1 j → fp j ∨ M.length ≤ j
theorem AP.x {A : Type} [Args A] {g : E → Option A} {f : Af} (h : AP g f) : AX (tX g) f := fun e ρ M fp R C v e' q => by
  obtain ⟨x, q1, q2⟩ := mx q; cases q2
  exact ⟨M, fp, h e ρ M fp R C v q1, .refl, C, R, fun j z => .inl z⟩
end
end TL

/-! T11: objects handed to defs, methods, new objects, lists at places -/
namespace TL
open PySem PySem.Spec PyProof.Rows L2 CI
structure Wo (σ : Type) where
  s : σ
/-- arguments, and the objects among them afterwards -/
class ArgO (A : Type) (S : outParam Type) where
  arg : A → List D → Mem → Fp → Prop
  st : S → List D → Mem → Fp → Prop
class ArgOk (A : Type) (S : outParam Type) [ArgO A S] : Prop where
  frame : ∀ {a : A} {ds M M' fa}, ArgO.arg a ds M fa → (∀ j, fa j → M'[j]? = M[j]?) → ArgO.arg a ds M' fa
  bnd : ∀ {a : A} {ds M fa}, ArgO.arg a ds M fa → ∀ j, fa j → j < M.length
instance : ArgO Unit Unit := ⟨fun _ ds _ fa => ds = [] ∧ ∀ j, ¬ fa j, fun _ ds _ fs => ds = [] ∧ ∀ j, ¬ fs j⟩
instance : ArgOk Unit Unit := ⟨fun h _ => h, fun h j hj => absurd hj (h.2 j)⟩
section
variable {α σ A S : Type} [Enc α] [Rep σ] [ArgO A S]
instance : ArgO (α × A) S := ⟨fun a ds M fa => ∃ ds', ds = Enc.enc a.1 :: ds' ∧ ArgO.arg a.2 ds' M fa, fun s ds M fs => ∃ d ds', ds = d :: ds' ∧ ArgO.st A s ds' M fs⟩
instance [ArgOk A S] : ArgOk (α × A) S := ⟨fun ⟨ds', h1, h2⟩ hf => ⟨ds', h1, ArgOk.frame h2 hf⟩, fun ⟨ds', h1, h2⟩ => ArgOk.bnd h2⟩
instance : ArgO (Wo σ × A) (σ × S) := ⟨fun a ds M fa => ∃ k ds' f1 f2, ds = .loc k :: ds' ∧ Rep.rep M k a.1.s f1 ∧ ArgO.arg a.2 ds' M f2 ∧ (∀ j, f1 j → ¬ f2 j) ∧ ∀ j, fa j ↔ f1 j ∨ f2 j,
  fun s ds M fs => ∃ k ds' f1 f2, ds = .loc k :: ds' ∧ Rep.rep M k s.1 f1 ∧ ArgO.st A s.2 ds' M f2 ∧ (∀ j, f1 j → ¬ f2 j) ∧ ∀ j, fs j ↔ f1 j ∨ f2 j⟩
instance [ArgOk A S] : ArgOk (Wo σ × A) (σ × S) := ⟨fun ⟨k, ds', f1, f2, h1, h2, h3, h4, h5⟩ hf => ⟨k, ds', f1, f2, h1, Rep.frame h2 fun j z => hf j ((h5 j).mpr (.inl z)), ArgOk.frame h3 fun j z => hf j ((h5 j).mpr (.inr z)), h4, h5⟩,
  fun ⟨k, ds', f1, f2, h1, h2, h3, h4, h5⟩ j z => ((h5 j).mp z).elim (Rep.bnd h2 j) (ArgOk.bnd h3 j)⟩
end
/-- a def with objects among its arguments -/
def FnX {A S β : Type} [ArgO A S] (RT : RTy β) (F : Fn) (T : A → Option (β × S)) : Prop := ∀ a b s, T a = some (b, s) → ∀ M ds fa, ArgO.arg a ds M fa → Cl M → ∃ r M' f1 f2, F ds M = some (r, M') ∧ Frm M fa M' ∧ Cl M' ∧ ArgO.st A s ds M' f1 ∧ RT.R b r M' f2 ∧ (∀ j, f1 j → ¬ f2 j) ∧ ∀ j, f1 j ∨ f2 j → fa j ∨ M.length ≤ j
section
variable {E : Type} [EnvR E] {α β γ δ σ τ : Type} [Enc α] [Enc β] [Enc γ] [Enc δ] [Rep σ] {A S : Type} [ArgO A S]
def AO (g : E → Option (A × E)) (up : E → S → Option E) (f : Af) : Prop := ∀ e ρ M fp, EnvR.rel e ρ M fp → Cl M → ∀ a e1, g e = some (a, e1) → ∃ ds M1 f1 fa, f ρ M = some (ds, M1) ∧ Frm M fp M1 ∧ Cl M1 ∧ EnvR.rel e1 ρ M1 f1 ∧ ArgO.arg a ds M1 fa ∧ (∀ j, f1 j → ¬ fa j) ∧ (∀ j, f1 j ∨ fa j → fp j ∨ M.length ≤ j) ∧
  ∀ M2 s fs e2, (∀ j, f1 j → M2[j]? = M1[j]?) → ArgO.st A s ds M2 fs → (∀ j, fs j → ¬ f1 j) → up e1 s = some e2 → ∃ f2, EnvR.rel e2 ρ M2 f2 ∧ ∀ j, f2 j → f1 j ∨ fs j
def AQ (g : E → E → Option (A × E)) (up : E → S → Option E) (f : Af) : Prop := ∀ e0 fp0 e ρ M fp, EnvR.rel e0 ρ M fp0 → EnvR.rel e ρ M fp → Cl M → ∀ a e1, g e0 e = some (a, e1) → ∃ ds f1 fa, f ρ M = some (ds, M) ∧ EnvR.rel e1 ρ M f1 ∧ ArgO.arg a ds M fa ∧ (∀ j, f1 j → ¬ fa j) ∧ (∀ j, f1 j ∨ fa j → fp j) ∧
  ∀ M2 s fs e2, (∀ j, f1 j → M2[j]? = M[j]?) → ArgO.st A s ds M2 fs → (∀ j, fs j → ¬ f1 j) → up e1 s = some e2 → ∃ f2, EnvR.rel e2 ρ M2 f2 ∧ ∀ j, f2 j → f1 j ∨ fs j
omit [EnvR E] in
@[simp] def qq (g : E → E → Option (A × E)) : E → Option (A × E) := fun e => g e e
theorem AQ.o {g : E → E → Option (A × E)} {up : E → S → Option E} {f : Af} (h : AQ g up f) : AO (qq g) up f := fun e ρ M fp R C a e1 q => by
  obtain ⟨ds, f1, fa, h1, h2, h3, h4, h5, h6⟩ := h e fp e ρ M fp R R C a e1 q
  exact ⟨ds, M, f1, fa, h1, .refl, C, h2, h3, h4, fun j z => .inl (h5 j z), h6⟩
omit [EnvR E] in
@[simp] def uNil : E → Unit → Option E := fun e _ => some e
omit [EnvR E] in
@[simp] def qNil : E → E → Option (Unit × E) := fun _ e => some ((), e)
theorem q_nil : AQ (E := E) qNil uNil aNil := fun e0 fp0 e ρ M fp R0 R C a e1 q => by
  cases q
  exact ⟨[], fp, fun _ => False, rfl, R, ⟨rfl, fun _ z => z⟩, fun _ _ z => z, fun j z => z.elim id False.elim, fun M2 s fs e2 hf hs hd q => by cases q; exact ⟨fp, EnvR.frame R hf, fun j z => .inl z⟩⟩
omit [EnvR E] in
@[simp] def qVal (g : E → Option α) (gs : E → E → Option (A × E)) : E → E → Option ((α × A) × E) := fun e0 e => (g e0).bind fun a => (gs e0 e).map fun r => ((a, r.1), r.2)
theorem q_val {g : E → Option α} {gs : E → E → Option (A × E)} {up : E → S → Option E} {f : Ef} {fs : Af} (h1 : EP g f) (h2 : AQ gs up fs) : AQ (qVal g gs) up (aCons f fs) := fun e0 fp0 e ρ M fp R0 R C a e1 q => by
  unfold qVal at q
  obtain ⟨x, q1, q⟩ := bx q
  obtain ⟨⟨y, e2⟩, q2, q⟩ := mx q
  cases q
  obtain ⟨r, k1, k2⟩ := h1 e0 ρ M fp0 R0 C _ q1
  obtain ⟨ds, f1, fa, l1, l2, l3, l4, l5, l6⟩ := h2 e0 fp0 e ρ M fp R0 R C _ _ q2
  refine ⟨r.d :: ds, f1, fa, by simp [aCons, k1, l1], l2, ⟨ds, by rw [k2], l3⟩, l4, l5, fun M2 s fs e2 hf hs hd q => ?_⟩
  obtain ⟨d, ds', hs1, hs2⟩ := hs
  cases hs1
  exact l6 M2 s fs e2 hf hs2 hd q
omit [EnvR E] [Rep σ] in
@[simp] def qObj (p : Pl E σ) (gs : E → E → Option (A × E)) : E → E → Option ((Wo σ × A) × E) := fun e0 e => (p.get e).bind fun s => (gs e0 (p.clr e)).map fun r => ((⟨s⟩, r.1), r.2)
omit [EnvR E] [Rep σ] [ArgO A S] in
@[simp] def uObj (p : Pl E σ) (up : E → S → Option E) : E → σ × S → Option E := fun e s => if p.pre e = true then (up e s.2).bind fun e2 => if p.pre e2 = true then some (p.put e2 s.1) else none else none
theorem q_obj {p : Pl E σ} {gs : E → E → Option (A × E)} {up : E → S → Option E} {f : Ef} {fs : Af} (hp : POk p f) (h2 : AQ gs up fs) : AQ (qObj p gs) (uObj p up) (aCons f fs) := fun e0 fp0 e ρ M fp R0 R C a e1 q => by
  unfold qObj at q
  obtain ⟨x, q1, q⟩ := bx q
  obtain ⟨⟨y, e2⟩, q2, q⟩ := mx q
  cases q
  obtain ⟨k, g1, k1, k2, k3, ⟨g0, k4, k5⟩, _⟩ := hp.get R q1
  obtain ⟨ds, f1, fa, l1, l2, l3, l4, l5, l6⟩ := h2 e0 fp0 _ ρ M g0 R0 k4 C _ _ q2
  have dj : ∀ j, g1 j → ¬ g0 j := fun j z y => (k5 j y).2 z
  refine ⟨.loc k :: ds, f1, fun j => g1 j ∨ fa j, by simp [aCons, k1, l1], l2, ⟨k, ds, g1, fa, rfl, k2, l3, fun j z y => dj j z (l5 j (.inr y)), fun _ => Iff.rfl⟩, fun j z y => ?_, fun j z => ?_, fun M2 s fs e3 hf hs hd q => ?_⟩
  · rcases y with y | y
    · exact dj j y (l5 j (.inl z))
    · exact l4 j z y
  · rcases z with z | z | z
    · exact (k5 j (l5 j (.inl z))).1
    · exact k3 j z
    · exact (k5 j (l5 j (.inr z))).1
  · obtain ⟨k', ds', h1, h2, hs1, hs2, hs3, hs4, hs5⟩ := hs
    cases hs1
    unfold uObj at q
    split at q
    · rename_i pr
      obtain ⟨e4, q3, q⟩ := bx q
      split at q
      · rename_i pr2
        cases q
        obtain ⟨f2, m1, m2⟩ := l6 M2 s.2 h2 e4 hf hs3 (fun j z => hd j ((hs5 j).mpr (.inr z))) q3
        have S2 := hp.stb l2 pr k1 hf
        obtain ⟨f3, n1, n2⟩ := hp.put m1 pr2 S2 hs2 (fun j z y => by
          rcases m2 j y with w | w
          · exact hd j ((hs5 j).mpr (.inl z)) w
          · exact hs4 j z w)
        refine ⟨f3, n1, fun j z => ?_⟩
        rcases n2 j z with y | y
        · exact (m2 j y).imp id fun w => (hs5 j).mpr (.inr w)
        · exact .inr ((hs5 j).mpr (.inl y))
      · cases q
    · cases q
/-! ### calls -/
omit [EnvR E] [ArgO A S] in
@[simp] def xCall (T : A → Option (τ × S)) (g : E → Option (A × E)) (up : E → S → Option E) : E → Option (τ × E) := fun e => (g e).bind fun a => (T a.1).bind fun b => (up a.2 b.2).map fun e' => (b.1, e')
theorem x_call {RT : RTy τ} {F : Fn} {T : A → Option (τ × S)} {g : E → Option (A × E)} {up : E → S → Option E} {f : Af} (hF : FnX RT F T) (h : AO g up f) : EX RT (xCall T g up) (cCall F f) := fun e ρ M fp R C v e' q => by
  unfold xCall at q
  obtain ⟨⟨a, e1⟩, q1, q⟩ := bx q
  obtain ⟨⟨b, s⟩, q2, q⟩ := bx q
  obtain ⟨e2, q3, q⟩ := mx q
  cases q
  obtain ⟨ds, M1, f1, fa, l1, l2, l3, l4, l5, l6, l7, l8⟩ := h e ρ M fp R C _ _ q1
  obtain ⟨r, M2, g1, g2, k1, k2, k3, k4, k5, k6, k7⟩ := hF a b s q2 M1 ds fa l5 l3
  have fr : ∀ j, f1 j → M2[j]? = M1[j]? := fun j z => k2.2 j (EnvR.bnd l4 j z) (l6 j z)
  have dg : ∀ j, g1 j ∨ g2 j → ¬ f1 j := fun j z y => (k7 j z).elim (l6 j y) fun w => by have := EnvR.bnd l4 j y; omega
  obtain ⟨f2, m1, m2⟩ := l8 M2 s g1 _ fr k4 (fun j z => dg j (.inl z)) q3
  have sub : ∀ j, g1 j ∨ g2 j → fp j ∨ M.length ≤ j := fun j z => (k7 j z).elim (fun y => l7 j (.inr y)) fun y => .inr (Nat.le_trans l2.1 y)
  refine ⟨r, M2, f2, g2, by simp [cCall, l1, k1], l2.trans (fun j z => l7 j (.inr z)) k2, k3, m1, k5, fun j z y => ?_, fun j z => ?_⟩
  · rcases m2 j z with w | w
    · exact dg j (.inr y) w
    · exact k6 j w y
  · rcases z with z | z
    · rcases m2 j z with w | w
      · exact l7 j (.inl w)
      · exact sub j (.inl w)
    · exact sub j (.inr z)
omit [EnvR E] [ArgO A S] in
@[simp] def xNew {σ' : Type} (emp : σ') (T : Wo σ' × A → Option (Unit × (σ' × S))) (g : E → Option (A × E)) (up : E → S → Option E) : E → Option (σ' × E) := fun e => (g e).bind fun a => (T (⟨emp⟩, a.1)).bind fun b => (up a.2 b.2.2).map fun e' => (b.2.1, e')
theorem x_new {C : Str} {ns : List Str} {F1 : Type} [EnvR F1] [ArgOk A S] {F : Fn} {T : Wo (Ins C ns F1) × A → Option (Unit × (Ins C ns F1 × S))} {emp : F1} {g : E → Option (A × E)} {up : E → S → Option E} {f : Af} (hF : FnX rV F T) (he : ∀ M, EnvR.rel emp (flds ns []) M fun _ => False) (h : AO g up f) :
    EX rJ (xNew ⟨emp⟩ T g up) (cNew C F f) := fun e ρ M fp R C0 v e' q => by
  unfold xNew at q
  obtain ⟨⟨a, e1⟩, q1, q⟩ := bx q
  obtain ⟨⟨b, s, ss⟩, q2, q⟩ := bx q
  obtain ⟨e2, q3, q⟩ := mx q
  cases q
  obtain ⟨ds, M1, f1, fa, l1, l2, l3, l4, l5, l6, l7, l8⟩ := h e ρ M fp R C0 _ _ q1
  have l5' : ArgO.arg a ds (M1 ++ [.ins C []]) fa := ArgOk.frame l5 fun j z => List.getElem?_append_left (ArgOk.bnd l5 j z)
  have l3' : Cl (M1 ++ [.ins C []]) := cl_push l3 rfl
  have hr : Rep.rep (M1 ++ [.ins C []]) M1.length (⟨emp⟩ : Ins C ns F1) fun j => j = M1.length := ins_mk ⟨[], fun _ => False, get_end, List.nodup_nil, fun p z => (nomatch z), he _, fun z => z, fun j => ⟨.inl, fun z => z.elim id False.elim⟩⟩
  have nfa : ∀ j, fa j → j < M1.length := fun j z => ArgOk.bnd l5 j z
  obtain ⟨r, M2, g1, g2, k1, k2, k3, k4, k5, k6, k7⟩ := hF (⟨⟨emp⟩⟩, a) b (s, ss) q2 (M1 ++ [.ins C []]) (.loc M1.length :: ds) (fun j => j = M1.length ∨ fa j) ⟨M1.length, ds, fun j => j = M1.length, fa, rfl, hr, l5', fun j z y => by have := nfa j y; omega, fun _ => Iff.rfl⟩ l3'
  have k5 : r.d = .non := k5
  have k5 : r = .val .non := by cases r with | val d => have k5 : d = .non := k5; rw [k5] | new ds => cases k5
  subst k5
  obtain ⟨k', ds', h1, h2, hs1, hs2, hs3, hs4, hs5⟩ := k4
  cases hs1
  have nl : (M1 ++ [O.ins C []]).length = M1.length + 1 := by simp
  rw [nl] at k7
  have bf1 : ∀ j, f1 j → j < M1.length := fun j z => EnvR.bnd l4 j z
  have fr : ∀ j, f1 j → M2[j]? = M1[j]? := fun j z => by
    rw [k2.2 j (by rw [nl]; have := bf1 j z; omega) (fun y => y.elim (fun w => by have := bf1 j z; omega) (l6 j z)), List.getElem?_append_left (bf1 j z)]
  have sub : ∀ j, g1 j ∨ g2 j → fa j ∨ M1.length ≤ j := fun j z => (k7 j z).elim (fun y => y.elim (fun w => .inr (by omega)) .inl) fun y => .inr (by omega)
  have dg : ∀ j, g1 j ∨ g2 j → ¬ f1 j := fun j z y => (sub j z).elim (l6 j y) fun w => by have := bf1 j y; omega
  obtain ⟨f2, m1, m2⟩ := l8 M2 ss h2 _ fr hs3 (fun j z => dg j (.inl ((hs5 j).mpr (.inr z)))) q3
  refine ⟨.val (.loc M1.length), M2, f2, h1, ?_, ?_, k3, m1, ⟨M1.length, h1, rfl, hs2, fun _ z => z⟩, fun j z y => ?_, fun j z => ?_⟩
  · unfold cNew
    rw [l1]
    simp only [Option.bind_some]
    rw [k1]; rfl
  · refine ⟨by have := k2.1; rw [nl] at this; have := l2.1; omega, fun j z y => ?_⟩
    have z1 : j < M1.length := Nat.lt_of_lt_of_le z l2.1
    rw [k2.2 j (by rw [nl]; omega) (fun w => w.elim (fun u => by omega) fun u => (l7 j (.inr u)).elim y fun t => by omega), List.getElem?_append_left z1, l2.2 j z y]
  · rcases m2 j z with w | w
    · exact dg j (.inl ((hs5 j).mpr (.inl y))) w
    · exact hs4 j y w
  · have sub2 : ∀ j, g1 j → fp j ∨ M.length ≤ j := fun j z => (sub j (.inl z)).elim (fun y => l7 j (.inr y)) fun y => .inr (Nat.le_trans l2.1 y)
    rcases z with z | z
    · rcases m2 j z with w | w
      · exact l7 j (.inl w)
      · exact sub2 j ((hs5 j).mpr (.inr w))
    · exact sub2 j ((hs5 j).mpr (.inl z))
/-! ### a def of values, with arguments that have effects -/
/-! ### lists at places -/
omit [EnvR E] in
@[simp] def tPL (p : Pl E (LS α)) : E → Option (List α) := fun e => (p.get e).map (·.l)
theorem t_pl {p : Pl E (LS α)} {f : Ef} (hp : POk p f) : EV (tPL p) f := fun e ρ M fp R C v q => by
  unfold tPL at q
  obtain ⟨s, q1, q⟩ := mx q
  cases q
  obtain ⟨k, f1, k1, k2, k3, _⟩ := hp.get R q1
  obtain ⟨l1, l2⟩ := ls_get k2
  exact ⟨_, k1, .inr ⟨k, _, rfl, rfl, l1, k3 k ((l2 k).mpr rfl)⟩⟩
omit [EnvR E] in
/-- a value in an attribute -/
@[simp] def tFV {C : Str} {ns : List Str} {F : Type} {i : Nat} (q : Pl E (Ins C ns F)) (l : Lens F (Option α) i) : E → Option α := fun e => (q.get e).bind fun s => l.get s.e
theorem t_fv {C : Str} {ns : List Str} {F : Type} [EnvR F] {i : Nat} {q : Pl E (Ins C ns F)} {fq : Ef} {cs : List Str} {n : Str} (hq : POk q fq) (l : Lens F (Option α) i) [LOk l] (hi : ns[i]? = some n) (hC : C ∈ cs) : EP (tFV q l) (cFld cs n fq) := fun e ρ M fp R C0 v h => by
  unfold tFV at h
  obtain ⟨s, q1, q2⟩ := bx h
  obtain ⟨kq, f1, fs, f', h1, h2, h3, h4, h5, h6, h7, h8, h9⟩ := pl_env hq R q1
  obtain ⟨g1, l1, l2, l3⟩ := LOk.okd (ln := l) _ _ _ _ h5
  rw [flds_slot hi] at l1
  have := l1.1 v q2
  exact ⟨_, cFld_of h1 h2 hC this, rfl⟩
theorem pl_list {p : Pl E (LS α)} {f : Ef} (hp : POk p f) {e : E} {ρ : Slots} {M : Mem} {fp : Fp} (R : EnvR.rel e ρ M fp) (C : Cl M) {s : LS α} (q : p.get e = some s) : ∃ k, f ρ M = some (.val (.loc k), M) ∧ M[k]? = some (.lst (s.l.map Enc.enc)) ∧
    ∀ xs : List α, (∃ fp', EnvR.rel (p.put (p.clr e) ⟨xs⟩) ρ (M.set k (.lst (xs.map Enc.enc))) fp' ∧ ∀ j, fp' j → fp j) ∧ Frm M fp (M.set k (.lst (xs.map Enc.enc))) ∧ Cl (M.set k (.lst (xs.map Enc.enc))) := by
  obtain ⟨k, f1, k1, k2, k3, ⟨f0, k4, k5⟩, _⟩ := hp.get R q
  obtain ⟨l1, l2⟩ := ls_get k2
  have hk := lt_of_get l1
  have fk : f1 k := (l2 k).mpr rfl
  refine ⟨k, k1, l1, fun xs => ⟨?_, ⟨by simp, fun j _ z => List.getElem?_set_ne fun y => z (by rw [← y]; exact k3 k fk)⟩, cl_set C (nls_enc _ xs)⟩⟩
  have fr : ∀ j, f0 j → (M.set k (.lst (xs.map Enc.enc)))[j]? = M[j]? := fun j z => List.getElem?_set_ne fun y => (k5 j z).2 (by rw [← y]; exact fk)
  obtain ⟨fp', m1, m2⟩ := hp.put (s := ⟨xs⟩) (f1 := fun j => j = k) (EnvR.frame k4 fr) (hp.pc _ _ q) (hp.stb k4 (hp.pc _ _ q) k1 fr) ⟨by rw [List.getElem?_set_self hk], fun _ => Iff.rfl⟩ (fun j z y => (k5 j y).2 (by rw [z]; exact fk))
  exact ⟨fp', m1, fun j z => (m2 j z).elim (fun y => (k5 j y).1) fun y => by rw [y]; exact k3 k fk⟩
/-- a method of a list at a place, with arguments without effects -/
def LmOk {A : Type} [Args A] (o : Mop) (t : List α → A → Option (β × List α)) : Prop := ∀ l a b l' M k, t l a = some (b, l') → M[k]? = some (.lst (l.map Enc.enc)) → o (.loc k) (Args.encs a) M = some (.val (Enc.enc b), M.set k (.lst (l'.map Enc.enc)))
omit [EnvR E] in
@[simp] def xLM {A : Type} (t : List α → A → Option (β × List α)) (p : Pl E (LS α)) (g : E → Option A) : E → Option (β × E) := fun e => (p.get e).bind fun s => (g e).bind fun a => (t s.l a).map fun r => (r.1, p.put (p.clr e) ⟨r.2⟩)
theorem x_lm {A : Type} [Args A] {o : Mop} {t : List α → A → Option (β × List α)} {p : Pl E (LS α)} {g : E → Option A} {f : Ef} {ga : Af} (ho : LmOk o t) (hp : POk p f) (h : AP g ga) : EX rV (xLM t p g) (cBM "list" o f ga) := fun e ρ M fp R C v e' q => by
  unfold xLM at q
  obtain ⟨s, q1, q⟩ := bx q
  obtain ⟨a, q2, q⟩ := bx q
  obtain ⟨⟨b, l'⟩, q3, q⟩ := mx q
  cases q
  obtain ⟨k, k1, k2, k3⟩ := pl_list hp R C q1
  obtain ⟨⟨fp', k4, k5⟩, k6, k7⟩ := k3 l'
  refine ⟨.val (Enc.enc b), _, fp', fun _ => False, ?_, k6, k7, k4, rfl, fun _ _ z => z, fun j z => z.elim (fun y => .inl (k5 j y)) False.elim⟩
  rw [cBM_of k1 (tyOf_loc k2), h e ρ M fp R C _ q2]
  simp only [Option.bind_some]
  exact ho s.l a _ l' M k q3 k2
@[simp] def lmApp (l : List α) (a : α × Unit) : Option (Unit × List α) := if l.length < 16777216 then some ((), l ++ [a.1]) else none
theorem lm_app : LmOk (β := Unit) oAppend (lmApp (α := α)) := fun l a b l' M k q h => by
  unfold lmApp at q
  split at q
  · rename_i hl; cases q
    show oAppend (.loc k) [Enc.enc a.1] M = _
    rw [oAppend_loc h (by simpa using hl)]; simp; rfl
  · cases q
end
end TL

/-! T12: statements with effects, defs with objects -/
namespace TL
open PySem PySem.Spec PyProof.Rows L2 CI
section
variable {E : Type} [EnvR E] {α β γ δ σ τ υ : Type} [Enc α] [Enc γ] [Enc δ] [Rep σ] {A S : Type} [ArgO A S] {RT : RTy β} {RX : RTy τ}
/-- handing back along with the environment -/
def rE (RX : RTy τ) : RTy (τ × E) := ⟨fun b r M fp => ∃ ρ' f1 f2, EnvR.rel b.2 ρ' M f1 ∧ RX.R b.1 r M f2 ∧ (∀ j, f1 j → ¬ f2 j) ∧ ∀ j, f1 j ∨ f2 j → fp j, fun hf ⟨ρ', f1, f2, h1, h2, h3, h4⟩ => ⟨ρ', f1, f2, h1, h2, h3, fun j z => hf j (h4 j z)⟩⟩
theorem ls_rep {l : List α} {M : Mem} {k : Nat} (h : M[k]? = some (.lst (l.map Enc.enc))) : Rep.rep M k (⟨l⟩ : LS α) fun j => j = k := ⟨h, fun _ => Iff.rfl⟩
theorem at_rel {M : Mem} {k : Nat} {s : σ} {fp : Fp} (h : Rep.rep M k s fp) : SlotR.rel (Oj.at_ k s) (some (.loc k)) M fp := ⟨rfl, h⟩
theorem lens_set {i : Nat} {υ : Type} [SlotR υ] (ln : Lens E υ i) [LOk ln] {e : E} {ρ : Slots} {M : Mem} {f1 f2 : Fp} {t : υ} {d : Option D} (R : EnvR.rel e ρ M f1) (h : SlotR.rel t d M f2) (hd : ∀ j, f1 j → ¬ f2 j) : ∃ fp', EnvR.rel (ln.set e t) (ρ.set i d) M fp' ∧ ∀ j, fp' j → f1 j ∨ f2 j := by
  obtain ⟨g1, h1, h2, h3⟩ := LOk.okd (ln := ln) e ρ M f1 R
  obtain ⟨fp', k1, k2⟩ := h3 t d M f2 h (fun _ _ _ => rfl) (fun j z y => absurd z (hd j y))
  exact ⟨fp', k1, fun j z => (k2 j z).imp (·.1) id⟩
omit [EnvR E] in
@[simp] def tExpX (g : E → Option (τ × E)) : E → Option (Fw β E) := fun e => (g e).map fun a => .nx a.2
theorem s_expX {g : E → Option (τ × E)} {f : Ef} (h : EX RX g f) : SP RT (tExpX g) (sExpr f) := fun e ρ M fp R C o q => by
  unfold tExpX at q
  obtain ⟨⟨a, e1⟩, q1, q⟩ := mx q
  cases q
  obtain ⟨r, M1, f1, f2, h1, h2, h3, h4, h5, h6, h7⟩ := h e ρ M fp R C _ _ q1
  exact ⟨.nx, ρ, M1, by simp [sExpr, h1], h2, h3, rfl, f1, h4, fun j z => h7 j (.inl z)⟩
omit [EnvR E] in
/-- a new list of its own, for a name -/
@[simp] def tSetO {i : Nat} [Hd υ (LS α)] (ln : Lens E υ i) (g : E → Option (List α × E)) : E → Option (Fw β E) := fun e => (g e).map fun a => .nx (ln.set a.2 (Hd.own ⟨a.1⟩))
theorem s_setO {i : Nat} [SlotR υ] [Hd υ (LS α)] [HdOk υ (LS α)] (ln : Lens E υ i) [LOk ln] {g : E → Option (List α × E)} {f : Ef} (h : EX rO g f) : SP RT (tSetO ln g) (sSetM i f) := fun e ρ M fp R C o q => by
  unfold tSetO at q
  obtain ⟨⟨a, e1⟩, q1, q⟩ := mx q
  cases q
  obtain ⟨r, M1, f1, f2, h1, h2, h3, h4, h5, h6, h7⟩ := h e ρ M fp R C _ _ q1
  rcases h5 with rfl | ⟨k, rfl, k1, k2⟩
  · have R1 : EnvR.rel e1 ρ (M1 ++ [.lst (a.map Enc.enc)]) f1 := EnvR.frame h4 fun j z => List.getElem?_append_left (EnvR.bnd h4 j z)
    obtain ⟨fp', m1, m2⟩ := lens_set ln R1 (t := Hd.own ⟨a⟩) (d := some (.loc M1.length)) (f2 := fun j => j = M1.length) (HdOk.own rfl (ls_rep get_end)) (fun j z y => by have := EnvR.bnd h4 j z; omega)
    refine ⟨.nx, ρ.set i (some (.loc M1.length)), M1 ++ [.lst (a.map Enc.enc)], by simp [sSetM, h1], ⟨by have := h2.1; simp; omega, fun j z y => by rw [List.getElem?_append_left (Nat.lt_of_lt_of_le z h2.1), h2.2 j z y]⟩, cl_push h3 (show nlO M1.length (.lst (a.map Enc.enc)) = true from nls_enc _ a), rfl, fp', m1, fun j z => ?_⟩
    rcases m2 j z with z | z
    · exact h7 j (.inl z)
    · exact .inr (by have := h2.1; omega)
  · obtain ⟨fp', m1, m2⟩ := lens_set ln h4 (t := Hd.own ⟨a⟩) (d := some (.loc k)) (f2 := fun j => j = k) (HdOk.own rfl (ls_rep k1)) (fun j z y => h6 j z (by rw [y]; exact k2))
    exact ⟨.nx, ρ.set i (some (.loc k)), M1, by simp [sSetM, h1], h2, h3, rfl, fp', m1, fun j z => (m2 j z).elim (fun y => h7 j (.inl y)) fun y => h7 j (.inr (by rw [y]; exact k2))⟩
omit [EnvR E] [Rep σ] in
/-- a list either way, read only -/
@[simp] def tSetJ {i : Nat} [Hd υ σ] (ln : Lens E υ i) (g : E → Option (σ × E)) : E → Option (Fw β E) := fun e => (g e).map fun a => .nx (ln.set a.2 (Hd.own a.1))
theorem s_setJ {i : Nat} [SlotR υ] [Hd υ σ] [HdOk υ σ] (ln : Lens E υ i) [LOk ln] {g : E → Option (σ × E)} {f : Ef} (h : EX rJ g f) : SP RT (tSetJ ln g) (sSet i f) := fun e ρ M fp R C o q => by
  unfold tSetJ at q
  obtain ⟨⟨a, e1⟩, q1, q⟩ := mx q
  cases q
  obtain ⟨r, M1, f1, f2, h1, h2, h3, h4, ⟨k, f', rfl, k1, k2⟩, h6, h7⟩ := h e ρ M fp R C _ _ q1
  obtain ⟨fp', m1, m2⟩ := lens_set ln h4 (t := Hd.own a) (d := some (.loc k)) (f2 := f') (HdOk.own rfl k1) (fun j z y => h6 j z (k2 j y))
  exact ⟨.nx, ρ.set i (some (.loc k)), M1, by simp [sSet, h1], h2, h3, rfl, fp', m1, fun j z => (m2 j z).elim (fun y => h7 j (.inl y)) fun y => h7 j (.inr (k2 j y))⟩
/-! ### targets with effects -/
def GX (p : α → E → Option E) (g : Gf) : Prop := ∀ x e ρ M fp, EnvR.rel e ρ M fp → Cl M → ∀ e', p x e = some e' → ∃ ρ' M' fp', g (Enc.enc x) ρ M = some (ρ', M') ∧ Frm M fp M' ∧ Cl M' ∧ EnvR.rel e' ρ' M' fp' ∧ ∀ j, fp' j → fp j ∨ M.length ≤ j
theorem GP.x {p : α → E → Option E} {g : Gf} (h : GP p g) : GX p g := fun x e ρ M fp R C e' q => by
  obtain ⟨ρ', fp', h1, h2, h3⟩ := h x e ρ M fp R e' q
  exact ⟨ρ', M, fp', h1, .refl, C, h2, fun j z => .inl (h3 j z)⟩
/-! ### attributes -/
theorem stFld_T {C : Str} {ns : List Str} {F : Type} [EnvR F] {i : Nat} {q : Pl E (Ins C ns F)} {fo : Ef} {cs : List Str} {n : Str} [SlotR υ] (hq : POk q fo) (l : Lens F υ i) [LOk l] (hi : ns[i]? = some n) (hC : C ∈ cs) (nd : ns.Nodup) (hl : ns.length < 1000)
    {e : E} {ρ : Slots} {M : Mem} {f1 f2 : Fp} {s : Ins C ns F} {t : υ} {d : D} (R : EnvR.rel e ρ M f1) (C0 : Cl M) (h : q.get e = some s) (ht : SlotR.rel t (some d) M f2) (hd : ∀ j, f1 j → ¬ f2 j) (hn : nl M.length d = true) :
    ∃ M', stFld cs n fo d ρ M = some (.nx, ρ, M') ∧ Frm M f1 M' ∧ Cl M' ∧ ∃ fp', EnvR.rel (q.put (q.clr e) ⟨l.set s.e t⟩) ρ M' fp' ∧ ∀ j, fp' j → f1 j ∨ f2 j := by
  obtain ⟨kq, fq1, fs, f', h1, h2, h3, h4, h5, h6, h7, h8, h9⟩ := pl_env hq R h
  have inf : ∀ j, f' j → f1 j := fun j z => h8 j ((h7 j).mpr (.inr z))
  have hk1 : f1 kq := h8 _ ((h7 _).mpr (.inl rfl))
  have hk := lt_of_get h2
  have hfs : fs.length < 1000 := by
    have := len_nd (ys := ns) h3 fun x hx => by
      obtain ⟨p, hp, rfl⟩ := List.mem_map.mp hx
      exact h4 p hp
    rw [List.length_map] at this
    omega
  have hn0 : n ∈ ns := List.mem_of_getElem? hi
  have fr : ∀ j, j ≠ kq → (M.set kq (.ins C (putD n d fs)))[j]? = M[j]? := fun j z => List.getElem?_set_ne fun y => z y.symm
  obtain ⟨g1, l1, l2, l3⟩ := LOk.okd (ln := l) _ _ _ _ h5
  have ht' : SlotR.rel t (some d) (M.set kq (.ins C (putD n d fs))) f2 := SlotR.frame ht fun j z => fr j fun y => hd kq hk1 (by rw [← y]; exact z)
  obtain ⟨f'', m1, m2⟩ := l3 t (some d) (M.set kq (.ins C (putD n d fs))) f2 ht' (fun j z _ => fr j fun y => h6 (by rw [← y]; exact z)) (fun j z y => absurd z (hd j (inf j y)))
  rw [← flds_put hi nd] at m1
  obtain ⟨fp', a1, a2⟩ := h9 (M.set kq (.ins C (putD n d fs))) (putD n d fs) _ f'' (by rw [List.getElem?_set_self hk]) (putD_nd h3) (fun p hp => (putD_key hp).elim (fun y => y ▸ hn0) fun y => by
      obtain ⟨p', hp', e'⟩ := List.mem_map.mp y
      rw [← e']; exact h4 p' hp') m1 (fun z => (m2 _ z).elim (fun y => h6 y.1) fun y => hd _ hk1 y) (fun j z y => fr j fun w => y ((h7 j).mpr (.inl w))) (fun j z y => (m2 j z).elim (·.1) fun w => absurd w (hd j y))
  refine ⟨M.set kq (.ins C (putD n d fs)), ?_, ⟨by simp, fun j z y => fr j fun w => y (by rw [w]; exact hk1)⟩, cl_set C0 (by
      rw [nlO_ins]
      exact nlF_put hn (by have := C0 kq _ h2; rwa [nlO_ins] at this)), fp', a1, fun j z => ?_⟩
  · unfold stFld
    rw [h1]
    simp only [Option.bind_some, Rz_d_val]
    rw [h2]
    simp only
    rw [if_pos ⟨hC, hfs⟩]
  · rcases a2 j z with y | y | y
    · exact .inl y.1
    · exact .inl (by rw [y]; exact hk1)
    · exact (m2 j y).imp (fun w => inf j w.1) id
omit [EnvR E] in
@[simp] def tFldX {C : Str} {ns : List Str} {F : Type} {i : Nat} (q : Pl E (Ins C ns F)) (l : Lens F υ i) (mk : τ → υ) (g : E → Option (τ × E)) : E → Option (Fw β E) := fun e => (g e).bind fun a => (q.get a.2).map fun s => .nx (q.put (q.clr a.2) ⟨l.set s.e (mk a.1)⟩)
theorem s_fldV {C : Str} {ns : List Str} {F : Type} [EnvR F] {i : Nat} {q : Pl E (Ins C ns F)} {fo : Ef} {cs : List Str} {n : Str} (hq : POk q fo) (l : Lens F (Option α) i) [LOk l] (hi : ns[i]? = some n) (hC : C ∈ cs) (nd : ns.Nodup) (hl : ns.length < 1000) {g : E → Option (α × E)} {f : Ef} (h : EX rV g f) : SP RT (tFldX q l some g) (sFldS cs n fo f) := fun e ρ M fp R C0 o q => by
  unfold tFldX at q
  obtain ⟨⟨a, e1⟩, q1, q⟩ := bx q
  obtain ⟨s, q2, q⟩ := mx q
  cases q
  obtain ⟨r, M1, f1, f2, h1, h2, h3, h4, h5, h6, h7⟩ := h e ρ M fp R C0 _ _ q1
  have h5 : r.d = Enc.enc a := h5
  obtain ⟨M2, k1, k2, k3, fp', k4, k5⟩ := stFld_T (t := some a) hq l hi hC nd hl h4 h3 q2 rel_val (fun _ _ z => z) (Enc.nle _ a)
  exact ⟨.nx, ρ, M2, by simp only [sFldS, h1, Option.bind_some, h5, k1], h2.trans (fun j z => h7 j (.inl z)) k2, k3, rfl, fp', k4, fun j z => h7 j (.inl ((k5 j z).elim id False.elim))⟩
theorem s_fldO {C : Str} {ns : List Str} {F : Type} [EnvR F] {i : Nat} {q : Pl E (Ins C ns F)} {fo : Ef} {cs : List Str} {n : Str} [SlotR υ] [Hd υ (LS α)] [HdOk υ (LS α)] (hq : POk q fo) (l : Lens F υ i) [LOk l] (hi : ns[i]? = some n) (hC : C ∈ cs) (nd : ns.Nodup) (hl : ns.length < 1000) {g : E → Option (List α × E)} {f : Ef} (h : EX rO g f) : SP RT (tFldX q l (fun xs => Hd.own ⟨xs⟩) g) (sFldM cs n fo f) := fun e ρ M fp R C0 o q => by
  unfold tFldX at q
  obtain ⟨⟨a, e1⟩, q1, q⟩ := bx q
  obtain ⟨s, q2, q⟩ := mx q
  cases q
  obtain ⟨r, M1, f1, f2, h1, h2, h3, h4, h5, h6, h7⟩ := h e ρ M fp R C0 _ _ q1
  rcases h5 with rfl | ⟨k, rfl, k1, k2⟩
  · have R1 : EnvR.rel e1 ρ (M1 ++ [.lst (a.map Enc.enc)]) f1 := EnvR.frame h4 fun j z => List.getElem?_append_left (EnvR.bnd h4 j z)
    obtain ⟨M2, k1, k2, k3, fp', k4, k5⟩ := stFld_T (t := Hd.own ⟨a⟩) (d := .loc M1.length) (f2 := fun j => j = M1.length) hq l hi hC nd hl R1 (cl_push h3 (show nlO M1.length (.lst (a.map Enc.enc)) = true from nls_enc _ a)) q2 (HdOk.own rfl (ls_rep get_end)) (fun j z y => by have := EnvR.bnd h4 j z; omega) (by rw [nl_loc]; simp)
    refine ⟨.nx, ρ, M2, by simp only [sFldM, h1, Option.bind_some, k1], ?_, k3, rfl, fp', k4, fun j z => ?_⟩
    · refine ⟨by have := h2.1; have := k2.1; simp at this; omega, fun j z y => ?_⟩
      have z1 : j < M1.length := Nat.lt_of_lt_of_le z h2.1
      rw [k2.2 j (by simp; omega) (fun w => (h7 j (.inl w)).elim y fun u => by omega), List.getElem?_append_left z1, h2.2 j z y]
    · rcases k5 j z with z | z
      · exact h7 j (.inl z)
      · exact .inr (by have := h2.1; omega)
  · obtain ⟨M2, k3, k4, k5, fp', k6, k7⟩ := stFld_T (t := Hd.own ⟨a⟩) (d := .loc k) (f2 := fun j => j = k) hq l hi hC nd hl h4 h3 q2 (HdOk.own rfl (ls_rep k1)) (fun j z y => h6 j z (by rw [y]; exact k2)) (by rw [nl_loc]; exact decide_eq_true (lt_of_get k1))
    exact ⟨.nx, ρ, M2, by simp only [sFldM, h1, Option.bind_some, k3], h2.trans (fun j z => h7 j (.inl z)) k4, k5, rfl, fp', k6, fun j z => (k7 j z).elim (fun y => h7 j (.inl y)) fun y => h7 j (.inr (by rw [y]; exact k2))⟩
/-! ### an element of a list at a place -/
/-! ### tests, return -/
omit [EnvR E] in
@[simp] def tRetX (g : E → Option (τ × E)) : E → Option (Fw (τ × E) E) := fun e => (g e).map .rt
theorem s_retX {g : E → Option (τ × E)} {f : Ef} (h : EX RX g f) : SP (rE RX) (tRetX g) (sRet f) := fun e ρ M fp R C o q => by
  unfold tRetX at q
  obtain ⟨⟨a, e1⟩, q1, q⟩ := mx q
  cases q
  obtain ⟨r, M1, f1, f2, h1, h2, h3, h4, h5, h6, h7⟩ := h e ρ M fp R C _ _ q1
  exact ⟨.rt r, ρ, M1, by simp [sRet, h1], h2, h3, r, rfl, ρ, f1, f2, h4, h5, h6, h7⟩
/-! ### a second name of an object -/
omit [EnvR E] in
noncomputable def uni {ι γ : Type} (g : ι → Option γ) : Option γ := open Classical in if h : ∃ o, ∀ k, g k = some o then some h.choose else none
theorem uni_eq {ι γ : Type} [Nonempty ι] {g : ι → Option γ} {o : γ} (h : ∀ k, g k = some o) : uni g = some o := by
  unfold uni
  have hx : ∃ o, ∀ k, g k = some o := ⟨o, h⟩
  rw [dif_pos hx]
  obtain ⟨k⟩ := (inferInstance : Nonempty ι)
  have := hx.choose_spec k
  rw [h k] at this
  exact this.symm
theorem uni_k {ι γ : Type} {g : ι → Option γ} {o : γ} (h : uni g = some o) (k : ι) : g k = some o := by
  unfold uni at h
  split at h
  · rename_i hx; cases h; exact hx.choose_spec k
  · cases h
def bkE {i : Nat} (p : Pl E σ) (ln : Lens E (Oj σ) i) (k : Nat) (e : E) : E := match ln.get e with
  | .at_ k' s => if k' = k ∧ p.hol (ln.set e .no) = some k then p.fill (ln.set e .no) s else e
  | _ => e
def bkF {i : Nat} (p : Pl E σ) (ln : Lens E (Oj σ) i) (k : Nat) : Fw (τ × E) E → Fw (τ × E) E
  | .nx e => .nx (bkE p ln k e)
  | .bk e => .bk (bkE p ln k e)
  | .ct e => .ct (bkE p ln k e)
  | .rt b => .rt (b.1, bkE p ln k b.2)
end
end TL

/-! T13: loops over lists at places, defs with objects -/
namespace TL
open PySem PySem.Spec PyProof.Rows L2 CI
section
variable {E : Type} [EnvR E] {α β γ δ σ τ υ : Type} [Enc α] [Enc γ] [Enc δ] [Rep σ] {RT : RTy β} {RX : RTy τ}
/-! ### a loop over a list that stays as it is -/
theorem for_TG {kl : List Bool} {asg : α → E → Option E} {body : E → Option (Fw β E)} {g : Gf} {f : Sf} {ds0 : List D} {gk : Nat} (hg : GP asg g) (hb : SP RT body f) : ∀ (xs : List α) (e : E) (ρ : Slots) (M : Mem) (fp : Fp), EnvR.rel e ρ M fp → Cl M → M[gk]? = some (.lst ds0) → ¬ fp gk → ∀ o, forT (EnvR.keep kl) asg body xs e = some o →
    ∃ fl ρ' M', loopF (stpK kl (some gk) ds0 g f) (xs.map Enc.enc) ρ M = some (fl, ρ', M') ∧ Frm M fp M' ∧ Cl M' ∧ Out RT M.length fp o fl ρ' M'
  | [], e, ρ, M, fp, R, C, G0, G1, o, q => by
    cases q
    exact ⟨.nx, ρ, M, rfl, .refl, C, rfl, fp, R, fun _ z => .inl z⟩
  | x :: xs, e, ρ, M, fp, R, C, G0, G1, o, q => by
    unfold forT at q
    cases q1 : asg x e with
    | none => rw [q1] at q; cases q
    | some e1 =>
      rw [q1] at q; simp only [Option.bind_some] at q
      obtain ⟨ρ1, f1, k1, k2, k3⟩ := hg x e ρ M fp R e1 q1
      cases q2 : body e1 with
      | none => rw [q2] at q; cases q
      | some o1 =>
        rw [q2] at q; simp only [Option.bind_some] at q
        obtain ⟨fl, ρ2, M2, k4, k5, k6, k7⟩ := hb e1 ρ1 M f1 k2 C o1 q2
        have F2 : Frm M fp M2 := ⟨k5.1, fun j z y => k5.2 j z fun w => y (k3 j w)⟩
        have hgk := lt_of_get G0
        have go : ∀ {e2 : E}, RelQ M.length f1 e2 ρ2 M2 → (fl = .nx ∨ fl = .ct) → forT (EnvR.keep kl) asg body xs (EnvR.keep kl e2) = some o →
            ∃ fl' ρ' M', loopF (stpK kl (some gk) ds0 g f) ((x :: xs).map Enc.enc) ρ M = some (fl', ρ', M') ∧ Frm M fp M' ∧ Cl M' ∧ Out RT M.length fp o fl' ρ' M' := by
          intro e2 r2 hfl hq
          obtain ⟨fp2, r3, r4⟩ := r2
          obtain ⟨M3, t1, t2, t3, ⟨f3, t4, t5⟩, t6⟩ := tidy_T (kl := kl) C k6 F2 r3 fun j z => (r4 j z).elim (fun y => .inl (k3 j y)) .inr
          have G3 : M3[gk]? = some (.lst ds0) := by rw [t3.2 gk hgk G1]; exact G0
          have G4 : ¬ f3 gk := fun z => (t5 gk z).elim G1 fun y => by omega
          obtain ⟨fl', ρ', M', l1, l2, l3, l4⟩ := for_TG (ds0 := ds0) (gk := gk) hg hb xs _ _ M3 f3 t4 t2 G3 G4 o hq
          refine ⟨fl', ρ', M', ?_, t3.trans t5 l2, l3, l4.mono t5 t3.1⟩
          have G5 : (tidy kl M ρ2 M2).2[gk]? = some (.lst ds0) := by rw [t1]; exact G3
          rw [List.map_cons, loopF_cons, stpK_ap, k1, bnd_some, stpK1_ap, k4, bnd_some]
          rcases hfl with rfl | rfl
          · rw [stpOut_nxL G5, t1, bnd_some, loopF1_nx, l1]
          · rw [stpOut_ctL G5, t1, bnd_some, loopF1_ct, l1]
        cases o1 with
        | nx e2 => exact go k7.2 (.inl k7.1) q
        | ct e2 => exact go k7.2 (.inr k7.1) q
        | bk e2 =>
          cases q
          obtain ⟨rfl, fp2, r3, r4⟩ := k7
          refine ⟨.nx, ρ2, M2, ?_, F2, k6, rfl, fp2, r3, fun j z => (r4 j z).elim (fun y => .inl (k3 j y)) .inr⟩
          rw [List.map_cons, loopF_cons, stpK_ap, k1, bnd_some, stpK1_ap, k4, bnd_some, stpOut_bk, bnd_some, loopF1_bk]
        | rt b =>
          cases q
          obtain ⟨r, rfl, r2⟩ := k7
          refine ⟨.rt r, [], M2, ?_, F2, k6, r, rfl, RT.mono (fun j z => z.elim (fun y => .inl (k3 j y)) .inr) r2⟩
          rw [List.map_cons, loopF_cons, stpK_ap, k1, bnd_some, stpK1_ap, k4, bnd_some, stpOut_rt, bnd_some, loopF1_rt]
omit [EnvR E] in
/-- the list that was walked is put back -/
def bkP (p : Pl E σ) (k : Nat) (s : σ) (e : E) : E := if p.hol e = some k then p.fill e s else e
omit [EnvR E] in
def bkG (p : Pl E σ) (k : Nat) (s : σ) : Fw (τ × E) E → Fw (τ × E) E
  | .nx e => .nx (bkP p k s e)
  | .bk e => .bk (bkP p k s e)
  | .ct e => .ct (bkP p k s e)
  | .rt b => .rt (b.1, bkP p k s b.2)
theorem bkP_rel {p : Pl E σ} {f : Ef} (hp : POk p f) {k : Nat} {s : σ} {e : E} {ρ : Slots} {M : Mem} {fp f1 : Fp} (R : EnvR.rel e ρ M fp) (h : Rep.rep M k s f1) (hd : ∀ j, f1 j → ¬ fp j) : ∃ f', EnvR.rel (bkP p k s e) ρ M f' ∧ ∀ j, f' j → fp j ∨ f1 j := by
  unfold bkP
  split
  · rename_i hh
    exact hp.fill R hh h hd
  · exact ⟨fp, R, fun _ z => .inl z⟩
noncomputable def tForP (p : Pl E (LS α)) (kp : E → E) (asg : α → E → Option E) (body : E → Option (Fw (τ × E) E)) : E → Option (Fw (τ × E) E) := fun e => (p.get e).bind fun s => uni fun k => (forT kp asg body s.l (kp (p.cut k e))).map (bkG p k s)
theorem s_forP {p : Pl E (LS α)} {fo : Ef} (hp : POk p fo) {kp : E → E} {kl : List Bool} {asg : α → E → Option E} {body : E → Option (Fw (τ × E) E)} {g : Gf} {f : Sf} (hg : GP asg g) (hb : SP (rE RX) body f) [KOk kl kp] : SP (rE RX) (tForP p kp asg body) (sForK kl (iSeq fo) g f) := fun e ρ M fp R C o q => by
  have ek : kp = EnvR.keep kl := funext fun e => (KOk.eq (kl := kl) e).symm
  subst ek
  unfold tForP at q
  obtain ⟨s, q1, q⟩ := bx q
  obtain ⟨k, f1, k1, k2, k3, _, f0, k4, k5⟩ := hp.get R q1
  obtain ⟨o', q2, q⟩ := mx (uni_k q k)
  subst q
  obtain ⟨m1, m2⟩ := ls_get k2
  have fk : f1 k := (m2 k).mpr rfl
  obtain ⟨f2, n1, n2⟩ := EnvR.keep_rel kl k4
  obtain ⟨fl, ρ', M', l1, l2, l3, l4⟩ := for_TG (ds0 := s.l.map Enc.enc) (gk := k) hg hb s.l _ _ M f2 n1 C m1 (fun z => (k5 k (n2 k z)).2 fk) o' q2
  have nk : ¬ f2 k := fun z => (k5 k (n2 k z)).2 fk
  have hk := lt_of_get m1
  have sub : ∀ j, f2 j → fp j := fun j z => (k5 j (n2 j z)).1
  have mk : M'[k]? = some (.lst (s.l.map Enc.enc)) := by rw [l2.2 k hk nk]; exact m1
  have rk : Rep.rep M' k s fun j => j = k := ls_rep mk
  refine ⟨fl, ρ', M', ?_, ⟨l2.1, fun j z y => l2.2 j z fun w => y (sub j w)⟩, l3, ?_⟩
  · unfold sForK iSeq
    rw [k1]
    simp only [Option.bind_some, Rz_d_val]
    rw [asS_loc m1]
    simp only [Option.bind_some, gkOf_loc]
    exact l1
  · have key : ∀ {e' : E} {ρ' : Slots} {fe : Fp}, EnvR.rel e' ρ' M' fe → (∀ j, fe j → f2 j ∨ M.length ≤ j) → ∃ f', EnvR.rel (bkP p k s e') ρ' M' f' ∧ (∀ j, f' j → fe j ∨ j = k) ∧ ∀ j, f' j → fp j ∨ M.length ≤ j := fun r h => by
      obtain ⟨f', a1, a2⟩ := bkP_rel (f1 := fun j => j = k) hp r rk (fun j z y => by
        rcases h j y with w | w
        · exact nk (by rw [← z]; exact w)
        · omega)
      exact ⟨f', a1, a2, fun j z => (a2 j z).elim (fun y => (h j y).imp (sub j) id) fun y => .inl (by rw [y]; exact k3 k fk)⟩
    cases o' with
    | nx e' =>
      obtain ⟨h1, fe, h2, h3⟩ := l4
      obtain ⟨f', a1, _, a2⟩ := key h2 h3
      exact ⟨h1, f', a1, a2⟩
    | bk e' =>
      obtain ⟨h1, fe, h2, h3⟩ := l4
      obtain ⟨f', a1, _, a2⟩ := key h2 h3
      exact ⟨h1, f', a1, a2⟩
    | ct e' =>
      obtain ⟨h1, fe, h2, h3⟩ := l4
      obtain ⟨f', a1, _, a2⟩ := key h2 h3
      exact ⟨h1, f', a1, a2⟩
    | rt b =>
      obtain ⟨r, h1, ρ'', g1, g2, h2, h3, h4, h5⟩ := l4
      obtain ⟨f', a1, a2, a3⟩ := key h2 (fun j z => h5 j (.inl z))
      refine ⟨r, h1, ρ'', f', g2, a1, h3, fun j z y => ?_, fun j z => ?_⟩
      · rcases a2 j z with w | w
        · exact h4 j w y
        · rcases h5 j (.inr y) with v | v
          · exact nk (by rw [← w]; exact v)
          · omega
      · rcases z with z | z
        · exact a3 j z
        · exact (h5 j (.inr z)).imp (sub j) id
end
/-! ### defs -/
class ArgSt (A : Type) (S : outParam Type) [ArgO A S] : Prop where
  stf : ∀ {s : S} {ds M M' fs}, ArgO.st A s ds M fs → (∀ j, fs j → M'[j]? = M[j]?) → ArgO.st A s ds M' fs
  stt : ∀ {s : S} {ds M fs} {n : Nat}, ArgO.st A s ds M fs → (∀ d ∈ ds, nl n d = true) → (∀ (j : Nat) (o : O), j < n → M[j]? = some o → nlO n o = true) → ∀ j, fs j → j < n
  nle : ∀ {a : A} {ds M fa}, ArgO.arg a ds M fa → ∀ d ∈ ds, nl M.length d = true
instance : ArgSt Unit Unit := ⟨fun h _ => h, fun h _ _ j z => absurd z (h.2 j), fun h d z => by rw [h.1] at z; cases z⟩
section
variable {α σ A S : Type} [Enc α] [Rep σ] [ArgO A S]
instance [ArgSt A S] : ArgSt (α × A) S := ⟨fun ⟨d, ds', h1, h2⟩ hf => ⟨d, ds', h1, ArgSt.stf h2 hf⟩, fun ⟨d, ds', h1, h2⟩ hd hM => ArgSt.stt h2 (fun x z => hd x (by rw [h1]; exact List.mem_cons_of_mem _ z)) hM,
  fun ⟨ds', h1, h2⟩ d z => by
    rw [h1] at z
    rcases List.mem_cons.mp z with z | z
    · rw [z]; exact Enc.nle _ _
    · exact ArgSt.nle h2 d z⟩
instance [ArgSt A S] : ArgSt (Wo σ × A) (σ × S) := ⟨fun ⟨k, ds', f1, f2, h1, h2, h3, h4, h5⟩ hf => ⟨k, ds', f1, f2, h1, Rep.frame h2 fun j z => hf j ((h5 j).mpr (.inl z)), ArgSt.stf h3 fun j z => hf j ((h5 j).mpr (.inr z)), h4, h5⟩,
  fun ⟨k, ds', f1, f2, h1, h2, h3, h4, h5⟩ hd hM j z => by
    rcases (h5 j).mp z with y | y
    · have := hd (.loc k) (by rw [h1]; exact List.mem_cons_self)
      rw [nl_loc] at this
      exact Rep.trim h2 (of_decide_eq_true this) hM j y
    · exact ArgSt.stt h3 (fun x z => hd x (by rw [h1]; exact List.mem_cons_of_mem _ z)) hM j y,
  fun ⟨k, ds', f1, f2, h1, h2, h3, h4, h5⟩ d z => by
    rw [h1] at z
    rcases List.mem_cons.mp z with z | z
    · rw [z, nl_loc]; exact decide_eq_true (Rep.bnd h2 k (Rep.self h2))
    · exact ArgSt.nle h3 d z⟩
end
class NLs (σ : Type) [Rep σ] : Prop where
  no : ∀ {M k fp ds} {s : σ}, Rep.rep M k s fp → M[k]? ≠ some (.lst ds)
instance {C : Str} {ns : List Str} {F : Type} [EnvR F] : NLs (Ins C ns F) := ⟨fun h q => by
  obtain ⟨fs, f', h1, _⟩ := ins_get h
  rw [h1] at q; cases q⟩
/-- what is handed back stays so when what was made on the way is dropped -/
def FinR {τ : Type} (RX : RTy τ) : Prop := ∀ {M Me : Mem} {b : τ} {r : Rz} {f2 : Fp}, Cl M → RX.R b r Me f2 → ∃ r' M' f2', finK M r Me = (r', M') ∧ (M' = Me ∨ (trimOk M Me ∧ M' = Me.take M.length)) ∧ RX.R b r' M' f2' ∧ ∀ j, f2' j → f2 j
theorem fr_V {α : Type} [Enc α] : FinR (rV (α := α)) := fun {M Me b r f2} C h => by
  have h : r.d = Enc.enc b := h
  have n := Enc.nle M.length b
  have n0 := Enc.nle 0 b
  rw [← h] at n n0
  by_cases t : trimOk M Me
  · cases r with
    | val d => exact ⟨_, _, f2, finK_val t n, .inr ⟨t, rfl⟩, h, fun _ z => z⟩
    | new ds => exact ⟨_, _, f2, finK_new t (by simpa using n), .inr ⟨t, rfl⟩, h, fun _ z => z⟩
  · exact ⟨r, Me, f2, by unfold finK; rw [if_neg t], .inl rfl, h, fun _ z => z⟩
section
variable {E : Type} [EnvR E] {τ : Type} {RX : RTy τ} {A S : Type} [ArgO A S]
abbrev Gh := Nat → Nat
omit [EnvR E] in
def fnXE (fin : E → Option S) (nx : Option τ) : Fw (τ × E) E → Option (τ × S)
  | .rt b => (fin b.2).map fun s => (b.1, s)
  | .nx e => nx.bind fun b => (fin e).map fun s => (b, s)
  | _ => none
omit [EnvR E] [ArgO A S] in
noncomputable def fnX (init : Gh → A → E) (fin : Gh → E → Option S) (nx : Option τ) (body : E → Option (Fw (τ × E) E)) : A → Option (τ × S) := fun a => uni fun κ => (body (init κ a)).bind (fnXE (fin κ) nx)
def KOf (κ : Gh) (i : Nat) (ds : List D) : Prop := ∀ j k, ds[j]? = some (.loc k) → κ (i + j) = k
def IniP (ini : Gh → A → E) (i np m : Nat) : Prop := ∀ κ (a : A) ds M fa, ArgO.arg a ds M fa → KOf κ i ds → ds.length = np ∧ EnvR.rel (ini κ a) (ds.map some ++ List.replicate m none) M fa
def FinP (A : Type) [ArgO A S] (fin : Gh → E → Option S) (i : Nat) : Prop := ∀ κ e ρ M fp (a : A) ds M0 fa s, ArgO.arg a ds M0 fa → KOf κ i ds → fin κ e = some s → EnvR.rel e ρ M fp → ∃ fs, ArgO.st A s ds M fs ∧ ∀ j, fs j → fp j
theorem fn_X [ArgOk A S] [ArgSt A S] {init : Gh → A → E} {fin : Gh → E → Option S} {nx : Option τ} {np m : Nat} {body : E → Option (Fw (τ × E) E)} {f : Sf} (hi : IniP init 0 np m) (hf : FinP A fin 0) (hb : SP (rE RX) body f) (hn : ∀ b, nx = some b → ∀ M fp, RX.R b (.val .non) M fp) (hr : FinR RX) :
    FnX RX (mkFnK np (np + m) f) (fnX init fin nx body) := fun a b s q M ds fa ha C => by
  unfold fnX at q
  let κ : Gh := fun j => match ds[j]? with
    | some (.loc k) => k
    | _ => 0
  have hκ : KOf κ 0 ds := fun j k z => by show (match ds[0 + j]? with | some (.loc k) => k | _ => 0) = k; rw [Nat.zero_add, z]
  have q := uni_k q κ
  obtain ⟨o, q1, q⟩ := bx q
  obtain ⟨hl, R⟩ := hi κ a ds M fa ha hκ
  obtain ⟨fl, ρ', M', k1, k2, k3, k4⟩ := hb _ _ M fa R C o q1
  have em : np + m - ds.length = m := by omega
  have out : ∀ {r : Rz} {e : E} {ρ'' : Slots} {f1 f2 : Fp}, EnvR.rel e ρ'' M' f1 → RX.R b r M' f2 → (∀ j, f1 j → ¬ f2 j) → (∀ j, f1 j ∨ f2 j → fa j ∨ M.length ≤ j) → fin κ e = some s →
      ∃ r' M2 g1 g2, finK M r M' = (r', M2) ∧ Frm M fa M2 ∧ Cl M2 ∧ ArgO.st A s ds M2 g1 ∧ RX.R b r' M2 g2 ∧ (∀ j, g1 j → ¬ g2 j) ∧ ∀ j, g1 j ∨ g2 j → fa j ∨ M.length ≤ j := by
    intro r e ρ'' f1 f2 R1 R2 hd hs hfin
    obtain ⟨g1, l1, l2⟩ := hf κ e ρ'' M' f1 a ds M fa s ha hκ hfin R1
    obtain ⟨r', M2, g2, l3, l4, l5, l6⟩ := hr C R2
    refine ⟨r', M2, g1, g2, l3, ?_⟩
    have tail : (∀ j, g1 j → ¬ g2 j) ∧ ∀ j, g1 j ∨ g2 j → fa j ∨ M.length ≤ j := ⟨fun j z y => hd j (l2 j z) (l6 j y), fun j z => hs j (z.imp (l2 j) (l6 j))⟩
    rcases l4 with rfl | ⟨t, rfl⟩
    · exact ⟨k2, k3, l1, l5, tail.1, tail.2⟩
    · have tr := ArgSt.stt l1 (ArgSt.nle ha) fun j o z q => by
        rcases t.2 j o z q with y | y
        · exact C j o y
        · exact y
      refine ⟨⟨by rw [List.length_take]; have := k2.1; omega, fun j z y => ?_⟩, fun j o q => ?_, ArgSt.stf l1 fun j z => List.getElem?_take_of_lt (tr j z), l5, tail.1, tail.2⟩
      · rw [List.getElem?_take_of_lt z]; exact k2.2 j z y
      · have hj := lt_of_get q
        rw [List.length_take] at hj ⊢
        have e1 : min M.length M'.length = M.length := Nat.min_eq_left k2.1
        rw [e1] at hj ⊢
        rw [List.getElem?_take_of_lt hj] at q
        rcases t.2 j o hj q with z | z
        · exact C j o z
        · exact z
  cases o with
  | rt b' =>
    obtain ⟨s', q2, q⟩ := mx q
    cases q
    obtain ⟨r, rfl, ρ'', f1, f2, h1, h2, h3, h4⟩ := k4
    obtain ⟨r', M2, g1, g2, m1, m2⟩ := out h1 h2 h3 h4 q2
    exact ⟨r', M2, g1, g2, by rw [knOut, if_pos hl, em, k1]; simp only [m1], m2⟩
  | nx e' =>
    obtain ⟨b', q2, q⟩ := bx q
    obtain ⟨s', q3, q⟩ := mx q
    cases q
    obtain ⟨rfl, f1, h1, h2⟩ := k4
    obtain ⟨r', M2, g1, g2, m1, m2⟩ := out (r := .val .non) (f2 := fun _ => False) h1 (hn _ q2 _ _) (fun _ _ z => z) (fun j z => z.elim (h2 j) False.elim) q3
    exact ⟨r', M2, g1, g2, by rw [knOut, if_pos hl, em, k1]; simp only [m1], m2⟩
  | bk e' => cases q
  | ct e' => cases q
end
/-- a def without objects among its arguments: as if it had no effects -/
class ArgV (A : Type) [Args A] [ArgO A Unit] : Prop where
  v : ∀ (a : A) M, ArgO.arg a (Args.encs a) M fun _ => False
instance : ArgV Unit := ⟨fun _ _ => ⟨rfl, fun _ z => z⟩⟩
instance {α A : Type} [Enc α] [Args A] [ArgO A Unit] [ArgV A] : ArgV (α × A) := ⟨fun a M => ⟨_, rfl, ArgV.v a.2 M⟩⟩
section
variable {E : Type} [EnvR E] {A : Type} [Args A] [ArgO A Unit] [ArgV A]
theorem fnX_run {τ : Type} {RX : RTy τ} {init : Gh → A → E} {nx : Option τ} {np m : Nat} {body : E → Option (Fw (τ × E) E)} {f : Sf} (hi : IniP init 0 np m) (hb : SP (rE RX) body f) (hn : ∀ b, nx = some b → ∀ M fp, RX.R b (.val .non) M fp) {a : A} {b : τ} (q : (fnX init (fun _ _ => some ()) nx body a) = some (b, ())) {M : Mem} (C : Cl M) :
    ∃ r M' f2, mkFnK np (np + m) f (Args.encs a) M = some (finK M r M') ∧ Frm M (fun _ => False) M' ∧ RX.R b r M' f2 ∧ ∀ j, f2 j → M.length ≤ j := by
  unfold fnX at q
  let κ : Gh := fun j => match (Args.encs a)[j]? with
    | some (.loc k) => k
    | _ => 0
  have hκ : KOf κ 0 (Args.encs a) := fun j k z => by show (match (Args.encs a)[0 + j]? with | some (.loc k) => k | _ => 0) = k; rw [Nat.zero_add, z]
  have q := uni_k q κ
  obtain ⟨o, q1, q⟩ := bx q
  obtain ⟨hl, R⟩ := hi κ a (Args.encs a) M _ (ArgV.v a M) hκ
  obtain ⟨fl, ρ', M', k1, k2, k3, k4⟩ := hb _ _ M _ R C o q1
  have em : np + m - (Args.encs a).length = m := by omega
  cases o with
  | rt b' =>
    have q : ((some () : Option Unit).map fun s => (b'.1, s)) = some (b, ()) := q
    cases q
    obtain ⟨r, rfl, ρ'', f1, f2, h1, h2, h3, h4⟩ := k4
    exact ⟨r, M', f2, by rw [knOut, if_pos hl, em, k1], k2, h2, fun j z => (h4 j (.inr z)).elim False.elim id⟩
  | nx e' =>
    obtain ⟨b', q2, q⟩ := bx q
    have q : ((some () : Option Unit).map fun s => (b', s)) = some (b, ()) := q
    cases q
    obtain ⟨rfl, f1, h1, h2⟩ := k4
    exact ⟨.val .non, M', fun _ => False, by rw [knOut, if_pos hl, em, k1], k2, hn _ q2 _ _, fun _ z => z.elim⟩
  | bk e' => cases q
  | ct e' => cases q
noncomputable def fnXT {τ : Type} (init : Gh → A → E) (nx : Option τ) (body : E → Option (Fw (τ × E) E)) : A → Option τ := fun a => (fnX init (fun _ _ => some ()) nx body a).map (·.1)
theorem fn_XT {τ : Type} [Enc τ] {init : Gh → A → E} {nx : Option τ} {np m : Nat} {body : E → Option (Fw (τ × E) E)} {f : Sf} (hi : IniP init 0 np m) (hb : SP (rE rV) body f) (hn : ∀ b, nx = some b → Enc.enc b = .non) : FnT (mkFnK np (np + m) f) (fnXT init nx body) := fun a b q M C => by
  obtain ⟨⟨b', u⟩, q1, q⟩ := mx q
  cases q
  obtain ⟨r, M', f2, h1, h2, h3, h4⟩ := fnX_run (RX := rV) hi hb (fun b z M fp => (hn b z).symm) q1 C
  have h3 : r.d = Enc.enc b' := h3
  obtain ⟨G, rfl⟩ := frm_app h2
  have n := Enc.nle M.length b'
  rw [← h3] at n
  cases r with
  | val d =>
    have e : finK M (.val d) (M ++ G) = (.val d, M) := finK_appV n
    exact ⟨.val d, by rw [h1, e], h3⟩
  | new ds =>
    have e : finK M (.new ds) (M ++ G) = (.new ds, M) := finK_appN (by simpa using n)
    exact ⟨.new ds, by rw [h1, e], h3⟩
end
/-! ### beginnings and ends -/
section
variable {E : Type} [EnvR E] {α σ A S : Type} [Enc α] [Rep σ] [ArgO A S]
theorem ini_u {e0 : E} {i m : Nat} (h : ∀ M, EnvR.rel e0 (List.replicate m none) M fun _ => False) : IniP (A := Unit) (fun _ _ => e0) i 0 m := fun κ a ds M fa ha _ => by
  obtain ⟨rfl, h1⟩ := ha
  have : fa = fun _ => False := funext fun j => propext ⟨h1 j, False.elim⟩
  subst this
  exact ⟨rfl, h M⟩
theorem ko_tl {κ : Gh} {i : Nat} {d : D} {ds : List D} (h : KOf κ i (d :: ds)) : KOf κ (i + 1) ds := fun j k z => by
  have := h (j + 1) k (by simpa using z)
  rw [← this]; congr 1; omega
theorem ini_v {ini : Gh → A → E} {i np m : Nat} (h : IniP ini (i + 1) np m) : IniP (A := α × A) (E := Option α × E) (fun κ a => (some a.1, ini κ a.2)) i (np + 1) m := fun κ a ds M fa ha hk => by
  obtain ⟨ds', rfl, h2⟩ := ha
  obtain ⟨h3, h4⟩ := h κ a.2 ds' M fa h2 (ko_tl hk)
  exact ⟨by simp [h3], _, _, fun _ => False, fa, rfl, rel_val, h4, fun _ z => z.elim, fun j => ⟨.inr, fun z => z.elim False.elim id⟩⟩
theorem ini_o {ini : Gh → A → E} {i np m : Nat} (h : IniP ini (i + 1) np m) : IniP (A := Wo σ × A) (E := Oj σ × E) (fun κ a => (.at_ (κ i) a.1.s, ini κ a.2)) i (np + 1) m := fun κ a ds M fa ha hk => by
  obtain ⟨k, ds', f1, f2, rfl, h1, h2, h3, h4⟩ := ha
  obtain ⟨h5, h6⟩ := h κ a.2 ds' M f2 h2 (ko_tl hk)
  have e : κ i = k := hk 0 k rfl
  exact ⟨by simp [h5], _, _, f1, f2, rfl, by show SlotR.rel (Oj.at_ (κ i) a.1.s) _ _ _; rw [e]; exact at_rel h1, h6, h3, h4⟩
omit [EnvR E] [Rep σ] [ArgO A S] in
def finO (k : Nat) (o : Oj σ) (c : Option S) : Option (σ × S) := match o with
  | .at_ k' s => if k' = k then c.map fun r => (s, r) else none
  | _ => none
theorem fin_u {i : Nat} : FinP Unit (E := E) (fun _ _ => some ()) i := fun κ e ρ M fp a ds M0 fa s ha _ q R => ⟨fun _ => False, ⟨ha.1, fun _ z => z⟩, fun _ z => z.elim⟩
theorem fin_v {fin : Gh → E → Option S} {τ : Type} [SlotR τ] {i : Nat} (h : FinP A fin (i + 1)) : FinP (α × A) (E := τ × E) (fun κ e => fin κ e.2) i := fun κ e ρ M fp a ds M0 fa s ha hk q R => by
  obtain ⟨ds', rfl, h2⟩ := ha
  obtain ⟨d, ρ', f1, f2, rfl, r1, r2, r3, r4⟩ := R
  obtain ⟨fs, h3, h4⟩ := h κ e.2 ρ' M f2 a.2 ds' M0 fa s h2 (ko_tl hk) q r2
  exact ⟨fs, ⟨_, ds', rfl, h3⟩, fun j z => (r4 j).mpr (.inr (h4 j z))⟩
theorem fin_o {fin : Gh → E → Option S} {i : Nat} (h : FinP A fin (i + 1)) : FinP (Wo σ × A) (E := Oj σ × E) (fun κ e => finO (κ i) e.1 (fin κ e.2)) i := fun κ e ρ M fp a ds M0 fa s ha hk q R => by
  obtain ⟨k, ds', g1, g2, rfl, h1, h2, h3, h4⟩ := ha
  obtain ⟨d, ρ', f1, f2, rfl, r1, r2, r3, r4⟩ := R
  have q : finO (κ i) e.1 (fin κ e.2) = some s := q
  unfold finO at q
  split at q
  · rename_i k' s' he
    split at q
    · rename_i hk'
      obtain ⟨s2, q1, q⟩ := mx q
      cases q
      rw [he] at r1
      have r1 : d = some (.loc k') ∧ Rep.rep M k' s' f1 := r1
      obtain ⟨fs, h5, h6⟩ := h κ e.2 ρ' M f2 a.2 ds' M0 g2 s2 h2 (ko_tl hk) q1 r2
      have ek : k' = k := by rw [hk']; exact hk 0 k rfl
      subst ek
      exact ⟨fun j => f1 j ∨ fs j, ⟨k', ds', f1, fs, rfl, r1.2, h5, fun j z y => r3 j z (h6 j y), fun _ => Iff.rfl⟩, fun j z => (r4 j).mpr (z.imp id (h6 j))⟩
    · cases q
  · cases q
end
/-! ### reckoning -/
section
variable {E τ σ S : Type}
@[simp] theorem fnXE_rt {fin : E → Option S} {nx : Option τ} {b : τ × E} : fnXE fin nx (.rt b) = (fin b.2).map fun s => (b.1, s) := rfl
@[simp] theorem fnXE_nx {fin : E → Option S} {nx : Option τ} {e : E} : fnXE fin nx (.nx e) = nx.bind fun b => (fin e).map fun s => (b, s) := rfl
@[simp] theorem finO_at {k : Nat} {s : σ} {c : Option S} : finO k (.at_ k s) c = c.map fun r => (s, r) := by unfold finO; simp
theorem fnXT_eq {A : Type} {init : Gh → A → E} {nx : Option τ} {body : E → Option (Fw (τ × E) E)} {a : A} {r : τ} (h : ∀ κ, (body (init κ a)).bind (fnXE (fun _ => some ()) nx) = some (r, ())) : fnXT init nx body a = some r := by
  unfold fnXT
  rw [show fnX init (fun _ _ => some ()) nx body a = some (r, ()) from uni_eq h]; rfl
theorem fnX_eq {A : Type} {init : Gh → A → E} {fin : Gh → E → Option S} {nx : Option τ} {body : E → Option (Fw (τ × E) E)} {a : A} {r : τ × S} (h : ∀ κ, (body (init κ a)).bind (fnXE (fin κ) nx) = some r) : fnX init fin nx body a = some r := uni_eq h
end
end TL

/-! T14: small matters -/
namespace TL
open PySem PySem.Spec PyProof.Rows L2 CI
section
variable {E : Type} [EnvR E] {α β γ : Type} [Enc α] [Enc β] [Enc γ]
end
end TL

/-! T15: least and greatest, ranges with a step, dicts with written text keys -/
namespace TL
open PySem PySem.Spec PyProof.Rows L2 CI
section
variable {E : Type} [EnvR E] {α β γ : Type} [Enc α] [Enc β] [Enc γ]
/-! ### dicts with written text keys -/
structure Rc (ks : List Str) (A : Type) where
  a : A
def rcKV (ks : List Str) (ds : List D) : List (Key × D) := List.zipWith (fun k d => (Sum.inr k, d)) ks ds
instance {ks : List Str} {A : Type} [Args A] : Rep (Rc ks A) where
  rep M k s fp := M[k]? = some (.dct (rcKV ks (Args.encs s.a))) ∧ ∀ j, fp j ↔ j = k
  frame h hf := ⟨by rw [hf _ ((h.2 _).mpr rfl)]; exact h.1, h.2⟩
  bnd h j hj := by rw [(h.2 j).mp hj]; exact lt_of_get h.1
  self h := (h.2 _).mpr rfl
  trim h hk _ j hj := by rw [(h.2 j).mp hj]; exact hk
theorem rc_get {ks : List Str} {A : Type} [Args A] {M : Mem} {k : Nat} {s : Rc ks A} {fp : Fp} (h : Rep.rep M k s fp) : M[k]? = some (.dct (rcKV ks (Args.encs s.a))) ∧ ∀ j, fp j ↔ j = k := h
instance {ks : List Str} {A : Type} [Args A] : NLs (Rc ks A) := ⟨fun h q => by
  have := (rc_get h).1
  rw [this] at q; cases q⟩
class ArgsNl (A : Type) [Args A] : Prop where
  nl : ∀ n (a : A), nls n (Args.encs a) = true
instance : ArgsNl Unit := ⟨fun _ _ => rfl⟩
instance {A : Type} [Args A] [ArgsNl A] : ArgsNl (α × A) := ⟨fun n a => by
  show nls n (Enc.enc a.1 :: Args.encs a.2) = true
  rw [nls_cons, Enc.nle, ArgsNl.nl]; rfl⟩
end
end TL
namespace TL
open PySem PySem.Spec PyProof.Rows L2 CI
end TL

/-! T16: reckoning with places -/
namespace TL
open PySem PySem.Spec PyProof.Rows L2 CI
section
variable {E : Type} {σ τ : Type} [Rep σ]
@[simp] theorem hd_getO {t : Oj σ} : Hd.get t = t.get := rfl
@[simp] theorem hd_clrO {t : Oj σ} : Hd.clr t = t.clr := rfl
@[simp] theorem hd_putO {t : Oj σ} {s : σ} : Hd.put t s = t.put s := rfl
@[simp] theorem hd_cutO {t : Oj σ} {k : Nat} : Hd.cut k t = (.hole k : Oj σ) := rfl
@[simp] theorem hd_holO {t : Oj σ} : Hd.hol t = t.hol := rfl
@[simp] theorem hd_ownO {s : σ} : (Hd.own s : Oj σ) = .own s := rfl
@[simp] theorem hd_getB {t : Ob σ} : Hd.get t = t.v := rfl
@[simp] theorem hd_clrB {t : Ob σ} : Hd.clr t = (⟨none⟩ : Ob σ) := rfl
@[simp] theorem hd_putB {t : Ob σ} {s : σ} : Hd.put t s = (⟨some s⟩ : Ob σ) := rfl
@[simp] theorem hd_ownB {s : σ} : (Hd.own s : Ob σ) = ⟨some s⟩ := rfl
end
section
variable {E σ τ F : Type} [Hd τ σ] {i : Nat} {C : Str} {ns : List Str}
@[simp] theorem pv_get {ln : Lens E τ i} {e : E} : (pVar ln).get e = Hd.get (ln.get e) := rfl
@[simp] theorem pv_clr {ln : Lens E τ i} {e : E} : (pVar ln).clr e = ln.set e (Hd.clr (ln.get e)) := rfl
@[simp] theorem pv_put {ln : Lens E τ i} {e : E} {s : σ} : (pVar ln).put e s = ln.set e (Hd.put (ln.get e) s) := rfl
@[simp] theorem pv_pre {ln : Lens E τ i} {e : E} : (pVar ln).pre e = true := rfl
@[simp] theorem pv_cut {ln : Lens E τ i} {e : E} {k : Nat} : (pVar ln).cut k e = ln.set e (Hd.cut k (ln.get e)) := rfl
@[simp] theorem pv_hol {ln : Lens E τ i} {e : E} : (pVar ln).hol e = Hd.hol (ln.get e) := rfl
@[simp] theorem pv_fill {ln : Lens E τ i} {e : E} {s : σ} : (pVar ln).fill e s = ln.set e (Hd.own s) := rfl
@[simp] theorem pf_get {q : Pl E (Ins C ns F)} {l : Lens F τ i} {e : E} : (pFld q l).get e = (q.get e).bind fun s => Hd.get (l.get s.e) := rfl
@[simp] theorem pf_pre {q : Pl E (Ins C ns F)} {l : Lens F τ i} {e : E} : (pFld q l).pre e = (q.get e).isSome := rfl
@[simp] theorem pf_hol {q : Pl E (Ins C ns F)} {l : Lens F τ i} {e : E} : (pFld q l).hol e = (q.get e).bind fun s => Hd.hol (l.get s.e) := rfl
@[simp] theorem pf_clr {q : Pl E (Ins C ns F)} {l : Lens F τ i} {e : E} : (pFld q l).clr e = (q.get e).elim e (fun s => q.put (q.clr e) ⟨l.set s.e (Hd.clr (l.get s.e))⟩) := rfl
@[simp] theorem pf_put {q : Pl E (Ins C ns F)} {l : Lens F τ i} {e : E} {v : σ} : (pFld q l).put e v = (q.get e).elim e (fun s => q.put (q.clr e) ⟨l.set s.e (Hd.put (l.get s.e) v)⟩) := rfl
@[simp] theorem pf_cut {q : Pl E (Ins C ns F)} {l : Lens F τ i} {e : E} {k : Nat} : (pFld q l).cut k e = (q.get e).elim e (fun s => q.put (q.clr e) ⟨l.set s.e (Hd.cut k (l.get s.e))⟩) := rfl
@[simp] theorem pf_fill {q : Pl E (Ins C ns F)} {l : Lens F τ i} {e : E} {v : σ} : (pFld q l).fill e v = (q.get e).elim e (fun s => q.put (q.clr e) ⟨l.set s.e (Hd.own v)⟩) := rfl
end
section
variable {E τ β : Type} {i : Nat} {σ : Type}
@[simp] theorem bkF_nx {p : Pl E σ} {ln : Lens E (Oj σ) i} {k : Nat} {e : E} : bkF (τ := τ) p ln k (.nx e) = .nx (bkE p ln k e) := rfl
@[simp] theorem bkF_rt {p : Pl E σ} {ln : Lens E (Oj σ) i} {k : Nat} {b : τ × E} : bkF p ln k (.rt b) = .rt (b.1, bkE p ln k b.2) := rfl
theorem tForP_eq {α : Type} {p : Pl E (LS α)} {kp : E → E} {asg : α → E → Option E} {body : E → Option (Fw (τ × E) E)} {e : E} {s : LS α} {o : Fw (τ × E) E} (h : p.get e = some s) (hg : ∀ k, ∃ o', forT kp asg body s.l (kp (p.cut k e)) = some o' ∧ bkG p k s o' = o) : tForP p kp asg body e = some o := by
  unfold tForP
  rw [h]
  exact uni_eq fun k => by obtain ⟨o', h1, h2⟩ := hg k; rw [h1]; simp [h2]
@[simp] theorem bkG_nx {p : Pl E σ} {k : Nat} {s : σ} {e : E} : bkG (τ := τ) p k s (.nx e) = .nx (bkP p k s e) := rfl
@[simp] theorem bkG_rt {p : Pl E σ} {k : Nat} {s : σ} {b : τ × E} : bkG p k s (.rt b) = .rt (b.1, bkP p k s b.2) := rfl
end
end TL
namespace TL
section
variable {E τ : Type} [EnvR E] [SlotR τ] {i : Nat}
@[simp] theorem lens_gs {ln : Lens E τ i} [LOk ln] {e : E} {t : τ} : ln.get (ln.set e t) = t := LOk.gs e t
@[simp] theorem lens_ss {ln : Lens E τ i} [LOk ln] {e : E} {t t' : τ} : ln.set (ln.set e t) t' = ln.set e t' := LOk.ss e t t'
end
end TL

/-! T17: in of a tuple of tuples -/
namespace TL
open PySem PySem.Spec PyProof.Rows L2 CI
section
variable {α : Type} [DecidableEq α] [Enc α] [EncEq α]
theorem any_mem (x : α) : ∀ xs : List α, ((xs.map Enc.enc).any fun e => deq e (Enc.enc x)) = decide (x ∈ xs)
  | [] => by simp
  | y :: ys => by
    rw [List.map_cons, List.any_cons, any_mem x ys, EncEq.dq]
    by_cases h : y = x
    · subst h; simp
    · have h2 : ¬ x = y := fun z => h z.symm
      simp [h, h2]
end
end TL

/-! T18: three comparisons in a chain -/
namespace TL
open PySem PySem.Spec PyProof.Rows L2 CI
section
variable {E : Type} [EnvR E] {α β γ δ : Type} [Enc α] [Enc β] [Enc γ] [Enc δ]
end
end TL

/-! T19: a loop over the list that an effect gives -/
namespace TL
open PySem PySem.Spec PyProof.Rows L2 CI
section
variable {E : Type} [EnvR E] {α β : Type} [Enc α] {RT : RTy β}
end
end TL

/-! T20: == of records -/
namespace TL
open PySem PySem.Spec PyProof.Rows L2 CI
section
variable {E : Type} [EnvR E] {α β σ τ : Type} [Enc α] [Rep σ]
/-- an object, its own or within the environment -/
def EJ (g : E → Option (σ × E)) (f : Ef) : Prop := ∀ e ρ M fp, EnvR.rel e ρ M fp → Cl M → ∀ v e', g e = some (v, e') → ∃ k M' f1 f2, f ρ M = some (.val (.loc k), M') ∧ Frm M fp M' ∧ Cl M' ∧ EnvR.rel e' ρ M' f1 ∧ Rep.rep M' k v f2 ∧ ∀ j, f1 j → fp j ∨ M.length ≤ j
theorem EX.ej {g : E → Option (σ × E)} {f : Ef} (h : EX rJ g f) : EJ g f := fun e ρ M fp R C v e' q => by
  obtain ⟨r, M1, f1, f2, h1, h2, h3, h4, ⟨kk, f', rfl, k1, k2⟩, h6, h7⟩ := h e ρ M fp R C _ _ q
  exact ⟨kk, M1, f1, f', h1, h2, h3, h4, k1, fun j z => h7 j (.inl z)⟩
omit [EnvR E] [Enc α] [Rep σ]
end
end TL

/-! T21: tuple displays that begin with a written name, as values of types given by hand -/
namespace TL
open PySem PySem.Spec PyProof.Rows L2 CI
section
variable {E : Type} [EnvR E] {δ : Type} [Enc δ]
end
end TL

/-! T22: names that hold None or an object -/
namespace TL
open PySem PySem.Spec PyProof.Rows L2 CI
inductive On (σ : Type) where
  | non | oj (o : Oj σ)
def OnR {σ : Type} [Rep σ] : On σ → Option D → Mem → Fp → Prop
  | .non, d, _, fp => d = some .non ∧ ∀ j, ¬ fp j
  | .oj o, d, M, fp => SlotR.rel o d M fp
instance {σ : Type} [Rep σ] : SlotR (On σ) where
  rel := OnR
  frame {t d M M' fp} h hf := by
    cases t with
    | non => exact h
    | oj o => exact SlotR.frame (τ := Oj σ) h hf
  bnd {t d M fp} h j hj := by
    cases t with
    | non => exact absurd hj (h.2 j)
    | oj o => exact SlotR.bnd (τ := Oj σ) h j hj
  emp := .oj .no
  emp_rel d M := SlotR.emp_rel (τ := Oj σ) d M
  trim {t d M fp n} h hd hM j hj := by
    cases t with
    | non => exact absurd hj (h.2 j)
    | oj o => exact SlotR.trim (τ := Oj σ) h hd hM j hj
instance {σ E : Type} [Rep σ] [EnvR E] {kl : List Bool} {k : E → E} [h : KOk kl k] : KOk (false :: kl) (kpF (On.oj Oj.no) k : On σ × E → On σ × E) := ⟨fun e => by
  show ((On.oj Oj.no : On σ), EnvR.keep kl e.2) = _
  rw [KOk.eq (kl := kl) (kp := k)]; rfl⟩
instance {σ : Type} [Rep σ] : Hd (On σ) σ where
  get
    | .non => none
    | .oj o => o.get
  clr
    | .non => .non
    | .oj o => .oj o.clr
  put
    | .non, s => .oj (.own s)
    | .oj o, s => .oj (o.put s)
  cut k _ := .oj (.hole k)
  hol
    | .non => none
    | .oj o => o.hol
  own s := .oj (.own s)
instance {σ : Type} [Rep σ] : HdOk (On σ) σ where
  ok {t d M fp s} h e := by
    cases t with
    | non => cases e
    | oj o => exact HdOk.ok (τ := Oj σ) h e
  ins {t d M f0 fp k s} h h1 h2 := by
    cases t with
    | non => exact ⟨k, h1, h2⟩
    | oj o => exact HdOk.ins (τ := Oj σ) h h1 h2
  own h1 h2 := ⟨_, h1, h2⟩
  hole {t d M f0 k} h e := by
    cases t with
    | non => cases e
    | oj o => exact HdOk.hole (τ := Oj σ) h e
  gp t s := by
    cases t with
    | non => rfl
    | oj o => exact HdOk.gp (τ := Oj σ) o s
section
variable {σ : Type} [Rep σ]
@[simp] theorem on_g1 {o : Oj σ} : Hd.get (On.oj o) = o.get := rfl
@[simp] theorem on_g0 : Hd.get (On.non : On σ) = none := rfl
@[simp] theorem on_c1 {o : Oj σ} : Hd.clr (On.oj o) = .oj o.clr := rfl
@[simp] theorem on_p1 {o : Oj σ} {s : σ} : Hd.put (On.oj o) s = .oj (o.put s) := rfl
@[simp] theorem on_o1 {s : σ} : (Hd.own s : On σ) = .oj (.own s) := rfl
@[simp] theorem on_h1 {o : Oj σ} : Hd.hol (On.oj o) = o.hol := rfl
@[simp] theorem on_k1 {t : On σ} {k : Nat} : Hd.cut k t = .oj (.hole k) := rfl
end
section
variable {E : Type} [EnvR E] {β σ : Type} [Rep σ] {RT : RTy β}
/-- is None -/
def On.isn {σ : Type} : On σ → Option Bool
  | .non => some true
  | .oj .no => none
  | .oj _ => some false
@[simp] theorem isn_non : (On.non : On σ).isn = some true := rfl
@[simp] theorem isn_own {s : σ} : (On.oj (.own s)).isn = some false := rfl
@[simp] theorem isn_at {k : Nat} {s : σ} : (On.oj (.at_ k s)).isn = some false := rfl
end
end TL

/-! T23: defs with objects that give a new list; the rest of a tuple of written length -/
namespace TL
open PySem PySem.Spec PyProof.Rows L2 CI
section
variable {E : Type} [EnvR E] {α β : Type} [Enc α] [Enc β]
end
end TL

/-! T24: a comprehension over what an effect gives -/
namespace TL
open PySem PySem.Spec PyProof.Rows L2 CI
section
variable {E : Type} [EnvR E] {α β σ : Type} [Enc α] [Enc β] [Enc σ]
end
end TL

/-! T25: a method of a new object; the head of a written tuple -/
namespace TL
open PySem PySem.Spec PyProof.Rows L2 CI
section
variable {E : Type} [EnvR E] {α β τ σ S : Type} [Enc α] [Enc β] [Rep σ]
end
end TL

/-! T26: a method whose arguments look at the object themselves -/
namespace TL
open PySem PySem.Spec PyProof.Rows L2 CI
section
variable {E : Type} [EnvR E] {σ : Type} [Rep σ] {A : Type} [ArgO A Unit]
end
end TL

/-! T27: tuples of five taken apart -/
namespace TL
open PySem PySem.Spec PyProof.Rows L2 CI
section
variable {E : Type} [EnvR E] {α β γ δ ε : Type} [Enc α] [Enc β] [Enc γ] [Enc δ] [Enc ε]
end
end TL

/-! T28: loops over enumerate of an own list -/
namespace TL
open PySem PySem.Spec PyProof.Rows L2 CI
section
variable {E : Type} [EnvR E] {α β γ δ σ τ υ : Type} [Enc α] [Enc γ] [Enc δ] [Rep σ] {RT : RTy β} {RX : RTy τ}
end
end TL

/-! T29: own lists that methods give -/
namespace TL
open PySem PySem.Spec PyProof.Rows L2 CI
section
variable {E : Type} [EnvR E] {α : Type} [Enc α]
end
end TL

/-! T30: a part stored as one that may be None; the last part of a tuple -/
namespace TL
open PySem PySem.Spec PyProof.Rows L2 CI
section
variable {E : Type} [EnvR E] {α β : Type} [Enc α] [Enc β]
end
end TL

/-! T31: a list that a method gives, handed to a def: a value or a place, the def read both ways -/
namespace TL
open PySem PySem.Spec PyProof.Rows L2 CI
section
variable {E : Type} [EnvR E] {α β τ : Type} [Enc α] [Enc β]
open Classical in
noncomputable def xCallO (T1 : α × List β × Unit → Option (τ × Unit)) (T2 : α × Wo (LS β) × Unit → Option (τ × (LS β × Unit))) (g0 : E → Option (α × E)) (g : E → Option (List β × E)) : E → Option (τ × E) := fun e => (g0 e).bind fun a => (g a.2).bind fun l => (T1 (a.1, l.1, ())).bind fun b1 => (T2 (a.1, ⟨⟨l.1⟩⟩, ())).bind fun b2 => if b1.1 = b2.1 then some (b1.1, l.2) else none
end
end TL

/-! T32: comprehensions over a list that a method gives; the head of a tuple that a method gives -/
namespace TL
open PySem PySem.Spec PyProof.Rows L2 CI
section
variable {E : Type} [EnvR E] {α β : Type} [Enc α] [Enc β]
end
end TL

/-! T33: loops over an own list that was handed in: it stays at its place -/
namespace TL
open PySem PySem.Spec PyProof.Rows L2 CI
section
variable {E : Type} [EnvR E] {α β τ σ : Type} [Enc α] {RX : RTy τ}
def Oj.loc {σ : Type} : Oj σ → Option Nat
  | .at_ k _ => some k
  | _ => none
end
end TL

/-! T34: exceptions in the typed reading -/
namespace TL
open PySem PySem.Spec PyProof.Rows L2 CI
/-- what a def that may raise hands back: a value, or the exception c with its field f -/
inductive XR (ε τ : Type) where
  | ok (v : τ) | er (c f : Str) (x : ε)
class EncF (ε : Type) [Enc ε] : Prop where
  flat : ∀ x : ε, ∃ v, CI.flatV (Enc.enc x) = some v
instance : EncF Str := ⟨fun x => ⟨_, rfl⟩⟩
instance : EncF Int := ⟨fun x => ⟨_, rfl⟩⟩
class NoX {τ : Type} (RX : RTy τ) : Prop where
  no : ∀ b r M fp, RX.R b r M fp → asX r.d = none
class NoD (α : Type) [Enc α] : Prop where
  no : ∀ v : α, asX (Enc.enc v) = none
instance : NoD Int := ⟨fun _ => rfl⟩
instance : NoD Bool := ⟨fun _ => rfl⟩
instance : NoD Unit := ⟨fun _ => rfl⟩
instance : NoD Str := ⟨fun _ => rfl⟩
instance {α : Type} [Enc α] : NoD (List α) := ⟨fun _ => rfl⟩
theorem asX_len {ds : List D} (h : ds.length ≠ 4) : asX (.tup ds) = none := by
  unfold asX
  split
  · rename_i e; cases e; exact absurd rfl h
  · rename_i e; cases e; exact absurd rfl h
  · rfl
theorem asX_hd {d : D} {ds : List D} (h : ∀ t, d ≠ .str t) : asX (.tup (d :: ds)) = none := by
  unfold asX
  split
  · rename_i e; cases e; exact absurd rfl (h _)
  · rename_i e; cases e; exact absurd rfl (h _)
  · rfl
class NoS (α : Type) [Enc α] : Prop where
  no : ∀ (v : α) (t : Str), Enc.enc v ≠ .str t
instance : NoS Int := ⟨fun _ _ h => nomatch h⟩
instance : NoS Bool := ⟨fun _ _ h => nomatch h⟩
instance : NoS Unit := ⟨fun _ _ h => nomatch h⟩
instance {α : Type} [Enc α] : NoS (List α) := ⟨fun _ _ h => nomatch h⟩
instance {α : Type} [Enc α] : NoS (Tu α) := ⟨fun _ _ h => nomatch h⟩
instance {α β : Type} [Enc α] [Enc β] : NoS (α × β) := ⟨fun _ _ h => nomatch h⟩
instance {α β γ : Type} [Enc α] [Enc β] [Enc γ] : NoS (P3 α β γ) := ⟨fun _ _ h => nomatch h⟩
instance {α β γ δ : Type} [Enc α] [Enc β] [Enc γ] [Enc δ] : NoS (P4 α β γ δ) := ⟨fun _ _ h => nomatch h⟩
instance {α : Type} [Enc α] [NoS α] : NoS (Option α) := ⟨fun v t h => by
  cases v with
  | none => cases h
  | some v => exact NoS.no v t h⟩
instance {α β : Type} [Enc α] [Enc β] : NoD (α × β) := ⟨fun v => asX_len (by simp)⟩
instance {α β γ : Type} [Enc α] [Enc β] [Enc γ] : NoD (P3 α β γ) := ⟨fun v => asX_len (by simp)⟩
instance {α β γ δ : Type} [Enc α] [Enc β] [Enc γ] [Enc δ] [NoS α] : NoD (P4 α β γ δ) := ⟨fun v => asX_hd fun t => NoS.no v.a t⟩
instance {α β γ δ ε : Type} [Enc α] [Enc β] [Enc γ] [Enc δ] [Enc ε] : NoD (P5 α β γ δ ε) := ⟨fun v => asX_len (by simp)⟩
instance {α β γ δ ε : Type} [Enc α] [Enc β] [Enc γ] [Enc δ] [Enc ε] : NoS (P5 α β γ δ ε) := ⟨fun _ _ h => nomatch h⟩
instance {α : Type} [Enc α] [NoS α] : NoD (Tu α) := ⟨fun ⟨l⟩ => by
  cases l with
  | nil => exact asX_len (by simp)
  | cons x l => exact asX_hd fun t => NoS.no x t⟩
instance {α : Type} [Enc α] [NoD α] : NoD (Option α) := ⟨fun v => by
  cases v with
  | none => rfl
  | some v => exact NoD.no v⟩
instance {α : Type} [Enc α] [NoD α] : NoX (rV (α := α)) := ⟨fun b r M fp h => by
  have h : r.d = Enc.enc b := h
  rw [h]; exact NoD.no b⟩
instance {α : Type} [Enc α] : NoX (rO (α := α)) := ⟨fun b r M fp h => by
  rcases h with rfl | ⟨k, rfl, _⟩ <;> rfl⟩
instance {α : Type} [Enc α] : NoX (rN (α := α)) := ⟨fun b r M fp h => by
  have h : r = .new (b.map Enc.enc) := h
  rw [h]; rfl⟩
instance {σ : Type} [Rep σ] : NoX (rJ (σ := σ)) := ⟨fun b r M fp ⟨k, f', h, _⟩ => by rw [h]; rfl⟩
section
variable {ε τ : Type} [Enc ε]
def rXs (RX : RTy τ) : RTy (XR ε τ) := ⟨fun b r M fp => match b with
  | .ok v => RX.R v r M fp ∧ asX r.d = none
  | .er c f x => r = .val (mkX c f (Enc.enc x)), fun {b r M fp fp1} hf h => by
    cases b with
    | ok v => exact ⟨RX.mono hf h.1, h.2⟩
    | er c f x => exact h⟩
end
section
variable {E : Type} [EnvR E] {ε τ υ α σ : Type} [Enc ε] [EncF ε] [Enc α] {RX : RTy τ}
omit [EnvR E] [Enc ε] [EncF ε] in
@[simp] def okF : Fw (τ × E) E → Fw (XR ε τ × E) E
  | .nx e => .nx e
  | .bk e => .bk e
  | .ct e => .ct e
  | .rt b => .rt (.ok b.1, b.2)
omit [EnvR E] [Enc ε] [EncF ε] in
/-- a statement that raises nothing, among those that may -/
@[simp] def tG (g : E → Option (Fw (τ × E) E)) : E → Option (Fw (XR ε τ × E) E) := fun e => (g e).map okF
def OutT (RX : RTy τ) (n : Nat) (fp : Fp) : Fw (XR ε τ × E) E → Fl → Slots → Mem → Prop
  | .nx e, fl, ρ, M => fl = .nx ∧ RelQ n fp e ρ M
  | .bk e, fl, ρ, M => fl = .bk ∧ RelQ n fp e ρ M
  | .ct e, fl, ρ, M => fl = .ct ∧ RelQ n fp e ρ M
  | .rt (.ok v, e), fl, ρ, M => ∃ r, fl = .rt r ∧ (rE (rXs (ε := ε) RX)).R (.ok v, e) r M fun j => fp j ∨ n ≤ j
  | .rt (.er c f x, e), fl, ρ, M => fl = .rt (.val (mkX c f (Enc.enc x))) ∧ RelQ n fp e ρ M
/-- the body of a try: where something is raised the slots are known -/
def SPT (RX : RTy τ) (g : E → Option (Fw (XR ε τ × E) E)) (f : Sf) : Prop := ∀ e ρ M fp, EnvR.rel e ρ M fp → Cl M → ∀ o, g e = some o → ∃ fl ρ' M', f ρ M = some (fl, ρ', M') ∧ Frm M fp M' ∧ Cl M' ∧ OutT RX M.length fp o fl ρ' M'
theorem SPT.sp {g : E → Option (Fw (XR ε τ × E) E)} {f : Sf} (h : SPT RX g f) : SP (rE (rXs (ε := ε) RX)) g f := fun e ρ M fp R C o q => by
  obtain ⟨fl, ρ', M', k1, k2, k3, k4⟩ := h e ρ M fp R C o q
  refine ⟨fl, ρ', M', k1, k2, k3, ?_⟩
  cases o with
  | nx e1 => exact k4
  | bk e1 => exact k4
  | ct e1 => exact k4
  | rt b =>
    obtain ⟨b, e1⟩ := b
    cases b with
    | ok v => exact k4
    | er c f x =>
      obtain ⟨rfl, f1, h1, h2⟩ := k4
      exact ⟨_, rfl, ρ', f1, fun _ => False, h1, rfl, fun _ _ z => z, fun j z => z.elim (h2 j) False.elim⟩
end
end TL

/-! T35: boxes: dicts with text keys whose parts change -/
namespace TL
open PySem PySem.Spec PyProof.Rows L2 CI
structure Bx (ns : List Str) (E : Type) where
  e : E
def bxKV (fs : List (Str × D)) : List (Key × D) := fs.map fun p => (Sum.inr p.1, p.2)
theorem bx_nl {n : Nat} : ∀ {fs : List (Str × D)}, nlK n (bxKV fs) = nlF n fs
  | [] => rfl
  | (g, x) :: r => by
    show (nl n x && nlK n (bxKV r)) = nlF n ((g, x) :: r)
    rw [nlF_cons, bx_nl]
def BxR {E : Type} [EnvR E] (ns : List Str) (M : Mem) (k : Nat) (e : E) (fp : Fp) : Prop :=
  ∃ fs f', M[k]? = some (.dct (bxKV fs)) ∧ (fs.map (·.1)).Nodup ∧ (∀ p ∈ fs, p.1 ∈ ns) ∧ EnvR.rel e (flds ns fs) M f' ∧ ¬ f' k ∧ ∀ j, fp j ↔ j = k ∨ f' j
instance {ns : List Str} {E : Type} [EnvR E] : Rep (Bx ns E) where
  rep M k s fp := BxR ns M k s.e fp
  frame {M M' k s fp} h hf := by
    obtain ⟨fs, f', h1, h2, h3, h4, h5, h6⟩ := h
    exact ⟨fs, f', by rw [hf k ((h6 k).mpr (.inl rfl))]; exact h1, h2, h3, EnvR.frame h4 fun j q => hf j ((h6 j).mpr (.inr q)), h5, h6⟩
  bnd {M k s fp} h j hj := by
    obtain ⟨fs, f', h1, h2, h3, h4, h5, h6⟩ := h
    rcases (h6 j).mp hj with q | q
    · rw [q]; exact lt_of_get h1
    · exact EnvR.bnd h4 j q
  self {M k s fp} h := by
    obtain ⟨fs, f', h1, h2, h3, h4, h5, h6⟩ := h
    exact (h6 k).mpr (.inl rfl)
  trim {M k s fp n} h hk hM j hj := by
    obtain ⟨fs, f', h1, h2, h3, h4, h5, h6⟩ := h
    rcases (h6 j).mp hj with q | q
    · rw [q]; exact hk
    · exact EnvR.trim h4 (flds_nl (by have := hM k _ hk h1; rwa [nlO_dct, bx_nl] at this)) hM j q
theorem bx_get {ns : List Str} {E : Type} [EnvR E] {M : Mem} {k : Nat} {s : Bx ns E} {fp : Fp} (h : Rep.rep M k s fp) : BxR ns M k s.e fp := h
instance {ns : List Str} {F : Type} [EnvR F] : NLs (Bx ns F) := ⟨fun h q => by
  obtain ⟨fs, f', h1, _⟩ := bx_get h
  rw [h1] at q; cases q⟩
section
variable {E : Type} [EnvR E]
end
section
variable {E : Type} [EnvR E] {α β γ δ σ τ υ : Type} [Enc α] [Enc γ] [Enc δ] [Rep σ] {RT : RTy β} {RX : RTy τ}
/-! ### displays of boxes -/
end
end TL

/-! T36: the result of a call that may raise, appended; try without a name; dicts in boxes; boxes with objects -/
namespace TL
open PySem PySem.Spec PyProof.Rows L2 CI
section
variable {E : Type} [EnvR E] {ε τ υ α σ : Type} [Enc ε] [EncF ε] [Enc α] {RX : RTy τ}
end
section
variable {E : Type} [EnvR E] {α : Type} [Enc α]
end
/-! ### dicts at places -/
section
variable {E : Type} [EnvR E] {κ α β : Type} [DecidableEq κ] [Enc κ] [NL κ] [KeyE κ] [Enc α] {RT : RTy β}
end
/-! ### boxes with objects in them -/
section
variable {E : Type} [EnvR E] {α σ : Type} [Enc α] [Rep σ]
end
end TL

/-! T37: `[d[x] for x in d if d[x] > 0]` -/
namespace TL
open PySem PySem.Spec PyProof.Rows L2 CI
section
variable {E κ : Type} [EnvR E] [Enc κ] [DecidableEq κ] [NL κ] [KeyE κ]

end
end TL

/-! T38: list displays of unlike parts; plain data, compared part by part -/
namespace TL
open PySem PySem.Spec PyProof.Rows L2 CI
structure H2 (α β : Type) where
  a : α
  b : β
structure H3 (α β γ : Type) where
  a : α
  b : β
  c : γ
section
variable {E α β γ δ : Type} [EnvR E] [Enc α] [Enc β] [Enc γ] [Enc δ]
instance : Enc (H2 α β) := ⟨fun p => .lst [Enc.enc p.a, Enc.enc p.b], fun n p => by simp [Enc.nle]⟩
instance : Enc (H3 α β γ) := ⟨fun p => .lst [Enc.enc p.a, Enc.enc p.b, Enc.enc p.c], fun n p => by simp [Enc.nle]⟩
@[simp] def hm2 (p : α × β × Unit) : H2 α β := ⟨p.1, p.2.1⟩
end
/-! plain data: no objects, at most so deep, no part longer than a row -/
mutual
def gdD : Nat → D → Bool
  | _, .int _ => true
  | _, .bl _ => true
  | _, .non => true
  | _, .str x => decide (x.length ≤ 64)
  | n + 1, .tup ds => gdDs n ds && decide (ds.length ≤ 10000)
  | n + 1, .lst ds => gdDs n ds && decide (ds.length ≤ 10000)
  | _, _ => false
def gdDs : Nat → List D → Bool
  | _, [] => true
  | n, d :: ds => gdD n d && gdDs n ds
end
open Classical in
/-- two alike are told to be so; of others nothing is said -/
noncomputable def sameT {α : Type} [Enc α] : α × α × Unit → Option Bool := fun p => if p.1 = p.2.1 ∧ gdD 7 (Enc.enc p.1) = true then some true else none
theorem same_eq {α : Type} [Enc α] (a : α) (h : gdD 7 (Enc.enc a) = true) : sameT (a, a, ()) = some true := by
  unfold sameT
  rw [if_pos ⟨rfl, h⟩]
theorem sameT_ok {F : Fn} {α : Type} [Enc α] (h : ∀ d M, gdD 7 d = true → F [d, d] M = some (.val (.bl true), M)) : FnT F (sameT (α := α)) := fun a b q M C => by
  obtain ⟨x, y, u⟩ := a
  unfold sameT at q
  split at q
  · rename_i hq
    cases q
    obtain ⟨h1, h2⟩ := hq
    have h1 : x = y := h1
    subst h1
    exact ⟨_, h (Enc.enc x) M h2, rfl⟩
  · cases q
end TL

/-! T39: list.remove; two items of a list change places; `while (x := e) is not None: ..` -/
namespace TL
open PySem PySem.Spec PyProof.Rows L2 CI
section
variable {E α β : Type} [EnvR E] [DecidableEq α] [Enc α] [EncEq α]
theorem okE_pl {x : α} (hl : EncEq.lv α ≤ 63) (h : EncEq.okE x = true) : plS 63 (Enc.enc x) = true := plS_up hl (EncEq.pl x h)
/-- the first like it is taken out -/
def lmRem (l : List α) (a : α × Unit) : Option (Unit × List α) := if EncEq.lv α ≤ 63 ∧ EncEq.okE a.1 = true ∧ l.all EncEq.okE = true then (l.findIdx? fun z => decide (z = a.1)).map fun j => ((), l.eraseIdx j) else none
theorem findIdx_enc (a : α) : ∀ l : List α, (l.map Enc.enc).findIdx? (fun z => deq z (Enc.enc a)) = l.findIdx? fun z => decide (z = a)
  | [] => rfl
  | x :: l => by
    rw [List.map_cons, List.findIdx?_cons, List.findIdx?_cons, EncEq.dq, findIdx_enc a l]
theorem er_map2 {γ δ : Type} (f : γ → δ) : ∀ (l : List γ) (j : Nat), (l.map f).eraseIdx j = (l.eraseIdx j).map f
  | [], j => by simp
  | a :: r, 0 => by simp
  | a :: r, j + 1 => by simp [er_map2 f r j]
theorem lm_rem : LmOk (β := Unit) oRemove (lmRem (α := α)) := fun l a b l' M k q h => by
  unfold lmRem at q
  split at q
  · rename_i hc
    obtain ⟨h1, h2, h3⟩ := hc
    obtain ⟨j, q1, q⟩ := mx q
    cases q
    show oRemove (.loc k) [Enc.enc a.1] M = _
    unfold oRemove
    simp only
    rw [h]
    simp only
    have p1 : plS 64 (Enc.enc a.1) = true := plS_up (by decide) (okE_pl h1 h2)
    have p2 : plS 64 (.lst (l.map Enc.enc)) = true := by
      rw [plS_lst]
      refine List.all_eq_true.mpr fun d hd => ?_
      obtain ⟨x, hx, rfl⟩ := List.mem_map.mp hd
      exact okE_pl h1 (List.all_eq_true.mp h3 x hx)
    rw [if_pos ⟨p1, p2⟩, findIdx_enc, q1]
    simp only [Option.map_some]
    rw [er_map2]
    rfl
  · cases q
end
/-! two items change places -/
section
variable {E α β : Type} [EnvR E] [Enc α] {RT : RTy β}
def GM (asg : α → E → Option E) (g : Gf) : Prop := ∀ x e ρ M fp, EnvR.rel e ρ M fp → Cl M → ∀ e', asg x e = some e' → ∃ M' fp', g (Enc.enc x) ρ M = some (ρ, M') ∧ EnvR.rel e' ρ M' fp' ∧ Frm M fp M' ∧ Cl M' ∧ ∀ j, fp' j → fp j
omit [EnvR E] [Enc α] in
@[simp] def pIx (p : Pl E (LS α)) (gi : E → Option Int) : α → E → Option E := fun x e => (p.get e).bind fun s => (gi e).bind fun i => (ixN s.l.length i).map fun a => p.put (p.clr e) ⟨s.l.set a x⟩
theorem gm_ix {p : Pl E (LS α)} {fo fi : Ef} {gi : E → Option Int} (hp : POk p fo) (hi : EV gi fi) : GM (pIx p gi) (gIx fo fi) := fun x e ρ M fp R C e' q => by
  unfold pIx at q
  obtain ⟨s, q1, q⟩ := bx q
  obtain ⟨i, q2, q⟩ := bx q
  obtain ⟨a, q3, q⟩ := mx q
  cases q
  obtain ⟨k, k1, k2, k3⟩ := pl_list hp R C q1
  obtain ⟨⟨fp', k4, k5⟩, k6, k7⟩ := k3 (s.l.set a x)
  obtain ⟨r, k8, k9⟩ := hi.p e ρ M fp R C i q2
  refine ⟨_, fp', ?_, k4, k6, k7, k5⟩
  unfold gIx
  rw [k1]; simp only [Option.bind_some]
  rw [k8]; simp only [Option.bind_some, Rz_d_val]
  rw [k9, show Enc.enc i = D.int i from rfl]
  simp only
  rw [k2]
  simp only [List.length_map]
  rw [q3]
  simp only [Option.bind_some, List.map_set]
omit [EnvR E] [Enc α] in
@[simp] def tAsg2 (a1 a2 : α → E → Option E) (g : E → Option (α × α)) : E → Option (Fw β E) := fun e => (g e).bind fun v => (a1 v.1 e).bind fun e1 => (a2 v.2 e1).map fun e2 => .nx e2
theorem s_asg2 {a1 a2 : α → E → Option E} {g1 g2 : Gf} {g : E → Option (α × α)} {f : Ef} (h1 : GM a1 g1) (h2 : GM a2 g2) (h : EP g f) : SP (β := β) RT (tAsg2 a1 a2 g) (sAsg (gTp 2 (gsCons g1 (gsCons g2 gsNil))) f) := fun e ρ M fp R C o q => by
  unfold tAsg2 at q
  obtain ⟨v, q1, q⟩ := bx q
  obtain ⟨e1, q2, q⟩ := bx q
  obtain ⟨e2, q3, q⟩ := mx q
  cases q
  obtain ⟨r, k1, k2⟩ := h e ρ M fp R C v q1
  obtain ⟨M1, f1, l1, l2, l3, l4, l5⟩ := h1 v.1 e ρ M fp R C e1 q2
  obtain ⟨M2, f2, m1, m2, m3, m4, m5⟩ := h2 v.2 e1 ρ M1 f1 l2 l4 e2 q3
  refine ⟨.nx, ρ, M2, ?_, l3.trans (fun j z => .inl (l5 j z)) m3, m4, rfl, f2, m2, fun j z => .inl (l5 j (m5 j z))⟩
  unfold sAsg
  rw [k1]; simp only [Option.bind_some]
  rw [k2, show Enc.enc v = D.tup [Enc.enc v.1, Enc.enc v.2] from rfl]
  simp only [gTp]
  rw [if_pos (show [Enc.enc v.1, Enc.enc v.2].length = 2 from rfl)]
  simp only [gsCons]
  rw [l1]; simp only [Option.bind_some]
  rw [m1]; simp only [Option.bind_some, gsNil]
end
/-! while (x := e) is not None -/
section
variable {E α β : Type} [EnvR E] [Enc α] [NN α] {RT : RTy β}
omit [EnvR E] [Enc α] [NN α] in
def wwT (kp : E → E) (asg : Option α → E → Option E) (g : E → Option (Option α × E)) (body : E → Option (Fw β E)) : Nat → E → Option (Fw β E)
  | 0, _ => none
  | n + 1, e => (g e).bind fun p => match p.1 with
    | none => (asg none p.2).map .nx
    | some v => (asg (some v) p.2).bind fun e1 => (body e1).bind (whT1 kp (wwT kp asg g body n))
theorem ww_T {i : Nat} (ln : Lens E (Option (Option α)) i) [LOk ln] {kl : List Bool} {g : E → Option (Option α × E)} {body : E → Option (Fw β E)} {fe : Ef} {f : Sf} (hg : EX rV g fe) (hb : SP RT body f) :
    ∀ (n : Nat) (e : E) (ρ : Slots) (M : Mem) (fp : Fp), EnvR.rel e ρ M fp → Cl M → ∀ o, wwT (EnvR.keep kl) (pNm ln) g body n e = some o →
    ∃ fl ρ' M', wwK kl i fe f n ρ M = some (fl, ρ', M') ∧ Frm M fp M' ∧ Cl M' ∧ Out RT M.length fp o fl ρ' M'
  | 0, _, _, _, _, _, _, o, q => by cases q
  | n + 1, e, ρ, M, fp, R, C, o, q => by
    unfold wwT at q
    obtain ⟨⟨v, e1⟩, q1, q⟩ := bx q
    obtain ⟨r, M1, f1, f2, h1, h2, h3, h4, h5, h6, h7⟩ := hg e ρ M fp R C v e1 q1
    have h5 : r.d = Enc.enc v := h5
    obtain ⟨fp1, r1, r2⟩ := lens_val ln h4 v
    have sub : ∀ j, fp1 j → fp j ∨ M.length ≤ j := fun j z => h7 j (.inl (r2 j z))
    unfold wwK
    rw [h1]; simp only [Option.bind_some]
    rw [h5]
    cases v with
    | none =>
      simp only [pNm, Option.map_some, Option.some.injEq] at q
      subst q
      rw [if_pos (by rfl)]
      exact ⟨.nx, _, M1, rfl, h2, h3, rfl, fp1, r1, sub⟩
    | some v =>
      simp only [pNm, Option.bind_some] at q
      rw [show (Enc.enc (some v) : D) = Enc.enc v from rfl, if_neg (by rw [NN.nn]; exact Bool.false_ne_true)]
      obtain ⟨o1, q2, q⟩ := bx q
      obtain ⟨fl, ρ2, M2, k4, k5, k6, k7⟩ := hb _ _ M1 fp1 r1 h3 o1 q2
      rw [show (Enc.enc (some v) : D) = Enc.enc v from rfl] at k4
      rw [k4]; simp only [Option.bind_some]
      have k5 : Frm M fp M2 := h2.trans sub k5
      have k8 : Out RT M.length fp o1 fl ρ2 M2 := k7.mono sub h2.1
      clear k7
      have go : ∀ {e2 : E}, RelQ M.length fp e2 ρ2 M2 → wwT (EnvR.keep kl) (pNm ln) g body n (EnvR.keep kl e2) = some o →
          ∃ fl' ρ' M', wwK kl i fe f n (tidy kl M ρ2 M2).1 (tidy kl M ρ2 M2).2 = some (fl', ρ', M') ∧ Frm M fp M' ∧ Cl M' ∧ Out RT M.length fp o fl' ρ' M' := by
        intro e2 r2 hq
        obtain ⟨fp2, r3, r4⟩ := r2
        obtain ⟨M3, t1, t2, t3, ⟨f3, t4, t5⟩, _⟩ := tidy_T (kl := kl) C k6 k5 r3 r4
        obtain ⟨fl', ρ', M', l1, l2, l3, l4⟩ := ww_T ln hg hb n _ _ M3 f3 t4 t2 o hq
        exact ⟨fl', ρ', M', by rw [t1]; exact l1, t3.trans t5 l2, l3, l4.mono t5 t3.1⟩
      cases o1 with
      | nx e2 => obtain ⟨rfl, k9⟩ := k8; exact go k9 q
      | ct e2 => obtain ⟨rfl, k9⟩ := k8; exact go k9 q
      | bk e2 => cases q; obtain ⟨rfl, k9⟩ := k8; exact ⟨_, _, _, rfl, k5, k6, rfl, k9⟩
      | rt b => cases q; obtain ⟨r, rfl, r2⟩ := k8; exact ⟨_, _, _, rfl, k5, k6, r, rfl, r2⟩
omit [EnvR E] [Enc α] [NN α] in
def tWhileW (kp : E → E) (n : Nat) (asg : Option α → E → Option E) (g : E → Option (Option α × E)) (body : E → Option (Fw β E)) : E → Option (Fw β E) := fun e => wwT kp asg g body n (kp e)
theorem s_whileW {i : Nat} (ln : Lens E (Option (Option α)) i) [LOk ln] {kp : E → E} {kl : List Bool} {n : Nat} {g : E → Option (Option α × E)} {body : E → Option (Fw β E)} {fe : Ef} {f : Sf} (hg : EX rV g fe) (hb : SP RT body f) [KOk kl kp] : SP RT (tWhileW kp n (pNm ln) g body) (sWhileW kl n i fe f) := fun e ρ M fp R C o q => by
  have ek : kp = EnvR.keep kl := funext fun e => (KOk.eq (kl := kl) e).symm
  subst ek
  obtain ⟨f2, k2, k3⟩ := EnvR.keep_rel kl R
  obtain ⟨fl, ρ', M', l1, l2, l3, l4⟩ := ww_T ln hg hb n _ _ M f2 k2 C o q
  exact ⟨fl, ρ', M', l1, ⟨l2.1, fun j z y => l2.2 j z fun w => y (k3 j w)⟩, l3, l4.mono (fun j z => .inl (k3 j z)) (Nat.le_refl _)⟩
end
end TL

/-! N47: sorted({n for n in .. if ..}), n whole numbers -/
namespace CI
open PySem PySem.Spec PyProof.Rows L2
section
variable {X : Cx}
end
end CI

/-! N48: the meaning of sorted({n for n in .. if ..}) -/
namespace CI
open PySem PySem.Spec PyProof.Rows L2
def insK (ks : List Int) (k : Int) : List Int := if k ∈ ks then ks else ks ++ [k]
open Classical in
/-- the turns: memory stays -/
noncomputable def siF (g : Gf) (tt : Tf) (te : Ef) (ρw : Slots) (M : Mem) : List D → List Int → Option (List Int)
  | [], ks => some ks
  | d :: ds, ks => (g d ρw M).bind fun p => if p.2 = M then (tt p.1 M).bind fun b => if b.2 = M then (if b.1 = true then (te p.1 M).bind fun r => match r.1 with
      | .val (.int k) => if r.2 = M then siF g tt te ρw M ds (insK ks k) else none
      | _ => none else siF g tt te ρw M ds ks) else none else none
open Classical in
noncomputable def cSrtSi (it : If) (vs : List Nat) (g : Gf) (tt : Tf) (te : Ef) : Ef := fun ρ M => (it ρ M).bind fun p =>
  if guard p.2.1 p.1 p.2.2 ∧ p.1.length < 1000 then (siF g tt te (wipeD ρ vs) p.2.2 p.1 []).bind fun ks => if ks.length < 64 then some (.new ((isort ks).map .int), p.2.2) else none else none
section
variable {K : PySem.W.Frag} {H H1 : Hp} {m m1 : List Addr} {M : Mem} {B : Addr} {o : HO}
/-- what stands at B is no list, no tuple and frozen nowhere -/
structure Odd (H : Hp) (B : Addr) : Prop where
  l : ∀ xs, H B ≠ some (.lst xs)
  t : ∀ xs, H B ≠ some (.tup xs)
  f : ∀ o u, H B ≠ some (.frz o u)
end
section
variable {X : Cx} {elt tg iter : Expr} {ifs : List Expr} {scope : Scope} {own : List (Str × Nat)} {pos : Pos} {it : If} {g : Gf} {tt : Tf} {te : Ef}
end
end CI

/-! N49: sorted of a tuple of numbers, fewer than 64 -/
namespace CI
open PySem PySem.Spec PyProof.Rows L2
section
variable {X : Cx}
end
end CI

/-! N50: in of a list of data of any depth -/
namespace CI
open PySem PySem.Spec PyProof.Rows L2
section
variable {X : Cx}
def rInDL (neg : Bool) (K : PySem.W.Frag) : R2 := fun x y H Q => ∃ d ds, Dp K H x d ∧ Dp K H y (.list ds) ∧ SeqAt.shaped d = true ∧ SeqAt.shaped (.list ds) = true ∧ Q (.bl (anyE neg d ds)) H
theorem op_notInDL (hu : X.A.units + 65 < cLine) : OpR X (compareOp .NotIn) (rInDL true X.K) := by
  intro pins s σ H x y v u Q I rx ry ⟨d, ds, hd, he, sd, se, q⟩
  obtain ⟨_, r1⟩ := Dp.reads I d x v hd rx
  obtain ⟨_, r2⟩ := Dp.reads I (.list ds) y u he ry
  exact SeqAt.notIn_list_reads r2 r1 (SeqAt.canLay_of_shaped se) (SeqAt.canLay_of_shaped sd) (room_in_shaped sd hu) ⟨.bl _, H, I, rfl, q⟩
def oInL (neg : Bool) : Bop := fun d e M => match py M d, py M e with
  | some p, some (.list ps) => if SeqAt.shaped p = true ∧ SeqAt.shaped (.list ps) = true then some (.val (.bl (anyE neg p ps))) else none
  | _, _ => none
theorem inL_of {neg : Bool} {H : Hp} {m : List Addr} {M : Mem} {d e : D} {x y : V} {z : Rz} {Q : VK} {K : PySem.W.Frag} (w : Wd K H m M) (rd : Rl K H m d x) (re : Rl K H m e y) (ho : oInL neg d e M = some z) (P : Post K H m z M Q) : rInDL neg K x y H Q := by
  unfold oInL at ho
  split at ho
  · rename_i p ps h1 h2
    split at ho
    · rename_i hs
      cases ho
      exact ⟨p, ps, py_ok w rd h1, py_ok w re h2, hs.1, hs.2, P.val w rl_bl⟩
    · cases ho
  · cases ho
theorem ok_notinL (hu : X.A.units + 65 < cLine) : OpOk X (compareOp .NotIn) (oInL true) := ⟨_, op_notInDL hu, fun H m M d e x y z Q w rd re ho P => inL_of w rd re ho P⟩
theorem py_den {M : Mem} {e : D} {es : List D} (h : e = .lst es ∨ ∃ k, e = .loc k ∧ M[k]? = some (.lst es)) : py M e = (py0s es).map .list := by
  rcases h with rfl | ⟨k, rfl, hk⟩
  · show py0 (.lst es) = _
    rw [py0]
  · show (match M[k]? with | some (.lst ds) => (py0s ds).map PyData.list | _ => none) = _
    rw [hk]
theorem oInL_deq {neg : Bool} {M : Mem} {n m : Nat} {d e : D} {es : List D} (he : e = .lst es ∨ ∃ k, e = .loc k ∧ M[k]? = some (.lst es)) (hn : n ≤ 64) (hm : m ≤ 64) (h1 : plS n d = true) (h2 : plS m (.lst es) = true) : oInL neg d e M = some (.val (.bl (if neg = true then !(es.any fun e => deq e d) else es.any fun e => deq e d))) := by
  obtain ⟨p, p1, p2, p3⟩ := plS_ok n d h1
  obtain ⟨q, q1, q2, q3⟩ := plS_ok m _ h2
  have sp : SeqAt.shaped p = true := by unfold SeqAt.shaped; rw [p2, Bool.true_and]; exact decide_eq_true (by omega)
  have sq : SeqAt.shaped q = true := by unfold SeqAt.shaped; rw [q2, Bool.true_and]; exact decide_eq_true (by omega)
  have hd : py M d = some p := by cases d <;> first | exact p1 | cases p1
  rw [py0] at q1
  cases q4 : py0s es with
  | none => rw [q4] at q1; cases q1
  | some ps =>
    rw [q4] at q1; cases q1
    have he' : py M e = some (.list ps) := by rw [py_den he, q4]; rfl
    obtain ⟨m', rfl⟩ : ∃ m', m = m' + 1 := by
      cases m with
      | zero => cases h2
      | succ m' => exact ⟨m', rfl⟩
    rw [plS_lst] at h2
    unfold oInL
    rw [hd, he']
    simp only [sp, sq, and_self, if_true]
    unfold anyE
    rw [any_deq p1 h1 q4 h2]
end
end CI

/-! T40: sorted({n for n in .. if ..}) -/
namespace TL
open PySem PySem.Spec PyProof.Rows L2 CI
section
variable {E : Type} [EnvR E] {α : Type} [Enc α]
end
end TL

/-! T41: defs that only read, objects among their arguments -/
namespace TL
open PySem PySem.Spec PyProof.Rows L2 CI
def qV {β : Type} [Enc β] (b : β) (r : Rz) : Prop := r.d = Enc.enc b
def qN {β : Type} [Enc β] (b : β) (r : Rz) : Prop := ∃ ds, r = .new ds ∧ Enc.enc b = .lst ds
/-- the memory stays as it is -/
def FnP {A S β : Type} [ArgO A S] [Enc β] (F : Fn) (T : A → Option β) : Prop := ∀ a b, T a = some b → ∀ M ds fa, ArgO.arg a ds M fa → Cl M → ∃ r, F ds M = some (r, M) ∧ qV b r
def FnPN {A S β : Type} [ArgO A S] [Enc β] (F : Fn) (T : A → Option β) : Prop := ∀ a b, T a = some b → ∀ M ds fa, ArgO.arg a ds M fa → Cl M → ∃ r, F ds M = some (r, M) ∧ qN b r
theorem qN.v {β : Type} [Enc β] {b : β} {r : Rz} (h : qN b r) : qV b r := by
  obtain ⟨ds, rfl, h⟩ := h; exact h.symm
theorem FnPN.p {A S β : Type} [ArgO A S] [Enc β] {F : Fn} {T : A → Option β} (h : FnPN F T) : FnP F T := fun a b q M ds fa ha C => by
  obtain ⟨r, h1, h2⟩ := h a b q M ds fa ha C; exact ⟨r, h1, h2.v⟩
section
variable {E : Type} [EnvR E] {α β γ σ A S : Type} [Enc α] [Enc β] [Rep σ] [ArgO A S] {RQ : β → Rz → Prop}
def OutQ (RQ : β → Rz → Prop) (M : Mem) (fp : Fp) : Fw β E → Fl → Slots → Prop
  | .nx e, fl, ρ => fl = .nx ∧ ∃ fp', EnvR.rel e ρ M fp' ∧ ∀ j, fp' j → fp j
  | .bk e, fl, ρ => fl = .bk ∧ ∃ fp', EnvR.rel e ρ M fp' ∧ ∀ j, fp' j → fp j
  | .ct e, fl, ρ => fl = .ct ∧ ∃ fp', EnvR.rel e ρ M fp' ∧ ∀ j, fp' j → fp j
  | .rt b, fl, _ => ∃ r, fl = .rt r ∧ RQ b r
/-- statements that change nothing but names -/
def SQ (RQ : β → Rz → Prop) (g : E → Option (Fw β E)) (f : Sf) : Prop := ∀ e ρ M fp, EnvR.rel e ρ M fp → Cl M → ∀ o, g e = some o → ∃ fl ρ', f ρ M = some (fl, ρ', M) ∧ OutQ RQ M fp o fl ρ'
theorem OutQ.mono {M : Mem} {fp fp1 : Fp} (hf : ∀ j, fp1 j → fp j) : ∀ {o : Fw β E} {fl : Fl} {ρ : Slots}, OutQ RQ M fp1 o fl ρ → OutQ RQ M fp o fl ρ
  | .nx _, _, _, ⟨h, f', h1, h2⟩ => ⟨h, f', h1, fun j z => hf j (h2 j z)⟩
  | .bk _, _, _, ⟨h, f', h1, h2⟩ => ⟨h, f', h1, fun j z => hf j (h2 j z)⟩
  | .ct _, _, _, ⟨h, f', h1, h2⟩ => ⟨h, f', h1, fun j z => hf j (h2 j z)⟩
  | .rt _, _, _, h => h
theorem u_nil : SQ (E := E) RQ tNil sNil := fun e ρ M fp R C o q => by
  cases q; exact ⟨_, _, rfl, rfl, fp, R, fun _ z => z⟩
theorem u_cons {g1 g2 : E → Option (Fw β E)} {f1 f2 : Sf} (h1 : SQ RQ g1 f1) (h2 : SQ RQ g2 f2) : SQ RQ (tSeq g1 g2) (sCons f1 f2) := fun e ρ M fp R C o q => by
  unfold tSeq at q
  cases q1 : g1 e with
  | none => rw [q1] at q; cases q
  | some o1 =>
    rw [q1] at q; simp only [Option.bind_some] at q
    obtain ⟨fl, ρ1, k1, k4⟩ := h1 e ρ M fp R C o1 q1
    unfold sCons
    rw [k1]; simp only [Option.bind_some]
    cases o1 with
    | nx e1 =>
      obtain ⟨rfl, fp1, k5, k6⟩ := k4
      obtain ⟨fl2, ρ2, l1, l2⟩ := h2 e1 ρ1 M fp1 k5 C o q
      exact ⟨fl2, ρ2, l1, l2.mono k6⟩
    | bk e1 => cases q; obtain ⟨rfl, k4⟩ := k4; exact ⟨_, _, rfl, rfl, k4⟩
    | ct e1 => cases q; obtain ⟨rfl, k4⟩ := k4; exact ⟨_, _, rfl, rfl, k4⟩
    | rt b => cases q; obtain ⟨r, rfl, k4⟩ := k4; exact ⟨_, _, rfl, r, rfl, k4⟩
theorem u_set {i : Nat} (ln : Lens E (Option α) i) [LOk ln] {g : E → Option α} {f : Ef} (h : EP g f) : SQ RQ (tSet ln g) (sSet i f) := fun e ρ M fp R C o q => by
  unfold tSet at q
  cases q1 : g e with
  | none => rw [q1] at q; cases q
  | some v =>
    rw [q1] at q; cases q
    obtain ⟨r, k1, k2⟩ := h e ρ M fp R C v q1
    obtain ⟨fp', k3, k4⟩ := lens_val ln R v
    exact ⟨_, _, by simp [sSet, k1, k2], rfl, fp', k3, k4⟩
theorem u_if {gt : E → Option Bool} {g1 g2 : E → Option (Fw β E)} {t : Tf} {f1 f2 : Sf} (ht : TP gt t) (h1 : SQ RQ g1 f1) (h2 : SQ RQ g2 f2) : SQ RQ (tIfS gt g1 g2) (sIf t f1 f2) := fun e ρ M fp R C o q => by
  unfold tIfS at q
  cases q1 : gt e with
  | none => rw [q1] at q; cases q
  | some b =>
    rw [q1] at q; simp only [Option.bind_some] at q
    have k := ht e ρ M fp R C b q1
    unfold sIf
    rw [k]; simp only [Option.bind_some]
    cases b with
    | true => exact h1 e ρ M fp R C o q
    | false => exact h2 e ρ M fp R C o q
theorem u_ret {g : E → Option β} {f : Ef} (h : EP g f) : SQ qV (tRet g) (sRet f) := fun e ρ M fp R C o q => by
  unfold tRet at q
  cases q1 : g e with
  | none => rw [q1] at q; cases q
  | some v =>
    rw [q1] at q; cases q
    obtain ⟨r, k1, k2⟩ := h e ρ M fp R C v q1
    exact ⟨.rt r, ρ, by simp [sRet, k1], r, rfl, k2⟩
def stpFl (kl : List Bool) (ρ : Slots) (M : Mem) : Fl → Fl × Slots × Mem
  | .nx => (.nx, keepD kl ρ, M)
  | .ct => (.ct, keepD kl ρ, M)
  | .bk => (.bk, ρ, M)
  | .rt r => (.rt r, [], M)
theorem stp_same {kl : List Bool} {gk : Option Nat} {ds : List D} {g : Gf} {f : Sf} {d : D} {ρ ρ1 ρ2 : Slots} {M : Mem} {fl : Fl} (hgd : guard gk ds M) (h1 : g d ρ M = some (ρ1, M)) (h2 : f ρ1 M = some (fl, ρ2, M)) :
    stpK kl gk ds g f d ρ M = some (stpFl kl ρ2 M fl) := by
  unfold stpK
  rw [h1]; simp only [Option.bind_some]
  rw [h2]; simp only [Option.bind_some]
  cases fl with
  | nx => rw [tidy_same, if_pos (show Fl.nx.goes = true from rfl), if_pos hgd]; rfl
  | ct => rw [tidy_same, if_pos (show Fl.ct.goes = true from rfl), if_pos hgd]; rfl
  | bk => rfl
  | rt r => rfl
theorem for_Q {kl : List Bool} {asg : α → E → Option E} {body : E → Option (Fw β E)} {g : Gf} {f : Sf} {gk : Option Nat} {ds0 : List D} {M : Mem} (hgd : guard gk ds0 M) (C : Cl M) (hg : GP asg g) (hb : SQ RQ body f) : ∀ (xs : List α) (e : E) (ρ : Slots) (fp : Fp), EnvR.rel e ρ M fp → ∀ o, forT (EnvR.keep kl) asg body xs e = some o →
    ∃ fl ρ', loopF (stpK kl gk ds0 g f) (xs.map Enc.enc) ρ M = some (fl, ρ', M) ∧ OutQ RQ M fp o fl ρ'
  | [], e, ρ, fp, R, o, q => by
    cases q
    exact ⟨.nx, ρ, rfl, rfl, fp, R, fun _ z => z⟩
  | x :: xs, e, ρ, fp, R, o, q => by
    unfold forT at q
    cases q1 : asg x e with
    | none => rw [q1] at q; cases q
    | some e1 =>
      rw [q1] at q; simp only [Option.bind_some] at q
      obtain ⟨ρ1, f1, k1, k2, k3⟩ := hg x e ρ M fp R e1 q1
      cases q2 : body e1 with
      | none => rw [q2] at q; cases q
      | some o1 =>
        rw [q2] at q; simp only [Option.bind_some] at q
        obtain ⟨fl, ρ2, k4, k7⟩ := hb e1 ρ1 M f1 k2 C o1 q2
        have st := stp_same (kl := kl) hgd k1 k4
        rw [List.map_cons]
        unfold loopF
        rw [st]
        simp only [Option.bind_some]
        cases o1 with
        | nx e2 =>
          obtain ⟨rfl, fp2, r3, r4⟩ := k7
          obtain ⟨f3, t4, t5⟩ := EnvR.keep_rel kl r3
          obtain ⟨fl', ρ', l1, l4⟩ := for_Q hgd C hg hb xs _ _ f3 t4 o q
          exact ⟨fl', ρ', l1, l4.mono fun j z => k3 j (r4 j (t5 j z))⟩
        | ct e2 =>
          obtain ⟨rfl, fp2, r3, r4⟩ := k7
          obtain ⟨f3, t4, t5⟩ := EnvR.keep_rel kl r3
          obtain ⟨fl', ρ', l1, l4⟩ := for_Q hgd C hg hb xs _ _ f3 t4 o q
          exact ⟨fl', ρ', l1, l4.mono fun j z => k3 j (r4 j (t5 j z))⟩
        | bk e2 =>
          cases q
          obtain ⟨rfl, fp2, r3, r4⟩ := k7
          exact ⟨.nx, ρ2, rfl, rfl, fp2, r3, fun j z => k3 j (r4 j z)⟩
        | rt b =>
          cases q
          obtain ⟨r, rfl, r2⟩ := k7
          exact ⟨.rt r, [], rfl, r, rfl, r2⟩
theorem u_for {kp : E → E} {kl : List Bool} {gi : E → Option (List α)} {asg : α → E → Option E} {body : E → Option (Fw β E)} {it : If} {g : Gf} {f : Sf} (hi : IV gi it) (hg : GP asg g) (hb : SQ RQ body f) [KOk kl kp] : SQ RQ (tFor kp gi asg body) (sForK kl it g f) := fun e ρ M fp R C o q => by
  have ek : kp = EnvR.keep kl := funext fun e => (KOk.eq (kl := kl) e).symm
  subst ek
  unfold tFor at q
  cases q1 : gi e with
  | none => rw [q1] at q; cases q
  | some xs =>
    rw [q1] at q; simp only [Option.bind_some] at q
    obtain ⟨gk, k1, k2⟩ := hi e ρ M fp R C xs q1
    obtain ⟨f2, k3, k4⟩ := EnvR.keep_rel kl R
    obtain ⟨fl, ρ', l1, l2⟩ := for_Q (gk := gk) (ds0 := xs.map Enc.enc) (fun k z => (k2 k z).1) C hg hb xs _ _ f2 k3 o q
    refine ⟨fl, ρ', ?_, l2.mono k4⟩
    unfold sForK
    rw [k1]
    exact l1
/-! ### defs -/
def IniQ (ini : A → E) (np m : Nat) : Prop := ∀ (a : A) ds M fa, ArgO.arg a ds M fa → ds.length = np ∧ EnvR.rel (ini a) (ds.map some ++ List.replicate m none) M fa
theorem inq_u {e0 : E} {m : Nat} (h : ∀ M, EnvR.rel e0 (List.replicate m none) M fun _ => False) : IniQ (A := Unit) (fun _ => e0) 0 m := fun a ds M fa ha => by
  obtain ⟨rfl, h1⟩ := ha
  have : fa = fun _ => False := funext fun j => propext ⟨h1 j, False.elim⟩
  subst this
  exact ⟨rfl, h M⟩
theorem inq_v {ini : A → E} {np m : Nat} (h : IniQ ini np m) : IniQ (A := α × A) (E := Option α × E) (fun a => (some a.1, ini a.2)) (np + 1) m := fun a ds M fa ha => by
  obtain ⟨ds', rfl, h2⟩ := ha
  obtain ⟨h3, h4⟩ := h a.2 ds' M fa h2
  exact ⟨by simp [h3], _, _, fun _ => False, fa, rfl, rel_val, h4, fun _ z => z.elim, fun j => ⟨.inr, fun z => z.elim False.elim id⟩⟩
theorem inq_o {ini : A → E} {np m : Nat} (h : IniQ ini np m) : IniQ (A := Wo σ × A) (E := Oj σ × E) (fun a => (.own a.1.s, ini a.2)) (np + 1) m := fun a ds M fa ha => by
  obtain ⟨k, ds', f1, f2, rfl, h1, h2, h3, h4⟩ := ha
  obtain ⟨h5, h6⟩ := h a.2 ds' M f2 h2
  exact ⟨by simp [h5], _, _, f1, f2, rfl, ⟨k, rfl, h1⟩, h6, h3, h4⟩
theorem fn_Qr {init : A → E} {nx : Option β} {np m : Nat} {body : E → Option (Fw β E)} {f : Sf} (hi : IniQ init np m) (hb : SQ RQ body f) (hn : ∀ b, nx = some b → RQ b (.val .non)) {a : A} {b : β} (q : fnT init nx body a = some b) {M : Mem} {ds : List D} {fa : Fp} (ha : ArgO.arg a ds M fa) (C : Cl M) :
    ∃ r, mkFnK np (np + m) f ds M = some (r, M) ∧ RQ b r := by
  unfold fnT at q
  obtain ⟨o, q1, q⟩ := bx q
  obtain ⟨hl, R⟩ := hi a ds M fa ha
  obtain ⟨fl, ρ', k1, k4⟩ := hb _ _ M fa R C o q1
  have em : np + m - ds.length = m := by omega
  cases o with
  | rt b' =>
    cases q
    obtain ⟨r, rfl, k5⟩ := k4
    exact ⟨r, by rw [knOut, if_pos hl, em, k1]; simp, k5⟩
  | nx e' =>
    obtain ⟨rfl, _⟩ := k4
    exact ⟨.val .non, by rw [knOut, if_pos hl, em, k1]; simp, hn b q⟩
  | bk e' => cases q
  | ct e' => cases q
theorem fn_P {init : A → E} {nx : Option β} {np m : Nat} {body : E → Option (Fw β E)} {f : Sf} (hi : IniQ init np m) (hb : SQ qV body f) (hn : ∀ b, nx = some b → Enc.enc b = .non) : FnP (mkFnK np (np + m) f) (fnT init nx body) :=
  fun a b q M ds fa ha C => fn_Qr hi hb (fun b z => (hn b z).symm) q ha C
/-! ### calls -/
omit [EnvR E] [Enc β] [ArgO A S] in
@[simp] def tCallP (T : A → Option β) (g : E → E → Option (A × E)) : E → Option β := fun e => (g e e).bind fun p => T p.1
theorem t_callP {F : Fn} {T : A → Option β} {g : E → E → Option (A × E)} {up : E → S → Option E} {f : Af} (h : FnP F T) (ha : AQ g up f) : EP (tCallP T g) (cCall F f) := fun e ρ M fp R C v q => by
  unfold tCallP at q
  obtain ⟨⟨a, e1⟩, q1, q⟩ := bx q
  obtain ⟨ds, f1, fa, k1, k2, k3, _⟩ := ha e fp e ρ M fp R R C a e1 q1
  obtain ⟨r, l1, l2⟩ := h a v q M ds fa k3 C
  exact ⟨r, by unfold cCall; rw [k1]; exact l1, l2⟩
end
end TL

/-! T42: sorted of a tuple of numbers -/
namespace TL
open PySem PySem.Spec PyProof.Rows L2 CI
end TL

/-! T43: in of a list of data; second names in defs that only read -/
namespace TL
open PySem PySem.Spec PyProof.Rows L2 CI
section
variable {α : Type} [DecidableEq α] [Enc α] [EncEq α]
@[simp] def ninLD (x : α) (xs : List α) : Option Bool := if (EncEq.okE x && xs.all EncEq.okE) = true then some (!decide (x ∈ xs)) else none
theorem inL_den {neg : Bool} {fp : Fp} {M : Mem} {d d0 e : D} (h : DenF fp M d d0) : oInL neg d e M = oInL neg d0 e M := by
  rcases h with h | ⟨k, ds, rfl, rfl, h, _⟩
  · rw [h]
  · have e1 : py M (.loc k) = py M (.lst ds) := by
      show (match M[k]? with | some (.lst ds) => (py0s ds).map PyData.list | _ => none) = py0 (.lst ds)
      rw [h, py0]
    unfold oInL
    rw [e1]
theorem inLL_T {neg : Bool} {fp : Fp} {M : Mem} {d1 d2 : D} {x : α} {xs : List α} (hl : EncEq.lv α ≤ 63) (h1 : DenF fp M d1 (Enc.enc x)) (h2 : DenF fp M d2 (Enc.enc xs)) (h : (EncEq.okE x && xs.all EncEq.okE) = true) :
    oInL neg d1 d2 M = some (.val (.bl (if neg = true then !decide (x ∈ xs) else decide (x ∈ xs)))) := by
  rw [Bool.and_eq_true] at h
  have e2 : d2 = .lst (xs.map Enc.enc) ∨ ∃ k, d2 = .loc k ∧ M[k]? = some (.lst (xs.map Enc.enc)) := by
    rcases h2 with h2 | ⟨k, ds, q1, q2, q3, _⟩
    · exact .inl h2
    · have q2 : D.lst (xs.map Enc.enc) = .lst ds := q2
      cases q2
      exact .inr ⟨k, q1, q3⟩
  rw [inL_den h1, oInL_deq e2 (n := EncEq.lv α) (m := EncEq.lv α + 1) (by omega) (by omega) (EncEq.pl x h.1) (by
    rw [plS_lst, List.all_map, List.all_eq_true]
    intro z hz
    exact EncEq.pl z (List.all_eq_true.mp h.2 z hz)), any_mem]
theorem o_ninL (hl : EncEq.lv α ≤ 63) : OpV (oInL true) (ninLD (α := α)) := fun a b c M fp d1 d2 h1 h2 q => by
  unfold ninLD at q
  split at q
  · rename_i h; cases q
    exact ⟨_, inLL_T hl h1 h2 h, rfl⟩
  · cases q
end
section
variable {E : Type} [EnvR E] {β σ : Type} [Enc β] [Rep σ] {RQ : β → Rz → Prop}
def retF : Option (Fw β E) → Option (Fw β E)
  | some (.rt b) => some (.rt b)
  | _ => none
/-- a second name for what stands at a place, up to the end of the def -/
noncomputable def tAlQ {i : Nat} (p : Pl E σ) (ln : Lens E (Oj σ) i) (g : E → Option (Fw β E)) : E → Option (Fw β E) := fun e => (p.get e).bind fun s => uni fun k => retF (g (ln.set (p.cut k e) (.at_ k s)))
theorem u_al {i : Nat} {p : Pl E σ} {f : Ef} (hp : POk p f) (ln : Lens E (Oj σ) i) [LOk ln] {g : E → Option (Fw β E)} {rest : Sf} (h : SQ RQ g rest) : SQ RQ (tAlQ p ln g) (sCons (sSet i f) rest) := fun e ρ M fp R C o q => by
  unfold tAlQ at q
  obtain ⟨s, q1, q⟩ := bx q
  obtain ⟨k, f1, k1, k2, k3, _, f0, k4, k5⟩ := hp.get R q1
  have q := uni_k q k
  obtain ⟨f2, m1, m2⟩ := lens_set ln k4 (t := .at_ k s) (d := some (.loc k)) (f2 := f1) (at_rel k2) (fun j z => (k5 j z).2)
  cases q2 : g (ln.set (p.cut k e) (.at_ k s)) with
  | none => rw [q2] at q; cases q
  | some o' =>
    rw [q2] at q
    obtain ⟨fl, ρ', l1, l4⟩ := h _ _ M f2 m1 C o' q2
    cases o' with
    | rt b =>
      cases q
      obtain ⟨r, rfl, l5⟩ := l4
      exact ⟨.rt r, ρ', by simp [sCons, sSet, k1, l1], r, rfl, l5⟩
    | nx e' => cases q
    | bk e' => cases q
    | ct e' => cases q
end
end TL

namespace K52
open PySem PySem.Spec PyProof.Rows L2 CI
noncomputable def L_z16_1 : Sf :=
    (sIf (toB (cBin oGt (cVar 3) (cInt (0))))
    (sCons (sExpr (cBM "list" oAppend (cVar 2) (aCons (cBin oMod (cCB oInt (aCons (cVar 3) aNil)) (cInt (1000))) aNil)))
    (sSet 3 (cBin oDiv (cVar 3) (cInt (1000)))))
    sNil)
noncomputable def L_z16_2 : Sf :=
    (sCons (sSet 4 (cBin oMod (cCB oInt (aCons (cBin oAdd (cBin oAdd (cBin oMulA (cVar 4) (cInt (48271))) (cBin oMulA (cVar 5) (cInt (69621)))) (cInt (7))) aNil)) (cInt (2147483647))))
    (sIf (toB (cBin oLt (cCB oLen (aCons (cVar 2) aNil)) (cVar 1)))
    (sExpr (cBM "list" oAppend (cVar 2) (aCons (cBin oMod (cCB oInt (aCons (cBin oMod (cCB oInt (aCons (cBin oAdd (cBin oMulA (cVar 4) (cInt (69621))) (cInt (5))) aNil)) (cInt (2147483629))) aNil)) (cInt (1000))) aNil)))
    sNil))
noncomputable def B_z16 : Sf :=
    (sCons (sSetM 2 (cLst aNil))
    (sCons (sSet 3 (cCB oInt (aCons (cVar 0) aNil)))
    (sCons (sIf (toB (cBin oGe (cVar 3) (cBin oPow (cInt (10)) (cInt (18)))))
    (sForK [true, true, true, true, false, false] (iRg1 (cVar 1)) (gNm 5) L_z16_1)
    sNil)
    (sCons (sSet 4 (cBin oMod (cCB oInt (aCons (cBin oAdd (cBin oMulA (cCB oInt (aCons (cVar 0) aNil)) (cInt (48271))) (cInt (11))) aNil)) (cInt (2147483647))))
    (sCons (sForK [false, true, true, false, true, false] (iRg1 (cVar 1)) (gNm 5) L_z16_2)
    (sRet (cVar 2)))))))
noncomputable def F_z16 : Fn := mkFnK 2 6 B_z16
noncomputable def B_z12 : Sf :=
    (sCons (sIf (toB (cBin oEq (cBin oMod (cCB oInt (aCons (cVar 0) aNil)) (cInt (4))) (cInt (0))))
    (sRet cNon)
    sNil)
    (sRet (cBin oIx (cLst (aCons (cInt (0)) (aCons (cInt (3)) (aCons (cInt (15)) aNil)))) (cBin oMod (cCB oInt (aCons (cVar 0) aNil)) (cInt (3))))))
noncomputable def F_z12 : Fn := mkFnK 1 1 B_z12
noncomputable def Q_z18_1 : Ef :=
    (cLc (iRg1 (cBin oMod (cCB oInt (aCons (cBin oIx (cVar 0) (cVar 1)) aNil)) (cInt (4)))) [2] (gNm 2) tYesF (cBin oMod (cCB oInt (aCons (cBin oAdd (cBin oIx (cVar 0) (cBin oAdd (cVar 1) (cInt (1)))) (cBin oMulA (cInt (31)) (cVar 2))) aNil)) (cInt (256))))
noncomputable def B_z18 : Sf :=
    (sRet (cCB oTuple (aCons Q_z18_1 aNil)))
noncomputable def F_z18 : Fn := mkFnK 2 3 B_z18
noncomputable def Q_z13_1 : Ef :=
    (cLc (iSeq (cVar 3)) [8] (gNm 8) (toB (cBin oEq (cBin oIx (cVar 8) (cInt (1))) (cVar 6))) (cVar 8))
noncomputable def L_z13_1 : Sf :=
    (sCons (sSet 5 (cCall F_z16 (aCons (cVar 4) (aCons (cInt (4)) aNil))))
    (sCons (sSet 6 (cCall F_z12 (aCons (cBin oIx (cVar 5) (cInt (0))) aNil)))
    (sCons (sSet 7 (cInt (0)))
    (sCons (sIf (toB (cBin (oIs true) (cVar 6) cNon))
    (sSet 7 (cCB oLen (aCons Q_z13_1 aNil)))
    sNil)
    (sExpr (cBM "list" oAppend (cVar 3) (aCons (cTup (aCons (cBin oAdd (cCB oLen (aCons (cVar 3) aNil)) (cInt (1))) (aCons (cVar 6) (aCons (cVar 7) (aCons (cCall F_z18 (aCons (cVar 5) (aCons (cInt (1)) aNil))) aNil))))) aNil)))))))
noncomputable def B_z13 : Sf :=
    (sCons (sSetM 3 (cLst aNil))
    (sCons (sForK [false, false, false, true, false, false, false, false, false] (iSeq (cSl (cVar 0) (sSome (cVar 1)) (sSome (cBin oAdd (cVar 1) (cVar 2))))) (gNm 4) L_z13_1)
    (sRet (cVar 3))))
noncomputable def F_z13 : Fn := mkFnK 3 9 B_z13
noncomputable def B_z4 : Sf :=
    (sCons (sFldS ["Association"] "tag" (cVar 0) (cVar 1))
    (sCons (sFldS ["Association"] "peer" (cVar 0) (cVar 2))
    (sCons (sFldS ["Association"] "paths" (cVar 0) (cCB oTuple (aCons (cVar 3) aNil)))
    (sCons (sFldS ["Association"] "given" (cVar 0) (cLst aNil))
    (sCons (sFldS ["Association"] "sent" (cVar 0) (cInt (0)))
    (sCons (sFldS ["Association"] "acked" (cVar 0) (cInt (0)))
    (sCons (sFldS ["Association"] "beyond" (cVar 0) (cLst aNil))
    (sCons (sFldS ["Association"] "up_to" (cVar 0) (cInt (0)))
    (sCons (sFldS ["Association"] "arrived" (cVar 0) (cLst aNil))
    (sCons (sFldM ["Association"] "waiting" (cVar 0) (cLst aNil))
    (sCons (sFldM ["Association"] "delivered" (cVar 0) (cLst aNil))
    (sCons (sFldS ["Association"] "serial_in" (cVar 0) (cInt (0)))
    (sCons (sFldS ["Association"] "serial_out" (cVar 0) (cInt (0)))
    (sCons (sFldS ["Association"] "serial_acked" (cVar 0) (cInt (0)))
    (sFldS ["Association"] "closing" (cVar 0) (cStr "no"))))))))))))))))
noncomputable def F_z4 : Fn := mkFnK 4 4 B_z4
noncomputable def B_z20 : Sf :=
    (sCons (sIf (toB (cBin oLt (cVar 1) (cCB oLen (aCons (cVar 0) aNil))))
    (sRet (cCB oInt (aCons (cBin oIx (cVar 0) (cVar 1)) aNil)))
    sNil)
    (sRet (cInt (0))))
noncomputable def F_z20 : Fn := mkFnK 2 2 B_z20
noncomputable def Q_z21_1 : Ef :=
    (cLc (iSeq (cVar 0)) [2] (gNm 2) (toB (cBin oEq (cBin oIx (cVar 2) (cInt (1))) (cVar 1))) (cVar 2))
noncomputable def B_z21 : Sf :=
    (sRet Q_z21_1)
noncomputable def F_z21 : Fn := mkFnK 2 3 B_z21
noncomputable def B_z23 : Sf :=
    (sCons (sIf (toB (cBin (oIs false) (cBin oIx (cVar 1) (cInt (1))) cNon))
    (sRet (cBl true))
    sNil)
    (sRet (cBin oEq (cBin oIx (cVar 1) (cInt (2))) (cCB oLen (aCons (cLend F_z21 (aCons (cFld ["Association"] "delivered" (cVar 0)) (aCons (cBin oIx (cVar 1) (cInt (1))) aNil))) aNil)))))
noncomputable def F_z23 : Fn := mkFnK 2 2 B_z23
noncomputable def L_z10_1 : Sf :=
    (sIf (toTr (cCall F_z23 (aCons (cVar 0) (aCons (cVar 1) aNil))))
    (sRet (cVar 1))
    sNil)
noncomputable def B_z10 : Sf :=
    (sCons (sForK [true, false] (iSeq (cFld ["Association"] "waiting" (cVar 0))) (gNm 1) L_z10_1)
    (sRet cNon))
noncomputable def F_z10 : Fn := mkFnK 1 2 B_z10
noncomputable def L_z7_1 : Sf :=
    (sCons (sExpr (cBM "list" oRemove (cFld ["Association"] "waiting" (cVar 0)) (aCons (cVar 1) aNil)))
    (sExpr (cBM "list" oAppend (cFld ["Association"] "delivered" (cVar 0)) (aCons (cVar 1) aNil))))
noncomputable def B_z7 : Sf :=
    (sWhileW [true, false] 100000 1 (cCall F_z10 (aCons (cVar 0) aNil)) L_z7_1)
noncomputable def F_z7 : Fn := mkFnK 1 2 B_z7
noncomputable def L_z5 : Sf :=
    (sFldS ["Association"] "up_to" (cVar 0) (cBin oAdd (cFld ["Association"] "up_to" (cVar 0)) (cInt (1))))
noncomputable def T_z5 : Tf :=
    (toB (cBin (oIn false) (cBin oAdd (cFld ["Association"] "up_to" (cVar 0)) (cInt (1))) (cVar 2)))
noncomputable def Q_z5 : Ef :=
    (cLc (iSeq (cVar 2)) [3] (gNm 3) (toB (cBin oGt (cVar 3) (cFld ["Association"] "up_to" (cVar 0)))) (cVar 3))
noncomputable def B_z9 : Sf :=
    (sCons (sSet 2 (cLst (aStar' (cFld ["Association"] "arrived" (cVar 0)) (aCons (cVar 1) aNil))))
    (sCons (sWhileK [true, false, true, false] 100000 T_z5 L_z5)
    (sFldS ["Association"] "arrived" (cVar 0) (cCB oSorted (aCons Q_z5 aNil)))))
noncomputable def F_z9 : Fn := mkFnK 2 4 B_z9
noncomputable def B_z8 : Sf :=
    (sCons (sExpr (cBM "list" oAppend (cFld ["Association"] "waiting" (cVar 0)) (aCons (cVar 1) aNil)))
    (sCons (sExpr (cCall F_z7 (aCons (cVar 0) aNil)))
    (sExpr (cCall F_z9 (aCons (cVar 0) (aCons (cBin oIx (cVar 1) (cInt (0))) aNil))))))
noncomputable def F_z8 : Fn := mkFnK 2 2 B_z8
noncomputable def L_z17_1 (F : Fn) : Sf :=
    (sIf (kNot (toTr (cCall (F) (aCons (cBin oIx (cVar 0) (cVar 2)) (aCons (cBin oIx (cVar 1) (cVar 2)) aNil)))))
    (sRet (cBl false))
    sNil)
noncomputable def B_z17 (F : Fn) : Sf :=
    (sCons (sIf (toB (cBin (oIs false) (cVar 1) cNon))
    (sRet (cBin (oIs false) (cVar 0) cNon))
    sNil)
    (sCons (sIf (toB (cBin (oIs false) (cVar 1) (cBl true)))
    (sRet (cBin (oIs false) (cVar 0) (cBl true)))
    sNil)
    (sCons (sIf (toB (cBin (oIs false) (cVar 1) (cBl false)))
    (sRet (cBin (oIs false) (cVar 0) (cBl false)))
    sNil)
    (sCons (sIf (toTr (cIsI "int" (cVar 1)))
    (sRet (cAnd (cIsI "int" (cVar 0)) (cAnd (cNot (cIsI "bool" (cVar 0))) (cBin oEq (cVar 0) (cVar 1)))))
    sNil)
    (sCons (sIf (toTr (cIsI "str" (cVar 1)))
    (sRet (cAnd (cIsI "str" (cVar 0)) (cBin oEq (cVar 0) (cVar 1))))
    sNil)
    (sCons (sIf (kAnd (toTr (cIsI "tuple" (cVar 1))) (kNot (toTr (cIsI "tuple" (cVar 0)))))
    (sRet (cBl false))
    sNil)
    (sCons (sIf (kAnd (toTr (cIsI "list" (cVar 1))) (kNot (toTr (cIsI "list" (cVar 0)))))
    (sRet (cBl false))
    sNil)
    (sCons (sIf (toB (cBin oNe (cCB oLen (aCons (cVar 0) aNil)) (cCB oLen (aCons (cVar 1) aNil))))
    (sRet (cBl false))
    sNil)
    (sCons (sForK [true, true, false] (iRg1 (cCB oLen (aCons (cVar 1) aNil))) (gNm 2) (L_z17_1 F))
    (sRet (cBl true)))))))))))
noncomputable def F_z17 : Nat → Fn
  | 0 => fun _ _ => none
  | n + 1 => mkFnK 2 3 (B_z17 (F_z17 n))
noncomputable def B_z24 : Sf :=
    (sCons (sIf (kOr (toB (cBin oLe (cVar 1) (cFld ["Association"] "up_to" (cVar 0)))) (toB (cBin oGt (cVar 1) (cBin oAdd (cFld ["Association"] "up_to" (cVar 0)) (cVar 2)))))
    (sRet (cBl false))
    sNil)
    (sRet (cBin (oIn true) (cVar 1) (cFld ["Association"] "arrived" (cVar 0)))))
noncomputable def F_z24 : Fn := mkFnK 3 3 B_z24
noncomputable def L_z15_1 : Sf :=
    (sIf (toB (cBin oEq (cBin oIx (cVar 5) (cInt (1))) (cVar 2)))
    (sCons (sSet 4 (cAnd (cVar 4) (cBin (oIn false) (cBin oIx (cVar 5) (cInt (0))) (cVar 1))))
    (sIf (toTr (cVar 4))
    (sExpr (cBM "list" oAppend (cVar 3) (aCons (cVar 5) aNil)))
    sNil))
    sNil)
noncomputable def B_z15 : Sf :=
    (sCons (sSetM 3 (cLst aNil))
    (sCons (sSet 4 (cBl true))
    (sCons (sForK [false, true, true, true, true, false] (iSeq (cVar 0)) (gNm 5) L_z15_1)
    (sRet (cVar 3)))))
noncomputable def F_z15 : Fn := mkFnK 3 6 B_z15
noncomputable def Q_z19_1 : Ef :=
    (cLc (iSeq (cFld ["Association"] "delivered" (cVar 0))) [10] (gNm 10) (toB (cBin oEq (cBin oIx (cVar 10) (cInt (1))) (cVar 4))) (cVar 10))
noncomputable def L_z19_1 : Sf :=
    (sCons (sSet 8 (cLend F_z15 (aCons (cVar 1) (aCons (cVar 2) (aCons (cVar 4) aNil)))))
    (sCons (sSet 3 (cBin oAdd (cVar 3) (cCB oLen (aCons (cVar 8) aNil))))
    (sIf (kNot (toTr (cCall (F_z17 8) (aCons Q_z19_1 (aCons (cVar 8) aNil)))))
    (sRet (cBl false))
    sNil)))
noncomputable def Q_z19_2 : Ef :=
    (cLc (iSeq (cVar 2)) [9] (gNm 9) (toB (cBin (oIs false) (cBin oIx (cBin oIx (cVar 1) (cBin oSub (cVar 9) (cInt (1)))) (cInt (1))) cNon)) (cBin oIx (cVar 1) (cBin oSub (cVar 9) (cInt (1)))))
noncomputable def Q_z19_3 : Ef :=
    (cLc (iSeq (cFld ["Association"] "delivered" (cVar 0))) [10] (gNm 10) (toB (cBin (oIs false) (cBin oIx (cVar 10) (cInt (1))) cNon)) (cVar 10))
noncomputable def Q_z19_4 : Ef :=
    (cLc (iSeq (cVar 2)) [9] (gNm 9) (toB (cBin (oInL true) (cBin oIx (cVar 1) (cBin oSub (cVar 9) (cInt (1)))) (cVar 6))) (cBin oIx (cVar 1) (cBin oSub (cVar 9) (cInt (1)))))
noncomputable def B_z19 : Sf :=
    (sCons (sSet 3 (cInt (0)))
    (sCons (sForK [true, true, true, true, false, false, false, false, false, false, false] (iSeq (cLst (aCons (cInt (0)) (aCons (cInt (3)) (aCons (cInt (15)) aNil))))) (gNm 4) L_z19_1)
    (sCons (sSet 5 Q_z19_2)
    (sCons (sIf (kNot (toTr (cCall (F_z17 8) (aCons Q_z19_3 (aCons (cVar 5) aNil)))))
    (sRet (cBl false))
    sNil)
    (sCons (sSet 6 (cFld ["Association"] "delivered" (cVar 0)))
    (sCons (sSet 7 Q_z19_4)
    (sRet (cAnd (cBin oEq (cCB oLen (aCons (cVar 6) aNil)) (cBin oAdd (cVar 3) (cCB oLen (aCons (cVar 5) aNil)))) (cLend (F_z17 8) (aCons (cFld ["Association"] "waiting" (cVar 0)) (aCons (cVar 7) aNil)))))))))))
noncomputable def F_z19 : Fn := mkFnK 3 11 B_z19
noncomputable def Q_law_1 : Ef :=
    (cLc (iSeq (cVar 2)) [10] (gNm 10) tYesF (cBin oIx (cVar 10) (cInt (0))))
noncomputable def L_law_1 : Sf :=
    (sCons (sSet 8 (cBin oMod (cCB oInt (aCons (cBin oIx (cVar 1) (cVar 4)) aNil)) (cCB oLen (aCons (cVar 3) aNil))))
    (sCons (sIf (toB (cBin oGt (cBin oMod (cCB oInt (aCons (cBin oIx (cVar 1) (cInt (39))) aNil)) (cInt (3))) (cInt (0))))
    (sSet 8 (cCB oMin2 (aCons (cBin oSub (cCB oLen (aCons (cVar 3) aNil)) (cInt (1))) (aCons (cBin oAdd (cVar 4) (cBin oMod (cCB oInt (aCons (cBin oIx (cVar 1) (cVar 4)) aNil)) (cInt (4)))) aNil))))
    sNil)
    (sAsg (gTp 2 (gsCons (gIx (cVar 3) (cVar 4)) (gsCons (gIx (cVar 3) (cVar 8)) gsNil))) (cTup (aCons (cBin oIx (cVar 3) (cVar 8)) (aCons (cBin oIx (cVar 3) (cVar 4)) aNil))))))
noncomputable def Q_law_2 : Ef :=
    (cLc (iSeq (cVar 6)) [14] (gNm 14) (toB (cBin oLe (cVar 14) (cVar 4))) (cVar 14))
noncomputable def Q_law_3 : Ef :=
    (cLc (iRg2 (cInt (1)) (cInt (32))) [4] (gNm 4) (toB (cBin oEq (cCB oLen (aCons Q_law_2 aNil)) (cVar 4))) (cVar 4))
noncomputable def L_law_2 : Sf :=
    (sCons (sSet 13 (cAnd (cBin (oIn true) (cVar 9) (cVar 6)) (cAnd (cBin oGt (cVar 9) (cVar 11)) (cBin oLe (cVar 9) (cBin oAdd (cVar 11) (cVar 12))))))
    (sIf (kNot (toTr (cCall (F_z17 8) (aCons (cCall F_z24 (aCons (cVar 5) (aCons (cVar 9) (aCons (cVar 12) aNil)))) (aCons (cVar 13) aNil)))))
    (sRet (cBl false))
    sNil))
noncomputable def L_law_3 : Sf :=
    (sCons (sSet 11 (cCB oLen (aCons Q_law_3 aNil)))
    (sForK [false, false, true, false, false, true, true, false, false, true, false, true, false, false, false] (iSeq (cLst (aCons (cInt (1)) (aCons (cInt (5)) aNil)))) (gNm 12) L_law_2))
noncomputable def L_law_4 : Sf :=
    (sCons (sIf (kNot (toTr (cCall (F_z17 8) (aCons (cCall F_z24 (aCons (cVar 5) (aCons (cVar 7) (aCons (cInt (30)) aNil)))) (aCons (cBl true) aNil)))))
    (sRet (cBl false))
    sNil)
    (sCons (sExpr (cCall F_z8 (aCons (cVar 5) (aCons (cBin oIx (cVar 2) (cBin oSub (cVar 7) (cInt (1)))) aNil))))
    (sCons (sExpr (cBM "list" oAppend (cVar 6) (aCons (cVar 7) aNil)))
    (sCons (sIf (kOr (kNot (toTr (cCall F_z19 (aCons (cVar 5) (aCons (cVar 2) (aCons (cVar 6) aNil)))))) (kNot (toTr (cCall (F_z17 8) (aCons (cCall F_z24 (aCons (cVar 5) (aCons (cVar 7) (aCons (cInt (30)) aNil)))) (aCons (cBl false) aNil))))))
    (sRet (cBl false))
    sNil)
    (sForK [false, false, true, false, false, true, true, false, false, false, false, false, false, false, false] (iRg2 (cInt (1)) (cBin oAdd (cCB oLen (aCons (cVar 2) aNil)) (cInt (1)))) (gNm 9) L_law_3)))))
noncomputable def B_law : Sf :=
    (sCons (sSet 1 (cCall F_z16 (aCons (cCall F_z20 (aCons (cVar 0) (aCons (cInt (0)) aNil))) (aCons (cInt (40)) aNil))))
    (sCons (sSet 2 (cCall F_z13 (aCons (cVar 0) (aCons (cInt (2)) (aCons (cInt (30)) aNil)))))
    (sCons (sSetM 3 Q_law_1)
    (sCons (sForK [false, true, true, true, false, false, false, false, false, false, false, false, false, false, false] (iRg1 (cCB oLen (aCons (cVar 3) aNil))) (gNm 4) L_law_1)
    (sCons (sSet 5 (cNew "Association" F_z4 (aCons (cInt (1)) (aCons (cInt (2)) (aCons (cLst (aCons (cInt (3)) aNil)) aNil)))))
    (sCons (sSetM 6 (cLst aNil))
    (sCons (sForK [false, false, true, false, false, true, true, false, false, false, false, false, false, false, false] (iSeq (cVar 3)) (gNm 7) L_law_4)
    (sRet (cBl true)))))))))
noncomputable def F_law : Fn := mkFnK 1 15 B_law
end K52
namespace K52
open PySem PySem.Spec PyProof.Rows L2 CI TL
theorem at_same {α : Type} (l : List α) (n : Nat) (h : n < l.length) : L2.atI l (n : Int) = some l[n] := by
  rw [at_nat (by omega)]
  simp [h]
/-! _law_same: of two alike it is told that they are -/
theorem gdDs_mem {n : Nat} : ∀ {ds : List D} {d : D}, gdDs n ds = true → d ∈ ds → gdD n d = true
  | c :: ds, d, h, hm => by
    unfold gdDs at h
    rw [Bool.and_eq_true] at h
    rcases List.mem_cons.mp hm with e | e
    · rw [e]; exact h.1
    · exact gdDs_mem h.2 e
theorem same_ds {kl : List Bool} {ds ds' : List D} {g : Gf} {body : Sf} : stpK kl none ds g body = stpK kl none ds' g body := by
  funext d ρ M
  unfold stpK
  simp only [guard_none]
theorem same_loop (n : Nat) (d : D) (ds : List D) (M : Mem) (has : ∀ k : Nat, ∀ h : k < ds.length, oIx d (.int (k : Int)) M = some (.val ds[k])) (ih : ∀ d ∈ ds, F_z17 n [d, d] M = some (.val (.bl true), M)) :
    ∃ ρ', loopF (stpK [true, true, false] none (rgD 0 ds.length) (gNm 2) (L_z17_1 (F_z17 n))) (rgD 0 ds.length) [some d, some d, none] M = some (.nx, ρ', M) := by
  obtain ⟨ρ', M', e1, rfl, rfl⟩ := loop_rg (step := stpK [true, true, false] none (rgD 0 ds.length) (gNm 2) (L_z17_1 (F_z17 n))) (lo := 0) (n := ds.length) (ρ := [some d, some d, none]) (M := M)
    (fun i ρ M' => ρ = [some d, some d, none] ∧ M' = M) ⟨rfl, rfl⟩ (fun i ρ M' hi ⟨h1, h2⟩ => by
      subst h1 h2
      have hx := has i hi
      have hs := ih ds[i] (List.getElem_mem hi)
      rw [same_ds (ds' := [])]
      generalize ds[i] = x at *
      generalize F_z17 n = F at *
      refine ⟨.nx, [some d, some d, none], M', ?_, .inl rfl, rfl, rfl⟩
      unfold L_z17_1
      simp -implicitDefEqProofs [-oIx_lst, hx, hs])
  exact ⟨_, e1⟩
theorem same_d : ∀ (n : Nat) (d : D) (M : Mem), gdD n d = true → F_z17 (n + 1) [d, d] M = some (.val (.bl true), M)
  | n, .int i, M, _ => by
    unfold F_z17
    rw [mkFnK_eq]
    unfold B_z17
    simp -implicitDefEqProofs
  | n, .bl b, M, _ => by
    unfold F_z17
    rw [mkFnK_eq]
    unfold B_z17
    cases b <;> simp -implicitDefEqProofs
  | n, .non, M, _ => by
    unfold F_z17
    rw [mkFnK_eq]
    unfold B_z17
    simp -implicitDefEqProofs
  | n, .str x, M, _ => by
    unfold F_z17
    rw [mkFnK_eq]
    unfold B_z17
    simp -implicitDefEqProofs
  | n + 1, .tup ds, M, h => by
    unfold gdD at h
    rw [Bool.and_eq_true] at h
    have hl : ds.length ≤ 10000 := of_decide_eq_true h.2
    obtain ⟨ρ', lp⟩ := same_loop (n + 1) (.tup ds) ds M (fun k hk => by
      unfold oIx
      simp only [asS, Option.bind_some]
      rw [at_same ds k hk]; rfl) fun d hd => same_d n d M (gdDs_mem h.1 hd)
    have rb : rgB (ds.length : Int) = true := rgB_nat (by omega)
    have as : ∀ M, asS M (.tup ds) = some ds := fun _ => rfl
    unfold F_z17
    rw [mkFnK_eq]
    unfold B_z17
    simp -implicitDefEqProofs [lp, rb, as]
  | n + 1, .lst ds, M, h => by
    unfold gdD at h
    rw [Bool.and_eq_true] at h
    have hl : ds.length ≤ 10000 := of_decide_eq_true h.2
    obtain ⟨ρ', lp⟩ := same_loop (n + 1) (.lst ds) ds M (fun k hk => by
      unfold oIx
      show ((some ds).bind fun es => (L2.atI es (k : Int)).bind fun x => some (Rz.val x)) = _
      simp only [Option.bind_some]
      rw [at_same ds k hk]; rfl) fun d hd => same_d n d M (gdDs_mem h.1 hd)
    have rb : rgB (ds.length : Int) = true := rgB_nat (by omega)
    have as : ∀ M, asS M (.lst ds) = some ds := fun _ => rfl
    unfold F_z17
    rw [mkFnK_eq]
    unfold B_z17
    simp -implicitDefEqProofs [lp, rb, as]
  | 0, .tup ds, M, h => by simp [gdD] at h
  | 0, .lst ds, M, h => by simp [gdD] at h
  | 0, .scr ds, M, h => by simp [gdD] at h
  | _ + 1, .scr ds, M, h => by simp [gdD] at h
  | 0, .loc ds, M, h => by simp [gdD] at h
  | _ + 1, .loc ds, M, h => by simp [gdD] at h
theorem tok_z17 {α : Type} [Enc α] : FnT (F_z17 8) (sameT (α := α)) := sameT_ok fun d M h => same_d 7 d M h

end K52
set_option synthInstance.maxHeartbeats 0
set_option synthInstance.maxSize 100000
namespace K52
open PySem PySem.Spec PyProof.Rows L2 CI TL
abbrev NS_Association : List Str := ["tag", "peer", "paths", "given", "sent", "acked", "beyond", "up_to", "arrived", "waiting", "delivered", "serial_in", "serial_out", "serial_acked", "closing"]
theorem nd_Association : NS_Association.Nodup := by decide +kernel
abbrev FE_Association : Type := Option Int × Option Int × Option (Tu Int) × Option (List (P4 Int (Option Int) Int (Tu Int))) × Option Int × Option Int × Option (List Int) × Option Int × Option (List Int) × Oj (LS (P4 Int (Option Int) Int (Tu Int))) × Oj (LS (P4 Int (Option Int) Int (Tu Int))) × Option Int × Option Int × Option Int × Option Str × Unit
abbrev CS_Association : Type := Ins "Association" NS_Association FE_Association
def lf_Association_0 : Lens FE_Association (Option Int) 0 := Lens.hd
instance : LOk lf_Association_0 := inferInstanceAs (LOk (Lens.hd : Lens FE_Association (Option Int) 0))
def lf_Association_1 : Lens FE_Association (Option Int) 1 := (Lens.tl Lens.hd)
instance : LOk lf_Association_1 := inferInstanceAs (LOk ((Lens.tl Lens.hd) : Lens FE_Association (Option Int) 1))
def lf_Association_2 : Lens FE_Association (Option (Tu Int)) 2 := (Lens.tl (Lens.tl Lens.hd))
instance : LOk lf_Association_2 := inferInstanceAs (LOk ((Lens.tl (Lens.tl Lens.hd)) : Lens FE_Association (Option (Tu Int)) 2))
def lf_Association_3 : Lens FE_Association (Option (List (P4 Int (Option Int) Int (Tu Int)))) 3 := (Lens.tl (Lens.tl (Lens.tl Lens.hd)))
instance : LOk lf_Association_3 := inferInstanceAs (LOk ((Lens.tl (Lens.tl (Lens.tl Lens.hd))) : Lens FE_Association (Option (List (P4 Int (Option Int) Int (Tu Int)))) 3))
def lf_Association_4 : Lens FE_Association (Option Int) 4 := (Lens.tl (Lens.tl (Lens.tl (Lens.tl Lens.hd))))
instance : LOk lf_Association_4 := inferInstanceAs (LOk ((Lens.tl (Lens.tl (Lens.tl (Lens.tl Lens.hd)))) : Lens FE_Association (Option Int) 4))
def lf_Association_5 : Lens FE_Association (Option Int) 5 := (Lens.tl (Lens.tl (Lens.tl (Lens.tl (Lens.tl Lens.hd)))))
instance : LOk lf_Association_5 := inferInstanceAs (LOk ((Lens.tl (Lens.tl (Lens.tl (Lens.tl (Lens.tl Lens.hd))))) : Lens FE_Association (Option Int) 5))
def lf_Association_6 : Lens FE_Association (Option (List Int)) 6 := (Lens.tl (Lens.tl (Lens.tl (Lens.tl (Lens.tl (Lens.tl Lens.hd))))))
instance : LOk lf_Association_6 := inferInstanceAs (LOk ((Lens.tl (Lens.tl (Lens.tl (Lens.tl (Lens.tl (Lens.tl Lens.hd)))))) : Lens FE_Association (Option (List Int)) 6))
def lf_Association_7 : Lens FE_Association (Option Int) 7 := (Lens.tl (Lens.tl (Lens.tl (Lens.tl (Lens.tl (Lens.tl (Lens.tl Lens.hd)))))))
instance : LOk lf_Association_7 := inferInstanceAs (LOk ((Lens.tl (Lens.tl (Lens.tl (Lens.tl (Lens.tl (Lens.tl (Lens.tl Lens.hd))))))) : Lens FE_Association (Option Int) 7))
def lf_Association_8 : Lens FE_Association (Option (List Int)) 8 := (Lens.tl (Lens.tl (Lens.tl (Lens.tl (Lens.tl (Lens.tl (Lens.tl (Lens.tl Lens.hd))))))))
instance : LOk lf_Association_8 := inferInstanceAs (LOk ((Lens.tl (Lens.tl (Lens.tl (Lens.tl (Lens.tl (Lens.tl (Lens.tl (Lens.tl Lens.hd)))))))) : Lens FE_Association (Option (List Int)) 8))
def lf_Association_9 : Lens FE_Association (Oj (LS (P4 Int (Option Int) Int (Tu Int)))) 9 := (Lens.tl (Lens.tl (Lens.tl (Lens.tl (Lens.tl (Lens.tl (Lens.tl (Lens.tl (Lens.tl Lens.hd)))))))))
instance : LOk lf_Association_9 := inferInstanceAs (LOk ((Lens.tl (Lens.tl (Lens.tl (Lens.tl (Lens.tl (Lens.tl (Lens.tl (Lens.tl (Lens.tl Lens.hd))))))))) : Lens FE_Association (Oj (LS (P4 Int (Option Int) Int (Tu Int)))) 9))
def lf_Association_10 : Lens FE_Association (Oj (LS (P4 Int (Option Int) Int (Tu Int)))) 10 := (Lens.tl (Lens.tl (Lens.tl (Lens.tl (Lens.tl (Lens.tl (Lens.tl (Lens.tl (Lens.tl (Lens.tl Lens.hd))))))))))
instance : LOk lf_Association_10 := inferInstanceAs (LOk ((Lens.tl (Lens.tl (Lens.tl (Lens.tl (Lens.tl (Lens.tl (Lens.tl (Lens.tl (Lens.tl (Lens.tl Lens.hd)))))))))) : Lens FE_Association (Oj (LS (P4 Int (Option Int) Int (Tu Int)))) 10))
def lf_Association_11 : Lens FE_Association (Option Int) 11 := (Lens.tl (Lens.tl (Lens.tl (Lens.tl (Lens.tl (Lens.tl (Lens.tl (Lens.tl (Lens.tl (Lens.tl (Lens.tl Lens.hd)))))))))))
instance : LOk lf_Association_11 := inferInstanceAs (LOk ((Lens.tl (Lens.tl (Lens.tl (Lens.tl (Lens.tl (Lens.tl (Lens.tl (Lens.tl (Lens.tl (Lens.tl (Lens.tl Lens.hd))))))))))) : Lens FE_Association (Option Int) 11))
def lf_Association_12 : Lens FE_Association (Option Int) 12 := (Lens.tl (Lens.tl (Lens.tl (Lens.tl (Lens.tl (Lens.tl (Lens.tl (Lens.tl (Lens.tl (Lens.tl (Lens.tl (Lens.tl Lens.hd))))))))))))
instance : LOk lf_Association_12 := inferInstanceAs (LOk ((Lens.tl (Lens.tl (Lens.tl (Lens.tl (Lens.tl (Lens.tl (Lens.tl (Lens.tl (Lens.tl (Lens.tl (Lens.tl (Lens.tl Lens.hd)))))))))))) : Lens FE_Association (Option Int) 12))
def lf_Association_13 : Lens FE_Association (Option Int) 13 := (Lens.tl (Lens.tl (Lens.tl (Lens.tl (Lens.tl (Lens.tl (Lens.tl (Lens.tl (Lens.tl (Lens.tl (Lens.tl (Lens.tl (Lens.tl Lens.hd)))))))))))))
instance : LOk lf_Association_13 := inferInstanceAs (LOk ((Lens.tl (Lens.tl (Lens.tl (Lens.tl (Lens.tl (Lens.tl (Lens.tl (Lens.tl (Lens.tl (Lens.tl (Lens.tl (Lens.tl (Lens.tl Lens.hd))))))))))))) : Lens FE_Association (Option Int) 13))
def lf_Association_14 : Lens FE_Association (Option Str) 14 := (Lens.tl (Lens.tl (Lens.tl (Lens.tl (Lens.tl (Lens.tl (Lens.tl (Lens.tl (Lens.tl (Lens.tl (Lens.tl (Lens.tl (Lens.tl (Lens.tl Lens.hd))))))))))))))
instance : LOk lf_Association_14 := inferInstanceAs (LOk ((Lens.tl (Lens.tl (Lens.tl (Lens.tl (Lens.tl (Lens.tl (Lens.tl (Lens.tl (Lens.tl (Lens.tl (Lens.tl (Lens.tl (Lens.tl (Lens.tl Lens.hd)))))))))))))) : Lens FE_Association (Option Str) 14))
abbrev emp_Association : FE_Association := (none, none, none, none, none, none, none, none, none, .no, .no, none, none, none, none, ())
theorem emp_rel_Association : ∀ M, EnvR.rel emp_Association (flds NS_Association []) M fun _ => False := fun M => (rel_cons rel_none (rel_cons rel_none (rel_cons rel_none (rel_cons rel_none (rel_cons rel_none (rel_cons rel_none (rel_cons rel_none (rel_cons rel_none (rel_cons rel_none (rel_cons rel_ojn (rel_cons rel_ojn (rel_cons rel_none (rel_cons rel_none (rel_cons rel_none (rel_cons rel_none rel_nil)))))))))))))))
abbrev E_z16 : Type := Option Int × Option Int × Ob (LS Int) × Option Int × Option Int × Option Int × Unit
abbrev n_z16_0 : Lens E_z16 (Option Int) 0 := Lens.hd
abbrev n_z16_1 : Lens E_z16 (Option Int) 1 := (Lens.tl Lens.hd)
abbrev n_z16_2 : Lens E_z16 (Ob (LS Int)) 2 := (Lens.tl (Lens.tl Lens.hd))
abbrev n_z16_3 : Lens E_z16 (Option Int) 3 := (Lens.tl (Lens.tl (Lens.tl Lens.hd)))
abbrev n_z16_4 : Lens E_z16 (Option Int) 4 := (Lens.tl (Lens.tl (Lens.tl (Lens.tl Lens.hd))))
abbrev n_z16_5 : Lens E_z16 (Option Int) 5 := (Lens.tl (Lens.tl (Lens.tl (Lens.tl (Lens.tl Lens.hd)))))
abbrev k_z16_1 : E_z16 → E_z16 := (kpT (kpT (kpT (kpT (kpF none (kpF none kpU))))))
abbrev k_z16_2 : E_z16 → E_z16 := (kpF none (kpT (kpT (kpF none (kpT (kpF none kpU))))))
noncomputable def tL_z16_1 : E_z16 → Option (Fw (List Int) E_z16) :=
    (tIfS (tB gtI (tV n_z16_3) (tK (0 : Int)))
    (tSeq (tApp n_z16_2 (tB modI (t1 intI (tV n_z16_3)) (tK (1000 : Int))))
    (tSet n_z16_3 (tB divI (tV n_z16_3) (tK (1000 : Int)))))
    tNil)
theorem oL_z16_1 : SP (β := (List Int)) (rt .n) tL_z16_1 L_z16_1 := by unfold tL_z16_1 L_z16_1; exact (s_if (p_B ((t_bin o_gt ((t_var n_z16_3)).v ((t_val (v := (0 : Int)) rfl)).v)).v)
    (s_cons (s_app n_z16_2 (t_bin o_mod ((t_cb1 o_intI ((t_var n_z16_3)).v)).v ((t_val (v := (1000 : Int)) rfl)).v))
    (s_set n_z16_3 (t_bin o_div ((t_var n_z16_3)).v ((t_val (v := (1000 : Int)) rfl)).v)))
    s_nil)
noncomputable def tL_z16_2 : E_z16 → Option (Fw (List Int) E_z16) :=
    (tSeq (tSet n_z16_4 (tB modI (t1 intI (tB addI (tB addI (tB mulI (tV n_z16_4) (tK (48271 : Int))) (tB mulI (tV n_z16_5) (tK (69621 : Int)))) (tK (7 : Int)))) (tK (2147483647 : Int))))
    (tIfS (tB ltI (t1 lenT (tL n_z16_2)) (tV n_z16_1))
    (tApp n_z16_2 (tB modI (t1 intI (tB modI (t1 intI (tB addI (tB mulI (tV n_z16_4) (tK (69621 : Int))) (tK (5 : Int)))) (tK (2147483629 : Int)))) (tK (1000 : Int))))
    tNil))
theorem oL_z16_2 : SP (β := (List Int)) (rt .n) tL_z16_2 L_z16_2 := by unfold tL_z16_2 L_z16_2; exact (s_cons (s_set n_z16_4 (t_bin o_mod ((t_cb1 o_intI ((t_bin o_add ((t_bin o_add ((t_bin o_mul ((t_var n_z16_4)).v ((t_val (v := (48271 : Int)) rfl)).v)).v ((t_bin o_mul ((t_var n_z16_5)).v ((t_val (v := (69621 : Int)) rfl)).v)).v)).v ((t_val (v := (7 : Int)) rfl)).v)).v)).v ((t_val (v := (2147483647 : Int)) rfl)).v))
    (s_if (p_B ((t_bin o_lt ((t_cb1 o_len (t_loc n_z16_2))).v ((t_var n_z16_1)).v)).v)
    (s_app n_z16_2 (t_bin o_mod ((t_cb1 o_intI ((t_bin o_mod ((t_cb1 o_intI ((t_bin o_add ((t_bin o_mul ((t_var n_z16_4)).v ((t_val (v := (69621 : Int)) rfl)).v)).v ((t_val (v := (5 : Int)) rfl)).v)).v)).v ((t_val (v := (2147483629 : Int)) rfl)).v)).v)).v ((t_val (v := (1000 : Int)) rfl)).v))
    s_nil))
noncomputable def tB_z16 : E_z16 → Option (Fw (List Int) E_z16) :=
    (tSeq (tSetL n_z16_2 (tLst (lNil (α := Int))))
    (tSeq (tSet n_z16_3 (t1 intI (tV n_z16_0)))
    (tSeq (tIfS (tB geI (tV n_z16_3) (tB powI (tK (10 : Int)) (tK (18 : Int))))
    (tFor k_z16_1 (iR1 (tV n_z16_1)) (pNm n_z16_5) tL_z16_1)
    tNil)
    (tSeq (tSet n_z16_4 (tB modI (t1 intI (tB addI (tB mulI (t1 intI (tV n_z16_0)) (tK (48271 : Int))) (tK (11 : Int)))) (tK (2147483647 : Int))))
    (tSeq (tFor k_z16_2 (iR1 (tV n_z16_1)) (pNm n_z16_5) tL_z16_2)
    (tRet (tL n_z16_2)))))))
noncomputable def T_z16 : Int × Int × Unit → Option (List Int) := fnT (E := E_z16) (fun a => (some a.1, some a.2.1, ⟨none⟩, none, none, none, ())) none tB_z16
theorem tok_z16 : FnN F_z16 T_z16 := fn_N (fun a M => (rel_cons rel_val (rel_cons rel_val (rel_cons rel_obn (rel_cons rel_none (rel_cons rel_none (rel_cons rel_none rel_nil))))))) (fun _ => rfl) (by unfold tB_z16 B_z16; exact (s_cons (s_setL n_z16_2 (t_lst (l_nil (α := Int))))
    (s_cons (s_set n_z16_3 (t_cb1 o_intI ((t_var n_z16_0)).v))
    (s_cons (s_if (p_B ((t_bin o_ge ((t_var n_z16_3)).v ((t_bin o_pow ((t_val (v := (10 : Int)) rfl)).v ((t_val (v := (18 : Int)) rfl)).v)).v)).v)
    (s_for (i_rg1 ((t_var n_z16_1)).v) (g_nm n_z16_5) oL_z16_1)
    s_nil)
    (s_cons (s_set n_z16_4 (t_bin o_mod ((t_cb1 o_intI ((t_bin o_add ((t_bin o_mul ((t_cb1 o_intI ((t_var n_z16_0)).v)).v ((t_val (v := (48271 : Int)) rfl)).v)).v ((t_val (v := (11 : Int)) rfl)).v)).v)).v ((t_val (v := (2147483647 : Int)) rfl)).v))
    (s_cons (s_for (i_rg1 ((t_var n_z16_1)).v) (g_nm n_z16_5) oL_z16_2)
    (s_retL n_z16_2)))))))
abbrev E_z12 : Type := Option Int × Unit
abbrev n_z12_0 : Lens E_z12 (Option Int) 0 := Lens.hd
noncomputable def tB_z12 : E_z12 → Option (Fw (Option Int) E_z12) :=
    (tSeq (tIfS (tB eqT (tB modI (t1 intI (tV n_z12_0)) (tK (4 : Int))) (tK (0 : Int)))
    (tRet (tNone (α := Int) ()))
    tNil)
    (tRet (tB tIx (tLst (lCons (tSome (tK (0 : Int))) (lCons (tSome (tK (3 : Int))) (lCons (tSome (tK (15 : Int))) lNil)))) (tB modI (t1 intI (tV n_z12_0)) (tK (3 : Int))))))
noncomputable def T_z12 : Int × Unit → Option (Option Int) := fnT (E := E_z12) (fun a => (some a.1, ())) (some none) tB_z12
theorem tok_z12 : FnT F_z12 T_z12 := fn_T (fun a M => (rel_cons rel_val rel_nil)) (fun _ => rfl) (by unfold tB_z12 B_z12; exact (s_cons (s_if (p_B ((t_bin (o_eq (by decide)) ((t_bin o_mod ((t_cb1 o_intI ((t_var n_z12_0)).v)).v ((t_val (v := (4 : Int)) rfl)).v)).v ((t_val (v := (0 : Int)) rfl)).v)).v)
    (s_ret (t_none (α := Int)))
    s_nil)
    (s_ret (t_bin o_ix ((t_lst (l_cons (EP.some (t_val (v := (0 : Int)) rfl)) (l_cons (EP.some (t_val (v := (3 : Int)) rfl)) (l_cons (EP.some (t_val (v := (15 : Int)) rfl)) l_nil))))).v ((t_bin o_mod ((t_cb1 o_intI ((t_var n_z12_0)).v)).v ((t_val (v := (3 : Int)) rfl)).v)).v)))) (fun b h => by cases h; rfl)
abbrev E_z18 : Type := Option (List Int) × Option Int × Option Int × Unit
abbrev n_z18_0 : Lens E_z18 (Option (List Int)) 0 := Lens.hd
abbrev n_z18_1 : Lens E_z18 (Option Int) 1 := (Lens.tl Lens.hd)
abbrev n_z18_2 : Lens E_z18 (Option Int) 2 := (Lens.tl (Lens.tl Lens.hd))
noncomputable def tQ_z18_1 : E_z18 → Option (List Int) :=
    (tC (iR1 (tB modI (t1 intI (tB tIx (tV n_z18_0) (tV n_z18_1))) (tK (4 : Int)))) (wCons n_z18_2 wNil) (pNm n_z18_2) tYes (tB modI (t1 intI (tB addI (tB tIx (tV n_z18_0) (tB addI (tV n_z18_1) (tK (1 : Int)))) (tB mulI (tK (31 : Int)) (tV n_z18_2)))) (tK (256 : Int))))
theorem oQ_z18_1 : EN tQ_z18_1 Q_z18_1 := by unfold tQ_z18_1 Q_z18_1; exact (t_lc ((i_rg1 ((t_bin o_mod ((t_cb1 o_intI ((t_bin o_ix ((t_var n_z18_0)).v ((t_var n_z18_1)).v)).v)).v ((t_val (v := (4 : Int)) rfl)).v)).v)).v (w_cons n_z18_2 w_nil) (g_nm n_z18_2) p_yes (t_bin o_mod ((t_cb1 o_intI ((t_bin o_add ((t_bin o_ix ((t_var n_z18_0)).v ((t_bin o_add ((t_var n_z18_1)).v ((t_val (v := (1 : Int)) rfl)).v)).v)).v ((t_bin o_mul ((t_val (v := (31 : Int)) rfl)).v ((t_var n_z18_2)).v)).v)).v)).v ((t_val (v := (256 : Int)) rfl)).v))
noncomputable def tB_z18 : E_z18 → Option (Fw (Tu Int) E_z18) :=
    (tRet (t1 tupT tQ_z18_1))
noncomputable def T_z18 : (List Int) × Int × Unit → Option (Tu Int) := fnT (E := E_z18) (fun a => (some a.1, some a.2.1, none, ())) none tB_z18
theorem tok_z18 : FnT F_z18 T_z18 := fn_T (fun a M => (rel_cons rel_val (rel_cons rel_val (rel_cons rel_none rel_nil)))) (fun _ => rfl) (by unfold tB_z18 B_z18; exact (s_ret (t_cb1 o_tup (oQ_z18_1).v))) (fun b h => by cases h)
abbrev E_z13 : Type := Option Scr × Option Int × Option Int × Ob (LS (P4 Int (Option Int) Int (Tu Int))) × Option Int × Option (List Int) × Option (Option Int) × Option Int × Option (P4 Int (Option Int) Int (Tu Int)) × Unit
abbrev n_z13_0 : Lens E_z13 (Option Scr) 0 := Lens.hd
abbrev n_z13_1 : Lens E_z13 (Option Int) 1 := (Lens.tl Lens.hd)
abbrev n_z13_2 : Lens E_z13 (Option Int) 2 := (Lens.tl (Lens.tl Lens.hd))
abbrev n_z13_3 : Lens E_z13 (Ob (LS (P4 Int (Option Int) Int (Tu Int)))) 3 := (Lens.tl (Lens.tl (Lens.tl Lens.hd)))
abbrev n_z13_4 : Lens E_z13 (Option Int) 4 := (Lens.tl (Lens.tl (Lens.tl (Lens.tl Lens.hd))))
abbrev n_z13_5 : Lens E_z13 (Option (List Int)) 5 := (Lens.tl (Lens.tl (Lens.tl (Lens.tl (Lens.tl Lens.hd)))))
abbrev n_z13_6 : Lens E_z13 (Option (Option Int)) 6 := (Lens.tl (Lens.tl (Lens.tl (Lens.tl (Lens.tl (Lens.tl Lens.hd))))))
abbrev n_z13_7 : Lens E_z13 (Option Int) 7 := (Lens.tl (Lens.tl (Lens.tl (Lens.tl (Lens.tl (Lens.tl (Lens.tl Lens.hd)))))))
abbrev n_z13_8 : Lens E_z13 (Option (P4 Int (Option Int) Int (Tu Int))) 8 := (Lens.tl (Lens.tl (Lens.tl (Lens.tl (Lens.tl (Lens.tl (Lens.tl (Lens.tl Lens.hd))))))))
abbrev k_z13_1 : E_z13 → E_z13 := (kpF none (kpF none (kpF none (kpT (kpF none (kpF none (kpF none (kpF none (kpF none kpU)))))))))
noncomputable def tQ_z13_1 : E_z13 → Option (List (P4 Int (Option Int) Int (Tu Int))) :=
    (tC (iL (tL n_z13_3)) (wCons n_z13_8 wNil) (pNm n_z13_8) (tB eqT (tMap (fun x => x.b) (tV n_z13_8)) (tV n_z13_6)) (tV n_z13_8))
theorem oQ_z13_1 : EN tQ_z13_1 Q_z13_1 := by unfold tQ_z13_1 Q_z13_1; exact (t_lc (i_seqV (t_loc n_z13_3)) (w_cons n_z13_8 w_nil) (g_nm n_z13_8) (p_B ((t_bin (o_eq (by decide)) ((t_at (t_var n_z13_8) fun _ _ => rfl)).v ((t_var n_z13_6)).v)).v) (t_var n_z13_8))
noncomputable def tL_z13_1 : E_z13 → Option (Fw (List (P4 Int (Option Int) Int (Tu Int))) E_z13) :=
    (tSeq (tSet n_z13_5 (tCall T_z16 (pCons (tV n_z13_4) (pCons (tK (4 : Int)) pNil))))
    (tSeq (tSet n_z13_6 (tCall T_z12 (pCons (tB tIx (tV n_z13_5) (tK (0 : Int))) pNil)))
    (tSeq (tSet n_z13_7 (tK (0 : Int)))
    (tSeq (tIfS (tNotN (tV n_z13_6))
    (tSet n_z13_7 (t1 lenT tQ_z13_1))
    tNil)
    (tApp n_z13_3 (tPr mk4 (pCons (tB addI (t1 lenT (tL n_z13_3)) (tK (1 : Int))) (pCons (tV n_z13_6) (pCons (tV n_z13_7) (pCons (tCall T_z18 (pCons (tV n_z13_5) (pCons (tK (1 : Int)) pNil))) pNil))))))))))
theorem oL_z13_1 : SP (β := (List (P4 Int (Option Int) Int (Tu Int)))) (rt .n) tL_z13_1 L_z13_1 := by unfold tL_z13_1 L_z13_1; exact (s_cons (s_set n_z13_5 ((t_callN tok_z16 (p_cons (t_var n_z13_4) (p_cons (t_val (v := (4 : Int)) rfl) p_nil)))).p)
    (s_cons (s_set n_z13_6 (t_call tok_z12 (p_cons (t_bin o_ix ((t_var n_z13_5)).v ((t_val (v := (0 : Int)) rfl)).v) p_nil)))
    (s_cons (s_set n_z13_7 (t_val (v := (0 : Int)) rfl))
    (s_cons (s_if (p_B ((t_notn ((t_var n_z13_6)).v)).v)
    (s_set n_z13_7 (t_cb1 o_len (oQ_z13_1).v))
    s_nil)
    (s_app n_z13_3 (t_pr4 (p_cons (t_bin o_add ((t_cb1 o_len (t_loc n_z13_3))).v ((t_val (v := (1 : Int)) rfl)).v) (p_cons (t_var n_z13_6) (p_cons (t_var n_z13_7) (p_cons (t_call tok_z18 (p_cons (t_var n_z13_5) (p_cons (t_val (v := (1 : Int)) rfl) p_nil))) p_nil))))))))))
noncomputable def tB_z13 : E_z13 → Option (Fw (List (P4 Int (Option Int) Int (Tu Int))) E_z13) :=
    (tSeq (tSetL n_z13_3 (tLst (lNil (α := (P4 Int (Option Int) Int (Tu Int))))))
    (tSeq (tFor k_z13_1 (iL (tSlS (tV n_z13_0) (vSome (tV n_z13_1)) (vSome (tB addI (tV n_z13_1) (tV n_z13_2))))) (pNm n_z13_4) tL_z13_1)
    (tRet (tL n_z13_3))))
noncomputable def T_z13 : Scr × Int × Int × Unit → Option (List (P4 Int (Option Int) Int (Tu Int))) := fnT (E := E_z13) (fun a => (some a.1, some a.2.1, some a.2.2.1, ⟨none⟩, none, none, none, none, none, ())) none tB_z13
theorem tok_z13 : FnN F_z13 T_z13 := fn_N (fun a M => (rel_cons rel_val (rel_cons rel_val (rel_cons rel_val (rel_cons rel_obn (rel_cons rel_none (rel_cons rel_none (rel_cons rel_none (rel_cons rel_none (rel_cons rel_none rel_nil)))))))))) (fun _ => rfl) (by unfold tB_z13 B_z13; exact (s_cons (s_setL n_z13_3 (t_lst (l_nil (α := (P4 Int (Option Int) Int (Tu Int))))))
    (s_cons (s_for (i_seq ((t_slS ((t_var n_z13_0)).v (v_some ((t_var n_z13_1)).v) (v_some ((t_bin o_add ((t_var n_z13_1)).v ((t_var n_z13_2)).v)).v))).p) (g_nm n_z13_4) oL_z13_1)
    (s_retL n_z13_3))))
abbrev E_z4 : Type := Oj CS_Association × Option Int × Option Int × Option (List Int) × Unit
abbrev n_z4_0 : Lens E_z4 (Oj CS_Association) 0 := Lens.hd
abbrev n_z4_1 : Lens E_z4 (Option Int) 1 := (Lens.tl Lens.hd)
abbrev n_z4_2 : Lens E_z4 (Option Int) 2 := (Lens.tl (Lens.tl Lens.hd))
abbrev n_z4_3 : Lens E_z4 (Option (List Int)) 3 := (Lens.tl (Lens.tl (Lens.tl Lens.hd)))
noncomputable def tR_z4__14 : E_z4 → Option (Fw (Unit × E_z4) E_z4) :=
    (tFldX (pVar n_z4_0) lf_Association_14 some (tX (tK ("no" : Str))))
noncomputable def tR_z4__13 : E_z4 → Option (Fw (Unit × E_z4) E_z4) :=
    (tSeq (tFldX (pVar n_z4_0) lf_Association_13 some (tX (tK (0 : Int))))
    tR_z4__14)
noncomputable def tR_z4__12 : E_z4 → Option (Fw (Unit × E_z4) E_z4) :=
    (tSeq (tFldX (pVar n_z4_0) lf_Association_12 some (tX (tK (0 : Int))))
    tR_z4__13)
noncomputable def tR_z4__11 : E_z4 → Option (Fw (Unit × E_z4) E_z4) :=
    (tSeq (tFldX (pVar n_z4_0) lf_Association_11 some (tX (tK (0 : Int))))
    tR_z4__12)
noncomputable def tR_z4__10 : E_z4 → Option (Fw (Unit × E_z4) E_z4) :=
    (tSeq (tFldX (pVar n_z4_0) lf_Association_10 (fun xs => Hd.own ⟨xs⟩) (tX (tLst (lNil (α := (P4 Int (Option Int) Int (Tu Int)))))))
    tR_z4__11)
noncomputable def tR_z4__9 : E_z4 → Option (Fw (Unit × E_z4) E_z4) :=
    (tSeq (tFldX (pVar n_z4_0) lf_Association_9 (fun xs => Hd.own ⟨xs⟩) (tX (tLst (lNil (α := (P4 Int (Option Int) Int (Tu Int)))))))
    tR_z4__10)
noncomputable def tR_z4__8 : E_z4 → Option (Fw (Unit × E_z4) E_z4) :=
    (tSeq (tFldX (pVar n_z4_0) lf_Association_8 some (tX (tLst (lNil (α := Int)))))
    tR_z4__9)
noncomputable def tR_z4__7 : E_z4 → Option (Fw (Unit × E_z4) E_z4) :=
    (tSeq (tFldX (pVar n_z4_0) lf_Association_7 some (tX (tK (0 : Int))))
    tR_z4__8)
noncomputable def tR_z4__6 : E_z4 → Option (Fw (Unit × E_z4) E_z4) :=
    (tSeq (tFldX (pVar n_z4_0) lf_Association_6 some (tX (tLst (lNil (α := Int)))))
    tR_z4__7)
noncomputable def tR_z4__5 : E_z4 → Option (Fw (Unit × E_z4) E_z4) :=
    (tSeq (tFldX (pVar n_z4_0) lf_Association_5 some (tX (tK (0 : Int))))
    tR_z4__6)
noncomputable def tR_z4__4 : E_z4 → Option (Fw (Unit × E_z4) E_z4) :=
    (tSeq (tFldX (pVar n_z4_0) lf_Association_4 some (tX (tK (0 : Int))))
    tR_z4__5)
noncomputable def tR_z4__3 : E_z4 → Option (Fw (Unit × E_z4) E_z4) :=
    (tSeq (tFldX (pVar n_z4_0) lf_Association_3 some (tX (tLst (lNil (α := (P4 Int (Option Int) Int (Tu Int)))))))
    tR_z4__4)
noncomputable def tR_z4__2 : E_z4 → Option (Fw (Unit × E_z4) E_z4) :=
    (tSeq (tFldX (pVar n_z4_0) lf_Association_2 some (tX (t1 tupT (tV n_z4_3))))
    tR_z4__3)
noncomputable def tR_z4__1 : E_z4 → Option (Fw (Unit × E_z4) E_z4) :=
    (tSeq (tFldX (pVar n_z4_0) lf_Association_1 some (tX (tV n_z4_2)))
    tR_z4__2)
noncomputable def tB_z4 : E_z4 → Option (Fw (Unit × E_z4) E_z4) :=
    (tSeq (tFldX (pVar n_z4_0) lf_Association_0 some (tX (tV n_z4_1)))
    tR_z4__1)
noncomputable def T_z4 : Wo CS_Association × Int × Int × (List Int) × Unit → Option (Unit × (CS_Association × Unit)) := fnX (E := E_z4) (fun κ a => (.at_ (κ 0) a.1.s, some a.2.1, some a.2.2.1, some a.2.2.2.1, ())) (fun κ e => (finO (κ 0) e.1 (some ()))) (some ()) tB_z4
theorem tok_z4 : FnX rV F_z4 T_z4 := fn_X (m := 0) (by have h : IniP (A := Wo CS_Association × Int × Int × (List Int) × Unit) (E := E_z4) _ 0 _ _ := (ini_o (ini_v (ini_v (ini_v (ini_u (e0 := (())) (m := 0) fun M => rel_nil))))); exact h) (by have h : FinP (Wo CS_Association × Int × Int × (List Int) × Unit) (E := E_z4) _ 0 := (fin_o (fin_v (fin_v (fin_v fin_u)))); exact h) (by unfold tB_z4 tR_z4__1 tR_z4__2 tR_z4__3 tR_z4__4 tR_z4__5 tR_z4__6 tR_z4__7 tR_z4__8 tR_z4__9 tR_z4__10 tR_z4__11 tR_z4__12 tR_z4__13 tR_z4__14 B_z4; exact (s_cons (s_fldV (pk_var n_z4_0) lf_Association_0 rfl (.head _) nd_Association (by decide) (EP.x (t_var n_z4_1)))
    (s_cons (s_fldV (pk_var n_z4_0) lf_Association_1 rfl (.head _) nd_Association (by decide) (EP.x (t_var n_z4_2)))
    (s_cons (s_fldV (pk_var n_z4_0) lf_Association_2 rfl (.head _) nd_Association (by decide) (EP.x (t_cb1 o_tup ((t_var n_z4_3)).v)))
    (s_cons (s_fldV (pk_var n_z4_0) lf_Association_3 rfl (.head _) nd_Association (by decide) (EP.x ((t_lst (l_nil (α := (P4 Int (Option Int) Int (Tu Int)))))).p))
    (s_cons (s_fldV (pk_var n_z4_0) lf_Association_4 rfl (.head _) nd_Association (by decide) (EP.x (t_val (v := (0 : Int)) rfl)))
    (s_cons (s_fldV (pk_var n_z4_0) lf_Association_5 rfl (.head _) nd_Association (by decide) (EP.x (t_val (v := (0 : Int)) rfl)))
    (s_cons (s_fldV (pk_var n_z4_0) lf_Association_6 rfl (.head _) nd_Association (by decide) (EP.x ((t_lst (l_nil (α := Int)))).p))
    (s_cons (s_fldV (pk_var n_z4_0) lf_Association_7 rfl (.head _) nd_Association (by decide) (EP.x (t_val (v := (0 : Int)) rfl)))
    (s_cons (s_fldV (pk_var n_z4_0) lf_Association_8 rfl (.head _) nd_Association (by decide) (EP.x ((t_lst (l_nil (α := Int)))).p))
    (s_cons (s_fldO (pk_var n_z4_0) lf_Association_9 rfl (.head _) nd_Association (by decide) (EX.no (EN.xn (t_lst (l_nil (α := (P4 Int (Option Int) Int (Tu Int))))))))
    (s_cons (s_fldO (pk_var n_z4_0) lf_Association_10 rfl (.head _) nd_Association (by decide) (EX.no (EN.xn (t_lst (l_nil (α := (P4 Int (Option Int) Int (Tu Int))))))))
    (s_cons (s_fldV (pk_var n_z4_0) lf_Association_11 rfl (.head _) nd_Association (by decide) (EP.x (t_val (v := (0 : Int)) rfl)))
    (s_cons (s_fldV (pk_var n_z4_0) lf_Association_12 rfl (.head _) nd_Association (by decide) (EP.x (t_val (v := (0 : Int)) rfl)))
    (s_cons (s_fldV (pk_var n_z4_0) lf_Association_13 rfl (.head _) nd_Association (by decide) (EP.x (t_val (v := (0 : Int)) rfl)))
    (s_fldV (pk_var n_z4_0) lf_Association_14 rfl (.head _) nd_Association (by decide) (EP.x (t_val (v := ("no" : Str)) rfl)))))))))))))))))) (fun b h M fp => by cases h; rfl) fr_V
abbrev E_z20 : Type := Option Scr × Option Int × Unit
abbrev n_z20_0 : Lens E_z20 (Option Scr) 0 := Lens.hd
abbrev n_z20_1 : Lens E_z20 (Option Int) 1 := (Lens.tl Lens.hd)
noncomputable def tB_z20 : E_z20 → Option (Fw Int E_z20) :=
    (tSeq (tIfS (tB ltI (tV n_z20_1) (t1 lenT (tV n_z20_0)))
    (tRet (t1 intI (tB tIx (tV n_z20_0) (tV n_z20_1))))
    tNil)
    (tRet (tK (0 : Int))))
noncomputable def T_z20 : Scr × Int × Unit → Option Int := fnT (E := E_z20) (fun a => (some a.1, some a.2.1, ())) none tB_z20
theorem tok_z20 : FnT F_z20 T_z20 := fn_T (fun a M => (rel_cons rel_val (rel_cons rel_val rel_nil))) (fun _ => rfl) (by unfold tB_z20 B_z20; exact (s_cons (s_if (p_B ((t_bin o_lt ((t_var n_z20_1)).v ((t_cb1 o_len ((t_var n_z20_0)).v)).v)).v)
    (s_ret (t_cb1 o_intI ((t_bin o_ix ((t_var n_z20_0)).v ((t_var n_z20_1)).v)).v))
    s_nil)
    (s_ret (t_val (v := (0 : Int)) rfl)))) (fun b h => by cases h)
abbrev E_z21 : Type := Option (List (P4 Int (Option Int) Int (Tu Int))) × Option (Option Int) × Option (P4 Int (Option Int) Int (Tu Int)) × Unit
abbrev n_z21_0 : Lens E_z21 (Option (List (P4 Int (Option Int) Int (Tu Int)))) 0 := Lens.hd
abbrev n_z21_1 : Lens E_z21 (Option (Option Int)) 1 := (Lens.tl Lens.hd)
abbrev n_z21_2 : Lens E_z21 (Option (P4 Int (Option Int) Int (Tu Int))) 2 := (Lens.tl (Lens.tl Lens.hd))
noncomputable def tQ_z21_1 : E_z21 → Option (List (P4 Int (Option Int) Int (Tu Int))) :=
    (tC (iL (tV n_z21_0)) (wCons n_z21_2 wNil) (pNm n_z21_2) (tB eqT (tMap (fun x => x.b) (tV n_z21_2)) (tV n_z21_1)) (tV n_z21_2))
theorem oQ_z21_1 : EN tQ_z21_1 Q_z21_1 := by unfold tQ_z21_1 Q_z21_1; exact (t_lc ((i_seq (t_var n_z21_0))).v (w_cons n_z21_2 w_nil) (g_nm n_z21_2) (p_B ((t_bin (o_eq (by decide)) ((t_at (t_var n_z21_2) fun _ _ => rfl)).v ((t_var n_z21_1)).v)).v) (t_var n_z21_2))
noncomputable def tB_z21 : E_z21 → Option (Fw (List (P4 Int (Option Int) Int (Tu Int))) E_z21) :=
    (tRet tQ_z21_1)
noncomputable def T_z21 : (List (P4 Int (Option Int) Int (Tu Int))) × (Option Int) × Unit → Option (List (P4 Int (Option Int) Int (Tu Int))) := fnT (E := E_z21) (fun a => (some a.1, some a.2.1, none, ())) none tB_z21
theorem tok_z21 : FnN F_z21 T_z21 := fn_N (fun a M => (rel_cons rel_val (rel_cons rel_val (rel_cons rel_none rel_nil)))) (fun _ => rfl) (by unfold tB_z21 B_z21; exact (s_retN oQ_z21_1))
abbrev E_z14 : Type := Oj CS_Association × Option (P4 Int (Option Int) Int (Tu Int)) × Unit
abbrev n_z14_0 : Lens E_z14 (Oj CS_Association) 0 := Lens.hd
abbrev n_z14_1 : Lens E_z14 (Option (P4 Int (Option Int) Int (Tu Int))) 1 := (Lens.tl Lens.hd)
noncomputable def tB_z14 : E_z14 → Option (Fw Bool E_z14) :=
    (tSeq (tIfS (tIsN (tMap (fun x => x.b) (tV n_z14_1)))
    (tRet (tK true))
    tNil)
    (tRet (tB eqT (tMap (fun x => x.c) (tV n_z14_1)) (t1 lenT (tCall T_z21 (pCons (tPL (pFld (pVar n_z14_0) lf_Association_10)) (pCons (tMap (fun x => x.b) (tV n_z14_1)) pNil)))))))
noncomputable def T_z14 : Wo CS_Association × (P4 Int (Option Int) Int (Tu Int)) × Unit → Option Bool := fnT (E := E_z14) (fun a => (.own a.1.s, some a.2.1, ())) none tB_z14
theorem tok_z14 : FnP F_z23 T_z14 := fn_P (m := 0) (by have h : IniQ (A := Wo CS_Association × (P4 Int (Option Int) Int (Tu Int)) × Unit) (E := E_z14) _ _ _ := (inq_o (inq_v (inq_u (e0 := (())) (m := 0) fun M => rel_nil))); exact h) (by unfold tB_z14 B_z23; exact (u_cons (u_if (p_B ((t_isn ((t_at (t_var n_z14_1) fun _ _ => rfl)).v)).v)
    (u_ret (t_val (v := true) rfl))
    u_nil)
    (u_ret (t_bin (o_eq (by decide)) ((t_at (t_var n_z14_1) fun _ _ => rfl)).v ((t_cb1 o_len ((t_lendN tok_z21 (fun _ => by simp [Args.encs, Enc.nle, nls]) (v_cons (t_pl (pk_fld (pk_var n_z14_0) lf_Association_10 rfl (.head _))) (v_cons ((t_at (t_var n_z14_1) fun _ _ => rfl)).v v_nil)))).v)).v)))) (fun b h => by cases h)
abbrev E_z6 : Type := Oj CS_Association × Option (P4 Int (Option Int) Int (Tu Int)) × Unit
abbrev n_z6_0 : Lens E_z6 (Oj CS_Association) 0 := Lens.hd
abbrev n_z6_1 : Lens E_z6 (Option (P4 Int (Option Int) Int (Tu Int))) 1 := (Lens.tl Lens.hd)
abbrev k_z6_1 : E_z6 → E_z6 := (kpT (kpF none kpU))
noncomputable def tL_first_ready_1_p : E_z6 → Option (Fw (Option (P4 Int (Option Int) Int (Tu Int))) E_z6) :=
    (tIfS (tTr (tCallP T_z14 (qObj (pVar n_z6_0) (qVal (tV n_z6_1) qNil))))
    (tRet (tSome (tV n_z6_1)))
    tNil)
theorem oL_first_ready_1_p : SQ (β := (Option (P4 Int (Option Int) Int (Tu Int)))) qV tL_first_ready_1_p L_z10_1 := by unfold tL_first_ready_1_p L_z10_1; exact (u_if (p_Tr ((t_callP tok_z14 (q_obj (pk_var n_z6_0) (q_val (t_var n_z6_1) q_nil)))).v)
    (u_ret (EP.some (t_var n_z6_1)))
    u_nil)
noncomputable def tB_z6 : E_z6 → Option (Fw (Option (P4 Int (Option Int) Int (Tu Int))) E_z6) :=
    (tSeq (tFor k_z6_1 (iL (tPL (pFld (pVar n_z6_0) lf_Association_9))) (pNm n_z6_1) tL_first_ready_1_p)
    (tRet (tNone (α := (P4 Int (Option Int) Int (Tu Int))) ())))
noncomputable def T_z6 : Wo CS_Association × Unit → Option (Option (P4 Int (Option Int) Int (Tu Int))) := fnT (E := E_z6) (fun a => (.own a.1.s, none, ())) (some none) tB_z6
theorem tok_z6 : FnP F_z10 T_z6 := fn_P (m := 1) (by have h : IniQ (A := Wo CS_Association × Unit) (E := E_z6) _ _ _ := (inq_o (inq_u (e0 := (none, ())) (m := 1) fun M => (rel_cons rel_none rel_nil))); exact h) (by unfold tB_z6 B_z10; exact (u_cons (u_for (i_seqV (t_pl (pk_fld (pk_var n_z6_0) lf_Association_9 rfl (.head _)))) (g_nm n_z6_1) oL_first_ready_1_p)
    (u_ret (t_none (α := (P4 Int (Option Int) Int (Tu Int))))))) (fun b h => by cases h; rfl)
abbrev E_z7 : Type := Oj CS_Association × Option (Option (P4 Int (Option Int) Int (Tu Int))) × Unit
abbrev n_z7_0 : Lens E_z7 (Oj CS_Association) 0 := Lens.hd
abbrev n_z7_1 : Lens E_z7 (Option (Option (P4 Int (Option Int) Int (Tu Int)))) 1 := (Lens.tl Lens.hd)
abbrev k_z7_1 : E_z7 → E_z7 := (kpT (kpF none kpU))
noncomputable def tL_z7_1 : E_z7 → Option (Fw (Unit × E_z7) E_z7) :=
    (tSeq (tExpX (xLM lmRem (pFld (pVar n_z7_0) lf_Association_9) (pCons (tUn (tV n_z7_1)) pNil)))
    (tExpX (xLM lmApp (pFld (pVar n_z7_0) lf_Association_10) (pCons (tUn (tV n_z7_1)) pNil))))
theorem oL_z7_1 : SP (β := (Unit × E_z7)) (rE (rV (α := Unit))) tL_z7_1 L_z7_1 := by unfold tL_z7_1 L_z7_1; exact (s_cons (s_expX (x_lm lm_rem (pk_fld (pk_var n_z7_0) lf_Association_9 rfl (.head _)) (p_cons (EP.un (t_var n_z7_1)) p_nil)))
    (s_expX (x_lm lm_app (pk_fld (pk_var n_z7_0) lf_Association_10 rfl (.head _)) (p_cons (EP.un (t_var n_z7_1)) p_nil))))
noncomputable def tB_z7 : E_z7 → Option (Fw (Unit × E_z7) E_z7) :=
    (tWhileW k_z7_1 100000 (pNm n_z7_1) (tX (tCallP T_z6 (qObj (pVar n_z7_0) qNil))) tL_z7_1)
noncomputable def T_z7 : Wo CS_Association × Unit → Option (Unit × (CS_Association × Unit)) := fnX (E := E_z7) (fun κ a => (.at_ (κ 0) a.1.s, none, ())) (fun κ e => (finO (κ 0) e.1 (some ()))) (some ()) tB_z7
theorem tok_z7 : FnX rV F_z7 T_z7 := fn_X (m := 1) (by have h : IniP (A := Wo CS_Association × Unit) (E := E_z7) _ 0 _ _ := (ini_o (ini_u (e0 := (none, ())) (m := 1) fun M => (rel_cons rel_none rel_nil))); exact h) (by have h : FinP (Wo CS_Association × Unit) (E := E_z7) _ 0 := (fin_o fin_u); exact h) (by unfold tB_z7 B_z7; exact (s_whileW n_z7_1 (EP.x (t_callP tok_z6 (q_obj (pk_var n_z7_0) q_nil))) oL_z7_1)) (fun b h M fp => by cases h; rfl) fr_V
abbrev E_z9 : Type := Oj CS_Association × Option Int × Option (List Int) × Option Int × Unit
abbrev n_z9_0 : Lens E_z9 (Oj CS_Association) 0 := Lens.hd
abbrev n_z5 : Lens E_z9 (Option Int) 1 := (Lens.tl Lens.hd)
abbrev n_z9_2 : Lens E_z9 (Option (List Int)) 2 := (Lens.tl (Lens.tl Lens.hd))
abbrev n_z9_3 : Lens E_z9 (Option Int) 3 := (Lens.tl (Lens.tl (Lens.tl Lens.hd)))
abbrev k_z5 : E_z9 → E_z9 := (kpT (kpF none (kpT (kpF none kpU))))
noncomputable def tL_z5 : E_z9 → Option (Fw (Unit × E_z9) E_z9) :=
    (tFldX (pVar n_z9_0) lf_Association_7 some (tX (tB addI (tFV (pVar n_z9_0) lf_Association_7) (tK (1 : Int)))))
theorem oL_z5 : SP (β := (Unit × E_z9)) (rE (rV (α := Unit))) tL_z5 L_z5 := by unfold tL_z5 L_z5; exact (s_fldV (pk_var n_z9_0) lf_Association_7 rfl (.head _) nd_Association (by decide) (EP.x (t_bin o_add ((t_fv (pk_var n_z9_0) lf_Association_7 rfl (.head _))).v ((t_val (v := (1 : Int)) rfl)).v)))
noncomputable def tT_note_arrival_1 : E_z9 → Option Bool :=
    (tB inT (tB addI (tFV (pVar n_z9_0) lf_Association_7) (tK (1 : Int))) (tV n_z9_2))
theorem oT_note_arrival_1 : TP tT_note_arrival_1 T_z5 := by unfold tT_note_arrival_1 T_z5; exact (p_B ((t_bin o_in ((t_bin o_add ((t_fv (pk_var n_z9_0) lf_Association_7 rfl (.head _))).v ((t_val (v := (1 : Int)) rfl)).v)).v ((t_var n_z9_2)).v)).v)
noncomputable def tQ_z5 : E_z9 → Option (List Int) :=
    (tC (iL (tV n_z9_2)) (wCons n_z9_3 wNil) (pNm n_z9_3) (tB gtI (tV n_z9_3) (tFV (pVar n_z9_0) lf_Association_7)) (tV n_z9_3))
theorem oQ_z5 : EN tQ_z5 Q_z5 := by unfold tQ_z5 Q_z5; exact (t_lc ((i_seq (t_var n_z9_2))).v (w_cons n_z9_3 w_nil) (g_nm n_z9_3) (p_B ((t_bin o_gt ((t_var n_z9_3)).v ((t_fv (pk_var n_z9_0) lf_Association_7 rfl (.head _))).v)).v) (t_var n_z9_3))
noncomputable def tB_z9 : E_z9 → Option (Fw (Unit × E_z9) E_z9) :=
    (tSeq (tSet n_z9_2 (tLst (lStar (tFV (pVar n_z9_0) lf_Association_8) (lCons (tV n_z5) lNil))))
    (tSeq (tWhile k_z5 100000 tT_note_arrival_1 tL_z5)
    (tFldX (pVar n_z9_0) lf_Association_8 some (tX (t1 srtT tQ_z5)))))
noncomputable def T_z9 : Wo CS_Association × Int × Unit → Option (Unit × (CS_Association × Unit)) := fnX (E := E_z9) (fun κ a => (.at_ (κ 0) a.1.s, some a.2.1, none, none, ())) (fun κ e => (finO (κ 0) e.1 (some ()))) (some ()) tB_z9
theorem tok_z9 : FnX rV F_z9 T_z9 := fn_X (m := 2) (by have h : IniP (A := Wo CS_Association × Int × Unit) (E := E_z9) _ 0 _ _ := (ini_o (ini_v (ini_u (e0 := (none, none, ())) (m := 2) fun M => (rel_cons rel_none (rel_cons rel_none rel_nil))))); exact h) (by have h : FinP (Wo CS_Association × Int × Unit) (E := E_z9) _ 0 := (fin_o (fin_v fin_u)); exact h) (by unfold tB_z9 B_z9; exact (s_cons (s_set n_z9_2 ((t_lst (l_star ((t_fv (pk_var n_z9_0) lf_Association_8 rfl (.head _))).v (l_cons (t_var n_z5) l_nil)))).p)
    (s_cons (s_while oT_note_arrival_1 oL_z5)
    (s_fldV (pk_var n_z9_0) lf_Association_8 rfl (.head _) nd_Association (by decide) (EP.x ((t_cb1N o_srt (oQ_z5).v)).p))))) (fun b h M fp => by cases h; rfl) fr_V
abbrev E_z8 : Type := Oj CS_Association × Option (P4 Int (Option Int) Int (Tu Int)) × Unit
abbrev n_z8_0 : Lens E_z8 (Oj CS_Association) 0 := Lens.hd
abbrev n_z8_1 : Lens E_z8 (Option (P4 Int (Option Int) Int (Tu Int))) 1 := (Lens.tl Lens.hd)
noncomputable def tB_z8 : E_z8 → Option (Fw (Unit × E_z8) E_z8) :=
    (tSeq (tExpX (xLM lmApp (pFld (pVar n_z8_0) lf_Association_9) (pCons (tV n_z8_1) pNil)))
    (tSeq (tExpX (xCall T_z7 (qq (qObj (pVar n_z8_0) qNil)) (uObj (pVar n_z8_0) uNil)))
    (tExpX (xCall T_z9 (qq (qObj (pVar n_z8_0) (qVal (tMap (fun x => x.a) (tV n_z8_1)) qNil))) (uObj (pVar n_z8_0) uNil)))))
noncomputable def T_z8 : Wo CS_Association × (P4 Int (Option Int) Int (Tu Int)) × Unit → Option (Unit × (CS_Association × Unit)) := fnX (E := E_z8) (fun κ a => (.at_ (κ 0) a.1.s, some a.2.1, ())) (fun κ e => (finO (κ 0) e.1 (some ()))) (some ()) tB_z8
theorem tok_z8 : FnX rV F_z8 T_z8 := fn_X (m := 0) (by have h : IniP (A := Wo CS_Association × (P4 Int (Option Int) Int (Tu Int)) × Unit) (E := E_z8) _ 0 _ _ := (ini_o (ini_v (ini_u (e0 := (())) (m := 0) fun M => rel_nil))); exact h) (by have h : FinP (Wo CS_Association × (P4 Int (Option Int) Int (Tu Int)) × Unit) (E := E_z8) _ 0 := (fin_o (fin_v fin_u)); exact h) (by unfold tB_z8 B_z8; exact (s_cons (s_expX (x_lm lm_app (pk_fld (pk_var n_z8_0) lf_Association_9 rfl (.head _)) (p_cons (t_var n_z8_1) p_nil)))
    (s_cons (s_expX (x_call tok_z7 (AQ.o (q_obj (pk_var n_z8_0) q_nil))))
    (s_expX (x_call tok_z9 (AQ.o (q_obj (pk_var n_z8_0) (q_val (t_at (t_var n_z8_1) fun _ _ => rfl) q_nil)))))))) (fun b h M fp => by cases h; rfl) fr_V
-- given: (None, '_law_same')
abbrev E_z22 : Type := Oj CS_Association × Option Int × Option Int × Unit
abbrev n_z22_0 : Lens E_z22 (Oj CS_Association) 0 := Lens.hd
abbrev n_z22_1 : Lens E_z22 (Option Int) 1 := (Lens.tl Lens.hd)
abbrev n_z22_2 : Lens E_z22 (Option Int) 2 := (Lens.tl (Lens.tl Lens.hd))
noncomputable def tB_z22 : E_z22 → Option (Fw Bool E_z22) :=
    (tSeq (tIfS (tOr (tB leI (tV n_z22_1) (tFV (pVar n_z22_0) lf_Association_7)) (tB gtI (tV n_z22_1) (tB addI (tFV (pVar n_z22_0) lf_Association_7) (tV n_z22_2))))
    (tRet (tK false))
    tNil)
    (tRet (tB ninT (tV n_z22_1) (tFV (pVar n_z22_0) lf_Association_8))))
noncomputable def T_z22 : Wo CS_Association × Int × Int × Unit → Option Bool := fnT (E := E_z22) (fun a => (.own a.1.s, some a.2.1, some a.2.2.1, ())) none tB_z22
theorem tok_z22 : FnP F_z24 T_z22 := fn_P (m := 0) (by have h : IniQ (A := Wo CS_Association × Int × Int × Unit) (E := E_z22) _ _ _ := (inq_o (inq_v (inq_v (inq_u (e0 := (())) (m := 0) fun M => rel_nil)))); exact h) (by unfold tB_z22 B_z24; exact (u_cons (u_if (p_or (p_B ((t_bin o_le ((t_var n_z22_1)).v ((t_fv (pk_var n_z22_0) lf_Association_7 rfl (.head _))).v)).v) (p_B ((t_bin o_gt ((t_var n_z22_1)).v ((t_bin o_add ((t_fv (pk_var n_z22_0) lf_Association_7 rfl (.head _))).v ((t_var n_z22_2)).v)).v)).v))
    (u_ret (t_val (v := false) rfl))
    u_nil)
    (u_ret (t_bin o_nin ((t_var n_z22_1)).v ((t_fv (pk_var n_z22_0) lf_Association_8 rfl (.head _))).v)))) (fun b h => by cases h)
abbrev E_z15 : Type := Option (List (P4 Int (Option Int) Int (Tu Int))) × Option (List Int) × Option Int × Ob (LS (P4 Int (Option Int) Int (Tu Int))) × Option Bool × Option (P4 Int (Option Int) Int (Tu Int)) × Unit
abbrev n_z15_0 : Lens E_z15 (Option (List (P4 Int (Option Int) Int (Tu Int)))) 0 := Lens.hd
abbrev n_z15_1 : Lens E_z15 (Option (List Int)) 1 := (Lens.tl Lens.hd)
abbrev n_z15_2 : Lens E_z15 (Option Int) 2 := (Lens.tl (Lens.tl Lens.hd))
abbrev n_z15_3 : Lens E_z15 (Ob (LS (P4 Int (Option Int) Int (Tu Int)))) 3 := (Lens.tl (Lens.tl (Lens.tl Lens.hd)))
abbrev n_z15_4 : Lens E_z15 (Option Bool) 4 := (Lens.tl (Lens.tl (Lens.tl (Lens.tl Lens.hd))))
abbrev n_z15_5 : Lens E_z15 (Option (P4 Int (Option Int) Int (Tu Int))) 5 := (Lens.tl (Lens.tl (Lens.tl (Lens.tl (Lens.tl Lens.hd)))))
abbrev k_z15_1 : E_z15 → E_z15 := (kpF none (kpT (kpT (kpT (kpT (kpF none kpU))))))
noncomputable def tL_z15_1 : E_z15 → Option (Fw (List (P4 Int (Option Int) Int (Tu Int))) E_z15) :=
    (tIfS (tB eqT (tMap (fun x => x.b) (tV n_z15_5)) (tSome (tV n_z15_2)))
    (tSeq (tSet n_z15_4 (tAnd (tV n_z15_4) (tB inT (tMap (fun x => x.a) (tV n_z15_5)) (tV n_z15_1))))
    (tIfS (tTr (tV n_z15_4))
    (tApp n_z15_3 (tV n_z15_5))
    tNil))
    tNil)
theorem oL_z15_1 : SP (β := (List (P4 Int (Option Int) Int (Tu Int)))) (rt .n) tL_z15_1 L_z15_1 := by unfold tL_z15_1 L_z15_1; exact (s_if (p_B ((t_bin (o_eq (by decide)) ((t_at (t_var n_z15_5) fun _ _ => rfl)).v ((EP.some (t_var n_z15_2))).v)).v)
    (s_cons (s_set n_z15_4 (t_and ((t_var n_z15_4)).v ((t_bin o_in ((t_at (t_var n_z15_5) fun _ _ => rfl)).v ((t_var n_z15_1)).v)).v))
    (s_if (p_Tr ((t_var n_z15_4)).v)
    (s_app n_z15_3 (t_var n_z15_5))
    s_nil))
    s_nil)
noncomputable def tB_z15 : E_z15 → Option (Fw (List (P4 Int (Option Int) Int (Tu Int))) E_z15) :=
    (tSeq (tSetL n_z15_3 (tLst (lNil (α := (P4 Int (Option Int) Int (Tu Int))))))
    (tSeq (tSet n_z15_4 (tK true))
    (tSeq (tFor k_z15_1 (iL (tV n_z15_0)) (pNm n_z15_5) tL_z15_1)
    (tRet (tL n_z15_3)))))
noncomputable def T_z15 : (List (P4 Int (Option Int) Int (Tu Int))) × (List Int) × Int × Unit → Option (List (P4 Int (Option Int) Int (Tu Int))) := fnT (E := E_z15) (fun a => (some a.1, some a.2.1, some a.2.2.1, ⟨none⟩, none, none, ())) none tB_z15
theorem tok_z15 : FnN F_z15 T_z15 := fn_N (fun a M => (rel_cons rel_val (rel_cons rel_val (rel_cons rel_val (rel_cons rel_obn (rel_cons rel_none (rel_cons rel_none rel_nil))))))) (fun _ => rfl) (by unfold tB_z15 B_z15; exact (s_cons (s_setL n_z15_3 (t_lst (l_nil (α := (P4 Int (Option Int) Int (Tu Int))))))
    (s_cons (s_set n_z15_4 (t_val (v := true) rfl))
    (s_cons (s_for (i_seq (t_var n_z15_0)) (g_nm n_z15_5) oL_z15_1)
    (s_retL n_z15_3)))))
abbrev E_z11 : Type := Oj CS_Association × Option (List (P4 Int (Option Int) Int (Tu Int))) × Oj (LS Int) × Option Int × Option Int × Option (List (P4 Int (Option Int) Int (Tu Int))) × Oj (LS (P4 Int (Option Int) Int (Tu Int))) × Option (List (P4 Int (Option Int) Int (Tu Int))) × Option (List (P4 Int (Option Int) Int (Tu Int))) × Option Int × Option (P4 Int (Option Int) Int (Tu Int)) × Unit
abbrev n_z11_0 : Lens E_z11 (Oj CS_Association) 0 := Lens.hd
abbrev n_z11_1 : Lens E_z11 (Option (List (P4 Int (Option Int) Int (Tu Int)))) 1 := (Lens.tl Lens.hd)
abbrev n_z11_2 : Lens E_z11 (Oj (LS Int)) 2 := (Lens.tl (Lens.tl Lens.hd))
abbrev n_z11_3 : Lens E_z11 (Option Int) 3 := (Lens.tl (Lens.tl (Lens.tl Lens.hd)))
abbrev n_z11_4 : Lens E_z11 (Option Int) 4 := (Lens.tl (Lens.tl (Lens.tl (Lens.tl Lens.hd))))
abbrev n_z11_5 : Lens E_z11 (Option (List (P4 Int (Option Int) Int (Tu Int)))) 5 := (Lens.tl (Lens.tl (Lens.tl (Lens.tl (Lens.tl Lens.hd)))))
abbrev n_z11_6 : Lens E_z11 (Oj (LS (P4 Int (Option Int) Int (Tu Int)))) 6 := (Lens.tl (Lens.tl (Lens.tl (Lens.tl (Lens.tl (Lens.tl Lens.hd))))))
abbrev n_z11_7 : Lens E_z11 (Option (List (P4 Int (Option Int) Int (Tu Int)))) 7 := (Lens.tl (Lens.tl (Lens.tl (Lens.tl (Lens.tl (Lens.tl (Lens.tl Lens.hd)))))))
abbrev n_z11_8 : Lens E_z11 (Option (List (P4 Int (Option Int) Int (Tu Int)))) 8 := (Lens.tl (Lens.tl (Lens.tl (Lens.tl (Lens.tl (Lens.tl (Lens.tl (Lens.tl Lens.hd))))))))
abbrev n_z11_9 : Lens E_z11 (Option Int) 9 := (Lens.tl (Lens.tl (Lens.tl (Lens.tl (Lens.tl (Lens.tl (Lens.tl (Lens.tl (Lens.tl Lens.hd)))))))))
abbrev n_z11_10 : Lens E_z11 (Option (P4 Int (Option Int) Int (Tu Int))) 10 := (Lens.tl (Lens.tl (Lens.tl (Lens.tl (Lens.tl (Lens.tl (Lens.tl (Lens.tl (Lens.tl (Lens.tl Lens.hd))))))))))
abbrev k_z11_1 : E_z11 → E_z11 := (kpT (kpT (kpT (kpT (kpF none (kpF none (kpF Oj.no (kpF none (kpF none (kpF none (kpF none kpU)))))))))))
noncomputable def tQ__law_good_1_p : E_z11 → Option (List (P4 Int (Option Int) Int (Tu Int))) :=
    (tC (iL (tPL (pFld (pVar n_z11_0) lf_Association_10))) (wCons n_z11_10 wNil) (pNm n_z11_10) (tB eqT (tMap (fun x => x.b) (tV n_z11_10)) (tSome (tV n_z11_4))) (tV n_z11_10))
theorem oQ__law_good_1_p : EN tQ__law_good_1_p Q_z19_1 := by unfold tQ__law_good_1_p Q_z19_1; exact (t_lc (i_seqV (t_pl (pk_fld (pk_var n_z11_0) lf_Association_10 rfl (.head _)))) (w_cons n_z11_10 w_nil) (g_nm n_z11_10) (p_B ((t_bin (o_eq (by decide)) ((t_at (t_var n_z11_10) fun _ _ => rfl)).v ((EP.some (t_var n_z11_4))).v)).v) (t_var n_z11_10))
noncomputable def tL__law_good_1_p : E_z11 → Option (Fw Bool E_z11) :=
    (tSeq (tSet n_z11_8 (tCall T_z15 (pCons (tV n_z11_1) (pCons (tPL (pVar n_z11_2)) (pCons (tV n_z11_4) pNil)))))
    (tSeq (tSet n_z11_3 (tB addI (tV n_z11_3) (t1 lenT (tV n_z11_8))))
    (tIfS (tNot (tTr (tCall sameT (pCons tQ__law_good_1_p (pCons (tV n_z11_8) pNil)))))
    (tRet (tK false))
    tNil)))
theorem oL__law_good_1_p : SQ (β := Bool) qV tL__law_good_1_p L_z19_1 := by unfold tL__law_good_1_p L_z19_1; exact (u_cons (u_set n_z11_8 ((t_lendN tok_z15 (fun _ => by simp [Args.encs, Enc.nle, nls]) (v_cons ((t_var n_z11_1)).v (v_cons (t_pl (pk_var n_z11_2)) (v_cons ((t_var n_z11_4)).v v_nil))))).p)
    (u_cons (u_set n_z11_3 (t_bin o_add ((t_var n_z11_3)).v ((t_cb1 o_len ((t_var n_z11_8)).v)).v))
    (u_if (p_not (p_Tr ((t_call tok_z17 (p_cons (oQ__law_good_1_p).p (p_cons (t_var n_z11_8) p_nil)))).v))
    (u_ret (t_val (v := false) rfl))
    u_nil)))
noncomputable def tQ__law_good_2_p : E_z11 → Option (List (P4 Int (Option Int) Int (Tu Int))) :=
    (tC (iL (tPL (pVar n_z11_2))) (wCons n_z11_9 wNil) (pNm n_z11_9) (tIsN (tMap (fun x => x.b) (tB tIx (tV n_z11_1) (tB subI (tV n_z11_9) (tK (1 : Int)))))) (tB tIx (tV n_z11_1) (tB subI (tV n_z11_9) (tK (1 : Int)))))
theorem oQ__law_good_2_p : EN tQ__law_good_2_p Q_z19_2 := by unfold tQ__law_good_2_p Q_z19_2; exact (t_lc (i_seqV (t_pl (pk_var n_z11_2))) (w_cons n_z11_9 w_nil) (g_nm n_z11_9) (p_B ((t_isn ((t_at (t_bin o_ix ((t_var n_z11_1)).v ((t_bin o_sub ((t_var n_z11_9)).v ((t_val (v := (1 : Int)) rfl)).v)).v) fun _ _ => rfl)).v)).v) (t_bin o_ix ((t_var n_z11_1)).v ((t_bin o_sub ((t_var n_z11_9)).v ((t_val (v := (1 : Int)) rfl)).v)).v))
noncomputable def tQ__law_good_3_p : E_z11 → Option (List (P4 Int (Option Int) Int (Tu Int))) :=
    (tC (iL (tPL (pFld (pVar n_z11_0) lf_Association_10))) (wCons n_z11_10 wNil) (pNm n_z11_10) (tIsN (tMap (fun x => x.b) (tV n_z11_10))) (tV n_z11_10))
theorem oQ__law_good_3_p : EN tQ__law_good_3_p Q_z19_3 := by unfold tQ__law_good_3_p Q_z19_3; exact (t_lc (i_seqV (t_pl (pk_fld (pk_var n_z11_0) lf_Association_10 rfl (.head _)))) (w_cons n_z11_10 w_nil) (g_nm n_z11_10) (p_B ((t_isn ((t_at (t_var n_z11_10) fun _ _ => rfl)).v)).v) (t_var n_z11_10))
noncomputable def tQ__law_good_4_p : E_z11 → Option (List (P4 Int (Option Int) Int (Tu Int))) :=
    (tC (iL (tPL (pVar n_z11_2))) (wCons n_z11_9 wNil) (pNm n_z11_9) (tB ninLD (tB tIx (tV n_z11_1) (tB subI (tV n_z11_9) (tK (1 : Int)))) (tPL (pVar n_z11_6))) (tB tIx (tV n_z11_1) (tB subI (tV n_z11_9) (tK (1 : Int)))))
theorem oQ__law_good_4_p : EN tQ__law_good_4_p Q_z19_4 := by unfold tQ__law_good_4_p Q_z19_4; exact (t_lc (i_seqV (t_pl (pk_var n_z11_2))) (w_cons n_z11_9 w_nil) (g_nm n_z11_9) (p_B ((t_bin (o_ninL (by decide)) ((t_bin o_ix ((t_var n_z11_1)).v ((t_bin o_sub ((t_var n_z11_9)).v ((t_val (v := (1 : Int)) rfl)).v)).v)).v (t_pl (pk_var n_z11_6)))).v) (t_bin o_ix ((t_var n_z11_1)).v ((t_bin o_sub ((t_var n_z11_9)).v ((t_val (v := (1 : Int)) rfl)).v)).v))
noncomputable def tB_z11 : E_z11 → Option (Fw Bool E_z11) :=
    (tSeq (tSet n_z11_3 (tK (0 : Int)))
    (tSeq (tFor k_z11_1 (iL (tLst (lCons (tK (0 : Int)) (lCons (tK (3 : Int)) (lCons (tK (15 : Int)) lNil))))) (pNm n_z11_4) tL__law_good_1_p)
    (tSeq (tSet n_z11_5 tQ__law_good_2_p)
    (tSeq (tIfS (tNot (tTr (tCall sameT (pCons tQ__law_good_3_p (pCons (tV n_z11_5) pNil)))))
    (tRet (tK false))
    tNil)
    (tAlQ (pFld (pVar n_z11_0) lf_Association_10) n_z11_6
    (tSeq (tSet n_z11_7 tQ__law_good_4_p)
    (tRet (tAnd (tB eqT (t1 lenT (tPL (pVar n_z11_6))) (tB addI (tV n_z11_3) (t1 lenT (tV n_z11_5)))) (tCall sameT (pCons (tPL (pFld (pVar n_z11_0) lf_Association_9)) (pCons (tV n_z11_7) pNil)))))))))))
noncomputable def T_z11 : Wo CS_Association × (List (P4 Int (Option Int) Int (Tu Int))) × Wo (LS Int) × Unit → Option Bool := fnT (E := E_z11) (fun a => (.own a.1.s, some a.2.1, .own a.2.2.1.s, none, none, none, Oj.no, none, none, none, none, ())) none tB_z11
theorem tok_z11 : FnP F_z19 T_z11 := fn_P (m := 8) (by have h : IniQ (A := Wo CS_Association × (List (P4 Int (Option Int) Int (Tu Int))) × Wo (LS Int) × Unit) (E := E_z11) _ _ _ := (inq_o (inq_v (inq_o (inq_u (e0 := (none, none, none, Oj.no, none, none, none, none, ())) (m := 8) fun M => (rel_cons rel_none (rel_cons rel_none (rel_cons rel_none (rel_cons rel_ojn (rel_cons rel_none (rel_cons rel_none (rel_cons rel_none (rel_cons rel_none rel_nil)))))))))))); exact h) (by unfold tB_z11 B_z19; exact (u_cons (u_set n_z11_3 (t_val (v := (0 : Int)) rfl))
    (u_cons (u_for ((i_seq ((t_lst (l_cons (t_val (v := (0 : Int)) rfl) (l_cons (t_val (v := (3 : Int)) rfl) (l_cons (t_val (v := (15 : Int)) rfl) l_nil))))).p)).v (g_nm n_z11_4) oL__law_good_1_p)
    (u_cons (u_set n_z11_5 (oQ__law_good_2_p).p)
    (u_cons (u_if (p_not (p_Tr ((t_call tok_z17 (p_cons (oQ__law_good_3_p).p (p_cons (t_var n_z11_5) p_nil)))).v))
    (u_ret (t_val (v := false) rfl))
    u_nil)
    (u_al (pk_fld (pk_var n_z11_0) lf_Association_10 rfl (.head _)) n_z11_6
    (u_cons (u_set n_z11_7 (oQ__law_good_4_p).p)
    (u_ret (t_and ((t_bin (o_eq (by decide)) ((t_cb1 o_len (t_pl (pk_var n_z11_6)))).v ((t_bin o_add ((t_var n_z11_3)).v ((t_cb1 o_len ((t_var n_z11_5)).v)).v)).v)).v ((t_lend tok_z17 (fun _ => by simp [Args.encs, Enc.nle, nls]) (v_cons (t_pl (pk_fld (pk_var n_z11_0) lf_Association_9 rfl (.head _))) (v_cons ((t_var n_z11_7)).v v_nil)))).v))))))))) (fun b h => by cases h)
abbrev E_law : Type := Option Scr × Option (List Int) × Option (List (P4 Int (Option Int) Int (Tu Int))) × Oj (LS Int) × Option Int × Oj CS_Association × Oj (LS Int) × Option Int × Option Int × Option Int × Option (P4 Int (Option Int) Int (Tu Int)) × Option Int × Option Int × Option Bool × Option Int × Unit
abbrev n_law_0 : Lens E_law (Option Scr) 0 := Lens.hd
abbrev n_law_1 : Lens E_law (Option (List Int)) 1 := (Lens.tl Lens.hd)
abbrev n_law_2 : Lens E_law (Option (List (P4 Int (Option Int) Int (Tu Int)))) 2 := (Lens.tl (Lens.tl Lens.hd))
abbrev n_law_3 : Lens E_law (Oj (LS Int)) 3 := (Lens.tl (Lens.tl (Lens.tl Lens.hd)))
abbrev n_law_4 : Lens E_law (Option Int) 4 := (Lens.tl (Lens.tl (Lens.tl (Lens.tl Lens.hd))))
abbrev n_law_5 : Lens E_law (Oj CS_Association) 5 := (Lens.tl (Lens.tl (Lens.tl (Lens.tl (Lens.tl Lens.hd)))))
abbrev n_law_6 : Lens E_law (Oj (LS Int)) 6 := (Lens.tl (Lens.tl (Lens.tl (Lens.tl (Lens.tl (Lens.tl Lens.hd))))))
abbrev n_law_7 : Lens E_law (Option Int) 7 := (Lens.tl (Lens.tl (Lens.tl (Lens.tl (Lens.tl (Lens.tl (Lens.tl Lens.hd)))))))
abbrev n_law_8 : Lens E_law (Option Int) 8 := (Lens.tl (Lens.tl (Lens.tl (Lens.tl (Lens.tl (Lens.tl (Lens.tl (Lens.tl Lens.hd))))))))
abbrev n_law_9 : Lens E_law (Option Int) 9 := (Lens.tl (Lens.tl (Lens.tl (Lens.tl (Lens.tl (Lens.tl (Lens.tl (Lens.tl (Lens.tl Lens.hd)))))))))
abbrev n_law_10 : Lens E_law (Option (P4 Int (Option Int) Int (Tu Int))) 10 := (Lens.tl (Lens.tl (Lens.tl (Lens.tl (Lens.tl (Lens.tl (Lens.tl (Lens.tl (Lens.tl (Lens.tl Lens.hd))))))))))
abbrev n_law_11 : Lens E_law (Option Int) 11 := (Lens.tl (Lens.tl (Lens.tl (Lens.tl (Lens.tl (Lens.tl (Lens.tl (Lens.tl (Lens.tl (Lens.tl (Lens.tl Lens.hd)))))))))))
abbrev n_law_12 : Lens E_law (Option Int) 12 := (Lens.tl (Lens.tl (Lens.tl (Lens.tl (Lens.tl (Lens.tl (Lens.tl (Lens.tl (Lens.tl (Lens.tl (Lens.tl (Lens.tl Lens.hd))))))))))))
abbrev n_law_13 : Lens E_law (Option Bool) 13 := (Lens.tl (Lens.tl (Lens.tl (Lens.tl (Lens.tl (Lens.tl (Lens.tl (Lens.tl (Lens.tl (Lens.tl (Lens.tl (Lens.tl (Lens.tl Lens.hd)))))))))))))
abbrev n_law_14 : Lens E_law (Option Int) 14 := (Lens.tl (Lens.tl (Lens.tl (Lens.tl (Lens.tl (Lens.tl (Lens.tl (Lens.tl (Lens.tl (Lens.tl (Lens.tl (Lens.tl (Lens.tl (Lens.tl Lens.hd))))))))))))))
abbrev k_law_1 : E_law → E_law := (kpF none (kpT (kpT (kpT (kpF none (kpF Oj.no (kpF Oj.no (kpF none (kpF none (kpF none (kpF none (kpF none (kpF none (kpF none (kpF none kpU)))))))))))))))
abbrev k_law_2 : E_law → E_law := (kpF none (kpF none (kpT (kpF Oj.no (kpF none (kpT (kpT (kpF none (kpF none (kpT (kpF none (kpT (kpF none (kpF none (kpF none kpU)))))))))))))))
abbrev k_law_3 : E_law → E_law := (kpF none (kpF none (kpT (kpF Oj.no (kpF none (kpT (kpT (kpF none (kpF none (kpF none (kpF none (kpF none (kpF none (kpF none (kpF none kpU)))))))))))))))
noncomputable def tQ_law_1 : E_law → Option (List Int) :=
    (tC (iL (tV n_law_2)) (wCons n_law_10 wNil) (pNm n_law_10) tYes (tMap (fun x => x.a) (tV n_law_10)))
theorem oQ_law_1 : EN tQ_law_1 Q_law_1 := by unfold tQ_law_1 Q_law_1; exact (t_lc ((i_seq (t_var n_law_2))).v (w_cons n_law_10 w_nil) (g_nm n_law_10) p_yes (t_at (t_var n_law_10) fun _ _ => rfl))
noncomputable def tL_law_1 : E_law → Option (Fw (Bool × E_law) E_law) :=
    (tSeq (tSet n_law_8 (tB modI (t1 intI (tB tIx (tV n_law_1) (tV n_law_4))) (t1 lenT (tPL (pVar n_law_3)))))
    (tSeq (tIfS (tB gtI (tB modI (t1 intI (tB tIx (tV n_law_1) (tK (39 : Int)))) (tK (3 : Int))) (tK (0 : Int)))
    (tSet n_law_8 (tB minI (tB subI (t1 lenT (tPL (pVar n_law_3))) (tK (1 : Int))) (tB addI (tV n_law_4) (tB modI (t1 intI (tB tIx (tV n_law_1) (tV n_law_4))) (tK (4 : Int))))))
    tNil)
    (tAsg2 (pIx (pVar n_law_3) (tV n_law_4)) (pIx (pVar n_law_3) (tV n_law_8)) (tPr mk2 (pCons (tB tIx (tPL (pVar n_law_3)) (tV n_law_8)) (pCons (tB tIx (tPL (pVar n_law_3)) (tV n_law_4)) pNil))))))
theorem oL_law_1 : SP (β := (Bool × E_law)) (rE (rV (α := Bool))) tL_law_1 L_law_1 := by unfold tL_law_1 L_law_1; exact (s_cons (s_set n_law_8 (t_bin o_mod ((t_cb1 o_intI ((t_bin o_ix ((t_var n_law_1)).v ((t_var n_law_4)).v)).v)).v ((t_cb1 o_len (t_pl (pk_var n_law_3)))).v))
    (s_cons (s_if (p_B ((t_bin o_gt ((t_bin o_mod ((t_cb1 o_intI ((t_bin o_ix ((t_var n_law_1)).v ((t_val (v := (39 : Int)) rfl)).v)).v)).v ((t_val (v := (3 : Int)) rfl)).v)).v ((t_val (v := (0 : Int)) rfl)).v)).v)
    (s_set n_law_8 (t_cb2 o_min ((t_bin o_sub ((t_cb1 o_len (t_pl (pk_var n_law_3)))).v ((t_val (v := (1 : Int)) rfl)).v)).v ((t_bin o_add ((t_var n_law_4)).v ((t_bin o_mod ((t_cb1 o_intI ((t_bin o_ix ((t_var n_law_1)).v ((t_var n_law_4)).v)).v)).v ((t_val (v := (4 : Int)) rfl)).v)).v)).v))
    s_nil)
    (s_asg2 (gm_ix (pk_var n_law_3) ((t_var n_law_4)).v) (gm_ix (pk_var n_law_3) ((t_var n_law_8)).v) (t_pr2 (p_cons (t_bin o_ix (t_pl (pk_var n_law_3)) ((t_var n_law_8)).v) (p_cons (t_bin o_ix (t_pl (pk_var n_law_3)) ((t_var n_law_4)).v) p_nil))))))
noncomputable def tQ_law_2 : E_law → Option (List Int) :=
    (tC (iL (tPL (pVar n_law_6))) (wCons n_law_14 wNil) (pNm n_law_14) (tB leI (tV n_law_14) (tV n_law_4)) (tV n_law_14))
theorem oQ_law_2 : EN tQ_law_2 Q_law_2 := by unfold tQ_law_2 Q_law_2; exact (t_lc (i_seqV (t_pl (pk_var n_law_6))) (w_cons n_law_14 w_nil) (g_nm n_law_14) (p_B ((t_bin o_le ((t_var n_law_14)).v ((t_var n_law_4)).v)).v) (t_var n_law_14))
noncomputable def tQ_law_3 : E_law → Option (List Int) :=
    (tC (iR2 (tK (1 : Int)) (tK (32 : Int))) (wCons n_law_4 wNil) (pNm n_law_4) (tB eqT (t1 lenT tQ_law_2) (tV n_law_4)) (tV n_law_4))
theorem oQ_law_3 : EN tQ_law_3 Q_law_3 := by unfold tQ_law_3 Q_law_3; exact (t_lc ((i_rg2 ((t_val (v := (1 : Int)) rfl)).v ((t_val (v := (32 : Int)) rfl)).v)).v (w_cons n_law_4 w_nil) (g_nm n_law_4) (p_B ((t_bin (o_eq (by decide)) ((t_cb1 o_len (oQ_law_2).v)).v ((t_var n_law_4)).v)).v) (t_var n_law_4))
noncomputable def tL_law_2 : E_law → Option (Fw (Bool × E_law) E_law) :=
    (tSeq (tSet n_law_13 (tAnd (tB ninT (tV n_law_9) (tPL (pVar n_law_6))) (tAnd (tB gtI (tV n_law_9) (tV n_law_11)) (tB leI (tV n_law_9) (tB addI (tV n_law_11) (tV n_law_12))))))
    (tIfS (tNot (tTr (tCall sameT (pCons (tCallP T_z22 (qObj (pVar n_law_5) (qVal (tV n_law_9) (qVal (tV n_law_12) qNil)))) (pCons (tV n_law_13) pNil)))))
    (tRetX (tX (tK false)))
    tNil))
theorem oL_law_2 : SP (β := (Bool × E_law)) (rE (rV (α := Bool))) tL_law_2 L_law_2 := by unfold tL_law_2 L_law_2; exact (s_cons (s_set n_law_13 (t_and ((t_bin o_nin ((t_var n_law_9)).v (t_pl (pk_var n_law_6)))).v ((t_and ((t_bin o_gt ((t_var n_law_9)).v ((t_var n_law_11)).v)).v ((t_bin o_le ((t_var n_law_9)).v ((t_bin o_add ((t_var n_law_11)).v ((t_var n_law_12)).v)).v)).v)).v))
    (s_if (p_not (p_Tr ((t_call tok_z17 (p_cons (t_callP tok_z22 (q_obj (pk_var n_law_5) (q_val (t_var n_law_9) (q_val (t_var n_law_12) q_nil)))) (p_cons (t_var n_law_13) p_nil)))).v))
    (s_retX (EP.x (t_val (v := false) rfl)))
    s_nil))
noncomputable def tL_law_3 : E_law → Option (Fw (Bool × E_law) E_law) :=
    (tSeq (tSet n_law_11 (t1 lenT tQ_law_3))
    (tFor k_law_2 (iL (tLst (lCons (tK (1 : Int)) (lCons (tK (5 : Int)) lNil)))) (pNm n_law_12) tL_law_2))
theorem oL_law_3 : SP (β := (Bool × E_law)) (rE (rV (α := Bool))) tL_law_3 L_law_3 := by unfold tL_law_3 L_law_3; exact (s_cons (s_set n_law_11 (t_cb1 o_len (oQ_law_3).v))
    (s_for (i_seq ((t_lst (l_cons (t_val (v := (1 : Int)) rfl) (l_cons (t_val (v := (5 : Int)) rfl) l_nil)))).p) (g_nm n_law_12) oL_law_2))
noncomputable def tR_law_4_4 : E_law → Option (Fw (Bool × E_law) E_law) :=
    (tFor k_law_3 (iR2 (tK (1 : Int)) (tB addI (t1 lenT (tV n_law_2)) (tK (1 : Int)))) (pNm n_law_9) tL_law_3)
noncomputable def tR_law_4_3 : E_law → Option (Fw (Bool × E_law) E_law) :=
    (tSeq (tIfS (tOr (tNot (tTr (tCallP T_z11 (qObj (pVar n_law_5) (qVal (tV n_law_2) (qObj (pVar n_law_6) qNil)))))) (tNot (tTr (tCall sameT (pCons (tCallP T_z22 (qObj (pVar n_law_5) (qVal (tV n_law_7) (qVal (tK (30 : Int)) qNil)))) (pCons (tK false) pNil))))))
    (tRetX (tX (tK false)))
    tNil)
    tR_law_4_4)
noncomputable def tR_law_4_2 : E_law → Option (Fw (Bool × E_law) E_law) :=
    (tSeq (tExpX (xLM lmApp (pVar n_law_6) (pCons (tV n_law_7) pNil)))
    tR_law_4_3)
noncomputable def tR_law_4_1 : E_law → Option (Fw (Bool × E_law) E_law) :=
    (tSeq (tExpX (xCall T_z8 (qq (qObj (pVar n_law_5) (qVal (tB tIx (tV n_law_2) (tB subI (tV n_law_7) (tK (1 : Int)))) qNil))) (uObj (pVar n_law_5) uNil)))
    tR_law_4_2)
noncomputable def tL_law_4 : E_law → Option (Fw (Bool × E_law) E_law) :=
    (tSeq (tIfS (tNot (tTr (tCall sameT (pCons (tCallP T_z22 (qObj (pVar n_law_5) (qVal (tV n_law_7) (qVal (tK (30 : Int)) qNil)))) (pCons (tK true) pNil)))))
    (tRetX (tX (tK false)))
    tNil)
    tR_law_4_1)
theorem oL_law_4 : SP (β := (Bool × E_law)) (rE (rV (α := Bool))) tL_law_4 L_law_4 := by unfold tL_law_4 tR_law_4_1 tR_law_4_2 tR_law_4_3 tR_law_4_4 L_law_4; exact (s_cons (s_if (p_not (p_Tr ((t_call tok_z17 (p_cons (t_callP tok_z22 (q_obj (pk_var n_law_5) (q_val (t_var n_law_7) (q_val (t_val (v := (30 : Int)) rfl) q_nil)))) (p_cons (t_val (v := true) rfl) p_nil)))).v))
    (s_retX (EP.x (t_val (v := false) rfl)))
    s_nil)
    (s_cons (s_expX (x_call tok_z8 (AQ.o (q_obj (pk_var n_law_5) (q_val (t_bin o_ix ((t_var n_law_2)).v ((t_bin o_sub ((t_var n_law_7)).v ((t_val (v := (1 : Int)) rfl)).v)).v) q_nil)))))
    (s_cons (s_expX (x_lm lm_app (pk_var n_law_6) (p_cons (t_var n_law_7) p_nil)))
    (s_cons (s_if (p_or (p_not (p_Tr ((t_callP tok_z11 (q_obj (pk_var n_law_5) (q_val (t_var n_law_2) (q_obj (pk_var n_law_6) q_nil))))).v)) (p_not (p_Tr ((t_call tok_z17 (p_cons (t_callP tok_z22 (q_obj (pk_var n_law_5) (q_val (t_var n_law_7) (q_val (t_val (v := (30 : Int)) rfl) q_nil)))) (p_cons (t_val (v := false) rfl) p_nil)))).v)))
    (s_retX (EP.x (t_val (v := false) rfl)))
    s_nil)
    (s_for (i_rg2 ((t_val (v := (1 : Int)) rfl)).v ((t_bin o_add ((t_cb1 o_len ((t_var n_law_2)).v)).v ((t_val (v := (1 : Int)) rfl)).v)).v) (g_nm n_law_9) oL_law_3)))))
noncomputable def tR_law__7 : E_law → Option (Fw (Bool × E_law) E_law) :=
    (tRetX (tX (tK true)))
noncomputable def tR_law__6 : E_law → Option (Fw (Bool × E_law) E_law) :=
    (tSeq (tForP (pVar n_law_3) k_law_3 (pNm n_law_7) tL_law_4)
    tR_law__7)
noncomputable def tR_law__5 : E_law → Option (Fw (Bool × E_law) E_law) :=
    (tSeq (tSetO n_law_6 (tX (tLst (lNil (α := Int)))))
    tR_law__6)
noncomputable def tR_law__4 : E_law → Option (Fw (Bool × E_law) E_law) :=
    (tSeq (tSetJ n_law_5 (xNew ⟨emp_Association⟩ T_z4 (qq (qVal (tK (1 : Int)) (qVal (tK (2 : Int)) (qVal (tLst (lCons (tK (3 : Int)) lNil)) qNil)))) uNil))
    tR_law__5)
noncomputable def tR_law__3 : E_law → Option (Fw (Bool × E_law) E_law) :=
    (tSeq (tFor k_law_1 (iR1 (t1 lenT (tPL (pVar n_law_3)))) (pNm n_law_4) tL_law_1)
    tR_law__4)
noncomputable def tR_law__2 : E_law → Option (Fw (Bool × E_law) E_law) :=
    (tSeq (tSetO n_law_3 (tX tQ_law_1))
    tR_law__3)
noncomputable def tR_law__1 : E_law → Option (Fw (Bool × E_law) E_law) :=
    (tSeq (tSet n_law_2 (tCall T_z13 (pCons (tV n_law_0) (pCons (tK (2 : Int)) (pCons (tK (30 : Int)) pNil)))))
    tR_law__2)
noncomputable def tB_law : E_law → Option (Fw (Bool × E_law) E_law) :=
    (tSeq (tSet n_law_1 (tCall T_z16 (pCons (tCall T_z20 (pCons (tV n_law_0) (pCons (tK (0 : Int)) pNil))) (pCons (tK (40 : Int)) pNil))))
    tR_law__1)
noncomputable def T_law : Scr × Unit → Option Bool := fnXT (E := E_law) (fun κ a => (some a.1, none, none, Oj.no, none, Oj.no, Oj.no, none, none, none, none, none, none, none, none, ())) none tB_law
theorem tok_law : FnT F_law T_law := fn_XT (m := 14) (by have h : IniP (A := Scr × Unit) (E := E_law) _ 0 _ _ := (ini_v (ini_u (e0 := (none, none, Oj.no, none, Oj.no, Oj.no, none, none, none, none, none, none, none, none, ())) (m := 14) fun M => (rel_cons rel_none (rel_cons rel_none (rel_cons rel_ojn (rel_cons rel_none (rel_cons rel_ojn (rel_cons rel_ojn (rel_cons rel_none (rel_cons rel_none (rel_cons rel_none (rel_cons rel_none (rel_cons rel_none (rel_cons rel_none (rel_cons rel_none (rel_cons rel_none rel_nil)))))))))))))))); exact h) (by unfold tB_law tR_law__1 tR_law__2 tR_law__3 tR_law__4 tR_law__5 tR_law__6 tR_law__7 B_law; exact (s_cons (s_set n_law_1 ((t_callN tok_z16 (p_cons (t_call tok_z20 (p_cons (t_var n_law_0) (p_cons (t_val (v := (0 : Int)) rfl) p_nil))) (p_cons (t_val (v := (40 : Int)) rfl) p_nil)))).p)
    (s_cons (s_set n_law_2 ((t_callN tok_z13 (p_cons (t_var n_law_0) (p_cons (t_val (v := (2 : Int)) rfl) (p_cons (t_val (v := (30 : Int)) rfl) p_nil))))).p)
    (s_cons (s_setO n_law_3 (EX.no (EN.xn oQ_law_1)))
    (s_cons (s_for (i_rg1 ((t_cb1 o_len (t_pl (pk_var n_law_3)))).v) (g_nm n_law_4) oL_law_1)
    (s_cons (s_setJ n_law_5 (x_new tok_z4 emp_rel_Association (AQ.o (q_val (t_val (v := (1 : Int)) rfl) (q_val (t_val (v := (2 : Int)) rfl) (q_val ((t_lst (l_cons (t_val (v := (3 : Int)) rfl) l_nil))).p q_nil))))))
    (s_cons (s_setO n_law_6 (EX.no (EN.xn (t_lst (l_nil (α := Int))))))
    (s_cons (s_forP (pk_var n_law_3) (g_nm n_law_7) oL_law_4)
    (s_retX (EP.x (t_val (v := true) rfl))))))))))) (fun b h => by cases h)
end K52
namespace K52
open PySem PySem.Spec PyProof.Rows L2 CI TL
structure As where
  tag : Int
  peer : Int
  paths : (Tu Int)
  given : (List (P4 Int (Option Int) Int (Tu Int)))
  sent : Int
  acked : Int
  beyond : (List Int)
  up_to : Int
  arrived : (List Int)
  waiting : List (P4 Int (Option Int) Int (Tu Int))
  delivered : List (P4 Int (Option Int) Int (Tu Int))
  serial_in : Int
  serial_out : Int
  serial_acked : Int
  closing : Str
def As.e (b : As) : FE_Association := (some b.tag, some b.peer, some b.paths, some b.given, some b.sent, some b.acked, some b.beyond, some b.up_to, some b.arrived, .own ⟨b.waiting⟩, .own ⟨b.delivered⟩, some b.serial_in, some b.serial_out, some b.serial_acked, some b.closing, ())
abbrev As.o (b : As) : CS_Association := ⟨b.e⟩
@[simp] theorem gAs_0 (b : As) : lf_Association_0.get b.e = some b.tag := rfl
@[simp] theorem sAs_0 (b : As) (v : Int) : lf_Association_0.set b.e (some v) = { b with tag := v }.e := rfl
@[simp] theorem gAs_1 (b : As) : lf_Association_1.get b.e = some b.peer := rfl
@[simp] theorem sAs_1 (b : As) (v : Int) : lf_Association_1.set b.e (some v) = { b with peer := v }.e := rfl
@[simp] theorem gAs_2 (b : As) : lf_Association_2.get b.e = some b.paths := rfl
@[simp] theorem sAs_2 (b : As) (v : (Tu Int)) : lf_Association_2.set b.e (some v) = { b with paths := v }.e := rfl
@[simp] theorem gAs_3 (b : As) : lf_Association_3.get b.e = some b.given := rfl
@[simp] theorem sAs_3 (b : As) (v : (List (P4 Int (Option Int) Int (Tu Int)))) : lf_Association_3.set b.e (some v) = { b with given := v }.e := rfl
@[simp] theorem gAs_4 (b : As) : lf_Association_4.get b.e = some b.sent := rfl
@[simp] theorem sAs_4 (b : As) (v : Int) : lf_Association_4.set b.e (some v) = { b with sent := v }.e := rfl
@[simp] theorem gAs_5 (b : As) : lf_Association_5.get b.e = some b.acked := rfl
@[simp] theorem sAs_5 (b : As) (v : Int) : lf_Association_5.set b.e (some v) = { b with acked := v }.e := rfl
@[simp] theorem gAs_6 (b : As) : lf_Association_6.get b.e = some b.beyond := rfl
@[simp] theorem sAs_6 (b : As) (v : (List Int)) : lf_Association_6.set b.e (some v) = { b with beyond := v }.e := rfl
@[simp] theorem gAs_7 (b : As) : lf_Association_7.get b.e = some b.up_to := rfl
@[simp] theorem sAs_7 (b : As) (v : Int) : lf_Association_7.set b.e (some v) = { b with up_to := v }.e := rfl
@[simp] theorem gAs_8 (b : As) : lf_Association_8.get b.e = some b.arrived := rfl
@[simp] theorem sAs_8 (b : As) (v : (List Int)) : lf_Association_8.set b.e (some v) = { b with arrived := v }.e := rfl
@[simp] theorem gAs_9 (b : As) : lf_Association_9.get b.e = .own ⟨b.waiting⟩ := rfl
@[simp] theorem sAs_9 (b : As) (v : List (P4 Int (Option Int) Int (Tu Int))) : lf_Association_9.set b.e (.own ⟨v⟩) = { b with waiting := v }.e := rfl
@[simp] theorem gAs_10 (b : As) : lf_Association_10.get b.e = .own ⟨b.delivered⟩ := rfl
@[simp] theorem sAs_10 (b : As) (v : List (P4 Int (Option Int) Int (Tu Int))) : lf_Association_10.set b.e (.own ⟨v⟩) = { b with delivered := v }.e := rfl
@[simp] theorem gAs_11 (b : As) : lf_Association_11.get b.e = some b.serial_in := rfl
@[simp] theorem sAs_11 (b : As) (v : Int) : lf_Association_11.set b.e (some v) = { b with serial_in := v }.e := rfl
@[simp] theorem gAs_12 (b : As) : lf_Association_12.get b.e = some b.serial_out := rfl
@[simp] theorem sAs_12 (b : As) (v : Int) : lf_Association_12.set b.e (some v) = { b with serial_out := v }.e := rfl
@[simp] theorem gAs_13 (b : As) : lf_Association_13.get b.e = some b.serial_acked := rfl
@[simp] theorem sAs_13 (b : As) (v : Int) : lf_Association_13.set b.e (some v) = { b with serial_acked := v }.e := rfl
@[simp] theorem gAs_14 (b : As) : lf_Association_14.get b.e = some b.closing := rfl
@[simp] theorem sAs_14 (b : As) (v : Str) : lf_Association_14.set b.e (some v) = { b with closing := v }.e := rfl

abbrev Msg : Type := P4 Int (Option Int) Int (Tu Int)
theorem seq_nx {E β : Type} {a b : E → Option (Fw β E)} {e e1 : E} (h : a e = some (.nx e1)) : TL.tSeq a b e = b e1 := by
  unfold TL.tSeq
  rw [h]; rfl
theorem ex_d (came : List Int) : ∀ (m : Nat) (u : Int), (∀ x ∈ came, x ≤ u + m) → ∃ d : Nat, d ≤ m ∧ (∀ i : Nat, i < d → u + 1 + i ∈ came) ∧ ¬ u + d + 1 ∈ came
  | 0, u, h => ⟨0, Nat.le_refl _, fun i hi => absurd hi (Nat.not_lt_zero _), fun q => by have := h _ q; omega⟩
  | m + 1, u, h => by
    by_cases q : u + 1 ∈ came
    · obtain ⟨d, h1, h2, h3⟩ := ex_d came m (u + 1) fun x hx => by have := h x hx; omega
      refine ⟨d + 1, by omega, fun i hi => ?_, fun r => h3 ?_⟩
      · cases i with
        | zero => simpa using q
        | succ i =>
          have := h2 i (by omega)
          rw [show u + 1 + ((i + 1 : Nat) : Int) = u + 1 + 1 + i by omega]
          exact this
      · rw [show u + 1 + (d : Int) + 1 = u + ((d + 1 : Nat) : Int) + 1 by omega]
        exact r
    · exact ⟨0, Nat.zero_le _, fun i hi => absurd hi (Nat.not_lt_zero _), by simpa using q⟩
theorem rg_mem {m : Nat} {x : Int} : x ∈ rgT 1 m ↔ 1 ≤ x ∧ x ≤ m := by
  unfold rgT
  rw [List.mem_map]
  constructor
  · rintro ⟨i, hi, rfl⟩
    have := List.mem_range.mp hi
    omega
  · rintro ⟨h1, h2⟩
    exact ⟨(x - 1).toNat, List.mem_range.mpr (by omega), by omega⟩
theorem rg_len (a : Int) (m : Nat) : (rgT a m).length = m := by unfold rgT; simp
theorem at_n {α : Type} (l : List α) (n : Nat) (h : n < l.length) : L2.atI l (n : Int) = some l[n] := by
  rw [at_nat (by omega)]
  simp [h]
theorem okE_oi (x : Option Int) : EncEq.okE x = true := by cases x <;> rfl
def ofS (rows : List Msg) (st : Option Int) : List Msg := rows.filter fun r => decide (r.b = st)
theorem of_stream_ok (rows : List Msg) (st : Option Int) (hl : rows.length ≤ 10000) : T_z21 (rows, st, ()) = some (ofS rows st) := by
  have key : filtM (tElt (pNm n_z21_2) (TL.tB eqT (tMap (fun x => x.b) (tV n_z21_2)) (tV n_z21_1)) (tV n_z21_2) ((some rows, some st, none, ()) : E_z21)) rows = some (ofS rows st) := by
    refine (filtM_filter (p := fun r : Msg => decide (r.b = st)) (h := id) fun y _ => ?_).trans (by rw [List.map_id]; rfl)
    by_cases q : y.b = st
    · simp -implicitDefEqProofs [q, okE_oi]
    · simp -implicitDefEqProofs [q, okE_oi]
  have hl : rows.length ≤ 16777216 := by omega
  unfold T_z21 tB_z21 tQ_z21_1
  generalize ofS rows st = G at *
  simp -implicitDefEqProofs [-tElt, key, hl]
def plc (rows : List Msg) (st : Option Int) : Int := if st.isNone = true then 0 else ((ofS rows st).length : Int)

def Asc (S : List Int) : Prop := S.Pairwise (· < ·)
theorem asc_of {S : List Int} (h : S.Pairwise (· ≤ ·)) (hn : S.Nodup) : Asc S := by
  refine List.Pairwise.imp₂ (fun a b h1 (h2 : a ≠ b) => ?_) h hn
  omega
theorem asc_ext : ∀ {a b : List Int}, Asc a → Asc b → (∀ x, x ∈ a ↔ x ∈ b) → a = b
  | [], [], _, _, _ => rfl
  | [], y :: b, _, _, h => absurd ((h y).mpr List.mem_cons_self) List.not_mem_nil
  | x :: a, [], _, _, h => absurd ((h x).mp List.mem_cons_self) List.not_mem_nil
  | x :: a, y :: b, ha, hb, h => by
    have ha' := List.pairwise_cons.mp ha
    have hb' := List.pairwise_cons.mp hb
    have e : x = y := by
      rcases List.mem_cons.mp ((h x).mp List.mem_cons_self) with q | q
      · exact q
      · rcases List.mem_cons.mp ((h y).mpr List.mem_cons_self) with r | r
        · exact r.symm
        · have := hb'.1 x q; have := ha'.1 y r; omega
    subst e
    congr 1
    refine asc_ext ha'.2 hb'.2 fun z => ⟨fun hz => ?_, fun hz => ?_⟩
    · rcases List.mem_cons.mp ((h z).mp (List.mem_cons_of_mem _ hz)) with q | q
      · have := ha'.1 z hz; omega
      · exact q
    · rcases List.mem_cons.mp ((h z).mpr (List.mem_cons_of_mem _ hz)) with q | q
      · have := hb'.1 z hz; omega
      · exact q
/-- the greatest number up to which all came -/
structure Lst (came : List Int) (u : Int) : Prop where
  lo : 0 ≤ u
  all : ∀ k, 1 ≤ k → k ≤ u → k ∈ came
  no : ¬ u + 1 ∈ came
/-! note_arrival -/
theorem note_loop (k0 : Nat) (arr : List Int) : ∀ (d n : Nat) (a : As), d < n → (∀ i : Nat, i < d → a.up_to + 1 + i ∈ arr) → ¬ a.up_to + d + 1 ∈ arr →
    whT k_z5 tT_note_arrival_1 tL_z5 n ((.at_ k0 a.o, none, some arr, none, ()) : E_z9) = some (.nx (.at_ k0 ({ a with up_to := a.up_to + d } : As).o, none, some arr, none, ()))
  | 0, 0, a, h, _, _ => absurd h (Nat.lt_irrefl _)
  | 0, n + 1, a, _, _, h => by
    have h : ¬ a.up_to + 1 ∈ arr := by simpa using h
    have t : tT_note_arrival_1 ((.at_ k0 a.o, none, some arr, none, ()) : E_z9) = some false := by
      unfold tT_note_arrival_1
      simp -implicitDefEqProofs [h]
    unfold whT
    rw [t]
    have e : ({ a with up_to := a.up_to + ((0 : Nat) : Int) } : As) = a := by
      obtain ⟨x1, x2, x3, x4, x5, x6, x7, x8, x9, x10, x11, x12, x13, x14, x15⟩ := a
      simp
    rw [e]
    rfl
  | d + 1, 0, a, h, _, _ => absurd h (Nat.not_lt_zero _)
  | d + 1, n + 1, a, hn, h1, h2 => by
    have q : a.up_to + 1 ∈ arr := by simpa using h1 0 (by omega)
    have t : tT_note_arrival_1 ((.at_ k0 a.o, none, some arr, none, ()) : E_z9) = some true := by
      unfold tT_note_arrival_1
      simp -implicitDefEqProofs [q]
    have b : tL_z5 ((.at_ k0 a.o, none, some arr, none, ()) : E_z9) = some (.nx (.at_ k0 ({ a with up_to := a.up_to + 1 } : As).o, none, some arr, none, ())) := by
      unfold tL_z5
      simp -implicitDefEqProofs
    have ih := note_loop k0 arr d n { a with up_to := a.up_to + 1 } (by omega) (fun i hi => by
      show a.up_to + 1 + 1 + i ∈ arr
      have := h1 (i + 1) (by omega)
      rw [show a.up_to + 1 + 1 + (i : Int) = a.up_to + 1 + ((i + 1 : Nat) : Int) by omega]
      exact this) (by
      show ¬ a.up_to + 1 + d + 1 ∈ arr
      rw [show a.up_to + 1 + (d : Int) + 1 = a.up_to + ((d + 1 : Nat) : Int) + 1 by omega]
      exact h2)
    conv => lhs; unfold whT
    rw [t]
    simp only [Option.bind_some, if_true]
    rw [b]
    simp only [Option.bind_some, whT1]
    refine Eq.trans ih ?_
    have e : ({ ({ a with up_to := a.up_to + 1 } : As) with up_to := a.up_to + 1 + (d : Int) } : As) = { a with up_to := a.up_to + ((d + 1 : Nat) : Int) } := by
      show As.mk _ _ _ _ _ _ _ _ _ _ _ _ _ _ _ = As.mk _ _ _ _ _ _ _ _ _ _ _ _ _ _ _
      congr 1
      omega
    exact congrArg (fun z : As => some (Fw.nx ((.at_ k0 z.o, none, some arr, none, ()) : E_z9))) e
theorem note_ok (a : As) (x : Int) (d : Nat) (hd : d < 1000) (hl : a.arrived.length ≤ 1000) (h1 : ∀ i : Nat, i < d → a.up_to + 1 + i ∈ a.arrived ++ [x]) (h2 : ¬ a.up_to + d + 1 ∈ a.arrived ++ [x]) :
    T_z9 (⟨a.o⟩, x, ()) = some ((), ({ a with up_to := a.up_to + d, arrived := isort ((a.arrived ++ [x]).filter fun y => decide (a.up_to + d < y)) } : As).o, ()) := by
  refine fnX_eq fun κ => ?_
  have lp := note_loop (κ 0) (a.arrived ++ [x]) d 100000 a (by omega) h1 h2
  have l1 : a.arrived.length ≤ 16777215 := by omega
  have l2 : (a.arrived ++ [x]).length ≤ 16777216 := by rw [List.length_append, List.length_singleton]; omega
  generalize ha2 : ({ a with up_to := a.up_to + d } : As) = a2 at lp
  have hu : a2.up_to = a.up_to + d := by rw [← ha2]
  have key : filtM (tElt (pNm n_z9_3) (TL.tB gtI (tV n_z9_3) (tFV (pVar n_z9_0) lf_Association_7)) (tV n_z9_3) ((.at_ (κ 0) a2.o, none, some (a.arrived ++ [x]), none, ()) : E_z9)) (a.arrived ++ [x]) = some ((a.arrived ++ [x]).filter fun y => decide (a.up_to + d < y)) := by
    refine (filtM_filter (p := fun y => decide (a.up_to + d < y)) (h := id) fun y _ => ?_).trans (by rw [List.map_id])
    by_cases q : a.up_to + d < y
    · simp -implicitDefEqProofs [q, hu]
    · simp -implicitDefEqProofs [q, hu]
  have s1 : (tSet n_z9_2 (tLst (lStar (tFV (pVar n_z9_0) lf_Association_8) (lCons (tV n_z5) lNil))) : E_z9 → Option (Fw (Unit × E_z9) E_z9)) (.at_ (κ 0) a.o, some x, none, none, ()) = some (.nx (.at_ (κ 0) a.o, some x, some (a.arrived ++ [x]), none, ())) := by
    simp -implicitDefEqProofs [l1]
  have s2 : (TL.tWhile k_z5 100000 tT_note_arrival_1 tL_z5) ((.at_ (κ 0) a.o, some x, some (a.arrived ++ [x]), none, ()) : E_z9) = some (.nx (.at_ (κ 0) a2.o, none, some (a.arrived ++ [x]), none, ())) := lp
  have s3 : (tFldX (pVar n_z9_0) lf_Association_8 some (tX (t1 srtT tQ_z5)) : E_z9 → Option (Fw (Unit × E_z9) E_z9)) (.at_ (κ 0) a2.o, none, some (a.arrived ++ [x]), none, ()) = some (.nx (.at_ (κ 0) ({ a2 with arrived := isort ((a.arrived ++ [x]).filter fun y => decide (a.up_to + d < y)) } : As).o, none, some (a.arrived ++ [x]), none, ())) := by
    unfold tQ_z5
    generalize a.arrived ++ [x] = A at *
    generalize A.filter (fun y => decide (a.up_to + d < y)) = G at *
    simp -implicitDefEqProofs [-tElt, l2, key]
  unfold tB_z9
  refine (congrArg (fun w => Option.bind w _) ((seq_nx s1).trans ((seq_nx s2).trans s3))).trans ?_
  rw [← ha2]
  simp -implicitDefEqProofs
/-! what the law reckons -/
theorem rg_asc (m : Nat) : Asc (rgT 1 m) := by
  unfold rgT Asc
  rw [List.pairwise_map]
  exact List.pairwise_lt_range.imp fun h => by omega
/-- one more came -/
theorem lst_step {came arr : List Int} {u0 x : Int} {m : Nat} (h : Lst came u0) (harr : arr = isort (came.filter fun y => decide (u0 < y))) (hc : ∀ y ∈ came, 1 ≤ y ∧ y ≤ m) (hx : 1 ≤ x ∧ x ≤ m) (hnd : (came ++ [x]).Nodup) :
    ∃ d : Nat, d ≤ m ∧ (∀ i : Nat, i < d → u0 + 1 + i ∈ arr ++ [x]) ∧ ¬ u0 + d + 1 ∈ arr ++ [x] ∧ Lst (came ++ [x]) (u0 + d) ∧ u0 + d ≤ m ∧
      isort ((arr ++ [x]).filter fun y => decide (u0 + d < y)) = isort ((came ++ [x]).filter fun y => decide (u0 + d < y)) ∧
      isort ((came ++ [x]).filter fun y => decide (u0 + d < y)) = (rgT 1 m).filter fun y => decide (y ∈ came ++ [x]) && decide (u0 + d < y) := by
  have ar : ∀ y, u0 < y → (y ∈ arr ++ [x] ↔ y ∈ came ++ [x]) := fun y hy => by
    rw [harr, List.mem_append, List.mem_append, (isort_perm _).mem_iff, List.mem_filter]
    exact ⟨fun q => q.imp And.left id, fun q => q.imp (fun z => ⟨z, decide_eq_true hy⟩) id⟩
  have h0 := h.lo
  have hc' : ∀ y ∈ came ++ [x], 1 ≤ y ∧ y ≤ m := fun y hy => by
    rcases List.mem_append.mp hy with q | q
    · exact hc y q
    · rw [List.mem_singleton.mp q]; exact hx
  obtain ⟨d, d1, d2, d3⟩ := ex_d (came ++ [x]) m u0 fun y hy => by have := hc' y hy; omega
  have L : Lst (came ++ [x]) (u0 + d) := ⟨by omega, fun k k1 k2 => by
    by_cases q : k ≤ u0
    · exact List.mem_append_left _ (h.all k k1 q)
    · have := d2 (k - u0 - 1).toNat (by omega)
      rw [show u0 + 1 + ((k - u0 - 1).toNat : Int) = k by omega] at this
      exact this, d3⟩
  have nd : ((came ++ [x]).filter fun y => decide (u0 + d < y)).Nodup := List.Nodup.sublist List.filter_sublist hnd
  have um : u0 + d ≤ m := by
    by_cases q : u0 + d = 0
    · omega
    · exact (hc' _ (L.all _ (by omega) (Int.le_refl _))).2
  have nda : (arr ++ [x]).Nodup := by
    have h1 := List.nodup_append.mp hnd
    refine List.nodup_append.mpr ⟨?_, h1.2.1, fun a ha b hb e => ?_⟩
    · rw [harr]
      exact (isort_perm _).nodup_iff.mpr (List.Nodup.sublist List.filter_sublist h1.1)
    · rw [harr] at ha
      exact h1.2.2 a (List.mem_filter.mp ((isort_perm _).mem_iff.mp ha)).1 b hb e
  have nd2 : ((arr ++ [x]).filter fun y => decide (u0 + d < y)).Nodup := List.Nodup.sublist List.filter_sublist nda
  have A1 : Asc (isort ((came ++ [x]).filter fun y => decide (u0 + d < y))) := asc_of (isort_pw _) ((isort_perm _).nodup_iff.mpr nd)
  have A2 : Asc (isort ((arr ++ [x]).filter fun y => decide (u0 + d < y))) := asc_of (isort_pw _) ((isort_perm _).nodup_iff.mpr nd2)
  refine ⟨d, d1, fun i hi => (ar _ (by omega)).mpr (d2 i hi), fun q => d3 ((ar _ (by omega)).mp q), L, um, asc_ext A2 A1 fun y => ?_, asc_ext A1 (List.Pairwise.filter _ (rg_asc m)) fun y => ?_⟩
  · rw [(isort_perm _).mem_iff, (isort_perm _).mem_iff, List.mem_filter, List.mem_filter]
    constructor
    · rintro ⟨q1, q2⟩
      exact ⟨(ar y (by have := of_decide_eq_true q2; omega)).mp q1, q2⟩
    · rintro ⟨q1, q2⟩
      exact ⟨(ar y (by have := of_decide_eq_true q2; omega)).mpr q1, q2⟩
  · rw [(isort_perm _).mem_iff, List.mem_filter, List.mem_filter, rg_mem, Bool.and_eq_true, decide_eq_true_eq]
    constructor
    · rintro ⟨q1, q2⟩
      exact ⟨hc' y q1, by simpa using q1, q2⟩
    · rintro ⟨q1, q2, q3⟩
      exact ⟨by simpa using q2, q3⟩

/-! draws: so many numbers from 0 to 999 -/
def Dr (n : Nat) (ds : List Int) : Prop := ds.length = n ∧ ∀ d ∈ ds, 0 ≤ d ∧ d < 1000
theorem sm_c {j : Int} (h : sm64 j = true) (i : Int) : bMul i j = true := by unfold bMul; rw [h]; simp
theorem draws_ok (c many : Int) (h0 : 0 ≤ many) (h : many ≤ 100000) : ∃ ds, T_z16 (c, many, ()) = some ds ∧ Dr many.toNat ds := by
  have m1 : ∀ i : Int, bMul i 48271 = true := sm_c (by decide)
  have m2 : ∀ i : Int, bMul i 69621 = true := sm_c (by decide)
  have d1 : bDiv 0 1000 = true := by decide
  have d2 : ∀ i : Int, bDiv i 1000 = true := fun i => d1
  have o1 : ∀ i : Int, bMod i 1000 = true := fun i => rfl
  have o2 : ∀ i : Int, bMod i 2147483647 = true := fun i => rfl
  have o3 : ∀ i : Int, bMod i 2147483629 = true := fun i => rfl
  have p1 : bPow 10 18 = true := by decide
  have r1 : rgB many = true := by unfold rgB; simp; omega
  have g1 : (rgT 0 many.toNat).length = many.toNat := by unfold rgT; simp
  have rng : ∀ (rows : List Int) (x : Int), (∀ d ∈ rows, 0 ≤ d ∧ d < 1000) → ∀ d ∈ rows ++ [x % 1000], 0 ≤ d ∧ d < 1000 := fun rows x hr d hd => by
    rcases List.mem_append.mp hd with q | q
    · exact hr d q
    · rw [List.mem_singleton.mp q]; omega
  have loop1 : ∀ rest : Int, ∃ rows rest', forT k_z16_1 (pNm n_z16_5) tL_z16_1 (rgT 0 many.toNat) (some c, some many, ⟨some ⟨[]⟩⟩, some rest, none, none, ()) =
      some (.nx (some c, some many, ⟨some ⟨rows⟩⟩, some rest', none, none, ())) ∧ rows.length ≤ many.toNat ∧ ∀ d ∈ rows, 0 ≤ d ∧ d < 1000 := fun rest => by
    obtain ⟨e', h1, rows, rest', rfl, h2, h3⟩ := forT_inv (kp := k_z16_1) (asg := pNm n_z16_5) (body := tL_z16_1)
      (fun xs e => ∃ rows rest, e = (some c, some many, ⟨some ⟨rows⟩⟩, some rest, none, none, ()) ∧ rows.length + xs.length ≤ many.toNat ∧ ∀ d ∈ rows, 0 ≤ d ∧ d < 1000)
      (fun x xs e ⟨rows, rest, he, hl, hr⟩ => by
        subst he
        simp only [List.length_cons] at hl
        have hz : rows.length < 16777216 := by omega
        refine ⟨_, rfl, ?_⟩
        by_cases q : 0 < rest
        · refine ⟨_, .inl (by simp [tL_z16_1, q, hz, o1, d2]; rfl), rows ++ [rest % 1000], rest / 1000, rfl, by simp; omega, rng rows rest hr⟩
        · refine ⟨_, .inl (by simp [tL_z16_1, q]; rfl), rows, rest, rfl, by omega, hr⟩)
      (rgT 0 many.toNat) _ ⟨[], rest, rfl, by rw [g1]; simp, fun d hd => nomatch hd⟩
    exact ⟨rows, rest', h1, by simpa using h2, h3⟩
  have loop2 : ∀ (rows : List Int) (st : Int), rows.length ≤ many.toNat → (∀ d ∈ rows, 0 ≤ d ∧ d < 1000) → ∃ rows' st', forT k_z16_2 (pNm n_z16_5) tL_z16_2 (rgT 0 many.toNat) (none, some many, ⟨some ⟨rows⟩⟩, none, some st, none, ()) =
      some (.nx (none, some many, ⟨some ⟨rows'⟩⟩, none, some st', none, ())) ∧ Dr many.toNat rows' := fun rows st hl0 hr0 => by
    obtain ⟨e', h1, rows', st', rfl, h2, h3, h4⟩ := forT_inv (kp := k_z16_2) (asg := pNm n_z16_5) (body := tL_z16_2)
      (fun xs e => ∃ rows st, e = (none, some many, ⟨some ⟨rows⟩⟩, none, some st, none, ()) ∧ rows.length ≤ many.toNat ∧ many.toNat ≤ rows.length + xs.length ∧ ∀ d ∈ rows, 0 ≤ d ∧ d < 1000)
      (fun x xs e ⟨rows, st, he, hl, hm, hr⟩ => by
        subst he
        simp only [List.length_cons] at hm
        have hz : rows.length < 16777216 := by omega
        refine ⟨_, rfl, ?_⟩
        by_cases q : (rows.length : Int) < many
        · exact ⟨_, .inl (by simp [tL_z16_2, q, hz, o1, o2, o3, m1, m2]; rfl), rows ++ [_], _, rfl, by simp; omega, by simp; omega, rng rows _ hr⟩
        · exact ⟨_, .inl (by simp [tL_z16_2, q, o2, m1, m2]; rfl), rows, _, rfl, by omega, by omega, hr⟩)
      (rgT 0 many.toNat) _ ⟨rows, st, rfl, hl0, by rw [g1]; omega, hr0⟩
    exact ⟨rows', st', h1, by simp at h3; omega, h4⟩
  by_cases q : (10 : Int) ^ 18 ≤ c
  · obtain ⟨rows, rest', k1, k2, k3⟩ := loop1 c
    obtain ⟨rows', st', k4, k5⟩ := loop2 rows ((c * 48271 + 11) % 2147483647) k2 k3
    refine ⟨rows', ?_, k5⟩
    simp only [T_z16, tB_z16, fnT]
    have q2 : (1000000000000000000 : Int) ≤ c := by simpa using q
    simp [p1, q2, r1, k1, m1, o2, k4]
  · obtain ⟨rows', st', k4, k5⟩ := loop2 [] ((c * 48271 + 11) % 2147483647) (by simp) (fun d hd => nomatch hd)
    refine ⟨rows', ?_, k5⟩
    simp only [T_z16, tB_z16, fnT]
    have q2 : ¬ (1000000000000000000 : Int) ≤ c := by simpa using q
    simp [p1, q2, r1, m1, o2, k4]

theorem gds_ints (n : Nat) : ∀ l : List Int, gdDs n (l.map D.int) = true
  | [] => by simp [gdDs]
  | x :: l => by rw [List.map_cons]; unfold gdDs; rw [gds_ints n l]; simp [gdD]
theorem gd_b (b : Bool) : gdD 7 (Enc.enc b) = true := by cases b <;> rfl
theorem forT_inv0 {E α β : Type} {kp : E → E} {asg : α → E → Option E} {body : E → Option (Fw β E)} (I : List α → E → Prop)
    (hs : ∀ x xs e, I (x :: xs) e → ∃ e1, asg x e = some e1 ∧ ∃ e2, (body e1 = some (.nx e2) ∨ body e1 = some (.ct e2)) ∧ I xs (kp e2)) :
    ∀ xs e, I xs e → ∃ e', forT kp asg body xs e = some (.nx e') ∧ I [] e'
  | [], e, h => ⟨e, rfl, h⟩
  | x :: xs, e, h => by
    obtain ⟨e1, h1, e2, h2, h3⟩ := hs x xs e h
    unfold forT
    rw [h1]; simp only [Option.bind_some]
    obtain ⟨e', h4, h5⟩ := forT_inv0 I hs xs _ h3
    rcases h2 with h2 | h2 <;> (rw [h2]; simp only [Option.bind_some, forT1]; exact ⟨e', h4, h5⟩)

set_option synthInstance.maxSize 20000
set_option synthInstance.maxHeartbeats 0
theorem okE_msg (r : Msg) : EncEq.okE r = true := by
  obtain ⟨a, b, c, d⟩ := r
  have h : EncEq.okE d = true := List.all_eq_true.mpr fun _ _ => rfl
  cases b <;> exact h
/-- may be delivered now -/
def rdy (Dl : List Msg) (r : Msg) : Bool := r.b.isNone || decide (r.c = ((ofS Dl r.b).length : Int))
theorem ready_ok (a : As) (r : Msg) (hl : a.delivered.length ≤ 10000) : T_z14 (⟨a.o⟩, r, ()) = some (rdy a.delivered r) := by
  have os := of_stream_ok a.delivered r.b hl
  unfold T_z14 tB_z14 rdy
  generalize ofS a.delivered r.b = G at *
  cases h : r.b with
  | none => simp -implicitDefEqProofs [h]
  | some s =>
    rw [h] at os
    by_cases c : r.c = (G.length : Int)
    · simp -implicitDefEqProofs [h, os, c]
    · simp -implicitDefEqProofs [h, os, c]
theorem first_ok (a : As) (hl : a.delivered.length ≤ 10000) : T_z6 (⟨a.o⟩, ()) = some (a.waiting.find? (rdy a.delivered)) := by
  have lp : ∀ rows : List Msg, forT k_z6_1 (pNm n_z6_1) tL_first_ready_1_p rows ((.own a.o, none, ()) : E_z6) = some (match rows.find? (rdy a.delivered) with | some r => .rt (some r) | none => .nx (.own a.o, none, ())) := fun rows => by
    induction rows with
    | nil => rfl
    | cons r rows ih =>
      have rd := ready_ok a r hl
      unfold forT
      rw [show pNm n_z6_1 r ((.own a.o, none, ()) : E_z6) = some ((.own a.o, some r, ()) : E_z6) from rfl]
      simp only [Option.bind_some]
      cases h : rdy a.delivered r with
      | true =>
        rw [h] at rd
        have bd : tL_first_ready_1_p ((.own a.o, some r, ()) : E_z6) = some (.rt (some r)) := by
          clear ih
          unfold tL_first_ready_1_p
          simp -implicitDefEqProofs [rd]
        rw [bd, List.find?_cons_of_pos h]
        rfl
      | false =>
        rw [h] at rd
        have bd : tL_first_ready_1_p ((.own a.o, some r, ()) : E_z6) = some (.nx (.own a.o, some r, ())) := by
          clear ih
          unfold tL_first_ready_1_p
          simp -implicitDefEqProofs [rd]
        rw [bd, List.find?_cons_of_neg (by rw [h]; decide)]
        exact ih
  have lp := lp a.waiting
  unfold T_z6 tB_z6
  cases h : a.waiting.find? (rdy a.delivered) with
  | none =>
    rw [h] at lp
    simp -implicitDefEqProofs [lp]
  | some r =>
    rw [h] at lp
    simp -implicitDefEqProofs [lp]
theorem rem_ok (l : List Msg) (r : Msg) (h : r ∈ l) (hn : l.Nodup) : lmRem l (r, ()) = some ((), l.filter fun x => decide (¬ x = r)) := by
  have o : l.all EncEq.okE = true := List.all_eq_true.mpr fun x _ => okE_msg x
  unfold lmRem
  rw [if_pos ⟨by decide, okE_msg r, o⟩]
  have key : ∀ l : List Msg, r ∈ l → l.Nodup → ∃ j, (l.findIdx? fun z => decide (z = r)) = some j ∧ l.eraseIdx j = l.filter fun x => decide (¬ x = r) := fun l => by
    induction l with
    | nil => exact fun h => (nomatch h)
    | cons x xs ih =>
      intro h hn
      rw [List.nodup_cons] at hn
      by_cases c : x = r
      · refine ⟨0, by rw [List.findIdx?_cons, c]; simp, ?_⟩
        subst c
        rw [List.eraseIdx_cons_zero, List.filter_cons_of_neg (by simp)]
        refine (List.filter_eq_self.mpr fun y hy => ?_).symm
        have : ¬ y = x := fun e => hn.1 (e ▸ hy)
        simp [this]
      · have hm : r ∈ xs := (List.mem_cons.mp h).resolve_left fun e => c e.symm
        obtain ⟨j, j1, j2⟩ := ih hm hn.2
        refine ⟨j + 1, by rw [List.findIdx?_cons, if_neg (by simp [c]), j1]; rfl, ?_⟩
        rw [List.eraseIdx_cons_succ, j2, List.filter_cons_of_pos (by simp [c])]
  obtain ⟨j, j1, j2⟩ := key l h hn
  have j1 : (l.findIdx? fun z => decide (z = (r, ()).1)) = some j := j1
  rw [j1, Option.map_some, j2]
theorem ww_nil {E α β : Type} {kp : E → E} {asg : Option α → E → Option E} {g : E → Option (Option α × E)} {body : E → Option (Fw β E)} {n : Nat} {e e1 e2 : E} (h : g e = some (none, e1)) (h2 : asg none e1 = some e2) : wwT kp asg g body (n + 1) e = some (.nx e2) := by
  unfold wwT
  rw [h]
  simp only [Option.bind_some]
  rw [h2]; rfl
theorem ww_some {E α β : Type} {kp : E → E} {asg : Option α → E → Option E} {g : E → Option (Option α × E)} {body : E → Option (Fw β E)} {n : Nat} {e e1 e2 e3 : E} {v : α} (h : g e = some (some v, e1)) (h2 : asg (some v) e1 = some e2) (h3 : body e2 = some (.nx e3)) : wwT kp asg g body (n + 1) e = wwT kp asg g body n (kp e3) := by
  conv => lhs; unfold wwT
  rw [h]
  simp only [Option.bind_some]
  rw [h2]; simp only [Option.bind_some]
  rw [h3]; rfl
/-! what is kept while rows are delivered -/
structure Dd (R cm Dl Wt : List Msg) : Prop where
  nd : Dl.Nodup
  sub : ∀ r ∈ Dl, r ∈ cm
  wt : Wt = cm.filter fun r => decide (¬ r ∈ Dl)
  pre : ∀ s, ofS Dl (some s) <+: ofS R (some s)
  loose : ofS Dl none ++ ofS Wt none = ofS cm none
/-- rows as they are given: distinct, each with the place in its stream -/
structure Rw (R cm : List Msg) : Prop where
  rn : R.Nodup
  cn : cm.Nodup
  cs : ∀ r ∈ cm, r ∈ R
  at_ : ∀ r ∈ R, ∀ s, r.b = some s → ∃ i : Nat, r.c = (i : Int) ∧ (ofS R (some s))[i]? = some r
theorem ofS_app (l m : List Msg) (s : Option Int) : ofS (l ++ m) s = ofS l s ++ ofS m s := List.filter_append ..
theorem ofS_mem {l : List Msg} {s : Option Int} {r : Msg} : r ∈ ofS l s ↔ r ∈ l ∧ r.b = s := by
  unfold ofS
  rw [List.mem_filter, decide_eq_true_eq]
theorem ofS_one (r : Msg) (s : Option Int) : ofS [r] s = if r.b = s then [r] else [] := by
  unfold ofS
  by_cases h : r.b = s
  · rw [if_pos h, List.filter_cons_of_pos (by simp [h])]; rfl
  · rw [if_neg h, List.filter_cons_of_neg (by simp [h])]; rfl
theorem dd_step {R cm Dl Wt : List Msg} {r : Msg} (K : Rw R cm) (D : Dd R cm Dl Wt) (hr : r ∈ Wt) (hf : Wt.find? (rdy Dl) = some r) : Dd R cm (Dl ++ [r]) (Wt.filter fun x => decide (¬ x = r)) := by
  have hrd : rdy Dl r = true := List.find?_some hf
  have hr' : r ∈ cm ∧ ¬ r ∈ Dl := by
    have := hr
    rw [D.wt, List.mem_filter, decide_eq_true_eq] at this
    exact this
  refine ⟨?_, fun x hx => ?_, ?_, fun s => ?_, ?_⟩
  · rw [List.nodup_append]
    exact ⟨D.nd, List.nodup_cons.mpr ⟨List.not_mem_nil, List.nodup_nil⟩, fun x hx y hy e => hr'.2 (by rw [List.mem_singleton] at hy; rw [← hy, ← e]; exact hx)⟩
  · rcases List.mem_append.mp hx with h | h
    · exact D.sub x h
    · rw [List.mem_singleton.mp h]; exact hr'.1
  · rw [D.wt, List.filter_filter]
    refine List.filter_congr fun x _ => ?_
    by_cases h1 : x ∈ Dl
    · simp [h1]
    · by_cases h2 : x = r
      · simp [h2]
      · simp [h1, h2]
  · rw [ofS_app, ofS_one]
    by_cases h : r.b = some s
    · rw [if_pos h]
      obtain ⟨i, i1, i2⟩ := K.at_ r (K.cs r hr'.1) s h
      have e : i = (ofS Dl (some s)).length := by
        unfold rdy at hrd
        rw [h] at hrd
        simp only [Option.isNone_some, Bool.false_or, decide_eq_true_eq] at hrd
        omega
      obtain ⟨t, ht⟩ := D.pre s
      rw [← ht, e, List.getElem?_append_right (Nat.le_refl _)] at i2
      cases t with
      | nil => simp at i2
      | cons y t =>
        simp at i2
        subst i2
        exact ⟨t, by rw [← ht]; simp⟩
    · rw [if_neg h, List.append_nil]
      exact D.pre s
  · have hd := D.loose
    rw [ofS_app, ofS_one]
    by_cases h : r.b = none
    · rw [if_pos h, List.append_assoc, ← hd]
      congr 1
      have key : ∀ W : List Msg, W.Nodup → W.find? (rdy Dl) = some r → r :: ofS (W.filter fun x => decide (¬ x = r)) none = ofS W none := fun W => by
        induction W with
        | nil => exact fun _ q => nomatch q
        | cons x xs ih =>
          intro hn q
          rw [List.nodup_cons] at hn
          by_cases c : x = r
          · subst c
            rw [List.filter_cons_of_neg (by simp), List.filter_eq_self.mpr fun y hy => by
              have : ¬ y = x := fun e => hn.1 (e ▸ hy)
              simp [this]]
            show x :: ofS xs none = ofS ([x] ++ xs) none
            rw [ofS_app, ofS_one, if_pos h]; rfl
          · have nr : rdy Dl x = false := by
              cases z : rdy Dl x with
              | false => rfl
              | true => rw [List.find?_cons_of_pos z] at q; exact absurd (Option.some.inj q) c
            rw [List.find?_cons_of_neg (by rw [nr]; decide)] at q
            have xb : ¬ x.b = none := fun e => by unfold rdy at nr; rw [e] at nr; simp at nr
            rw [List.filter_cons_of_pos (by simp [c])]
            show r :: ofS ([x] ++ _) none = ofS ([x] ++ xs) none
            rw [ofS_app, ofS_app, ofS_one, if_neg xb, List.nil_append, List.nil_append]
            exact ih hn.2 q
      exact key Wt (by rw [D.wt]; exact K.cn.filter _) hf
    · rw [if_neg h, List.append_nil, ← hd]
      congr 1
      unfold ofS
      rw [List.filter_filter]
      refine List.filter_congr fun x _ => ?_
      by_cases h2 : x = r
      · subst h2; simp [h]
      · simp [h2]
theorem deliver_loop {R cm : List Msg} (K : Rw R cm) (hc : cm.length ≤ 1000) : ∀ (n : Nat) (a : As), Dd R cm a.delivered a.waiting → a.waiting.length < n → ∃ Dl Wt, Dd R cm Dl Wt ∧ (∀ r ∈ Wt, rdy Dl r = false) ∧ ∀ k0 : Nat,
    wwT k_z7_1 (pNm n_z7_1) (tX (tCallP T_z6 (qObj (pVar n_z7_0) qNil))) tL_z7_1 n ((.at_ k0 a.o, none, ()) : E_z7) = some (.nx (.at_ k0 ({ a with delivered := Dl, waiting := Wt } : As).o, some none, ()))
  | 0, a, _, h => absurd h (Nat.not_lt_zero _)
  | n + 1, a, D, h => by
    have dl : a.delivered.length ≤ 1000 := Nat.le_trans (len_nd D.nd D.sub) hc
    have f := first_ok a (by omega)
    cases q : a.waiting.find? (rdy a.delivered) with
    | none =>
      rw [q] at f
      refine ⟨a.delivered, a.waiting, D, fun r hr => ?_, fun k0 => ?_⟩
      · have := List.find?_eq_none.mp q r hr
        simpa using this
      · refine ww_nil (e1 := ((.at_ k0 a.o, none, ()) : E_z7)) ?_ ?_
        · clear D
          simp -implicitDefEqProofs [f]
        · rfl
    | some r =>
      rw [q] at f
      have hr : r ∈ a.waiting := List.mem_of_find?_eq_some q
      have wn : a.waiting.Nodup := by rw [D.wt]; exact K.cn.filter _
      have rm := rem_ok a.waiting r hr wn
      have D' := dd_step K D hr q
      have wl : (a.waiting.filter fun x => decide (¬ x = r)).length < a.waiting.length := by
        refine List.length_filter_lt_length_iff_exists.mpr ⟨r, hr, by simp⟩
      obtain ⟨Dl, Wt, d1, d2, d3⟩ := deliver_loop K hc n { a with waiting := a.waiting.filter fun x => decide (¬ x = r), delivered := a.delivered ++ [r] } D' (Nat.lt_of_lt_of_le wl (Nat.le_of_lt_succ h))
      refine ⟨Dl, Wt, d1, d2, fun k0 => Eq.trans ?_ (d3 k0)⟩
      have dl2 : a.delivered.length < 16777216 := by omega
      generalize a.waiting.filter (fun x => decide (¬ x = r)) = W' at *
      refine (ww_some (e1 := ((.at_ k0 a.o, none, ()) : E_z7)) (e2 := ((.at_ k0 a.o, some (some r), ()) : E_z7)) (e3 := ((.at_ k0 ({ a with waiting := W', delivered := a.delivered ++ [r] } : As).o, some (some r), ()) : E_z7)) (v := r) ?_ rfl ?_).trans rfl
      · clear D D' d1 d2 d3
        simp -implicitDefEqProofs [f]
      · clear D D' d1 d2 d3 f
        unfold tL_z7_1
        simp -implicitDefEqProofs [rm, dl2]
theorem deliver_ok {R cm : List Msg} (K : Rw R cm) (hc : cm.length ≤ 1000) (a : As) (D : Dd R cm a.delivered a.waiting) : ∃ Dl Wt, Dd R cm Dl Wt ∧ (∀ r ∈ Wt, rdy Dl r = false) ∧ T_z7 (⟨a.o⟩, ()) = some ((), ({ a with delivered := Dl, waiting := Wt } : As).o, ()) := by
  have wl : a.waiting.length ≤ 1000 := by
    have := List.length_filter_le (fun r => decide (¬ r ∈ a.delivered)) cm
    rw [← D.wt] at this
    omega
  obtain ⟨Dl, Wt, d1, d2, key⟩ := deliver_loop K hc 100000 a D (by omega)
  refine ⟨Dl, Wt, d1, d2, fnX_eq fun κ => ?_⟩
  have : tB_z7 ((.at_ (κ 0) a.o, none, ()) : E_z7) = some (.nx (.at_ (κ 0) ({ a with delivered := Dl, waiting := Wt } : As).o, some none, ())) := key (κ 0)
  refine (congrArg (fun w => Option.bind w _) this).trans ?_
  simp -implicitDefEqProofs

set_option synthInstance.maxSize 20000
set_option synthInstance.maxHeartbeats 0
theorem text_ok (ds : List Int) (h : Dr 4 ds) : ∃ t, T_z18 (ds, 1, ()) = some t ∧ t.l.length ≤ 10 := by
  obtain ⟨h1, h2⟩ := h
  have a2 : L2.atI ds 1 = some ds[1] := at_n ds 1 (by omega)
  have a3 : L2.atI ds 2 = some ds[2] := at_n ds 2 (by omega)
  have m4 : ∀ i : Int, bMod i 4 = true := fun i => rfl
  have m256 : ∀ i : Int, bMod i 256 = true := fun i => rfl
  have mu : ∀ i : Int, bMul 31 i = true := fun i => by unfold bMul; rw [show sm64 31 = true from by decide]; simp
  have r1 : rgB (ds[1] % 4) = true := by unfold rgB; simp; omega
  have rl : (rgT 0 (ds[1] % 4).toNat).length ≤ 16777216 := by rw [rg_len]; omega
  have key : filtM (tElt (pNm n_z18_2) tYes (TL.tB modI (t1 intI (TL.tB addI (TL.tB tIx (tV n_z18_0) (TL.tB addI (tV n_z18_1) (tK (1 : Int)))) (TL.tB mulI (tK (31 : Int)) (tV n_z18_2)))) (tK (256 : Int))) ((some ds, some 1, none, ()) : E_z18)) (rgT 0 (ds[1] % 4).toNat) = some ((rgT 0 (ds[1] % 4).toNat).map fun k => (ds[2] + 31 * k) % 256) := by
    refine filtM_map fun y _ => ?_
    simp -implicitDefEqProofs [a3, mu, m256]
  refine ⟨⟨(rgT 0 (ds[1] % 4).toNat).map fun k => (ds[2] + 31 * k) % 256⟩, ?_, by show (List.map _ _).length ≤ 10; rw [List.length_map, rg_len]; omega⟩
  unfold T_z18 tB_z18 tQ_z18_1
  generalize (rgT 0 (ds[1] % 4).toNat).map (fun k => (ds[2] + 31 * k) % 256) = G at *
  simp -implicitDefEqProofs [-tElt, a2, m4, r1, rl, key]
def St4 (s : Option Int) : Prop := s = none ∨ s = some 0 ∨ s = some 3 ∨ s = some 15
theorem stream_ok (n : Int) : ∃ s, T_z12 (n, ()) = some s ∧ St4 s := by
  have m4 : ∀ i : Int, bMod i 4 = true := fun i => rfl
  have m3 : ∀ i : Int, bMod i 3 = true := fun i => rfl
  by_cases c : n % 4 = 0
  · exact ⟨none, by unfold T_z12 tB_z12; simp -implicitDefEqProofs [c, m4], .inl rfl⟩
  · have h3 : n % 3 = 0 ∨ n % 3 = 1 ∨ n % 3 = 2 := by omega
    rcases h3 with h | h | h
    · exact ⟨some 0, by unfold T_z12 tB_z12; simp -implicitDefEqProofs [c, m4, m3, h, L2.atI, L2.ixN], .inr (.inl rfl)⟩
    · exact ⟨some 3, by unfold T_z12 tB_z12; simp -implicitDefEqProofs [c, m4, m3, h, L2.atI, L2.ixN], .inr (.inr (.inl rfl))⟩
    · exact ⟨some 15, by unfold T_z12 tB_z12; simp -implicitDefEqProofs [c, m4, m3, h, L2.atI, L2.ixN], .inr (.inr (.inr rfl))⟩

/-- rows as the law gives them -/
def Wf (R : List Msg) : Prop := ∀ (i : Nat) (r : Msg), R[i]? = some r → r.a = (i : Int) + 1 ∧ r.c = plc (R.take i) r.b
theorem wf_nil : Wf [] := fun i r h => by simp at h
theorem wf_snoc {R : List Msg} {r : Msg} (h : Wf R) (h1 : r.a = (R.length : Int) + 1) (h2 : r.c = plc R r.b) : Wf (R ++ [r]) := fun i x hx => by
  by_cases q : i < R.length
  · rw [List.getElem?_append_left q] at hx
    rw [List.take_append_of_le_length (by omega)]
    exact h i x hx
  · have : i = R.length := by
      have := (List.getElem?_eq_some_iff.mp hx).1
      rw [List.length_append, List.length_singleton] at this
      omega
    subst this
    rw [List.getElem?_append_right (Nat.le_refl _)] at hx
    simp at hx
    subst hx
    rw [List.take_append_of_le_length (Nat.le_refl _), List.take_length]
    exact ⟨h1, h2⟩
abbrev EG : Type := E_z13
theorem given_body (R : List Msg) (c : Int) (hl : R.length ≤ 100) : ∃ r e2, tL_z13_1 ((none, none, none, ⟨some ⟨R⟩⟩, some c, none, none, none, none, ()) : EG) = some (.nx e2) ∧ k_z13_1 e2 = (none, none, none, ⟨some ⟨R ++ [r]⟩⟩, none, none, none, none, none, ()) ∧ r.a = (R.length : Int) + 1 ∧ r.c = plc R r.b ∧ St4 r.b ∧ r.d.l.length ≤ 10 := by
  obtain ⟨ds, hds, hd⟩ := draws_ok c 4 (by decide) (by decide)
  have i0 : L2.atI ds 0 = some (ds[0]'(by rw [hd.1]; decide)) := at_n ds 0 (by rw [hd.1]; decide)
  generalize (ds[0]'(by rw [hd.1]; decide)) = d0 at *
  obtain ⟨t, ht, tl⟩ := text_ok ds hd
  obtain ⟨s, hs, s4⟩ := stream_ok d0
  have rl : R.length ≤ 16777216 := by omega
  have rl2 : R.length < 16777216 := by omega
  have key : ∀ x5 x6 x7, filtM (tElt (pNm n_z13_8) (TL.tB eqT (tMap (fun x => x.b) (tV n_z13_8)) (tV n_z13_6)) (tV n_z13_8) ((none, none, none, ⟨some ⟨R⟩⟩, x5, x6, some s, x7, none, ()) : EG)) R = some (ofS R s) := fun x5 x6 x7 => by
    refine (filtM_filter (p := fun r : Msg => decide (r.b = s)) (h := id) fun y _ => ?_).trans (by rw [List.map_id]; rfl)
    by_cases q : y.b = s
    · simp -implicitDefEqProofs [q, okE_oi]
    · simp -implicitDefEqProofs [q, okE_oi]
  have q1 : tQ_z13_1 ((none, none, none, ⟨some ⟨R⟩⟩, some c, some ds, some s, some 0, none, ()) : EG) = some (ofS R s) := by
    have key := key (some c) (some ds) (some 0)
    unfold tQ_z13_1
    generalize ofS R s = G at *
    simp -implicitDefEqProofs [-tElt, rl, key]
  refine ⟨⟨(R.length : Int) + 1, s, plc R s, t⟩, (none, none, none, ⟨some ⟨R ++ [⟨(R.length : Int) + 1, s, plc R s, t⟩]⟩⟩, some c, some ds, some s, some (plc R s), none, ()), ?_, rfl, rfl, rfl, s4, tl⟩
  have z4 : (TL.tIfS (TL.tNotN (tV n_z13_6)) (TL.tSet n_z13_7 (t1 lenT tQ_z13_1)) TL.tNil : EG → Option (Fw (List Msg) EG)) (none, none, none, ⟨some ⟨R⟩⟩, some c, some ds, some s, some 0, none, ()) = some (.nx (none, none, none, ⟨some ⟨R⟩⟩, some c, some ds, some s, some (plc R s), none, ())) := by
    unfold plc
    generalize ofS R s = G at *
    cases s with
    | none => simp -implicitDefEqProofs
    | some s => simp -implicitDefEqProofs [q1]
  unfold tL_z13_1
  refine (seq_nx (e1 := ((none, none, none, ⟨some ⟨R⟩⟩, some c, some ds, none, none, none, ()) : EG)) (by simp -implicitDefEqProofs [hds])).trans ?_
  refine (seq_nx (e1 := ((none, none, none, ⟨some ⟨R⟩⟩, some c, some ds, some s, none, none, ()) : EG)) (by simp -implicitDefEqProofs [i0, hs])).trans ?_
  refine (seq_nx (e1 := ((none, none, none, ⟨some ⟨R⟩⟩, some c, some ds, some s, some 0, none, ()) : EG)) rfl).trans ((seq_nx z4).trans ?_)
  generalize plc R s = p at *
  simp -implicitDefEqProofs [ht, rl2]
def Rb (R : List Msg) : Prop := ∀ r ∈ R, St4 r.b ∧ r.d.l.length ≤ 10
theorem given_loop : ∀ (xs : List Int) (R : List Msg), Wf R → Rb R → R.length + xs.length ≤ 100 → ∃ R', forT k_z13_1 (pNm n_z13_4) tL_z13_1 xs ((none, none, none, ⟨some ⟨R⟩⟩, none, none, none, none, none, ()) : EG) = some (.nx (none, none, none, ⟨some ⟨R'⟩⟩, none, none, none, none, none, ())) ∧ Wf R' ∧ Rb R' ∧ R'.length = R.length + xs.length
  | [], R, w, b, _ => ⟨R, rfl, w, b, rfl⟩
  | x :: xs, R, w, b, h => by
    have h : R.length + (xs.length + 1) ≤ 100 := h
    obtain ⟨r, e2, j1, j2, j3, j4, q1, q2⟩ := given_body R x (by omega)
    have b' : Rb (R ++ [r]) := fun y hy => (List.mem_append.mp hy).elim (b y) fun q => by rw [List.mem_singleton.mp q]; exact ⟨q1, q2⟩
    obtain ⟨R', j5, j6, j8, j7⟩ := given_loop xs (R ++ [r]) (wf_snoc w j3 j4) b' (by rw [List.length_append, List.length_singleton]; omega)
    refine ⟨R', ?_, j6, j8, by rw [j7, List.length_append, List.length_singleton, List.length_cons]; omega⟩
    unfold forT
    rw [show pNm n_z13_4 x ((none, none, none, ⟨some ⟨R⟩⟩, none, none, none, none, none, ()) : EG) = some (none, none, none, ⟨some ⟨R⟩⟩, some x, none, none, none, none, ()) from rfl]
    simp only [Option.bind_some]
    rw [j1]
    simp only [Option.bind_some, forT1]
    rw [j2]
    exact j5
theorem given_ok (ns : List Int) : ∃ R, T_z13 (⟨ns⟩, 2, 30, ()) = some R ∧ Wf R ∧ Rb R ∧ R.length ≤ 30 := by
  have cm : cutL ns (some 2) (some 32) = (ns.take 32).drop 2 := cutL_mid (by decide) (by decide)
  obtain ⟨R, lp, w, b, hl⟩ := given_loop (cutL ns (some 2) (some 32)) [] wf_nil (fun r h => nomatch h) (by rw [cm, List.length_drop, List.length_take]; show 0 + _ ≤ 100; omega)
  refine ⟨R, ?_, w, b, by rw [hl, cm, List.length_drop, List.length_take]; show 0 + _ ≤ 30; omega⟩
  unfold T_z13 tB_z13
  simp -implicitDefEqProofs [lp]

set_option synthInstance.maxSize 20000
set_option synthInstance.maxHeartbeats 0
theorem wf_idx {R : List Msg} (w : Wf R) {r : Msg} (h : r ∈ R) : ∃ i : Nat, R[i]? = some r ∧ r.a = (i : Int) + 1 ∧ i < R.length := by
  obtain ⟨i, hi, rfl⟩ := List.getElem_of_mem h
  exact ⟨i, List.getElem?_eq_getElem hi, (w i _ (List.getElem?_eq_getElem hi)).1, hi⟩
theorem wf_inj {R : List Msg} (w : Wf R) {r x : Msg} (h : r ∈ R) (h2 : x ∈ R) (e : r.a = x.a) : r = x := by
  obtain ⟨i, i1, i2, _⟩ := wf_idx w h
  obtain ⟨j, j1, j2, _⟩ := wf_idx w h2
  have : i = j := by omega
  subst this
  rw [i1] at j1
  exact Option.some.inj j1
theorem wf_at {R : List Msg} (w : Wf R) {r : Msg} (h : r ∈ R) : L2.atI R (r.a - 1) = some r := by
  obtain ⟨i, i1, i2, i3⟩ := wf_idx w h
  rw [i2, show (i : Int) + 1 - 1 = (i : Int) by omega, at_n R i i3]
  rw [List.getElem?_eq_getElem i3] at i1
  exact i1
theorem wf_nd {R : List Msg} (w : Wf R) : R.Nodup := by
  rw [List.nodup_iff_pairwise_ne, List.pairwise_iff_getElem]
  intro i j hi hj hij e
  have h1 := (w i _ (List.getElem?_eq_getElem hi)).1
  have h2 := (w j _ (List.getElem?_eq_getElem hj)).1
  rw [e] at h1
  omega
theorem wf_plc {R : List Msg} (w : Wf R) : ∀ r ∈ R, ∀ s, r.b = some s → ∃ i : Nat, r.c = (i : Int) ∧ (ofS R (some s))[i]? = some r := fun r hr s hs => by
  obtain ⟨i, i1, i2, i3⟩ := wf_idx w hr
  have hc := (w i r i1).2
  rw [hs] at hc
  have e : R = R.take i ++ r :: R.drop (i + 1) := by
    rw [List.getElem?_eq_getElem i3] at i1
    conv => lhs; rw [← List.take_append_drop i R, List.drop_eq_getElem_cons i3]
    rw [Option.some.inj i1]
  generalize R.take i = T at *
  generalize R.drop (i + 1) = U at *
  refine ⟨(ofS T (some s)).length, by rw [hc]; rfl, ?_⟩
  rw [e, ofS_app, List.getElem?_append_right (Nat.le_refl _), Nat.sub_self]
  show (ofS ([r] ++ U) (some s))[0]? = _
  rw [ofS_app, ofS_one, if_pos hs]; rfl
/-! what is ready, by the law -/
theorem pre_take {α : Type} {f : α → Bool} : ∀ {P L : List α}, P <+: L → (∀ x ∈ P, f x = true) → (∀ y, L[P.length]? = some y → f y = false) → P = L.takeWhile f
  | [], [], _, _, _ => rfl
  | [], y :: L, _, _, h => by rw [List.takeWhile_cons_of_neg (by rw [h y rfl]; decide)]
  | x :: P, [], h, _, _ => by simp at h
  | x :: P, y :: L, h, h1, h2 => by
    obtain ⟨rfl, h'⟩ := List.cons_prefix_cons.mp h
    rw [List.takeWhile_cons_of_pos (h1 x List.mem_cons_self)]
    congr 1
    exact pre_take h' (fun z hz => h1 z (List.mem_cons_of_mem _ hz)) fun z hz => h2 z (by simpa using hz)
abbrev EY : Type := E_z15
theorem ready_loop (came : List Int) (s : Int) : ∀ (rows F : List Msg) (o : Bool), F.length + rows.length ≤ 1000 → ∃ o', forT k_z15_1 (pNm n_z15_5) tL_z15_1 rows ((none, some came, some s, ⟨some ⟨F⟩⟩, some o, none, ()) : EY) = some (.nx (none, some came, some s, ⟨some ⟨F ++ if o = true then (ofS rows (some s)).takeWhile (fun r => decide (r.a ∈ came)) else []⟩⟩, some o', none, ()))
  | [], F, o, _ => ⟨o, by
      have : (F ++ if o = true then (ofS ([] : List Msg) (some s)).takeWhile (fun r => decide (r.a ∈ came)) else []) = F := by cases o <;> simp [ofS]
      rw [this]; rfl⟩
  | r :: rows, F, o, hl => by
    have hl : F.length + (rows.length + 1) ≤ 1000 := hl
    have hF : F.length < 16777216 := by omega
    unfold forT
    rw [show pNm n_z15_5 r ((none, some came, some s, ⟨some ⟨F⟩⟩, some o, none, ()) : EY) = some ((none, some came, some s, ⟨some ⟨F⟩⟩, some o, some r, ()) : EY) from rfl]
    simp only [Option.bind_some]
    have eo : ofS (r :: rows) (some s) = if r.b = some s then r :: ofS rows (some s) else ofS rows (some s) := by
      show ofS ([r] ++ rows) (some s) = _
      rw [ofS_app, ofS_one]
      by_cases c : r.b = some s
      · rw [if_pos c, if_pos c]; rfl
      · rw [if_neg c, if_neg c]; rfl
    by_cases c : r.b = some s
    · rw [eo, if_pos c]
      by_cases c2 : r.a ∈ came
      · cases o with
        | true =>
          obtain ⟨o', ih⟩ := ready_loop came s rows (F ++ [r]) true (by rw [List.length_append, List.length_singleton]; omega)
          refine ⟨o', ?_⟩
          have bd : tL_z15_1 ((none, some came, some s, ⟨some ⟨F⟩⟩, some true, some r, ()) : EY) = some (.nx (none, some came, some s, ⟨some ⟨F ++ [r]⟩⟩, some true, some r, ())) := by
            clear ih eo
            unfold tL_z15_1
            simp -implicitDefEqProofs [c, c2, okE_oi, hF]
          rw [bd]
          simp only [Option.bind_some, forT1]
          refine Eq.trans ih ?_
          rw [List.takeWhile_cons_of_pos (by simp [c2])]
          simp
        | false =>
          obtain ⟨o', ih⟩ := ready_loop came s rows F false (by omega)
          refine ⟨o', ?_⟩
          have bd : tL_z15_1 ((none, some came, some s, ⟨some ⟨F⟩⟩, some false, some r, ()) : EY) = some (.nx (none, some came, some s, ⟨some ⟨F⟩⟩, some false, some r, ())) := by
            clear ih eo
            unfold tL_z15_1
            simp -implicitDefEqProofs [c, okE_oi]
          rw [bd]
          simp only [Option.bind_some, forT1]
          exact ih
      · obtain ⟨o', ih⟩ := ready_loop came s rows F false (by omega)
        refine ⟨o', ?_⟩
        have bd : tL_z15_1 ((none, some came, some s, ⟨some ⟨F⟩⟩, some o, some r, ()) : EY) = some (.nx (none, some came, some s, ⟨some ⟨F⟩⟩, some false, some r, ())) := by
          clear ih eo
          unfold tL_z15_1
          cases o <;> simp -implicitDefEqProofs [c, c2, okE_oi]
        rw [bd]
        simp only [Option.bind_some, forT1]
        refine Eq.trans ih ?_
        rw [List.takeWhile_cons_of_neg (by simp [c2])]
        cases o <;> simp
    · rw [eo, if_neg c]
      obtain ⟨o', ih⟩ := ready_loop came s rows F o (by omega)
      refine ⟨o', ?_⟩
      have bd : tL_z15_1 ((none, some came, some s, ⟨some ⟨F⟩⟩, some o, some r, ()) : EY) = some (.nx (none, some came, some s, ⟨some ⟨F⟩⟩, some o, some r, ())) := by
        clear ih eo
        unfold tL_z15_1
        simp -implicitDefEqProofs [c, okE_oi]
      rw [bd]
      simp only [Option.bind_some, forT1]
      exact ih
theorem lready_ok (R : List Msg) (came : List Int) (s : Int) (hR : R.length ≤ 1000) : T_z15 (R, came, s, ()) = some ((ofS R (some s)).takeWhile (fun r => decide (r.a ∈ came))) := by
  obtain ⟨o', lp⟩ := ready_loop came s R [] true (by simp; omega)
  simp only [if_true, List.nil_append] at lp
  generalize (ofS R (some s)).takeWhile (fun r => decide (r.a ∈ came)) = G at *
  unfold T_z15 tB_z15
  simp -implicitDefEqProofs [lp]
/-! the state that the law sees -/
structure Gd (R cm Dl Wt : List Msg) : Prop where
  d : Dd R cm Dl Wt
  no : ∀ r ∈ Wt, rdy Dl r = false
theorem gd_stream {R cm Dl Wt : List Msg} (w : Wf R) (K : Rw R cm) (G : Gd R cm Dl Wt) (s : Int) : ofS Dl (some s) = (ofS R (some s)).takeWhile (fun r => decide (r.a ∈ cm.map (·.a))) := by
  have mem : ∀ r ∈ R, (r.a ∈ cm.map (·.a) ↔ r ∈ cm) := fun r hr => by
    rw [List.mem_map]
    exact ⟨fun ⟨x, h1, h2⟩ => by rw [wf_inj w hr (K.cs x h1) h2.symm]; exact h1, fun h => ⟨r, h, rfl⟩⟩
  refine pre_take (G.d.pre s) (fun x hx => ?_) fun y hy => ?_
  · have := ofS_mem.mp hx
    rw [decide_eq_true_eq, mem x (K.cs x (G.d.sub x this.1))]
    exact G.d.sub x this.1
  · have hyR : y ∈ ofS R (some s) := List.mem_of_getElem? hy
    have hy1 := ofS_mem.mp hyR
    rw [decide_eq_false_iff_not, mem y hy1.1]
    intro hcm
    have nD : ¬ y ∈ Dl := fun q => by
      have h1 : y ∈ ofS Dl (some s) := ofS_mem.mpr ⟨q, hy1.2⟩
      obtain ⟨t, ht⟩ := G.d.pre s
      have nd : (ofS R (some s)).Nodup := K.rn.filter _
      rw [← ht, List.getElem?_append_right (Nat.le_refl _)] at hy
      rw [← ht] at nd
      exact (List.nodup_append.mp nd).2.2 y h1 y (List.mem_of_getElem? hy) rfl
    have hW : y ∈ Wt := by rw [G.d.wt, List.mem_filter]; exact ⟨hcm, by simp [nD]⟩
    have hn := G.no y hW
    obtain ⟨i, i1, i2⟩ := K.at_ y hy1.1 s hy1.2
    have e : i = (ofS Dl (some s)).length := by
      have nd : (ofS R (some s)).Nodup := K.rn.filter _
      obtain ⟨a1, a2⟩ := List.getElem?_eq_some_iff.mp i2
      obtain ⟨b1, b2⟩ := List.getElem?_eq_some_iff.mp hy
      exact (List.getElem_inj nd).mp (a2.trans b2.symm)
    unfold rdy at hn
    rw [hy1.2, i1, e] at hn
    simp at hn
theorem gd_loose {R cm Dl Wt : List Msg} (G : Gd R cm Dl Wt) : ofS Dl none = ofS cm none := by
  have h := G.d.loose
  have e : ofS Wt none = [] := by
    unfold ofS
    refine List.filter_eq_nil_iff.mpr fun r hr => ?_
    have := G.no r hr
    intro q
    rw [decide_eq_true_eq] at q
    unfold rdy at this
    rw [q] at this
    simp at this
  rw [e, List.append_nil] at h
  exact h
theorem gd_len {R cm Dl Wt : List Msg} (b : Rb R) (K : Rw R cm) (D : Dd R cm Dl Wt) : Dl.length = (ofS Dl (some 0)).length + (ofS Dl (some 3)).length + (ofS Dl (some 15)).length + (ofS Dl none).length := by
  have hb : ∀ r ∈ Dl, St4 r.b := fun r hr => (b r (K.cs r (D.sub r hr))).1
  have key : ∀ l : List Msg, (∀ r ∈ l, St4 r.b) → l.length = (ofS l (some 0)).length + (ofS l (some 3)).length + (ofS l (some 15)).length + (ofS l none).length := fun l => by
    induction l with
    | nil => exact fun _ => rfl
    | cons r l ih =>
      intro h
      have e : ∀ s, ofS (r :: l) s = (if r.b = s then [r] else []) ++ ofS l s := fun s => by
        show ofS ([r] ++ l) s = _
        rw [ofS_app, ofS_one]
      have ih := ih fun x hx => h x (List.mem_cons_of_mem _ hx)
      rw [e, e, e, e, List.length_cons, ih]
      rcases h r List.mem_cons_self with q | q | q | q <;> rw [q] <;> simp <;> omega
  exact key Dl hb
theorem gd_msgs (l : List Msg) (h : l.length ≤ 10000) (hd : ∀ r ∈ l, r.d.l.length ≤ 10) : gdD 7 (Enc.enc l) = true := by
  have one : ∀ (n : Nat) (r : Msg), r.d.l.length ≤ 10 → gdD (n + 3) (Enc.enc r) = true := fun n r hr => by
    obtain ⟨x, y, z, t⟩ := r
    have hr : t.l.length ≤ 10 := hr
    have hr' : t.l.length ≤ 10000 := by omega
    show gdD (n + 3) (.tup [.int x, Enc.enc y, .int z, .tup (t.l.map D.int)]) = true
    cases y with
    | none => show gdD (n + 3) (.tup [.int x, .non, .int z, .tup (t.l.map D.int)]) = true; simp [gdD, gdDs, gds_ints, hr']
    | some v => show gdD (n + 3) (.tup [.int x, .int v, .int z, .tup (t.l.map D.int)]) = true; simp [gdD, gdDs, gds_ints, hr']
  have all : ∀ l : List Msg, (∀ r ∈ l, r.d.l.length ≤ 10) → gdDs 6 (l.map Enc.enc) = true := fun l => by
    induction l with
    | nil => exact fun _ => rfl
    | cons r l ih =>
      intro q
      rw [List.map_cons]
      unfold gdDs
      rw [one 3 r (q r List.mem_cons_self), ih fun x hx => q x (List.mem_cons_of_mem _ hx)]; rfl
  show gdD 7 (.lst (l.map Enc.enc)) = true
  unfold gdD
  rw [all l hd]
  simp [h]

set_option synthInstance.maxSize 20000
set_option synthInstance.maxHeartbeats 0
abbrev EP2 : Type := E_z11
theorem tAlQ_eq {E β σ : Type} [EnvR E] [Enc β] [Rep σ] {i : Nat} {p : Pl E σ} {ln : Lens E (Oj σ) i} {g : E → Option (Fw β E)} {e : E} {s : σ} {b : β} (h : p.get e = some s) (hg : ∀ k, g (ln.set (p.cut k e) (.at_ k s)) = some (.rt b)) : tAlQ p ln g e = some (.rt b) := by
  unfold tAlQ
  rw [h]
  simp only [Option.bind_some]
  exact uni_eq fun k => by rw [hg k]; rfl
theorem good_body {R cm : List Msg} {a : As} {came : List Int} (s told : Int) (hR : R.length ≤ 1000) (hd : a.delivered.length ≤ 1000) (hrd : (ofS a.delivered (some s)) = (ofS R (some s)).takeWhile (fun r => decide (r.a ∈ came))) (b : ∀ r ∈ a.delivered, r.d.l.length ≤ 10) :
    ∃ e2, tL__law_good_1_p ((.own a.o, some R, .own ⟨came⟩, some told, some s, none, .no, none, none, none, none, ()) : EP2) = some (.nx e2) ∧ k_z11_1 e2 = (.own a.o, some R, .own ⟨came⟩, some (told + ((ofS a.delivered (some s)).length : Int)), none, none, .no, none, none, none, none, ()) := by
  have lr := lready_ok R came s hR
  rw [← hrd] at lr
  clear hrd
  have dl : a.delivered.length ≤ 16777216 := by omega
  have key : ∀ x3 x8, filtM (tElt (pNm n_z11_10) (TL.tB eqT (tMap (fun x => x.b) (tV n_z11_10)) (tSome (tV n_z11_4))) (tV n_z11_10) ((.own a.o, some R, .own ⟨came⟩, x3, some s, none, .no, none, x8, none, none, ()) : EP2)) a.delivered = some (ofS a.delivered (some s)) := fun x3 x8 => by
    refine (filtM_filter (p := fun r : Msg => decide (r.b = some s)) (h := id) fun y _ => ?_).trans (by rw [List.map_id]; rfl)
    by_cases q : y.b = some s
    · simp -implicitDefEqProofs [q, okE_oi]
    · simp -implicitDefEqProofs [q, okE_oi]
  have key := key (some (told + ((ofS a.delivered (some s)).length : Int))) (some (ofS a.delivered (some s)))
  have g := same_eq (ofS a.delivered (some s)) (gd_msgs _ (by
    have := List.length_filter_le (fun r : Msg => decide (r.b = some s)) a.delivered
    show (List.filter _ _).length ≤ 10000
    omega) fun r hr => b r (ofS_mem.mp hr).1)
  generalize ofS a.delivered (some s) = D at *
  have q1 : tQ__law_good_1_p ((.own a.o, some R, .own ⟨came⟩, some (told + (D.length : Int)), some s, none, .no, none, some D, none, none, ()) : EP2) = some D := by
    unfold tQ__law_good_1_p
    simp -implicitDefEqProofs [-tElt, dl, key]
  refine ⟨(.own a.o, some R, .own ⟨came⟩, some (told + (D.length : Int)), some s, none, .no, none, some D, none, none, ()), ?_, rfl⟩
  unfold tL__law_good_1_p
  refine (seq_nx (e1 := ((.own a.o, some R, .own ⟨came⟩, some told, some s, none, .no, none, some D, none, none, ()) : EP2)) (by simp -implicitDefEqProofs [lr])).trans ?_
  refine (seq_nx (e1 := ((.own a.o, some R, .own ⟨came⟩, some (told + (D.length : Int)), some s, none, .no, none, some D, none, none, ()) : EP2)) (by simp -implicitDefEqProofs)).trans ?_
  simp -implicitDefEqProofs [q1, g]
theorem good_ok {R cm : List Msg} {a : As} (w : Wf R) (b : Rb R) (K : Rw R cm) (hR : R.length ≤ 100) (G : Gd R cm a.delivered a.waiting) : T_z11 (⟨a.o⟩, R, ⟨⟨cm.map (·.a)⟩⟩, ()) = some true := by
  have cl : cm.length ≤ 100 := Nat.le_trans (len_nd K.cn K.cs) hR
  have dR : ∀ r ∈ a.delivered, r ∈ R := fun r hr => K.cs r (G.d.sub r hr)
  have dl : a.delivered.length ≤ 100 := Nat.le_trans (len_nd G.d.nd G.d.sub) cl
  have db : ∀ r ∈ a.delivered, r.d.l.length ≤ 10 := fun r hr => (b r (dR r hr)).2
  have wl : a.waiting.length ≤ 100 := by
    rw [G.d.wt]
    exact Nat.le_trans (List.length_filter_le ..) cl
  have s0 := gd_stream w K G 0
  have s3 := gd_stream w K G 3
  have s15 := gd_stream w K G 15
  have ln := gd_len b K G.d
  have lo := gd_loose G
  generalize hcame : cm.map (·.a) = came at *
  obtain ⟨e1, b1, k1⟩ := good_body (a := a) (cm := cm) 0 0 (by omega) (by omega) s0 db
  obtain ⟨e2, b2, k2⟩ := good_body (a := a) (cm := cm) 3 (0 + ((ofS a.delivered (some 0)).length : Int)) (by omega) (by omega) s3 db
  obtain ⟨e3, b3, k3⟩ := good_body (a := a) (cm := cm) 15 (0 + ((ofS a.delivered (some 0)).length : Int) + ((ofS a.delivered (some 3)).length : Int)) (by omega) (by omega) s15 db
  obtain ⟨T, hT⟩ : ∃ T, T = 0 + ((ofS a.delivered (some 0)).length : Int) + ((ofS a.delivered (some 3)).length : Int) + ((ofS a.delivered (some 15)).length : Int) := ⟨_, rfl⟩
  rw [← hT] at k3
  have lp : forT k_z11_1 (pNm n_z11_4) tL__law_good_1_p [0, 3, 15] ((.own a.o, some R, .own ⟨came⟩, some 0, none, none, .no, none, none, none, none, ()) : EP2) = some (.nx (.own a.o, some R, .own ⟨came⟩, some T, none, none, .no, none, none, none, none, ())) := by
    have st : ∀ (x t : Int), pNm n_z11_4 x ((.own a.o, some R, .own ⟨came⟩, some t, none, none, .no, none, none, none, none, ()) : EP2) = some ((.own a.o, some R, .own ⟨came⟩, some t, some x, none, .no, none, none, none, none, ()) : EP2) := fun x t => rfl
    unfold forT
    rw [st]; simp only [Option.bind_some]; rw [b1]; simp only [Option.bind_some, forT1]; rw [k1]
    unfold forT
    rw [st]; simp only [Option.bind_some]; rw [b2]; simp only [Option.bind_some, forT1]; rw [k2]
    unfold forT
    rw [st]; simp only [Option.bind_some]; rw [b3]; simp only [Option.bind_some, forT1]; rw [k3]
    rfl
  have cl2 : came.length ≤ 16777216 := by rw [← hcame, List.length_map]; omega
  -- loose
  have key2 : filtM (tElt (pNm n_z11_9) (tIsN (tMap (fun x => x.b) (TL.tB tIx (tV n_z11_1) (TL.tB subI (tV n_z11_9) (tK (1 : Int)))))) (TL.tB tIx (tV n_z11_1) (TL.tB subI (tV n_z11_9) (tK (1 : Int)))) ((.own a.o, some R, .own ⟨came⟩, some T, none, none, .no, none, none, none, none, ()) : EP2)) came = some (ofS cm none) := by
    rw [← hcame]
    have gen : ∀ l : List Msg, (∀ r ∈ l, r ∈ R) → filtM (tElt (pNm n_z11_9) (tIsN (tMap (fun x => x.b) (TL.tB tIx (tV n_z11_1) (TL.tB subI (tV n_z11_9) (tK (1 : Int)))))) (TL.tB tIx (tV n_z11_1) (TL.tB subI (tV n_z11_9) (tK (1 : Int)))) ((.own a.o, some R, .own ⟨came⟩, some T, none, none, .no, none, none, none, none, ()) : EP2)) (l.map (·.a)) = some (ofS l none) := fun l => by
      induction l with
      | nil => exact fun _ => rfl
      | cons r l ih =>
        intro h
        have ih := ih fun x hx => h x (List.mem_cons_of_mem _ hx)
        have ra := wf_at w (h r List.mem_cons_self)
        rw [List.map_cons]
        unfold filtM
        rw [ih]
        show _ = some (ofS ([r] ++ l) none)
        rw [ofS_app, ofS_one]
        clear ih lp b1 b2 b3 k1 k2 k3 s0 s3 s15 G
        cases hb : r.b with
        | none => simp -implicitDefEqProofs [ra, hb]
        | some v => simp -implicitDefEqProofs [ra, hb]
    rw [← hcame] at gen
    exact gen cm K.cs
  have q2 : tQ__law_good_2_p ((.own a.o, some R, .own ⟨came⟩, some T, none, none, .no, none, none, none, none, ()) : EP2) = some (ofS cm none) := by
    clear lp b1 b2 b3 k1 k2 k3 s0 s3 s15
    unfold tQ__law_good_2_p
    generalize ofS cm none = L at *
    simp -implicitDefEqProofs [-tElt, cl2, key2]
  have dl2 : a.delivered.length ≤ 16777216 := by omega
  have key3 : filtM (tElt (pNm n_z11_10) (tIsN (tMap (fun x => x.b) (tV n_z11_10))) (tV n_z11_10) ((.own a.o, some R, .own ⟨came⟩, some T, none, some (ofS cm none), .no, none, none, none, none, ()) : EP2)) a.delivered = some (ofS a.delivered none) := by
    refine (filtM_filter (p := fun r : Msg => decide (r.b = none)) (h := id) fun y _ => ?_).trans (by rw [List.map_id]; rfl)
    cases hb : y.b with
    | none => simp -implicitDefEqProofs [hb]
    | some v => simp -implicitDefEqProofs [hb]
  have q3 : tQ__law_good_3_p ((.own a.o, some R, .own ⟨came⟩, some T, none, some (ofS cm none), .no, none, none, none, none, ()) : EP2) = some (ofS cm none) := by
    rw [lo] at key3
    clear lp b1 b2 b3 k1 k2 k3 s0 s3 s15 q2 key2
    unfold tQ__law_good_3_p
    generalize ofS cm none = L at *
    simp -implicitDefEqProofs [-tElt, dl2, key3]
  have g3 := same_eq (ofS cm none) (gd_msgs _ (by
    have := List.length_filter_le (fun r : Msg => decide (r.b = none)) cm
    show (List.filter _ _).length ≤ 10000
    omega) fun r hr => (b r (K.cs r (ofS_mem.mp hr).1)).2)
  -- waiting
  have okD : a.delivered.all EncEq.okE = true := List.all_eq_true.mpr fun x _ => okE_msg x
  have key4 : ∀ k, filtM (tElt (pNm n_z11_9) (TL.tB ninLD (TL.tB tIx (tV n_z11_1) (TL.tB subI (tV n_z11_9) (tK (1 : Int)))) (TL.tPL (pVar n_z11_6))) (TL.tB tIx (tV n_z11_1) (TL.tB subI (tV n_z11_9) (tK (1 : Int)))) (n_z11_6.set ((pFld (pVar n_z11_0) lf_Association_10 : Pl EP2 _).cut k ((.own a.o, some R, .own ⟨came⟩, some T, none, some (ofS cm none), .no, none, none, none, none, ()) : EP2)) (.at_ k ⟨a.delivered⟩))) came = some a.waiting := fun k => by
    rw [G.d.wt]
    have gen : ∀ l : List Msg, (∀ r ∈ l, r ∈ R) → filtM (tElt (pNm n_z11_9) (TL.tB ninLD (TL.tB tIx (tV n_z11_1) (TL.tB subI (tV n_z11_9) (tK (1 : Int)))) (TL.tPL (pVar n_z11_6))) (TL.tB tIx (tV n_z11_1) (TL.tB subI (tV n_z11_9) (tK (1 : Int)))) (n_z11_6.set ((pFld (pVar n_z11_0) lf_Association_10 : Pl EP2 _).cut k ((.own a.o, some R, .own ⟨came⟩, some T, none, some (ofS cm none), .no, none, none, none, none, ()) : EP2)) (.at_ k ⟨a.delivered⟩))) (l.map (·.a)) = some (l.filter fun r => decide (¬ r ∈ a.delivered)) := fun l => by
      induction l with
      | nil => exact fun _ => rfl
      | cons r l ih =>
        intro h
        have ih := ih fun x hx => h x (List.mem_cons_of_mem _ hx)
        have ra := wf_at w (h r List.mem_cons_self)
        have okr := okE_msg r
        rw [List.map_cons]
        unfold filtM
        rw [ih]
        clear ih lp b1 b2 b3 k1 k2 k3 s0 s3 s15 G q2 q3 key2 key3 lo
        by_cases hb : r ∈ a.delivered
        · rw [List.filter_cons_of_neg (by simp [hb])]
          simp -implicitDefEqProofs [ra, hb, okE_msg]
        · rw [List.filter_cons_of_pos (by simp [hb])]
          simp -implicitDefEqProofs [ra, hb, okE_msg]
    rw [← hcame]
    rw [← hcame] at gen
    exact gen cm K.cs
  have g4 := same_eq a.waiting (gd_msgs _ (by omega) fun r hr => by
    rw [G.d.wt] at hr
    exact (b r (K.cs r (List.mem_filter.mp hr).1)).2)
  have len : (a.delivered.length : Int) = T + ((ofS cm none).length : Int) := by rw [hT, ← lo]; omega
  have fin : tAlQ (pFld (pVar n_z11_0) lf_Association_10) n_z11_6 (TL.tSeq (TL.tSet n_z11_7 tQ__law_good_4_p) (TL.tRet (TL.tAnd (TL.tB eqT (t1 lenT (TL.tPL (pVar n_z11_6))) (TL.tB addI (tV n_z11_3) (t1 lenT (tV n_z11_5)))) (TL.tCall sameT (pCons (TL.tPL (pFld (pVar n_z11_0) lf_Association_9)) (pCons (tV n_z11_7) pNil)))))) ((.own a.o, some R, .own ⟨came⟩, some T, none, some (ofS cm none), .no, none, none, none, none, ()) : EP2) = some (.rt true) := by
    refine tAlQ_eq (s := ⟨a.delivered⟩) rfl fun k => ?_
    have key := key4 k
    have q4 : tQ__law_good_4_p (n_z11_6.set ((pFld (pVar n_z11_0) lf_Association_10 : Pl EP2 _).cut k ((.own a.o, some R, .own ⟨came⟩, some T, none, some (ofS cm none), .no, none, none, none, none, ()) : EP2)) (.at_ k ⟨a.delivered⟩)) = some a.waiting := by
      clear lp b1 b2 b3 k1 k2 k3 s0 s3 s15 q2 q3 key2 key3 G lo key4
      unfold tQ__law_good_4_p
      simp -implicitDefEqProofs [-tElt, cl2] at key ⊢
      exact key
    refine (seq_nx (e1 := ((n_z11_7.set (n_z11_6.set ((pFld (pVar n_z11_0) lf_Association_10 : Pl EP2 _).cut k ((.own a.o, some R, .own ⟨came⟩, some T, none, some (ofS cm none), .no, none, none, none, none, ()) : EP2)) (.at_ k ⟨a.delivered⟩)) (some a.waiting)) : EP2)) ?_).trans ?_
    · show Option.map _ _ = _
      rw [q4]; rfl
    · clear lp b1 b2 b3 k1 k2 k3 s0 s3 s15 q2 q3 key2 key3 G lo key4 q4 key
      have g9 : lf_Association_9.get (lf_Association_10.set a.e (Oj.hole k)) = .own ⟨a.waiting⟩ := rfl
      generalize ofS cm none = L at *
      simp -implicitDefEqProofs [len, g4, g9]
  have all : tB_z11 ((.own a.o, some R, .own ⟨came⟩, none, none, none, .no, none, none, none, none, ()) : EP2) = some (.rt true) := by
    clear key2 key3 key4 g4 G s0 s3 s15 b1 b2 b3 k1 k2 k3
    unfold tB_z11
    refine (seq_nx (e1 := ((.own a.o, some R, .own ⟨came⟩, some 0, none, none, .no, none, none, none, none, ()) : EP2)) rfl).trans ?_
    refine (seq_nx (e1 := ((.own a.o, some R, .own ⟨came⟩, some T, none, none, .no, none, none, none, none, ()) : EP2)) (by clear q2 q3 fin; simp -implicitDefEqProofs [lp])).trans ?_
    refine (seq_nx (e1 := ((.own a.o, some R, .own ⟨came⟩, some T, none, some (ofS cm none), .no, none, none, none, none, ()) : EP2)) (by clear q3 fin lp; simp -implicitDefEqProofs [q2])).trans ?_
    refine (seq_nx (e1 := ((.own a.o, some R, .own ⟨came⟩, some T, none, some (ofS cm none), .no, none, none, none, none, ()) : EP2)) (by clear q2 fin lp; simp -implicitDefEqProofs [q3, g3])).trans fin
  unfold T_z11
  show (tB_z11 ((.own a.o, some R, .own ⟨came⟩, none, none, none, .no, none, none, none, none, ()) : EP2)).bind _ = _
  rw [all]
  rfl

set_option synthInstance.maxSize 20000
set_option synthInstance.maxHeartbeats 0
abbrev EL : Type := E_law
structure Vk (R cm : List Msg) (a : As) : Prop where
  g : Gd R cm a.delivered a.waiting
  cn : cm.Nodup
  cs : ∀ r ∈ cm, r ∈ R
  l : Lst (cm.map (·.a)) a.up_to
  ar : a.arrived = isort ((cm.map (·.a)).filter fun y => decide (a.up_to < y))
theorem Vk.rw {R cm : List Msg} {a : As} (w : Wf R) (V : Vk R cm a) : Rw R cm := ⟨wf_nd w, V.cn, V.cs, wf_plc w⟩
theorem nums {R cm : List Msg} (w : Wf R) (cn : cm.Nodup) (cs : ∀ r ∈ cm, r ∈ R) : (cm.map (·.a)).Nodup ∧ ∀ x : Int, x ∈ cm.map (·.a) → 1 ≤ x ∧ x ≤ R.length := by
  constructor
  · rw [List.nodup_iff_pairwise_ne, List.pairwise_map]
    rw [List.nodup_iff_pairwise_ne] at cn
    exact List.Pairwise.imp_of_mem (fun {x y} hx hy h e => h (wf_inj w (cs x hx) (cs y hy) e)) cn
  · intro x hx
    obtain ⟨r, hr, rfl⟩ := List.mem_map.mp hx
    obtain ⟨i, _, i2, i3⟩ := wf_idx w (cs r hr)
    omega
theorem Vk.len {R cm : List Msg} {a : As} (V : Vk R cm a) : cm.length ≤ R.length := len_nd V.cn V.cs
theorem Vk.up {R cm : List Msg} {a : As} (w : Wf R) (V : Vk R cm a) : 0 ≤ a.up_to ∧ a.up_to ≤ R.length := by
  have h0 := V.l.lo
  refine ⟨h0, ?_⟩
  by_cases q : a.up_to = 0
  · omega
  · exact ((nums w V.cn V.cs).2 _ (V.l.all _ (by omega) (Int.le_refl _))).2
theorem Vk.arl {R cm : List Msg} {a : As} (V : Vk R cm a) : a.arrived.length ≤ R.length := by
  rw [V.ar, (isort_perm _).length_eq]
  have := List.length_filter_le (fun y => decide (a.up_to < y)) (cm.map (·.a))
  rw [List.length_map] at this
  have := V.len
  omega
theorem take_ok {R cm : List Msg} {a : As} (w : Wf R) (hR : R.length ≤ 30) (V : Vk R cm a) (r : Msg) (hr : r ∈ R) (hn : ¬ r ∈ cm) : ∃ a' : As, T_z8 (⟨a.o⟩, r, ()) = some ((), a'.o, ()) ∧ Vk R (cm ++ [r]) a' := by
  have cn' : (cm ++ [r]).Nodup := by
    rw [List.nodup_append]
    exact ⟨V.cn, List.nodup_cons.mpr ⟨List.not_mem_nil, List.nodup_nil⟩, fun x hx y hy e => hn (by rw [List.mem_singleton] at hy; rw [← hy, ← e]; exact hx)⟩
  have cs' : ∀ x ∈ cm ++ [r], x ∈ R := fun x hx => (List.mem_append.mp hx).elim (V.cs x) fun q => by rw [List.mem_singleton.mp q]; exact hr
  have K' : Rw R (cm ++ [r]) := ⟨wf_nd w, cn', cs', wf_plc w⟩
  have nD : ¬ r ∈ a.delivered := fun q => hn (V.g.d.sub r q)
  have D1 : Dd R (cm ++ [r]) a.delivered (a.waiting ++ [r]) := ⟨V.g.d.nd, fun x hx => List.mem_append_left _ (V.g.d.sub x hx), by
    rw [List.filter_append, ← V.g.d.wt, List.filter_cons_of_pos (by simp [nD])]; rfl, V.g.d.pre, by rw [ofS_app, ofS_app, ← List.append_assoc, V.g.d.loose]⟩
  have cl : (cm ++ [r]).length ≤ 1000 := Nat.le_trans (len_nd cn' cs') (by omega)
  obtain ⟨Dl, Wt, d1, d2, dv⟩ := deliver_ok K' cl { a with waiting := a.waiting ++ [r] } D1
  have nm := nums w V.cn V.cs
  obtain ⟨i, _, i2, i3⟩ := wf_idx w hr
  have nm' := nums w cn' cs'
  have em : (cm ++ [r]).map (·.a) = cm.map (·.a) ++ [r.a] := by rw [List.map_append]; rfl
  obtain ⟨d, e1, e2, e3, e4, e5, e6, e7⟩ := lst_step (m := R.length) V.l V.ar nm.2 (by omega : 1 ≤ r.a ∧ r.a ≤ R.length) (by rw [← em]; exact nm'.1)
  have al := V.arl
  have na := note_ok { a with waiting := Wt, delivered := Dl } r.a d (by omega) (by show a.arrived.length ≤ 1000; omega) e2 e3
  obtain ⟨a', ha'⟩ : ∃ a' : As, a' = { a with waiting := Wt, delivered := Dl, up_to := a.up_to + d, arrived := isort ((a.arrived ++ [r.a]).filter fun y => decide (a.up_to + d < y)) } := ⟨_, rfl⟩
  refine ⟨a', ?_, ⟨by rw [ha']; exact ⟨d1, d2⟩, cn', cs', by rw [ha', em]; exact e4, by rw [ha', em]; exact e6⟩⟩
  have wl : a.waiting.length < 16777216 := Nat.lt_of_le_of_lt (by rw [V.g.d.wt]; exact List.length_filter_le ..) (by have := V.len; omega : cm.length < 16777216)
  have na : T_z9 (⟨({ a with waiting := Wt, delivered := Dl } : As).o⟩, r.a, ()) = some ((), a'.o, ()) := by rw [ha']; exact na
  have dv : T_z7 (⟨({ a with waiting := a.waiting ++ [r] } : As).o⟩, ()) = some ((), ({ a with waiting := Wt, delivered := Dl } : As).o, ()) := dv
  clear d1 d2 D1 e1 e2 e3 e4 e5 e6 e7 nm nm' V ha'
  refine fnX_eq fun κ => ?_
  have all : tB_z8 ((.at_ (κ 0) a.o, some r, ()) : E_z8) = some (.nx (.at_ (κ 0) a'.o, some r, ())) := by
    unfold tB_z8
    refine (seq_nx (e1 := ((.at_ (κ 0) ({ a with waiting := a.waiting ++ [r] } : As).o, some r, ()) : E_z8)) (by clear na dv; simp -implicitDefEqProofs [wl])).trans ?_
    generalize ({ a with waiting := Wt, delivered := Dl } : As) = c at *
    generalize ({ a with waiting := a.waiting ++ [r] } : As) = b at *
    refine (seq_nx (e1 := ((.at_ (κ 0) c.o, some r, ()) : E_z8)) (by clear na; simp -implicitDefEqProofs [dv])).trans ?_
    simp -implicitDefEqProofs [na]
  refine (congrArg (fun w => Option.bind w _) all).trans ?_
  simp -implicitDefEqProofs
def newB (a : As) (n w : Int) : Bool := !(decide (n ≤ a.up_to) || decide (a.up_to + w < n)) && !decide (n ∈ a.arrived)
theorem new_ok (a : As) (n w : Int) : T_z22 (⟨a.o⟩, n, w, ()) = some (newB a n w) := by
  unfold T_z22 tB_z22 newB
  by_cases c1 : n ≤ a.up_to
  · simp -implicitDefEqProofs [c1]
  · by_cases c2 : a.up_to + w < n
    · simp -implicitDefEqProofs [c1, c2]
    · by_cases c3 : n ∈ a.arrived
      · simp -implicitDefEqProofs [c1, c2, c3]
      · simp -implicitDefEqProofs [c1, c2, c3]
theorem new_eq {R cm : List Msg} {a : As} (V : Vk R cm a) (n wd : Int) (h1 : 1 ≤ n) : newB a n wd = (!decide (n ∈ cm.map (·.a)) && (decide (a.up_to < n) && decide (n ≤ a.up_to + wd))) := by
  have hm : n ∈ a.arrived ↔ n ∈ cm.map (·.a) ∧ a.up_to < n := by rw [V.ar, (isort_perm _).mem_iff, List.mem_filter, decide_eq_true_eq]
  have ha := V.l.all n h1
  unfold newB
  generalize cm.map (·.a) = C at *
  by_cases c1 : n ≤ a.up_to
  · have := ha c1
    simp [c1, this]
  · have c1' : a.up_to < n := by omega
    by_cases c3 : n ∈ C
    · have := hm.mpr ⟨c3, c1'⟩
      simp [c3, this]
    · have : ¬ n ∈ a.arrived := fun q => c3 (hm.mp q).1
      by_cases c2 : a.up_to + wd < n
      · have c4 : ¬ n ≤ a.up_to + wd := by omega
        simp [c1, c2, c4]
      · have c4 : n ≤ a.up_to + wd := by omega
        simp [c1, c1', c2, c3, c4, this]
theorem cnt_eq {C : List Int} {u : Int} (L : Lst C u) (nd : C.Nodup) (hb : ∀ x ∈ C, 1 ≤ x) (k : Int) (h1 : 1 ≤ k) : (((C.filter fun j => decide (j ≤ k)).length : Int) = k) ↔ k ≤ u := by
  have kk : ((k.toNat : Nat) : Int) = k := by omega
  have fn : (C.filter fun j => decide (j ≤ k)).Nodup := nd.filter _
  have fs : ∀ x ∈ C.filter (fun j => decide (j ≤ k)), x ∈ rgT 1 k.toNat := fun x hx => by
    have := List.mem_filter.mp hx
    rw [decide_eq_true_eq] at this
    exact rg_mem.mpr ⟨hb x this.1, by omega⟩
  constructor
  · intro h
    apply Classical.byContradiction
    intro c
    have lo := L.lo
    have nd2 : ((u + 1) :: C.filter fun j => decide (j ≤ k)).Nodup := List.nodup_cons.mpr ⟨fun q => L.no (List.mem_filter.mp q).1, fn⟩
    have := len_nd (ys := rgT 1 k.toNat) nd2 fun x hx => (List.mem_cons.mp hx).elim (fun e => by rw [e]; exact rg_mem.mpr (by omega)) (fs x)
    rw [rg_len, List.length_cons] at this
    omega
  · intro h
    have h2 := len_nd fn fs
    have h3 := len_nd (xs := rgT 1 k.toNat) (ys := C.filter fun j => decide (j ≤ k)) ((rg_asc _).imp fun h => by omega) fun x hx => by
      have := rg_mem.mp hx
      rw [List.mem_filter, decide_eq_true_eq]
      exact ⟨L.all x this.1 (by omega), by omega⟩
    rw [rg_len] at h2 h3
    omega
theorem least_len {u : Int} (h0 : 0 ≤ u) (h1 : u ≤ 31) {p : Int → Bool} (hp : ∀ k, 1 ≤ k → (p k = true ↔ k ≤ u)) : (((rgT 1 31).filter p).length : Int) = u := by
  have e : (rgT 1 31).filter p = rgT 1 u.toNat := asc_ext (List.Pairwise.filter _ (rg_asc 31)) (rg_asc _) fun x => by
    rw [List.mem_filter, rg_mem, rg_mem]
    constructor
    · rintro ⟨q1, q2⟩
      have := (hp x q1.1).mp q2
      omega
    · rintro ⟨q1, q2⟩
      exact ⟨by omega, (hp x q1).mpr (by omega)⟩
  rw [e, rg_len]
  omega

set_option synthInstance.maxSize 20000
set_option synthInstance.maxHeartbeats 0
theorem win_ok {R cm : List Msg} {a : As} (w : Wf R) (V : Vk R cm a) (o : Int) (h1 : 1 ≤ o) (x13 : Option Bool) (wd : Int) : ∃ z, tL_law_2 ((none, none, some R, .no, none, .own a.o, .own ⟨cm.map (·.a)⟩, none, none, some o, none, some a.up_to, some wd, x13, none, ()) : EL) = some (.nx (none, none, some R, .no, none, .own a.o, .own ⟨cm.map (·.a)⟩, none, none, some o, none, some a.up_to, some wd, some z, none, ())) := by
  have ne := new_ok a o wd
  have g := same_eq (newB a o wd) (gd_b _)
  have e := new_eq V o wd h1
  generalize hC : cm.map (·.a) = C at *
  generalize newB a o wd = z at *
  refine ⟨z, ?_⟩
  clear V
  have s1 : (TL.tSet n_law_13 (TL.tAnd (TL.tB ninT (tV n_law_9) (TL.tPL (pVar n_law_6))) (TL.tAnd (TL.tB gtI (tV n_law_9) (tV n_law_11)) (TL.tB leI (tV n_law_9) (TL.tB addI (tV n_law_11) (tV n_law_12))))) : EL → Option (Fw (Bool × EL) EL)) (none, none, some R, .no, none, .own a.o, .own ⟨C⟩, none, none, some o, none, some a.up_to, some wd, x13, none, ()) = some (.nx (none, none, some R, .no, none, .own a.o, .own ⟨C⟩, none, none, some o, none, some a.up_to, some wd, some z, none, ())) := by
    rw [e]
    clear g ne e
    by_cases c1 : o ∈ C
    · simp -implicitDefEqProofs [c1]
    · by_cases c2 : a.up_to < o
      · simp -implicitDefEqProofs [c1, c2]
      · simp -implicitDefEqProofs [c1, c2]
  unfold tL_law_2
  refine (seq_nx s1).trans ?_
  clear s1 e
  simp -implicitDefEqProofs [ne, g]
theorem oth_ok {R cm : List Msg} {a : As} (w : Wf R) (hR : R.length ≤ 30) (V : Vk R cm a) (o : Int) (h1 : 1 ≤ o) : ∃ e2, tL_law_3 ((none, none, some R, .no, none, .own a.o, .own ⟨cm.map (·.a)⟩, none, none, some o, none, none, none, none, none, ()) : EL) = some (.nx e2) ∧ k_law_3 e2 = (none, none, some R, .no, none, .own a.o, .own ⟨cm.map (·.a)⟩, none, none, none, none, none, none, none, none, ()) := by
  have up := V.up w
  have nm := nums w V.cn V.cs
  have cl : (cm.map (·.a)).length ≤ 16777216 := by rw [List.length_map]; have := V.len; omega
  have q2 : ∀ k : Int, tQ_law_2 ((none, none, some R, .no, some k, .own a.o, .own ⟨cm.map (·.a)⟩, none, none, some o, none, none, none, none, none, ()) : EL) = some ((cm.map (·.a)).filter fun j => decide (j ≤ k)) := fun k => by
    have key : filtM (tElt (pNm n_law_14) (TL.tB leI (tV n_law_14) (tV n_law_4)) (tV n_law_14) ((none, none, some R, .no, some k, .own a.o, .own ⟨cm.map (·.a)⟩, none, none, some o, none, none, none, none, none, ()) : EL)) (cm.map (·.a)) = some ((cm.map (·.a)).filter fun j => decide (j ≤ k)) := by
      refine (filtM_filter (p := fun j => decide (j ≤ k)) (h := id) fun y _ => ?_).trans (by rw [List.map_id])
      generalize cm.map (·.a) = C at *
      clear V
      by_cases q : y ≤ k
      · simp -implicitDefEqProofs [q]
      · simp -implicitDefEqProofs [q]
    generalize cm.map (·.a) = C at *
    clear V
    unfold tQ_law_2
    generalize C.filter (fun j => decide (j ≤ k)) = G at *
    simp -implicitDefEqProofs [-tElt, cl, key]
  have rb1 : bRg 1 32 = true := by decide
  have rba : rgB 1 = true := by decide
  have rbb : rgB 32 = true := by decide
  have rl : (rgT 1 31).length ≤ 16777216 := by rw [rg_len]; omega
  obtain ⟨G, hG, hl⟩ : ∃ G : List Int, tQ_law_3 ((none, none, some R, .no, none, .own a.o, .own ⟨cm.map (·.a)⟩, none, none, some o, none, none, none, none, none, ()) : EL) = some G ∧ (G.length : Int) = a.up_to := by
    refine ⟨(rgT 1 31).filter fun k => decide ((((cm.map (·.a)).filter fun j => decide (j ≤ k)).length : Int) = k), ?_, ?_⟩
    · have key : filtM (tElt (pNm n_law_4) (TL.tB eqT (t1 lenT tQ_law_2) (tV n_law_4)) (tV n_law_4) ((none, none, some R, .no, none, .own a.o, .own ⟨cm.map (·.a)⟩, none, none, some o, none, none, none, none, none, ()) : EL)) (rgT 1 31) = some ((rgT 1 31).filter fun k => decide ((((cm.map (·.a)).filter fun j => decide (j ≤ k)).length : Int) = k)) := by
        refine (filtM_filter (p := fun k => decide ((((cm.map (·.a)).filter fun j => decide (j ≤ k)).length : Int) = k)) (h := id) fun y _ => ?_).trans (by rw [List.map_id])
        have q := q2 y
        generalize (cm.map (·.a)).filter (fun j => decide (j ≤ y)) = F at *
        generalize cm.map (·.a) = C at *
        clear V q2
        by_cases c : (F.length : Int) = y
        · simp -implicitDefEqProofs [q, c]
        · simp -implicitDefEqProofs [q, c]
      clear q2
      generalize (rgT 1 31).filter (fun k => decide ((((cm.map (·.a)).filter fun j => decide (j ≤ k)).length : Int) = k)) = Z at *
      generalize cm.map (·.a) = C at *
      clear V
      unfold tQ_law_3
      simp -implicitDefEqProofs [-tElt, rb1, rba, rbb, rl, key]
    · exact least_len up.1 (by omega) fun k hk => by rw [decide_eq_true_eq]; exact cnt_eq V.l nm.1 (fun x hx => (nm.2 x hx).1) k hk
  clear q2
  obtain ⟨z1, b1⟩ := win_ok w V o h1 none 1
  obtain ⟨z2, b2⟩ := win_ok w V o h1 none 5
  generalize cm.map (·.a) = C at *
  clear V nm
  refine ⟨(none, none, some R, .no, none, .own a.o, .own ⟨C⟩, none, none, some o, none, some a.up_to, none, none, none, ()), ?_, rfl⟩
  have lp : forT k_law_2 (pNm n_law_12) tL_law_2 [1, 5] ((none, none, some R, .no, none, .own a.o, .own ⟨C⟩, none, none, some o, none, some a.up_to, none, none, none, ()) : EL) = some (.nx (none, none, some R, .no, none, .own a.o, .own ⟨C⟩, none, none, some o, none, some a.up_to, none, none, none, ())) := by
    have st : ∀ x : Int, pNm n_law_12 x ((none, none, some R, .no, none, .own a.o, .own ⟨C⟩, none, none, some o, none, some a.up_to, none, none, none, ()) : EL) = some ((none, none, some R, .no, none, .own a.o, .own ⟨C⟩, none, none, some o, none, some a.up_to, some x, none, none, ()) : EL) := fun x => rfl
    have kk : ∀ (x : Int) (z : Bool), k_law_2 ((none, none, some R, .no, none, .own a.o, .own ⟨C⟩, none, none, some o, none, some a.up_to, some x, some z, none, ()) : EL) = ((none, none, some R, .no, none, .own a.o, .own ⟨C⟩, none, none, some o, none, some a.up_to, none, none, none, ()) : EL) := fun x z => rfl
    unfold forT
    rw [st]; simp only [Option.bind_some]; rw [b1]; simp only [Option.bind_some, forT1]; rw [kk]
    unfold forT
    rw [st]; simp only [Option.bind_some]; rw [b2]; simp only [Option.bind_some, forT1]; rw [kk]
    rfl
  clear b1 b2
  unfold tL_law_3
  refine (seq_nx (e1 := ((none, none, some R, .no, none, .own a.o, .own ⟨C⟩, none, none, some o, none, some a.up_to, none, none, none, ()) : EL)) (by clear lp; simp -implicitDefEqProofs [hG, hl])).trans ?_
  simp -implicitDefEqProofs [lp]
theorem round_ok {R cm : List Msg} {a : As} (w : Wf R) (b : Rb R) (hR : R.length ≤ 30) (V : Vk R cm a) (r : Msg) (hr : r ∈ R) (hn : ¬ r ∈ cm) : ∃ a' : As, Vk R (cm ++ [r]) a' ∧ ∃ e2, tL_law_4 ((none, none, some R, .no, none, .own a.o, .own ⟨cm.map (·.a)⟩, some r.a, none, none, none, none, none, none, none, ()) : EL) = some (.nx e2) ∧ k_law_3 e2 = (none, none, some R, .no, none, .own a'.o, .own ⟨(cm ++ [r]).map (·.a)⟩, none, none, none, none, none, none, none, none, ()) := by
  obtain ⟨a', tk, V'⟩ := take_ok w hR V r hr hn
  refine ⟨a', V', ?_⟩
  obtain ⟨i, _, i2, i3⟩ := wf_idx w hr
  have up := V.up w
  have nc : ¬ r.a ∈ cm.map (·.a) := fun q => by
    obtain ⟨x, x1, x2⟩ := List.mem_map.mp q
    rw [wf_inj w hr (V.cs x x1) x2.symm] at hn
    exact hn x1
  have nu : a.up_to < r.a := by
    apply Classical.byContradiction
    intro c
    exact nc (V.l.all r.a (by omega) (by omega))
  have n1 := new_ok a r.a 30
  rw [new_eq V r.a 30 (by omega)] at n1
  have e1 : (!decide (r.a ∈ cm.map (·.a)) && (decide (a.up_to < r.a) && decide (r.a ≤ a.up_to + 30))) = true := by
    have : r.a ≤ a.up_to + 30 := by omega
    simp only [nc, nu, this, decide_true, decide_false, Bool.not_false, Bool.and_true]
  rw [e1] at n1
  have n2 := new_ok a' r.a 30
  have hc' : r.a ∈ (cm ++ [r]).map (·.a) := List.mem_map_of_mem (List.mem_append_right _ List.mem_cons_self)
  rw [new_eq V' r.a 30 (by omega)] at n2
  have e2 : (!decide (r.a ∈ (cm ++ [r]).map (·.a)) && (decide (a'.up_to < r.a) && decide (r.a ≤ a'.up_to + 30))) = false := by
    simp only [hc', decide_true, Bool.not_true, Bool.false_and]
  rw [e2] at n2
  have ra := wf_at w hr
  have gt := same_eq true (gd_b true)
  have gf := same_eq false (gd_b false)
  have good := good_ok w b (V'.rw w) (by omega) V'.g
  have cl : (cm.map (·.a)).length < 16777216 := by rw [List.length_map]; have := V.len; omega
  have em : (cm ++ [r]).map (·.a) = cm.map (·.a) ++ [r.a] := by rw [List.map_append]; rfl
  have lp : ∃ e', forT k_law_3 (pNm n_law_9) tL_law_3 (rgT 1 R.length) ((none, none, some R, .no, none, .own a'.o, .own ⟨(cm ++ [r]).map (·.a)⟩, none, none, none, none, none, none, none, none, ()) : EL) = some (.nx e') ∧ e' = ((none, none, some R, .no, none, .own a'.o, .own ⟨(cm ++ [r]).map (·.a)⟩, none, none, none, none, none, none, none, none, ()) : EL) := by
    obtain ⟨e', h1, h2, _⟩ := forT_inv0 (β := Bool × EL) (kp := k_law_3) (asg := pNm n_law_9) (body := tL_law_3)
      (fun (xs : List Int) (e : EL) => e = (none, none, some R, .no, none, .own a'.o, .own ⟨(cm ++ [r]).map (·.a)⟩, none, none, none, none, none, none, none, none, ()) ∧ ∀ x ∈ xs, 1 ≤ x)
      (fun x xs e ⟨he, hx⟩ => by
        subst he
        obtain ⟨e2, q1, q2⟩ := oth_ok w hR V' x (hx x List.mem_cons_self)
        exact ⟨_, rfl, e2, .inl q1, q2, fun y hy => hx y (List.mem_cons_of_mem _ hy)⟩) (rgT 1 R.length) (none, none, some R, .no, none, .own a'.o, .own ⟨(cm ++ [r]).map (·.a)⟩, none, none, none, none, none, none, none, none, ()) ⟨rfl, fun x hx => (rg_mem.mp hx).1⟩
    exact ⟨e', h1, h2⟩
  obtain ⟨e', lp, rfl⟩ := lp
  have rb1 : rgB 1 = true := by decide
  have rb : rgB ((R.length : Int) + 1) = true := by unfold rgB; simp; omega
  have ml : ((R.length : Int) + 1 - 1).toNat = R.length := by omega
  refine ⟨(none, none, some R, .no, none, .own a'.o, .own ⟨(cm ++ [r]).map (·.a)⟩, none, none, none, none, none, none, none, none, ()), ?_, rfl⟩
  rw [em] at good lp ⊢
  generalize cm.map (·.a) = C at *
  clear V V' e1 e2 nc nu hc' em
  unfold tL_law_4
  refine (seq_nx (e1 := ((none, none, some R, .no, none, .own a.o, .own ⟨C⟩, some r.a, none, none, none, none, none, none, none, ()) : EL)) (by clear lp good tk; simp -implicitDefEqProofs [n1, gt])).trans ?_
  unfold tR_law_4_1
  refine (seq_nx (e1 := ((none, none, some R, .no, none, .own a'.o, .own ⟨C⟩, some r.a, none, none, none, none, none, none, none, ()) : EL)) (by clear lp good; simp -implicitDefEqProofs [ra, tk])).trans ?_
  unfold tR_law_4_2
  refine (seq_nx (e1 := ((none, none, some R, .no, none, .own a'.o, .own ⟨C ++ [r.a]⟩, some r.a, none, none, none, none, none, none, none, ()) : EL)) (by clear lp good tk; simp -implicitDefEqProofs [cl])).trans ?_
  generalize C ++ [r.a] = C' at *
  unfold tR_law_4_3
  refine (seq_nx (e1 := ((none, none, some R, .no, none, .own a'.o, .own ⟨C'⟩, some r.a, none, none, none, none, none, none, none, ()) : EL)) (by clear lp tk; simp -implicitDefEqProofs [good, n2, gf])).trans ?_
  unfold tR_law_4_4
  clear good tk
  simp -implicitDefEqProofs [rb, rb1, ml, lp]

set_option synthInstance.maxSize 20000
set_option synthInstance.maxHeartbeats 0
theorem cell_ok (ns : List Int) : ∃ c, T_z20 (⟨ns⟩, 0, ()) = some c := by
  cases ns with
  | nil => exact ⟨0, by unfold T_z20 tB_z20; simp -implicitDefEqProofs⟩
  | cons x xs =>
    have i0 : L2.atI (x :: xs) 0 = some x := at_n (x :: xs) 0 (by simp)
    have h0 : (0 : Int) < (xs.length : Int) + 1 := by omega
    exact ⟨x, by unfold T_z20 tB_z20; simp -implicitDefEqProofs [i0, h0]⟩
def a0 : As := ⟨1, 2, ⟨[3]⟩, [], 0, 0, [], 0, [], [], [], 0, 0, 0, "no"⟩
theorem init_ok : T_z4 (⟨⟨emp_Association⟩⟩, 1, 2, [3], ()) = some ((), a0.o, ()) := by
  refine fnX_eq fun κ => ?_
  unfold tB_z4 tR_z4__1 tR_z4__2 tR_z4__3 tR_z4__4 tR_z4__5 tR_z4__6 tR_z4__7 tR_z4__8 tR_z4__9 tR_z4__10 tR_z4__11 tR_z4__12 tR_z4__13 tR_z4__14
  simp -implicitDefEqProofs
  try rfl
theorem ixN_n (l n : Nat) (h : n < l) : L2.ixN l (n : Int) = some n := by
  unfold L2.ixN
  rw [if_pos (by omega), if_pos (by omega)]
  simp
theorem tForP_eq {E : Type} [EnvR E] {α τ : Type} [Enc α] {p : Pl E (LS α)} {kp : E → E} {asg : α → E → Option E} {body : E → Option (Fw (τ × E) E)} {e : E} {s : LS α} {o : Fw (τ × E) E} (h : p.get e = some s) (hg : ∀ k, ∃ o1, forT kp asg body s.l (kp (p.cut k e)) = some o1 ∧ bkG p k s o1 = o) : tForP p kp asg body e = some o := by
  unfold tForP
  rw [h]
  simp only [Option.bind_some]
  exact uni_eq fun k => by
    obtain ⟨o1, h1, h2⟩ := hg k
    rw [h1, Option.map_some, h2]
theorem swap_ok (dd : List Int) (R : List Msg) (L : List Int) (k : Nat) (hd : Dr 40 dd) (hL : L.length ≤ 30) (hk : k < L.length) :
    ∃ L' e2, tL_law_1 ((none, some dd, some R, .own ⟨L⟩, some (k : Int), .no, .no, none, none, none, none, none, none, none, none, ()) : EL) = some (.nx e2) ∧ k_law_1 e2 = (none, some dd, some R, .own ⟨L'⟩, none, .no, .no, none, none, none, none, none, none, none, none, ()) ∧ L'.Perm L := by
  obtain ⟨m, hm⟩ : ∃ m, m = L.length := ⟨_, rfl⟩
  have i1 : L2.atI dd (k : Int) = some (dd[k]'(by rw [hd.1]; omega)) := at_n dd k (by rw [hd.1]; omega)
  have i39 : L2.atI dd 39 = some (dd[39]'(by rw [hd.1]; omega)) := at_n dd 39 (by rw [hd.1]; omega)
  have p1 : 0 ≤ (dd[k]'(by rw [hd.1]; omega)) := (hd.2 _ (List.getElem_mem _)).1
  generalize (dd[k]'(by rw [hd.1]; omega)) = dk at *
  generalize (dd[39]'(by rw [hd.1]; omega)) = d39 at *
  have o3 : ∀ i : Int, bMod i 3 = true := fun i => rfl
  have o4 : ∀ i : Int, bMod i 4 = true := fun i => rfl
  have z1 : ¬ (L.length : Int) = 0 := by omega
  have z2 : 0 < (L.length : Int) := by omega
  have z3 : (L.length : Int) < 1073741824 := by omega
  have z4 : ¬ L.length = 0 := by omega
  have z5 : 0 < L.length := by omega
  have z6 : L.length < 1073741824 := by omega
  have z7 : ¬ L = [] := fun q => by rw [q] at z4; exact z4 rfl
  obtain ⟨j, hj, e1⟩ : ∃ j : Nat, j < L.length ∧ (TL.tSeq (TL.tSet n_law_8 (TL.tB modI (t1 intI (TL.tB tIx (tV n_law_1) (tV n_law_4))) (t1 lenT (TL.tPL (pVar n_law_3))))) (TL.tIfS (TL.tB gtI (TL.tB modI (t1 intI (TL.tB tIx (tV n_law_1) (tK (39 : Int)))) (tK (3 : Int))) (tK (0 : Int))) (TL.tSet n_law_8 (TL.tB minI (TL.tB subI (t1 lenT (TL.tPL (pVar n_law_3))) (tK (1 : Int))) (TL.tB addI (tV n_law_4) (TL.tB modI (t1 intI (TL.tB tIx (tV n_law_1) (tV n_law_4))) (tK (4 : Int)))))) TL.tNil) : EL → Option (Fw (Bool × EL) EL)) (none, some dd, some R, .own ⟨L⟩, some (k : Int), .no, .no, none, none, none, none, none, none, none, none, ()) = some (.nx (none, some dd, some R, .own ⟨L⟩, some (k : Int), .no, .no, none, some (j : Int), none, none, none, none, none, none, ())) := by
    have n0 := Int.emod_nonneg dk z1
    have n1 := Int.emod_lt_of_pos dk z2
    by_cases q : 0 < d39 % 3
    · obtain ⟨j, hj⟩ : ∃ j : Nat, (j : Int) = min ((L.length : Int) - 1) ((k : Int) + dk % 4) := ⟨(min ((L.length : Int) - 1) ((k : Int) + dk % 4)).toNat, by omega⟩
      refine ⟨j, by omega, ?_⟩
      simp -implicitDefEqProofs [i1, i39, o3, o4, z1, z2, z3, z4, z5, z6, z7, q, hj]
    · obtain ⟨j, hj⟩ : ∃ j : Nat, (j : Int) = dk % (L.length : Int) := ⟨(dk % (L.length : Int)).toNat, by omega⟩
      refine ⟨j, by omega, ?_⟩
      simp -implicitDefEqProofs [i1, i39, o3, z1, z2, z3, z4, z5, z6, z7, q, hj]
  have i2 : L2.atI L (k : Int) = some L[k] := at_n L k hk
  have i3 : L2.atI L (j : Int) = some L[j] := at_n L j hj
  have x1 : L2.ixN L.length (k : Int) = some k := ixN_n _ _ hk
  have x2 : L2.ixN L.length (j : Int) = some j := ixN_n _ _ hj
  refine ⟨(L.set k L[j]).set j L[k], (none, some dd, some R, .own ⟨(L.set k L[j]).set j L[k]⟩, some (k : Int), .no, .no, none, some (j : Int), none, none, none, none, none, none, ()), ?_, rfl, List.set_set_perm hk hj⟩
  generalize L[k] = lk at *
  generalize L[j] = lj at *
  have as : ∀ {E β : Type} {a b c : E → Option (Fw β E)} {e e1 : E}, TL.tSeq a b e = some (.nx e1) → TL.tSeq a (TL.tSeq b c) e = c e1 := fun {E β a b c e e1} h => by
    unfold TL.tSeq at h ⊢
    cases q : a e with
    | none => rw [q] at h; cases h
    | some o =>
      rw [q] at h
      simp only [Option.bind_some] at h ⊢
      cases o with
      | nx e2 =>
        have h : b e2 = some (.nx e1) := h
        show (b e2).bind _ = _
        rw [h]; rfl
      | bk e2 => cases h
      | ct e2 => cases h
      | rt b => cases h
  unfold tL_law_1
  refine (as e1).trans ?_
  clear e1
  simp -implicitDefEqProofs [i2, i3, x1, x2]
theorem rg0_mem {m : Nat} {x : Int} (h : x ∈ rgT 0 m) : ∃ k : Nat, k < m ∧ x = (k : Int) := by
  unfold rgT at h
  obtain ⟨i, hi, rfl⟩ := List.mem_map.mp h
  exact ⟨i, List.mem_range.mp hi, by simp⟩
theorem main_loop {R : List Msg} (w : Wf R) (b : Rb R) (hR : R.length ≤ 30) : ∀ (xs : List Int) (cm : List Msg) (a : As), Vk R cm a → (cm.map (·.a) ++ xs).Nodup → (∀ x ∈ xs, ∃ r ∈ R, r.a = x) →
    ∃ (a' : As) (C' : List Int), forT k_law_3 (pNm n_law_7) tL_law_4 xs ((none, none, some R, .no, none, .own a.o, .own ⟨cm.map (·.a)⟩, none, none, none, none, none, none, none, none, ()) : EL) = some (.nx (none, none, some R, .no, none, .own a'.o, .own ⟨C'⟩, none, none, none, none, none, none, none, none, ()))
  | [], cm, a, V, _, _ => ⟨a, _, rfl⟩
  | x :: xs, cm, a, V, hn, hx => by
    obtain ⟨r, hr, rfl⟩ := hx x List.mem_cons_self
    have nc : ¬ r ∈ cm := fun q => (List.nodup_append.mp hn).2.2 r.a (List.mem_map_of_mem q) r.a List.mem_cons_self rfl
    obtain ⟨a1, V1, e2, b1, b2⟩ := round_ok w b hR V r hr nc
    have em : (cm ++ [r]).map (·.a) = cm.map (·.a) ++ [r.a] := by rw [List.map_append]; rfl
    obtain ⟨a2, C', c1⟩ := main_loop w b hR xs (cm ++ [r]) a1 V1 (by rw [em, List.append_assoc]; exact hn) fun y hy => hx y (List.mem_cons_of_mem _ hy)
    refine ⟨a2, C', ?_⟩
    unfold forT
    rw [show pNm n_law_7 r.a ((none, none, some R, .no, none, .own a.o, .own ⟨cm.map (·.a)⟩, none, none, none, none, none, none, none, none, ()) : EL) = some ((none, none, some R, .no, none, .own a.o, .own ⟨cm.map (·.a)⟩, some r.a, none, none, none, none, none, none, none, ()) : EL) from rfl]
    simp only [Option.bind_some]
    rw [b1]
    simp only [Option.bind_some, forT1]
    rw [b2]
    exact c1
theorem run_ok {ns dd L C' : List Int} {c : Int} {R : List Msg} {a a' : As} (hR30 : R.length ≤ 30) (hc : T_z20 (⟨ns⟩, 0, ()) = some c) (hdd : T_z16 (c, 40, ()) = some dd) (hR : T_z13 (⟨ns⟩, 2, 30, ()) = some R)
    (i0 : T_z4 (⟨⟨emp_Association⟩⟩, 1, 2, [3], ()) = some ((), a.o, ()))
    (ls : forT k_law_1 (pNm n_law_4) tL_law_1 (rgT 0 R.length) ((none, some dd, some R, .own ⟨R.map (·.a)⟩, none, .no, .no, none, none, none, none, none, none, none, none, ()) : EL) = some (.nx (none, some dd, some R, .own ⟨L⟩, none, .no, .no, none, none, none, none, none, none, none, none, ())))
    (lp : forT k_law_3 (pNm n_law_7) tL_law_4 L ((none, none, some R, .no, none, .own a.o, .own ⟨[]⟩, none, none, none, none, none, none, none, none, ()) : EL) = some (.nx (none, none, some R, .no, none, .own a'.o, .own ⟨C'⟩, none, none, none, none, none, none, none, none, ()))) :
    ∃ ex : EL, tB_law ((some ⟨ns⟩, none, none, .no, none, .no, .no, none, none, none, none, none, none, none, none, ()) : EL) = some (.rt (true, ex)) := by
  have rl : R.length ≤ 16777216 := by omega
  have key : filtM (tElt (pNm n_law_10) tYes (tMap (fun x => x.a) (tV n_law_10)) ((some ⟨ns⟩, some dd, some R, .no, none, .no, .no, none, none, none, none, none, none, none, none, ()) : EL)) R = some (R.map (·.a)) := by
    refine filtM_map fun r _ => ?_
    simp -implicitDefEqProofs
  have q1 : tQ_law_1 ((some ⟨ns⟩, some dd, some R, .no, none, .no, .no, none, none, none, none, none, none, none, none, ()) : EL) = some (R.map (·.a)) := by
    clear ls
    unfold tQ_law_1
    generalize R.map (·.a) = M at *
    simp -implicitDefEqProofs [-tElt, rl, key]
  have ml : (R.map (·.a)).length = R.length := List.length_map _
  have rb : rgB (R.length : Int) = true := by unfold rgB; simp; omega
  generalize R.map (·.a) = M at *
  refine ⟨(none, none, some R, .no, none, .own a'.o, .own ⟨C'⟩, none, none, none, none, none, none, none, none, ()), ?_⟩
  unfold tB_law
  refine (seq_nx (e1 := ((some ⟨ns⟩, some dd, none, .no, none, .no, .no, none, none, none, none, none, none, none, none, ()) : EL)) (by clear ls lp q1; simp -implicitDefEqProofs [hc, hdd])).trans ?_
  unfold tR_law__1
  refine (seq_nx (e1 := ((some ⟨ns⟩, some dd, some R, .no, none, .no, .no, none, none, none, none, none, none, none, none, ()) : EL)) (by clear ls lp q1; simp -implicitDefEqProofs [hR])).trans ?_
  unfold tR_law__2
  refine (seq_nx (e1 := ((some ⟨ns⟩, some dd, some R, .own ⟨M⟩, none, .no, .no, none, none, none, none, none, none, none, none, ()) : EL)) (by clear ls lp; simp -implicitDefEqProofs [q1])).trans ?_
  unfold tR_law__3
  refine (seq_nx (e1 := ((none, some dd, some R, .own ⟨L⟩, none, .no, .no, none, none, none, none, none, none, none, none, ()) : EL)) (by clear lp; simp -implicitDefEqProofs [ml, rb, ls])).trans ?_
  unfold tR_law__4
  refine (seq_nx (e1 := ((none, some dd, some R, .own ⟨L⟩, none, .own a.o, .no, none, none, none, none, none, none, none, none, ()) : EL)) (by clear ls lp; simp -implicitDefEqProofs [i0])).trans ?_
  unfold tR_law__5
  refine (seq_nx (e1 := ((none, some dd, some R, .own ⟨L⟩, none, .own a.o, .own ⟨[]⟩, none, none, none, none, none, none, none, none, ()) : EL)) (by clear ls lp; simp -implicitDefEqProofs)).trans ?_
  unfold tR_law__6
  have s6 : (tForP (pVar n_law_3) k_law_3 (pNm n_law_7) tL_law_4 : EL → Option (Fw (Bool × EL) EL)) (none, some dd, some R, .own ⟨L⟩, none, .own a.o, .own ⟨[]⟩, none, none, none, none, none, none, none, none, ()) = some (.nx (none, none, some R, .no, none, .own a'.o, .own ⟨C'⟩, none, none, none, none, none, none, none, none, ())) :=
    tForP_eq (s := ⟨L⟩) rfl fun k => ⟨_, lp, rfl⟩
  exact (seq_nx s6).trans (by unfold tR_law__7; simp -implicitDefEqProofs)
theorem law_t (ns : List Int) (hns : ns.length ≤ 63) : T_law (⟨ns⟩, ()) = some true := by
  obtain ⟨c, hc⟩ := cell_ok ns
  obtain ⟨dd, hdd, hd⟩ := draws_ok c 40 (by decide) (by decide)
  have hd : Dr 40 dd := hd
  obtain ⟨R, hR, w, b, rl⟩ := given_ok ns
  have mn : (R.map (·.a)).Nodup := (nums w (wf_nd w) fun r h => h).1
  obtain ⟨L, hL, ls⟩ : ∃ L : List Int, L.Perm (R.map (·.a)) ∧ forT k_law_1 (pNm n_law_4) tL_law_1 (rgT 0 R.length) ((none, some dd, some R, .own ⟨R.map (·.a)⟩, none, .no, .no, none, none, none, none, none, none, none, none, ()) : EL) = some (.nx (none, some dd, some R, .own ⟨L⟩, none, .no, .no, none, none, none, none, none, none, none, none, ())) := by
    obtain ⟨e', lp, ⟨L, rfl, hL⟩, -⟩ := forT_inv0 (β := Bool × EL) (kp := k_law_1) (asg := pNm n_law_4) (body := tL_law_1)
      (fun (ys : List Int) (e : EL) => (∃ L : List Int, e = (none, some dd, some R, .own ⟨L⟩, none, .no, .no, none, none, none, none, none, none, none, none, ()) ∧ L.Perm (R.map (·.a))) ∧ ∀ y ∈ ys, y ∈ rgT 0 R.length)
      (fun y ys e ⟨⟨L, he, hL⟩, hy⟩ => by
        subst he
        obtain ⟨k, hk, rfl⟩ := rg0_mem (hy y (by simp))
        have ll : L.length = R.length := by rw [hL.length_eq, List.length_map]
        obtain ⟨L', e2, b1, b2, b3⟩ := swap_ok dd R L k hd (by omega) (by omega)
        exact ⟨_, rfl, e2, .inl b1, ⟨L', b2, b3.trans hL⟩, fun z hz => hy z (List.mem_cons_of_mem _ hz)⟩) (rgT 0 R.length) (none, some dd, some R, .own ⟨R.map (·.a)⟩, none, .no, .no, none, none, none, none, none, none, none, none, ()) ⟨⟨_, rfl, .refl _⟩, fun _ h => h⟩
    exact ⟨L, hL, lp⟩
  have V0 : Vk R [] a0 := ⟨⟨⟨List.nodup_nil, fun r h => (nomatch (show r ∈ ([] : List Msg) from h)), rfl, fun s => List.nil_prefix, rfl⟩, fun r h => (nomatch (show r ∈ ([] : List Msg) from h))⟩, List.nodup_nil, fun r h => (nomatch h), ⟨Int.le_refl _, fun k h1 h2 => by have h2 : k ≤ 0 := h2; omega, List.not_mem_nil⟩, rfl⟩
  obtain ⟨a', C', lp⟩ := main_loop w b rl L [] a0 V0 (by show L.Nodup; exact hL.nodup_iff.mpr mn) fun x hx => by
    obtain ⟨r, r1, r2⟩ := List.mem_map.mp (hL.mem_iff.mp hx)
    exact ⟨r, r1, r2⟩
  obtain ⟨ex, all⟩ := run_ok rl hc hdd hR init_ok ls lp
  clear lp ls V0 hdd hR
  refine fnXT_eq fun κ => ?_
  generalize tB_law = B at *
  rw [all]
  rfl
theorem law_true : ∀ ns : List Int, ns.length ≤ 63 → ∃ M, F_law [.scr ns] [] = some (.val (.bl true), M) := law_of tok_law fun ns h => law_t ns h

end K52
namespace K52
open PySem PySem.Spec PyProof.Rows L2 CI

theorem sc_z16 : FnScope ["_law_cell_here", "_law_many", "_law_rows", "_law_rest", "_law_state", "_law_k"] ["_law_cell_here", "_law_many"] (defScope s_z16) := ⟨rfl, rfl, rfl, by decide +kernel, rfl, by decide +kernel, by decide +kernel⟩
theorem ok_z16 {P : Program} {w : World} {K : PySem.W.Frag} {h : Heap} {mg : Str → Option Value} {base : Heap} (KX : K.In h) (G : h.Ns mainGlobals mg) (c : He.SaysD fa fn K) {fd : FuncData} (FD : FunD K "_law_draws" "_law_draws" (defArgs s_z16) (defBody s_z16) (defScope s_z16) [] [] (He.fAd K ("_law_draws", none)) fd) : FnOk P w K mg base CX0 1 (He.fAd K ("_law_draws", none)) fd ["_law_cell_here", "_law_many"] (spF K F_z16) := by
  unfold F_z16
  exact fnK_ok FD sc_z16 fun cdv A outer s H E hr => by
    unfold B_z16
    unfold L_z16_2 L_z16_1
    exact (cb_cons (cs_setM (ps_set (i := 2) sc_z16.nd rfl (by first | exact Or.inl rfl | exact Or.inr rfl) (ce_lst ca_nil)))
    (cb_cons (cs_set (ps_set (i := 3) sc_z16.nd rfl (by first | exact Or.inl rfl | exact Or.inr rfl) (ce_callTy ok_int (by rfl) (He.free_ok KX G (c.fact 40 rfl)) (by decide +kernel) (ca_cons (ce_var (pv 0)) ca_nil))))
    (cb_cons (cs_if (ct_cmp ok_ge (ce_var (pv 3)) (ce_bin ok_pow ce_int ce_int) (nomark _))
    (cb_one (cs_forK PassesOwn.never rfl (ci_rg1 (by rfl) (He.free_ok KX G (c.fact 46 rfl)) (ce_var (pv 1))) (cg_of (pg_name (i := 5) sc_z16.nd rfl (by first | exact Or.inl rfl | exact Or.inr rfl)))
    (cb_one (cs_if (ct_cmp ok_gt (ce_var (pv 3)) ce_int (nomark _))
    (cb_cons (cs_expr (ce_bm PySem.F.plainAttrs_list PySem.F.slot_list_append PySem.F.type_list_append ok_append (ce_var (pv 2)) (ca_cons (ce_bin ok_mod (ce_callTy ok_int (by rfl) (He.free_ok KX G (c.fact 40 rfl)) (by decide +kernel) (ca_cons (ce_var (pv 3)) ca_nil)) ce_int) ca_nil)))
    (cb_one (cs_set (ps_set (i := 3) sc_z16.nd rfl (by first | exact Or.inl rfl | exact Or.inr rfl) (ce_bin ok_div (ce_var (pv 3)) ce_int)))))
    cb_nil))))
    cb_nil)
    (cb_cons (cs_set (ps_set (i := 4) sc_z16.nd rfl (by first | exact Or.inl rfl | exact Or.inr rfl) (ce_bin ok_mod (ce_callTy ok_int (by rfl) (He.free_ok KX G (c.fact 40 rfl)) (by decide +kernel) (ca_cons (ce_bin ok_add (ce_bin ok_mulA (ce_callTy ok_int (by rfl) (He.free_ok KX G (c.fact 40 rfl)) (by decide +kernel) (ca_cons (ce_var (pv 0)) ca_nil)) ce_int) ce_int) ca_nil)) ce_int)))
    (cb_cons (cs_forK PassesOwn.never rfl (ci_rg1 (by rfl) (He.free_ok KX G (c.fact 46 rfl)) (ce_var (pv 1))) (cg_of (pg_name (i := 5) sc_z16.nd rfl (by first | exact Or.inl rfl | exact Or.inr rfl)))
    (cb_cons (cs_set (ps_set (i := 4) sc_z16.nd rfl (by first | exact Or.inl rfl | exact Or.inr rfl) (ce_bin ok_mod (ce_callTy ok_int (by rfl) (He.free_ok KX G (c.fact 40 rfl)) (by decide +kernel) (ca_cons (ce_bin ok_add (ce_bin ok_add (ce_bin ok_mulA (ce_var (pv 4)) ce_int) (ce_bin ok_mulA (ce_var (pv 5)) ce_int)) ce_int) ca_nil)) ce_int)))
    (cb_one (cs_if (ct_cmp ok_lt (ce_callB ok_len (by rfl) (He.free_ok KX G (c.fact 39 rfl)) (by decide +kernel) (ca_cons (ce_var (pv 2)) ca_nil)) (ce_var (pv 1)) (nomark _))
    (cb_one (cs_expr (ce_bm PySem.F.plainAttrs_list PySem.F.slot_list_append PySem.F.type_list_append ok_append (ce_var (pv 2)) (ca_cons (ce_bin ok_mod (ce_callTy ok_int (by rfl) (He.free_ok KX G (c.fact 40 rfl)) (by decide +kernel) (ca_cons (ce_bin ok_mod (ce_callTy ok_int (by rfl) (He.free_ok KX G (c.fact 40 rfl)) (by decide +kernel) (ca_cons (ce_bin ok_add (ce_bin ok_mulA (ce_var (pv 4)) ce_int) ce_int) ca_nil)) ce_int) ca_nil)) ce_int) ca_nil))))
    cb_nil))))
    (cb_one (cs_ret (ce_var (pv 2)))))))))
theorem sc_z12 : FnScope ["_law_n"] ["_law_n"] (defScope s_z12) := ⟨rfl, rfl, rfl, by decide +kernel, rfl, by decide +kernel, by decide +kernel⟩
theorem ok_z12 {P : Program} {w : World} {K : PySem.W.Frag} {h : Heap} {mg : Str → Option Value} {base : Heap} (KX : K.In h) (G : h.Ns mainGlobals mg) (c : He.SaysD fa fn K) {fd : FuncData} (FD : FunD K "_law_stream" "_law_stream" (defArgs s_z12) (defBody s_z12) (defScope s_z12) [] [] (He.fAd K ("_law_stream", none)) fd) : FnOk P w K mg base CX0 1 (He.fAd K ("_law_stream", none)) fd ["_law_n"] (spF K F_z12) := by
  unfold F_z12
  exact fnK_ok FD sc_z12 fun cdv A outer s H E hr => by
    unfold B_z12
    exact (cb_cons (cs_if (ct_cmp (ok_eq hr.units) (ce_bin ok_mod (ce_callTy ok_int (by rfl) (He.free_ok KX G (c.fact 40 rfl)) (by decide +kernel) (ca_cons (ce_var (pv 0)) ca_nil)) ce_int) ce_int (nomark _))
    (cb_one (cs_ret ce_non))
    cb_nil)
    (cb_one (cs_ret (ce_ix (ce_lst (ca_cons ce_int (ca_cons ce_int (ca_cons ce_int ca_nil)))) (ce_bin ok_mod (ce_callTy ok_int (by rfl) (He.free_ok KX G (c.fact 40 rfl)) (by decide +kernel) (ca_cons (ce_var (pv 0)) ca_nil)) ce_int) (fun _ _ => rfl)))))
theorem sc_z18 : FnScope ["_law_draws_here", "_law_start", "_law_k"] ["_law_draws_here", "_law_start"] (defScope s_z18) := ⟨rfl, rfl, rfl, by decide +kernel, rfl, by decide +kernel, by decide +kernel⟩
theorem ok_z18 {P : Program} {w : World} {K : PySem.W.Frag} {h : Heap} {mg : Str → Option Value} {base : Heap} (KX : K.In h) (G : h.Ns mainGlobals mg) (c : He.SaysD fa fn K) {fd : FuncData} (FD : FunD K "_law_text" "_law_text" (defArgs s_z18) (defBody s_z18) (defScope s_z18) [] [] (He.fAd K ("_law_text", none)) fd) : FnOk P w K mg base CX0 1 (He.fAd K ("_law_text", none)) fd ["_law_draws_here", "_law_start"] (spF K F_z18) := by
  unfold F_z18
  exact fnK_ok FD sc_z18 fun cdv A outer s H E hr => by
    unfold B_z18
    unfold Q_z18_1
    exact (cb_one (cs_ret (ce_callTy ok_tuple (by rfl) (He.free_ok KX G (c.fact 41 rfl)) (by decide +kernel) (ca_cons (ce_lc (own := [("_law_k", 2)]) rfl sc_z18.nd (ci_rg1 (by rfl) (He.free_ok KX G (c.fact 46 rfl)) (ce_bin ok_mod (ce_callTy ok_int (by rfl) (He.free_ok KX G (c.fact 40 rfl)) (by decide +kernel) (ca_cons (ce_ix (ce_var (pv 0)) (ce_var (pv 1)) (fun _ _ => rfl)) ca_nil)) ce_int)) (blkOk_by (own := [("_law_k", 2)]) (N := ["_law_draws_here", "_law_start", "_law_k"]) (sc := defScope s_z18) (by decide +kernel)) (fun _ _ _ _ _ => (cgw_of (vs := [2]) (pg_name (i := 2) sc_z18.nd rfl (by first | exact Or.inl rfl | exact Or.inr rfl)) (by decide))) (fun _ _ _ _ _ => cts_nil) (fun _ _ _ _ _ => (ce_bin ok_mod (ce_callTy ok_int (by rfl) (He.free_ok KX G (c.fact 40 rfl)) (by decide +kernel) (ca_cons (ce_bin ok_add (ce_ix (ce_var (pv 0)) (ce_bin ok_add (ce_var (pv 1)) ce_int) (fun _ _ => rfl)) (ce_bin ok_mulA ce_int (ce_var (pv 2)))) ca_nil)) ce_int))) ca_nil))))
theorem sc_z13 : FnScope ["_law_script", "_law_start", "_law_most", "_law_rows", "_law_cell_here", "_law_draws_here", "_law_stream_here", "_law_place", "_law_row"] ["_law_script", "_law_start", "_law_most"] (defScope s_z13) := ⟨rfl, rfl, rfl, by decide +kernel, rfl, by decide +kernel, by decide +kernel⟩
theorem ok_z13 {P : Program} {w : World} {K : PySem.W.Frag} {h : Heap} {mg : Str → Option Value} {base : Heap} (KX : K.In h) (G : h.Ns mainGlobals mg) (c : He.SaysD fa fn K) {fd : FuncData} (FD : FunD K "_law_given" "_law_given" (defArgs s_z13) (defBody s_z13) (defScope s_z13) [] [] (He.fAd K ("_law_given", none)) fd) : FnOk P w K mg base CX0 2 (He.fAd K ("_law_given", none)) fd ["_law_script", "_law_start", "_law_most"] (spF K F_z13) := by
  obtain ⟨fd_z16, FD_z16⟩ := c.def_ 9 (d := d_z16) rfl
  have G_z16 := ok_z16 (P := P) (w := w) (base := base) KX G c FD_z16
  have b_z16 : Binds K fd_z16 ["_law_cell_here", "_law_many"] [] := FD_z16.bindsN fun _ _ _ _ _ _ us hl => match us, hl with | [_, _], _ => rfl
  have kp_z16 := FD_z16.kp
  obtain ⟨fd_z12, FD_z12⟩ := c.def_ 12 (d := d_z12) rfl
  have G_z12 := ok_z12 (P := P) (w := w) (base := base) KX G c FD_z12
  have b_z12 : Binds K fd_z12 ["_law_n"] [] := FD_z12.bindsN fun _ _ _ _ _ _ us hl => match us, hl with | [_], _ => rfl
  have kp_z12 := FD_z12.kp
  obtain ⟨fd_z18, FD_z18⟩ := c.def_ 11 (d := d_z18) rfl
  have G_z18 := ok_z18 (P := P) (w := w) (base := base) KX G c FD_z18
  have b_z18 : Binds K fd_z18 ["_law_draws_here", "_law_start"] [] := FD_z18.bindsN fun _ _ _ _ _ _ us hl => match us, hl with | [_, _], _ => rfl
  have kp_z18 := FD_z18.kp
  unfold F_z13
  exact fnK_ok FD sc_z13 fun cdv A outer s H E hr => by
    unfold B_z13
    unfold L_z13_1 Q_z13_1
    exact (cb_cons (cs_setM (ps_set (i := 3) sc_z13.nd rfl (by first | exact Or.inl rfl | exact Or.inr rfl) (ce_lst ca_nil)))
    (cb_cons (cs_forK PassesOwn.never rfl (ci_seq (ce_sl (ce_var (pv 0)) (co_some (ce_var (pv 1))) (co_some (ce_bin ok_add (ce_var (pv 1)) (ce_var (pv 2)))))) (cg_of (pg_name (i := 4) sc_z13.nd rfl (by first | exact Or.inl rfl | exact Or.inr rfl)))
    (cb_cons (cs_set (ps_set (i := 5) sc_z13.nd rfl (by first | exact Or.inl rfl | exact Or.inr rfl) (ce_call G_z16 hr (by rfl) (He.glo_ok KX G (c.fact 30 rfl)) kp_z16 b_z16 (ca_cons (ce_var (pv 4)) (ca_cons ce_int ca_nil)))))
    (cb_cons (cs_set (ps_set (i := 6) sc_z13.nd rfl (by first | exact Or.inl rfl | exact Or.inr rfl) (ce_call G_z12 hr (by rfl) (He.glo_ok KX G (c.fact 33 rfl)) kp_z12 b_z12 (ca_cons (ce_ix (ce_var (pv 5)) ce_int (fun _ _ => rfl)) ca_nil))))
    (cb_cons (cs_set (ps_set (i := 7) sc_z13.nd rfl (by first | exact Or.inl rfl | exact Or.inr rfl) ce_int))
    (cb_cons (cs_if (ct_cmp ok_isnot (ce_var (pv 6)) ce_non (nomark _))
    (cb_one (cs_set (ps_set (i := 7) sc_z13.nd rfl (by first | exact Or.inl rfl | exact Or.inr rfl) (ce_callB ok_len (by rfl) (He.free_ok KX G (c.fact 39 rfl)) (by decide +kernel) (ca_cons (ce_lc (own := [("_law_row", 8)]) rfl sc_z13.nd (ci_seq (ce_var (pv 3))) (blkOk_by (own := [("_law_row", 8)]) (N := ["_law_script", "_law_start", "_law_most", "_law_rows", "_law_cell_here", "_law_draws_here", "_law_stream_here", "_law_place", "_law_row"]) (sc := defScope s_z13) (by decide +kernel)) (fun _ _ _ _ _ => (cgw_of (vs := [8]) (pg_name (i := 8) sc_z13.nd rfl (by first | exact Or.inl rfl | exact Or.inr rfl)) (by decide))) (fun _ _ _ _ _ => (cts_one (ct_cmp (ok_eq hr.units) (ce_ix (ce_var (pv 8)) ce_int (fun _ _ => rfl)) (ce_var (pv 6)) (nomark _)))) (fun _ _ _ _ _ => (ce_var (pv 8)))) ca_nil)))))
    cb_nil)
    (cb_one (cs_expr (ce_bm PySem.F.plainAttrs_list PySem.F.slot_list_append PySem.F.type_list_append ok_append (ce_var (pv 3)) (ca_cons (ce_tup (ca_cons (ce_bin ok_add (ce_callB ok_len (by rfl) (He.free_ok KX G (c.fact 39 rfl)) (by decide +kernel) (ca_cons (ce_var (pv 3)) ca_nil)) ce_int) (ca_cons (ce_var (pv 6)) (ca_cons (ce_var (pv 7)) (ca_cons (ce_call G_z18 hr (by rfl) (He.glo_ok KX G (c.fact 32 rfl)) kp_z18 b_z18 (ca_cons (ce_var (pv 5)) (ca_cons ce_int ca_nil))) ca_nil))))) ca_nil)))))))))
    (cb_one (cs_ret (ce_var (pv 3))))))
theorem sc_z4 : FnScope ["self", "tag", "peer", "paths"] ["self", "tag", "peer", "paths"] (defScope s_z4) := ⟨rfl, rfl, rfl, by decide +kernel, rfl, by decide +kernel, by decide +kernel⟩
theorem ok_z4 {P : Program} {w : World} {K : PySem.W.Frag} {h : Heap} {mg : Str → Option Value} {base : Heap} (KX : K.In h) (G : h.Ns mainGlobals mg) (c : He.SaysD fa fn K) {fd : FuncData} (FD : FunD K "__init__" "Association.__init__" (defArgs s_z4) (defBody s_z4) (defScope s_z4) [] [] (He.fAd K ("Association", some "__init__")) fd) : FnOk P w K mg base CX0 1 (He.fAd K ("Association", some "__init__")) fd ["self", "tag", "peer", "paths"] (spF K F_z4) := by
  unfold F_z4
  exact fnK_ok FD sc_z4 fun cdv A outer s H E hr => by
    unfold B_z4
    exact (cb_cons (cs_fld (ce_var (pv 0)) (ce_var (pv 1)) (by
      intro c0 hc0
      simp only [List.mem_cons, List.not_mem_nil, or_false] at hc0
      subst hc0; exact ⟨He.cls_ok (c.fact 0 rfl), He.noat_ok (c.fact 18 rfl)⟩))
    (cb_cons (cs_fld (ce_var (pv 0)) (ce_var (pv 2)) (by
      intro c0 hc0
      simp only [List.mem_cons, List.not_mem_nil, or_false] at hc0
      subst hc0; exact ⟨He.cls_ok (c.fact 0 rfl), He.noat_ok (c.fact 13 rfl)⟩))
    (cb_cons (cs_fld (ce_var (pv 0)) (ce_callTy ok_tuple (by rfl) (He.free_ok KX G (c.fact 41 rfl)) (by decide +kernel) (ca_cons (ce_var (pv 3)) ca_nil)) (by
      intro c0 hc0
      simp only [List.mem_cons, List.not_mem_nil, or_false] at hc0
      subst hc0; exact ⟨He.cls_ok (c.fact 0 rfl), He.noat_ok (c.fact 12 rfl)⟩))
    (cb_cons (cs_fld (ce_var (pv 0)) (ce_lst ca_nil) (by
      intro c0 hc0
      simp only [List.mem_cons, List.not_mem_nil, or_false] at hc0
      subst hc0; exact ⟨He.cls_ok (c.fact 0 rfl), He.noat_ok (c.fact 11 rfl)⟩))
    (cb_cons (cs_fld (ce_var (pv 0)) ce_int (by
      intro c0 hc0
      simp only [List.mem_cons, List.not_mem_nil, or_false] at hc0
      subst hc0; exact ⟨He.cls_ok (c.fact 0 rfl), He.noat_ok (c.fact 14 rfl)⟩))
    (cb_cons (cs_fld (ce_var (pv 0)) ce_int (by
      intro c0 hc0
      simp only [List.mem_cons, List.not_mem_nil, or_false] at hc0
      subst hc0; exact ⟨He.cls_ok (c.fact 0 rfl), He.noat_ok (c.fact 6 rfl)⟩))
    (cb_cons (cs_fld (ce_var (pv 0)) (ce_lst ca_nil) (by
      intro c0 hc0
      simp only [List.mem_cons, List.not_mem_nil, or_false] at hc0
      subst hc0; exact ⟨He.cls_ok (c.fact 0 rfl), He.noat_ok (c.fact 8 rfl)⟩))
    (cb_cons (cs_fld (ce_var (pv 0)) ce_int (by
      intro c0 hc0
      simp only [List.mem_cons, List.not_mem_nil, or_false] at hc0
      subst hc0; exact ⟨He.cls_ok (c.fact 0 rfl), He.noat_ok (c.fact 19 rfl)⟩))
    (cb_cons (cs_fld (ce_var (pv 0)) (ce_lst ca_nil) (by
      intro c0 hc0
      simp only [List.mem_cons, List.not_mem_nil, or_false] at hc0
      subst hc0; exact ⟨He.cls_ok (c.fact 0 rfl), He.noat_ok (c.fact 7 rfl)⟩))
    (cb_cons (cs_fldM (ce_var (pv 0)) (ce_lst ca_nil) (by
      intro c0 hc0
      simp only [List.mem_cons, List.not_mem_nil, or_false] at hc0
      subst hc0; exact ⟨He.cls_ok (c.fact 0 rfl), He.noat_ok (c.fact 20 rfl)⟩))
    (cb_cons (cs_fldM (ce_var (pv 0)) (ce_lst ca_nil) (by
      intro c0 hc0
      simp only [List.mem_cons, List.not_mem_nil, or_false] at hc0
      subst hc0; exact ⟨He.cls_ok (c.fact 0 rfl), He.noat_ok (c.fact 10 rfl)⟩))
    (cb_cons (cs_fld (ce_var (pv 0)) ce_int (by
      intro c0 hc0
      simp only [List.mem_cons, List.not_mem_nil, or_false] at hc0
      subst hc0; exact ⟨He.cls_ok (c.fact 0 rfl), He.noat_ok (c.fact 16 rfl)⟩))
    (cb_cons (cs_fld (ce_var (pv 0)) ce_int (by
      intro c0 hc0
      simp only [List.mem_cons, List.not_mem_nil, or_false] at hc0
      subst hc0; exact ⟨He.cls_ok (c.fact 0 rfl), He.noat_ok (c.fact 17 rfl)⟩))
    (cb_cons (cs_fld (ce_var (pv 0)) ce_int (by
      intro c0 hc0
      simp only [List.mem_cons, List.not_mem_nil, or_false] at hc0
      subst hc0; exact ⟨He.cls_ok (c.fact 0 rfl), He.noat_ok (c.fact 15 rfl)⟩))
    (cb_one (cs_fld (ce_var (pv 0)) ce_str (by
      intro c0 hc0
      simp only [List.mem_cons, List.not_mem_nil, or_false] at hc0
      subst hc0; exact ⟨He.cls_ok (c.fact 0 rfl), He.noat_ok (c.fact 9 rfl)⟩)))))))))))))))))
theorem sc_z20 : FnScope ["_law_script", "_law_k"] ["_law_script", "_law_k"] (defScope s_z20) := ⟨rfl, rfl, rfl, by decide +kernel, rfl, by decide +kernel, by decide +kernel⟩
theorem ok_z20 {P : Program} {w : World} {K : PySem.W.Frag} {h : Heap} {mg : Str → Option Value} {base : Heap} (KX : K.In h) (G : h.Ns mainGlobals mg) (c : He.SaysD fa fn K) {fd : FuncData} (FD : FunD K "_law_cell" "_law_cell" (defArgs s_z20) (defBody s_z20) (defScope s_z20) [] [] (He.fAd K ("_law_cell", none)) fd) : FnOk P w K mg base CX0 1 (He.fAd K ("_law_cell", none)) fd ["_law_script", "_law_k"] (spF K F_z20) := by
  unfold F_z20
  exact fnK_ok FD sc_z20 fun cdv A outer s H E hr => by
    unfold B_z20
    exact (cb_cons (cs_if (ct_cmp ok_lt (ce_var (pv 1)) (ce_callB ok_len (by rfl) (He.free_ok KX G (c.fact 39 rfl)) (by decide +kernel) (ca_cons (ce_var (pv 0)) ca_nil)) (nomark _))
    (cb_one (cs_ret (ce_callTy ok_int (by rfl) (He.free_ok KX G (c.fact 40 rfl)) (by decide +kernel) (ca_cons (ce_ix (ce_var (pv 0)) (ce_var (pv 1)) (fun _ _ => rfl)) ca_nil))))
    cb_nil)
    (cb_one (cs_ret ce_int)))
theorem sc_z21 : FnScope ["messages", "stream", "row"] ["messages", "stream"] (defScope s_z21) := ⟨rfl, rfl, rfl, by decide +kernel, rfl, by decide +kernel, by decide +kernel⟩
theorem ok_z21 {P : Program} {w : World} {K : PySem.W.Frag} {h : Heap} {mg : Str → Option Value} {base : Heap} (KX : K.In h) (G : h.Ns mainGlobals mg) (c : He.SaysD fa fn K) {fd : FuncData} (FD : FunD K "of_stream" "of_stream" (defArgs s_z21) (defBody s_z21) (defScope s_z21) [] [] (He.fAd K ("of_stream", none)) fd) : FnOk P w K mg base CX0 1 (He.fAd K ("of_stream", none)) fd ["messages", "stream"] (spF K F_z21) := by
  unfold F_z21
  exact fnK_ok FD sc_z21 fun cdv A outer s H E hr => by
    unfold B_z21
    unfold Q_z21_1
    exact (cb_one (cs_ret (ce_lc (own := [("row", 2)]) rfl sc_z21.nd (ci_seq (ce_var (pv 0))) (blkOk_by (own := [("row", 2)]) (N := ["messages", "stream", "row"]) (sc := defScope s_z21) (by decide +kernel)) (fun _ _ _ _ _ => (cgw_of (vs := [2]) (pg_name (i := 2) sc_z21.nd rfl (by first | exact Or.inl rfl | exact Or.inr rfl)) (by decide))) (fun _ _ _ _ _ => (cts_one (ct_cmp (ok_eq hr.units) (ce_ix (ce_var (pv 2)) ce_int (fun _ _ => rfl)) (ce_var (pv 1)) (nomark _)))) (fun _ _ _ _ _ => (ce_var (pv 2))))))
theorem sc_z23 : FnScope ["association", "row"] ["association", "row"] (defScope s_z23) := ⟨rfl, rfl, rfl, by decide +kernel, rfl, by decide +kernel, by decide +kernel⟩
theorem ok_z23 {P : Program} {w : World} {K : PySem.W.Frag} {h : Heap} {mg : Str → Option Value} {base : Heap} (KX : K.In h) (G : h.Ns mainGlobals mg) (c : He.SaysD fa fn K) {fd : FuncData} (FD : FunD K "is_ready" "is_ready" (defArgs s_z23) (defBody s_z23) (defScope s_z23) [] [] (He.fAd K ("is_ready", none)) fd) : FnOk P w K mg base CX0 2 (He.fAd K ("is_ready", none)) fd ["association", "row"] (spF K F_z23) := by
  obtain ⟨fd_z21, FD_z21⟩ := c.def_ 1 (d := d_z21) rfl
  have G_z21 := ok_z21 (P := P) (w := w) (base := base) KX G c FD_z21
  have b_z21 : Binds K fd_z21 ["messages", "stream"] [] := FD_z21.bindsN fun _ _ _ _ _ _ us hl => match us, hl with | [_, _], _ => rfl
  have kp_z21 := FD_z21.kp
  unfold F_z23
  exact fnK_ok FD sc_z23 fun cdv A outer s H E hr => by
    unfold B_z23
    exact (cb_cons (cs_if (ct_cmp ok_is (ce_ix (ce_var (pv 1)) ce_int (fun _ _ => rfl)) ce_non (nomark _))
    (cb_one (cs_ret ce_bl))
    cb_nil)
    (cb_one (cs_ret (ce_cmp (ok_eq hr.units) (ce_ix (ce_var (pv 1)) ce_int (fun _ _ => rfl)) (ce_callB ok_len (by rfl) (He.free_ok KX G (c.fact 39 rfl)) (by decide +kernel) (ca_cons (ce_lend G_z21 hr (by rfl) (He.glo_ok KX G (c.fact 22 rfl)) kp_z21 b_z21 (ca_cons (ce_fld (ce_var (pv 0)) (by
      intro c0 hc0
      simp only [List.mem_cons, List.not_mem_nil, or_false] at hc0
      subst hc0; exact ⟨He.cls_ok (c.fact 0 rfl), He.noat_ok (c.fact 10 rfl)⟩)) (ca_cons (ce_ix (ce_var (pv 1)) ce_int (fun _ _ => rfl)) ca_nil))) ca_nil)) (nomark _)))))
theorem sc_z10 : FnScope ["association", "row"] ["association"] (defScope s_z10) := ⟨rfl, rfl, rfl, by decide +kernel, rfl, by decide +kernel, by decide +kernel⟩
theorem ok_z10 {P : Program} {w : World} {K : PySem.W.Frag} {h : Heap} {mg : Str → Option Value} {base : Heap} (KX : K.In h) (G : h.Ns mainGlobals mg) (c : He.SaysD fa fn K) {fd : FuncData} (FD : FunD K "first_ready" "first_ready" (defArgs s_z10) (defBody s_z10) (defScope s_z10) [] [] (He.fAd K ("first_ready", none)) fd) : FnOk P w K mg base CX0 3 (He.fAd K ("first_ready", none)) fd ["association"] (spF K F_z10) := by
  obtain ⟨fd_z23, FD_z23⟩ := c.def_ 3 (d := d_z23) rfl
  have G_z23 := ok_z23 (P := P) (w := w) (base := base) KX G c FD_z23
  have b_z23 : Binds K fd_z23 ["association", "row"] [] := FD_z23.bindsN fun _ _ _ _ _ _ us hl => match us, hl with | [_, _], _ => rfl
  have kp_z23 := FD_z23.kp
  unfold F_z10
  exact fnK_ok FD sc_z10 fun cdv A outer s H E hr => by
    unfold B_z10
    unfold L_z10_1
    exact (cb_cons (cs_forK PassesOwn.never rfl (ci_seq (ce_fld (ce_var (pv 0)) (by
      intro c0 hc0
      simp only [List.mem_cons, List.not_mem_nil, or_false] at hc0
      subst hc0; exact ⟨He.cls_ok (c.fact 0 rfl), He.noat_ok (c.fact 20 rfl)⟩))) (cg_of (pg_name (i := 1) sc_z10.nd rfl (by first | exact Or.inl rfl | exact Or.inr rfl)))
    (cb_one (cs_if (ct_truth (ce_call G_z23 hr (by rfl) (He.glo_ok KX G (c.fact 24 rfl)) kp_z23 b_z23 (ca_cons (ce_var (pv 0)) (ca_cons (ce_var (pv 1)) ca_nil))) (fun _ => rfl))
    (cb_one (cs_ret (ce_var (pv 1))))
    cb_nil)))
    (cb_one (cs_ret ce_non)))
theorem sc_z7 : FnScope ["association", "row"] ["association"] (defScope s_z7) := ⟨rfl, rfl, rfl, by decide +kernel, rfl, by decide +kernel, by decide +kernel⟩
theorem ok_z7 {P : Program} {w : World} {K : PySem.W.Frag} {h : Heap} {mg : Str → Option Value} {base : Heap} (KX : K.In h) (G : h.Ns mainGlobals mg) (c : He.SaysD fa fn K) {fd : FuncData} (FD : FunD K "deliver_ready" "deliver_ready" (defArgs s_z7) (defBody s_z7) (defScope s_z7) [] [] (He.fAd K ("deliver_ready", none)) fd) : FnOk P w K mg base CX0 4 (He.fAd K ("deliver_ready", none)) fd ["association"] (spF K F_z7) := by
  obtain ⟨fd_z10, FD_z10⟩ := c.def_ 4 (d := d_z10) rfl
  have G_z10 := ok_z10 (P := P) (w := w) (base := base) KX G c FD_z10
  have b_z10 : Binds K fd_z10 ["association"] [] := FD_z10.bindsN fun _ _ _ _ _ _ us hl => match us, hl with | [_], _ => rfl
  have kp_z10 := FD_z10.kp
  unfold F_z7
  exact fnK_ok FD sc_z7 fun cdv A outer s H E hr => by
    unfold B_z7
    unfold L_z7_1
    exact (cb_one (cs_whileW (i := 1) PassesOwn.never sc_z7.nd rfl (by first | exact Or.inl rfl | exact Or.inr rfl) (by first | exact Or.inl rfl | exact Or.inr rfl) rfl (ce_call G_z10 hr (by rfl) (He.glo_ok KX G (c.fact 25 rfl)) kp_z10 b_z10 (ca_cons (ce_var (pv 0)) ca_nil))
    (cb_cons (cs_expr (ce_bm PySem.F.plainAttrs_list PySem.F.slot_list_remove PySem.F.type_list_remove (ok_remove (hu65 hr)) (ce_fld (ce_var (pv 0)) (by
      intro c0 hc0
      simp only [List.mem_cons, List.not_mem_nil, or_false] at hc0
      subst hc0; exact ⟨He.cls_ok (c.fact 0 rfl), He.noat_ok (c.fact 20 rfl)⟩)) (ca_cons (ce_var (pv 1)) ca_nil)))
    (cb_one (cs_expr (ce_bm PySem.F.plainAttrs_list PySem.F.slot_list_append PySem.F.type_list_append ok_append (ce_fld (ce_var (pv 0)) (by
      intro c0 hc0
      simp only [List.mem_cons, List.not_mem_nil, or_false] at hc0
      subst hc0; exact ⟨He.cls_ok (c.fact 0 rfl), He.noat_ok (c.fact 10 rfl)⟩)) (ca_cons (ce_var (pv 1)) ca_nil)))))))
theorem sc_z9 : FnScope ["association", "number", "arrived", "other"] ["association", "number"] (defScope s_z9) := ⟨rfl, rfl, rfl, by decide +kernel, rfl, by decide +kernel, by decide +kernel⟩
theorem ok_z9 {P : Program} {w : World} {K : PySem.W.Frag} {h : Heap} {mg : Str → Option Value} {base : Heap} (KX : K.In h) (G : h.Ns mainGlobals mg) (c : He.SaysD fa fn K) {fd : FuncData} (FD : FunD K "note_arrival" "note_arrival" (defArgs s_z9) (defBody s_z9) (defScope s_z9) [] [] (He.fAd K ("note_arrival", none)) fd) : FnOk P w K mg base CX0 1 (He.fAd K ("note_arrival", none)) fd ["association", "number"] (spF K F_z9) := by
  unfold F_z9
  exact fnK_ok FD sc_z9 fun cdv A outer s H E hr => by
    unfold B_z9
    unfold Q_z5 T_z5 L_z5
    exact (cb_cons (cs_set (ps_set (i := 2) sc_z9.nd rfl (by first | exact Or.inl rfl | exact Or.inr rfl) (ce_lst (ca_star (ce_fld (ce_var (pv 0)) (by
      intro c0 hc0
      simp only [List.mem_cons, List.not_mem_nil, or_false] at hc0
      subst hc0; exact ⟨He.cls_ok (c.fact 0 rfl), He.noat_ok (c.fact 7 rfl)⟩)) (ca_cons (ce_var (pv 1)) ca_nil)))))
    (cb_cons (cs_whileK PassesOwn.never (ct_cmp ok_in (ce_bin ok_add (ce_fld (ce_var (pv 0)) (by
      intro c0 hc0
      simp only [List.mem_cons, List.not_mem_nil, or_false] at hc0
      subst hc0; exact ⟨He.cls_ok (c.fact 0 rfl), He.noat_ok (c.fact 19 rfl)⟩)) ce_int) (ce_var (pv 2)) (by rfl))
    (cb_one (cs_fld (ce_var (pv 0)) (ce_bin ok_add (ce_fld (ce_var (pv 0)) (by
      intro c0 hc0
      simp only [List.mem_cons, List.not_mem_nil, or_false] at hc0
      subst hc0; exact ⟨He.cls_ok (c.fact 0 rfl), He.noat_ok (c.fact 19 rfl)⟩)) ce_int) (by
      intro c0 hc0
      simp only [List.mem_cons, List.not_mem_nil, or_false] at hc0
      subst hc0; exact ⟨He.cls_ok (c.fact 0 rfl), He.noat_ok (c.fact 19 rfl)⟩))))
    (cb_one (cs_fld (ce_var (pv 0)) (ce_callB ok_sorted (by rfl) (He.free_ok KX G (c.fact 44 rfl)) (by decide +kernel) (ca_cons (ce_lc (own := [("other", 3)]) rfl sc_z9.nd (ci_seq (ce_var (pv 2))) (blkOk_by (own := [("other", 3)]) (N := ["association", "number", "arrived", "other"]) (sc := defScope s_z9) (by decide +kernel)) (fun _ _ _ _ _ => (cgw_of (vs := [3]) (pg_name (i := 3) sc_z9.nd rfl (by first | exact Or.inl rfl | exact Or.inr rfl)) (by decide))) (fun _ _ _ _ _ => (cts_one (ct_cmp ok_gt (ce_var (pv 3)) (ce_fld (ce_var (pv 0)) (by
      intro c0 hc0
      simp only [List.mem_cons, List.not_mem_nil, or_false] at hc0
      subst hc0; exact ⟨He.cls_ok (c.fact 0 rfl), He.noat_ok (c.fact 19 rfl)⟩)) (nomark _)))) (fun _ _ _ _ _ => (ce_var (pv 3)))) ca_nil)) (by
      intro c0 hc0
      simp only [List.mem_cons, List.not_mem_nil, or_false] at hc0
      subst hc0; exact ⟨He.cls_ok (c.fact 0 rfl), He.noat_ok (c.fact 7 rfl)⟩)))))
theorem sc_z8 : FnScope ["association", "row"] ["association", "row"] (defScope s_z8) := ⟨rfl, rfl, rfl, by decide +kernel, rfl, by decide +kernel, by decide +kernel⟩
theorem ok_z8 {P : Program} {w : World} {K : PySem.W.Frag} {h : Heap} {mg : Str → Option Value} {base : Heap} (KX : K.In h) (G : h.Ns mainGlobals mg) (c : He.SaysD fa fn K) {fd : FuncData} (FD : FunD K "take_message" "take_message" (defArgs s_z8) (defBody s_z8) (defScope s_z8) [] [] (He.fAd K ("take_message", none)) fd) : FnOk P w K mg base CX0 5 (He.fAd K ("take_message", none)) fd ["association", "row"] (spF K F_z8) := by
  obtain ⟨fd_z7, FD_z7⟩ := c.def_ 5 (d := d_z7) rfl
  have G_z7 := ok_z7 (P := P) (w := w) (base := base) KX G c FD_z7
  have b_z7 : Binds K fd_z7 ["association"] [] := FD_z7.bindsN fun _ _ _ _ _ _ us hl => match us, hl with | [_], _ => rfl
  have kp_z7 := FD_z7.kp
  obtain ⟨fd_z9, FD_z9⟩ := c.def_ 6 (d := d_z9) rfl
  have G_z9 := ok_z9 (P := P) (w := w) (base := base) KX G c FD_z9
  have b_z9 : Binds K fd_z9 ["association", "number"] [] := FD_z9.bindsN fun _ _ _ _ _ _ us hl => match us, hl with | [_, _], _ => rfl
  have kp_z9 := FD_z9.kp
  unfold F_z8
  exact fnK_ok FD sc_z8 fun cdv A outer s H E hr => by
    unfold B_z8
    exact (cb_cons (cs_expr (ce_bm PySem.F.plainAttrs_list PySem.F.slot_list_append PySem.F.type_list_append ok_append (ce_fld (ce_var (pv 0)) (by
      intro c0 hc0
      simp only [List.mem_cons, List.not_mem_nil, or_false] at hc0
      subst hc0; exact ⟨He.cls_ok (c.fact 0 rfl), He.noat_ok (c.fact 20 rfl)⟩)) (ca_cons (ce_var (pv 1)) ca_nil)))
    (cb_cons (cs_expr (ce_call G_z7 hr (by rfl) (He.glo_ok KX G (c.fact 26 rfl)) kp_z7 b_z7 (ca_cons (ce_var (pv 0)) ca_nil)))
    (cb_one (cs_expr (ce_call G_z9 (hr.mono (by decide)) (by rfl) (He.glo_ok KX G (c.fact 27 rfl)) kp_z9 b_z9 (ca_cons (ce_var (pv 0)) (ca_cons (ce_ix (ce_var (pv 1)) ce_int (fun _ _ => rfl)) ca_nil)))))))
theorem sc_z17 : FnScope ["_law_told", "_law_due", "_law_k"] ["_law_told", "_law_due"] (defScope s_z17) := ⟨rfl, rfl, rfl, by decide +kernel, rfl, by decide +kernel, by decide +kernel⟩
theorem ok_z17 {P : Program} {w : World} {K : PySem.W.Frag} {h : Heap} {mg : Str → Option Value} {base : Heap} (KX : K.In h) (G : h.Ns mainGlobals mg) (c : He.SaysD fa fn K) {fd : FuncData} (FD : FunD K "_law_same" "_law_same" (defArgs s_z17) (defBody s_z17) (defScope s_z17) [] [] (He.fAd K ("_law_same", none)) fd) : ∀ n, FnOk P w K mg base CX0 (n + 1) (He.fAd K ("_law_same", none)) fd ["_law_told", "_law_due"] (spF K (F_z17 n))
  | 0 => ⟨fun vs H Q E ⟨_, _, _, _, _, _, _, h, _⟩ => (nomatch h), fun A outer s H args us vs Q E _ _ _ _ ⟨_, _, _, _, _, _, _, h, _⟩ => (nomatch h)⟩
  | n + 1 => by
    have GS := ok_z17 (P := P) (w := w) (base := base) KX G c FD n
    have bS : Binds K fd ["_law_told", "_law_due"] [] := FD.bindsN fun _ _ _ _ _ _ us hl => match us, hl with | [_, _], _ => rfl
    have kp_z17 := FD.kp
    have e : n + 1 + 1 = (n + 1) + 1 := by omega
    rw [e]
    unfold F_z17
    exact fnK_ok FD sc_z17 fun cdv A outer s H E hr => by
      unfold B_z17
      unfold L_z17_1
      exact (cb_cons (cs_if (ct_cmp ok_is (ce_var (pv 1)) ce_non (nomark _))
      (cb_one (cs_ret (ce_cmp ok_is (ce_var (pv 0)) ce_non (nomark _))))
      cb_nil)
      (cb_cons (cs_if (ct_cmp ok_is (ce_var (pv 1)) ce_bl (nomark _))
      (cb_one (cs_ret (ce_cmp ok_is (ce_var (pv 0)) ce_bl (nomark _))))
      cb_nil)
      (cb_cons (cs_if (ct_cmp ok_is (ce_var (pv 1)) ce_bl (nomark _))
      (cb_one (cs_ret (ce_cmp ok_is (ce_var (pv 0)) ce_bl (nomark _))))
      cb_nil)
      (cb_cons (cs_if (ct_truth (ce_isi (by rfl) (He.free_ok KX G (c.fact 47 rfl)) (ce_var (pv 1)) (pe_bltn (by rfl) (He.free_ok KX G (c.fact 40 rfl)) (by decide +kernel) rfl)) (fun _ => rfl))
      (cb_one (cs_ret (ce_and (ce_isi (by rfl) (He.free_ok KX G (c.fact 47 rfl)) (ce_var (pv 0)) (pe_bltn (by rfl) (He.free_ok KX G (c.fact 40 rfl)) (by decide +kernel) rfl)) (ce_and (ce_not (ce_isi (by rfl) (He.free_ok KX G (c.fact 47 rfl)) (ce_var (pv 0)) (pe_bltn (by rfl) (He.free_ok KX G (c.fact 48 rfl)) (by decide +kernel) rfl))) (ce_one (ce_cmp (ok_eq hr.units) (ce_var (pv 0)) (ce_var (pv 1)) (nomark _)))))))
      cb_nil)
      (cb_cons (cs_if (ct_truth (ce_isi (by rfl) (He.free_ok KX G (c.fact 47 rfl)) (ce_var (pv 1)) (pe_bltn (by rfl) (He.free_ok KX G (c.fact 45 rfl)) (by decide +kernel) rfl)) (fun _ => rfl))
      (cb_one (cs_ret (ce_and (ce_isi (by rfl) (He.free_ok KX G (c.fact 47 rfl)) (ce_var (pv 0)) (pe_bltn (by rfl) (He.free_ok KX G (c.fact 45 rfl)) (by decide +kernel) rfl)) (ce_one (ce_cmp (ok_eq hr.units) (ce_var (pv 0)) (ce_var (pv 1)) (nomark _))))))
      cb_nil)
      (cb_cons (cs_if (ct_w (cw_and (ct_truth (ce_isi (by rfl) (He.free_ok KX G (c.fact 47 rfl)) (ce_var (pv 1)) (pe_bltn (by rfl) (He.free_ok KX G (c.fact 41 rfl)) (by decide +kernel) rfl)) (fun _ => rfl)) (cw_and1 (ct_not (ct_truth (ce_isi (by rfl) (He.free_ok KX G (c.fact 47 rfl)) (ce_var (pv 0)) (pe_bltn (by rfl) (He.free_ok KX G (c.fact 41 rfl)) (by decide +kernel) rfl)) (fun _ => rfl))))))
      (cb_one (cs_ret ce_bl))
      cb_nil)
      (cb_cons (cs_if (ct_w (cw_and (ct_truth (ce_isi (by rfl) (He.free_ok KX G (c.fact 47 rfl)) (ce_var (pv 1)) (pe_bltn (by rfl) (He.free_ok KX G (c.fact 42 rfl)) (by decide +kernel) rfl)) (fun _ => rfl)) (cw_and1 (ct_not (ct_truth (ce_isi (by rfl) (He.free_ok KX G (c.fact 47 rfl)) (ce_var (pv 0)) (pe_bltn (by rfl) (He.free_ok KX G (c.fact 42 rfl)) (by decide +kernel) rfl)) (fun _ => rfl))))))
      (cb_one (cs_ret ce_bl))
      cb_nil)
      (cb_cons (cs_if (ct_cmp (ok_ne hr.units) (ce_callB ok_len (by rfl) (He.free_ok KX G (c.fact 39 rfl)) (by decide +kernel) (ca_cons (ce_var (pv 0)) ca_nil)) (ce_callB ok_len (by rfl) (He.free_ok KX G (c.fact 39 rfl)) (by decide +kernel) (ca_cons (ce_var (pv 1)) ca_nil)) (nomark _))
      (cb_one (cs_ret ce_bl))
      cb_nil)
      (cb_cons (cs_forK PassesOwn.never rfl (ci_rg1 (by rfl) (He.free_ok KX G (c.fact 46 rfl)) (ce_callB ok_len (by rfl) (He.free_ok KX G (c.fact 39 rfl)) (by decide +kernel) (ca_cons (ce_var (pv 1)) ca_nil))) (cg_of (pg_name (i := 2) sc_z17.nd rfl (by first | exact Or.inl rfl | exact Or.inr rfl)))
      (cb_one (cs_if (ct_not (ct_truth (ce_call GS hr (by rfl) (He.glo_ok KX G (c.fact 31 rfl)) kp_z17 bS (ca_cons (ce_ix (ce_var (pv 0)) (ce_var (pv 2)) (fun _ _ => rfl)) (ca_cons (ce_ix (ce_var (pv 1)) (ce_var (pv 2)) (fun _ _ => rfl)) ca_nil))) (fun _ => rfl)))
      (cb_one (cs_ret ce_bl))
      cb_nil)))
      (cb_one (cs_ret ce_bl)))))))))))
theorem sc_z24 : FnScope ["association", "number", "window"] ["association", "number", "window"] (defScope s_z24) := ⟨rfl, rfl, rfl, by decide +kernel, rfl, by decide +kernel, by decide +kernel⟩
theorem ok_z24 {P : Program} {w : World} {K : PySem.W.Frag} {h : Heap} {mg : Str → Option Value} {base : Heap} (KX : K.In h) (G : h.Ns mainGlobals mg) (c : He.SaysD fa fn K) {fd : FuncData} (FD : FunD K "is_new" "is_new" (defArgs s_z24) (defBody s_z24) (defScope s_z24) [] [] (He.fAd K ("is_new", none)) fd) : FnOk P w K mg base CX0 1 (He.fAd K ("is_new", none)) fd ["association", "number", "window"] (spF K F_z24) := by
  unfold F_z24
  exact fnK_ok FD sc_z24 fun cdv A outer s H E hr => by
    unfold B_z24
    exact (cb_cons (cs_if (ct_w (cw_or (ct_cmp ok_le (ce_var (pv 1)) (ce_fld (ce_var (pv 0)) (by
      intro c0 hc0
      simp only [List.mem_cons, List.not_mem_nil, or_false] at hc0
      subst hc0; exact ⟨He.cls_ok (c.fact 0 rfl), He.noat_ok (c.fact 19 rfl)⟩)) (nomark _)) (cw_or1 (ct_cmp ok_gt (ce_var (pv 1)) (ce_bin ok_add (ce_fld (ce_var (pv 0)) (by
      intro c0 hc0
      simp only [List.mem_cons, List.not_mem_nil, or_false] at hc0
      subst hc0; exact ⟨He.cls_ok (c.fact 0 rfl), He.noat_ok (c.fact 19 rfl)⟩)) (ce_var (pv 2))) (nomark _)))))
    (cb_one (cs_ret ce_bl))
    cb_nil)
    (cb_one (cs_ret (ce_cmp ok_notin (ce_var (pv 1)) (ce_fld (ce_var (pv 0)) (by
      intro c0 hc0
      simp only [List.mem_cons, List.not_mem_nil, or_false] at hc0
      subst hc0; exact ⟨He.cls_ok (c.fact 0 rfl), He.noat_ok (c.fact 7 rfl)⟩)) (by rfl)))))
theorem sc_z15 : FnScope ["_law_rows", "_law_came", "_law_stream_here", "_law_found", "_law_open_still", "_law_row"] ["_law_rows", "_law_came", "_law_stream_here"] (defScope s_z15) := ⟨rfl, rfl, rfl, by decide +kernel, rfl, by decide +kernel, by decide +kernel⟩
theorem ok_z15 {P : Program} {w : World} {K : PySem.W.Frag} {h : Heap} {mg : Str → Option Value} {base : Heap} (KX : K.In h) (G : h.Ns mainGlobals mg) (c : He.SaysD fa fn K) {fd : FuncData} (FD : FunD K "_law_ready" "_law_ready" (defArgs s_z15) (defBody s_z15) (defScope s_z15) [] [] (He.fAd K ("_law_ready", none)) fd) : FnOk P w K mg base CX0 1 (He.fAd K ("_law_ready", none)) fd ["_law_rows", "_law_came", "_law_stream_here"] (spF K F_z15) := by
  unfold F_z15
  exact fnK_ok FD sc_z15 fun cdv A outer s H E hr => by
    unfold B_z15
    unfold L_z15_1
    exact (cb_cons (cs_setM (ps_set (i := 3) sc_z15.nd rfl (by first | exact Or.inl rfl | exact Or.inr rfl) (ce_lst ca_nil)))
    (cb_cons (cs_set (ps_set (i := 4) sc_z15.nd rfl (by first | exact Or.inl rfl | exact Or.inr rfl) ce_bl))
    (cb_cons (cs_forK PassesOwn.never rfl (ci_seq (ce_var (pv 0))) (cg_of (pg_name (i := 5) sc_z15.nd rfl (by first | exact Or.inl rfl | exact Or.inr rfl)))
    (cb_one (cs_if (ct_cmp (ok_eq hr.units) (ce_ix (ce_var (pv 5)) ce_int (fun _ _ => rfl)) (ce_var (pv 2)) (nomark _))
    (cb_cons (cs_set (ps_set (i := 4) sc_z15.nd rfl (by first | exact Or.inl rfl | exact Or.inr rfl) (ce_and (ce_var (pv 4)) (ce_one (ce_cmp ok_in (ce_ix (ce_var (pv 5)) ce_int (fun _ _ => rfl)) (ce_var (pv 1)) (by rfl))))))
    (cb_one (cs_if (ct_truth (ce_var (pv 4)) (fun _ => rfl))
    (cb_one (cs_expr (ce_bm PySem.F.plainAttrs_list PySem.F.slot_list_append PySem.F.type_list_append ok_append (ce_var (pv 3)) (ca_cons (ce_var (pv 5)) ca_nil))))
    cb_nil)))
    cb_nil)))
    (cb_one (cs_ret (ce_var (pv 3)))))))
theorem sc_z19 : FnScope ["_law_own", "_law_rows", "_law_came", "_law_told", "_law_stream_here", "_law_loose", "_law_done", "_law_waiting", "_law_due", "_law_n", "_law_row"] ["_law_own", "_law_rows", "_law_came"] (defScope s_z19) := ⟨rfl, rfl, rfl, by decide +kernel, rfl, by decide +kernel, by decide +kernel⟩
theorem ok_z19 {P : Program} {w : World} {K : PySem.W.Frag} {h : Heap} {mg : Str → Option Value} {base : Heap} (KX : K.In h) (G : h.Ns mainGlobals mg) (c : He.SaysD fa fn K) {fd : FuncData} (FD : FunD K "_law_good" "_law_good" (defArgs s_z19) (defBody s_z19) (defScope s_z19) [] [] (He.fAd K ("_law_good", none)) fd) : FnOk P w K mg base CX0 10 (He.fAd K ("_law_good", none)) fd ["_law_own", "_law_rows", "_law_came"] (spF K F_z19) := by
  obtain ⟨fd_z15, FD_z15⟩ := c.def_ 14 (d := d_z15) rfl
  have G_z15 := ok_z15 (P := P) (w := w) (base := base) KX G c FD_z15
  have b_z15 : Binds K fd_z15 ["_law_rows", "_law_came", "_law_stream_here"] [] := FD_z15.bindsN fun _ _ _ _ _ _ us hl => match us, hl with | [_, _, _], _ => rfl
  have kp_z15 := FD_z15.kp
  obtain ⟨fd_z17, FD_z17⟩ := c.def_ 10 (d := d_z17) rfl
  have G_z17 := ok_z17 (P := P) (w := w) (base := base) KX G c FD_z17 8
  have b_z17 : Binds K fd_z17 ["_law_told", "_law_due"] [] := FD_z17.bindsN fun _ _ _ _ _ _ us hl => match us, hl with | [_, _], _ => rfl
  have kp_z17 := FD_z17.kp
  unfold F_z19
  exact fnK_ok FD sc_z19 fun cdv A outer s H E hr => by
    unfold B_z19
    unfold Q_z19_4 Q_z19_3 Q_z19_2 L_z19_1 Q_z19_1
    exact (cb_cons (cs_set (ps_set (i := 3) sc_z19.nd rfl (by first | exact Or.inl rfl | exact Or.inr rfl) ce_int))
    (cb_cons (cs_forK PassesOwn.never rfl (ci_seq (ce_lst (ca_cons ce_int (ca_cons ce_int (ca_cons ce_int ca_nil))))) (cg_of (pg_name (i := 4) sc_z19.nd rfl (by first | exact Or.inl rfl | exact Or.inr rfl)))
    (cb_cons (cs_set (ps_set (i := 8) sc_z19.nd rfl (by first | exact Or.inl rfl | exact Or.inr rfl) (ce_lend G_z15 (hr.mono (by decide)) (by rfl) (He.glo_ok KX G (c.fact 35 rfl)) kp_z15 b_z15 (ca_cons (ce_var (pv 1)) (ca_cons (ce_var (pv 2)) (ca_cons (ce_var (pv 4)) ca_nil))))))
    (cb_cons (cs_set (ps_set (i := 3) sc_z19.nd rfl (by first | exact Or.inl rfl | exact Or.inr rfl) (ce_bin ok_add (ce_var (pv 3)) (ce_callB ok_len (by rfl) (He.free_ok KX G (c.fact 39 rfl)) (by decide +kernel) (ca_cons (ce_var (pv 8)) ca_nil)))))
    (cb_one (cs_if (ct_not (ct_truth (ce_call G_z17 hr (by rfl) (He.glo_ok KX G (c.fact 31 rfl)) kp_z17 b_z17 (ca_cons (ce_lc (own := [("_law_row", 10)]) rfl sc_z19.nd (ci_seq (ce_fld (ce_var (pv 0)) (by
      intro c0 hc0
      simp only [List.mem_cons, List.not_mem_nil, or_false] at hc0
      subst hc0; exact ⟨He.cls_ok (c.fact 0 rfl), He.noat_ok (c.fact 10 rfl)⟩))) (blkOk_by (own := [("_law_row", 10)]) (N := ["_law_own", "_law_rows", "_law_came", "_law_told", "_law_stream_here", "_law_loose", "_law_done", "_law_waiting", "_law_due", "_law_n", "_law_row"]) (sc := defScope s_z19) (by decide +kernel)) (fun _ _ _ _ _ => (cgw_of (vs := [10]) (pg_name (i := 10) sc_z19.nd rfl (by first | exact Or.inl rfl | exact Or.inr rfl)) (by decide))) (fun _ _ _ _ _ => (cts_one (ct_cmp (ok_eq hr.units) (ce_ix (ce_var (pv 10)) ce_int (fun _ _ => rfl)) (ce_var (pv 4)) (nomark _)))) (fun _ _ _ _ _ => (ce_var (pv 10)))) (ca_cons (ce_var (pv 8)) ca_nil))) (fun _ => rfl)))
    (cb_one (cs_ret ce_bl))
    cb_nil)))))
    (cb_cons (by first | exact cs_set (cs_setLc (own := [("_law_n", 9)]) (i := 5) rfl sc_z19.nd rfl rfl (sw_true rfl rfl rfl (by decide +kernel)) (ci_seq (ce_var (pv 2))) (blkOk_by (own := [("_law_n", 9)]) (N := ["_law_own", "_law_rows", "_law_came", "_law_told", "_law_stream_here", "_law_loose", "_law_done", "_law_waiting", "_law_due", "_law_n", "_law_row"]) (sc := defScope s_z19) (by decide +kernel)) (fun _ _ _ _ _ => (cgw_of (vs := [9]) (pg_name (i := 9) sc_z19.nd rfl (by first | exact Or.inl rfl | exact Or.inr rfl)) (by decide))) (fun _ _ _ _ _ => (cts_one (ct_cmp ok_is (ce_ix (ce_ix (ce_var (pv 1)) (ce_bin ok_sub (ce_var (pv 9)) ce_int) (fun _ _ => rfl)) ce_int (fun _ _ => rfl)) ce_non (nomark _)))) (fun _ _ _ _ _ => (ce_ix (ce_var (pv 1)) (ce_bin ok_sub (ce_var (pv 9)) ce_int) (fun _ _ => rfl)))) | exact cs_set (ps_set (i := 5) sc_z19.nd rfl (by first | exact Or.inl rfl | exact Or.inr rfl) (ce_lc (own := [("_law_n", 9)]) rfl sc_z19.nd (ci_seq (ce_var (pv 2))) (blkOk_by (own := [("_law_n", 9)]) (N := ["_law_own", "_law_rows", "_law_came", "_law_told", "_law_stream_here", "_law_loose", "_law_done", "_law_waiting", "_law_due", "_law_n", "_law_row"]) (sc := defScope s_z19) (by decide +kernel)) (fun _ _ _ _ _ => (cgw_of (vs := [9]) (pg_name (i := 9) sc_z19.nd rfl (by first | exact Or.inl rfl | exact Or.inr rfl)) (by decide))) (fun _ _ _ _ _ => (cts_one (ct_cmp ok_is (ce_ix (ce_ix (ce_var (pv 1)) (ce_bin ok_sub (ce_var (pv 9)) ce_int) (fun _ _ => rfl)) ce_int (fun _ _ => rfl)) ce_non (nomark _)))) (fun _ _ _ _ _ => (ce_ix (ce_var (pv 1)) (ce_bin ok_sub (ce_var (pv 9)) ce_int) (fun _ _ => rfl))))))
    (cb_cons (cs_if (ct_not (ct_truth (ce_call G_z17 hr (by rfl) (He.glo_ok KX G (c.fact 31 rfl)) kp_z17 b_z17 (ca_cons (ce_lc (own := [("_law_row", 10)]) rfl sc_z19.nd (ci_seq (ce_fld (ce_var (pv 0)) (by
      intro c0 hc0
      simp only [List.mem_cons, List.not_mem_nil, or_false] at hc0
      subst hc0; exact ⟨He.cls_ok (c.fact 0 rfl), He.noat_ok (c.fact 10 rfl)⟩))) (blkOk_by (own := [("_law_row", 10)]) (N := ["_law_own", "_law_rows", "_law_came", "_law_told", "_law_stream_here", "_law_loose", "_law_done", "_law_waiting", "_law_due", "_law_n", "_law_row"]) (sc := defScope s_z19) (by decide +kernel)) (fun _ _ _ _ _ => (cgw_of (vs := [10]) (pg_name (i := 10) sc_z19.nd rfl (by first | exact Or.inl rfl | exact Or.inr rfl)) (by decide))) (fun _ _ _ _ _ => (cts_one (ct_cmp ok_is (ce_ix (ce_var (pv 10)) ce_int (fun _ _ => rfl)) ce_non (nomark _)))) (fun _ _ _ _ _ => (ce_var (pv 10)))) (ca_cons (ce_var (pv 5)) ca_nil))) (fun _ => rfl)))
    (cb_one (cs_ret ce_bl))
    cb_nil)
    (cb_cons (cs_set (ps_set (i := 6) sc_z19.nd rfl (by first | exact Or.inl rfl | exact Or.inr rfl) (ce_fld (ce_var (pv 0)) (by
      intro c0 hc0
      simp only [List.mem_cons, List.not_mem_nil, or_false] at hc0
      subst hc0; exact ⟨He.cls_ok (c.fact 0 rfl), He.noat_ok (c.fact 10 rfl)⟩))))
    (cb_cons (by first | exact cs_set (cs_setLc (own := [("_law_n", 9)]) (i := 7) rfl sc_z19.nd rfl rfl (sw_true rfl rfl rfl (by decide +kernel)) (ci_seq (ce_var (pv 2))) (blkOk_by (own := [("_law_n", 9)]) (N := ["_law_own", "_law_rows", "_law_came", "_law_told", "_law_stream_here", "_law_loose", "_law_done", "_law_waiting", "_law_due", "_law_n", "_law_row"]) (sc := defScope s_z19) (by decide +kernel)) (fun _ _ _ _ _ => (cgw_of (vs := [9]) (pg_name (i := 9) sc_z19.nd rfl (by first | exact Or.inl rfl | exact Or.inr rfl)) (by decide))) (fun _ _ _ _ _ => (cts_one (ct_cmp (ok_notinL (hu65 hr)) (ce_ix (ce_var (pv 1)) (ce_bin ok_sub (ce_var (pv 9)) ce_int) (fun _ _ => rfl)) (ce_var (pv 6)) (by rfl)))) (fun _ _ _ _ _ => (ce_ix (ce_var (pv 1)) (ce_bin ok_sub (ce_var (pv 9)) ce_int) (fun _ _ => rfl)))) | exact cs_set (ps_set (i := 7) sc_z19.nd rfl (by first | exact Or.inl rfl | exact Or.inr rfl) (ce_lc (own := [("_law_n", 9)]) rfl sc_z19.nd (ci_seq (ce_var (pv 2))) (blkOk_by (own := [("_law_n", 9)]) (N := ["_law_own", "_law_rows", "_law_came", "_law_told", "_law_stream_here", "_law_loose", "_law_done", "_law_waiting", "_law_due", "_law_n", "_law_row"]) (sc := defScope s_z19) (by decide +kernel)) (fun _ _ _ _ _ => (cgw_of (vs := [9]) (pg_name (i := 9) sc_z19.nd rfl (by first | exact Or.inl rfl | exact Or.inr rfl)) (by decide))) (fun _ _ _ _ _ => (cts_one (ct_cmp (ok_notinL (hu65 hr)) (ce_ix (ce_var (pv 1)) (ce_bin ok_sub (ce_var (pv 9)) ce_int) (fun _ _ => rfl)) (ce_var (pv 6)) (by rfl)))) (fun _ _ _ _ _ => (ce_ix (ce_var (pv 1)) (ce_bin ok_sub (ce_var (pv 9)) ce_int) (fun _ _ => rfl))))))
    (cb_one (cs_ret (ce_and (ce_cmp (ok_eq hr.units) (ce_callB ok_len (by rfl) (He.free_ok KX G (c.fact 39 rfl)) (by decide +kernel) (ca_cons (ce_var (pv 6)) ca_nil)) (ce_bin ok_add (ce_var (pv 3)) (ce_callB ok_len (by rfl) (He.free_ok KX G (c.fact 39 rfl)) (by decide +kernel) (ca_cons (ce_var (pv 5)) ca_nil))) (nomark _)) (ce_one (ce_lend G_z17 hr (by rfl) (He.glo_ok KX G (c.fact 31 rfl)) kp_z17 b_z17 (ca_cons (ce_fld (ce_var (pv 0)) (by
      intro c0 hc0
      simp only [List.mem_cons, List.not_mem_nil, or_false] at hc0
      subst hc0; exact ⟨He.cls_ok (c.fact 0 rfl), He.noat_ok (c.fact 20 rfl)⟩)) (ca_cons (ce_var (pv 7)) ca_nil)))))))))))))
theorem sc_law : FnScope ["_law_script", "_law_draws_here", "_law_rows", "_law_order", "_law_k", "_law_own", "_law_came", "_law_n", "_law_at", "_law_other", "_law_row", "_law_least", "_law_window", "_law_due", "_law_j"] ["_law_script"] (defScope s_law) := ⟨rfl, rfl, rfl, by decide +kernel, rfl, by decide +kernel, by decide +kernel⟩
theorem ok_law {P : Program} {w : World} {K : PySem.W.Frag} {h : Heap} {mg : Str → Option Value} {base : Heap} (KX : K.In h) (G : h.Ns mainGlobals mg) (c : He.SaysD fa fn K) {fd : FuncData} (FD : FunD K "law" "law" (defArgs s_law) (defBody s_law) (defScope s_law) [] [] (He.fAd K ("law", none)) fd) : FnOk P w K mg base CX0 11 (He.fAd K ("law", none)) fd ["_law_script"] (spF K F_law) := by
  obtain ⟨fd_z16, FD_z16⟩ := c.def_ 9 (d := d_z16) rfl
  have G_z16 := ok_z16 (P := P) (w := w) (base := base) KX G c FD_z16
  have b_z16 : Binds K fd_z16 ["_law_cell_here", "_law_many"] [] := FD_z16.bindsN fun _ _ _ _ _ _ us hl => match us, hl with | [_, _], _ => rfl
  have kp_z16 := FD_z16.kp
  obtain ⟨fd_z13, FD_z13⟩ := c.def_ 13 (d := d_z13) rfl
  have G_z13 := ok_z13 (P := P) (w := w) (base := base) KX G c FD_z13
  have b_z13 : Binds K fd_z13 ["_law_script", "_law_start", "_law_most"] [] := FD_z13.bindsN fun _ _ _ _ _ _ us hl => match us, hl with | [_, _, _], _ => rfl
  have kp_z13 := FD_z13.kp
  obtain ⟨fd_z4, FD_z4⟩ := c.def_ 0 (d := d_z4) rfl
  have G_z4 := ok_z4 (P := P) (w := w) (base := base) KX G c FD_z4
  have b_z4 : Binds K fd_z4 ["self", "tag", "peer", "paths"] [] := FD_z4.bindsN fun _ _ _ _ _ _ us hl => match us, hl with | [_, _, _, _], _ => rfl
  have kp_z4 := FD_z4.kp
  obtain ⟨fd_z20, FD_z20⟩ := c.def_ 8 (d := d_z20) rfl
  have G_z20 := ok_z20 (P := P) (w := w) (base := base) KX G c FD_z20
  have b_z20 : Binds K fd_z20 ["_law_script", "_law_k"] [] := FD_z20.bindsN fun _ _ _ _ _ _ us hl => match us, hl with | [_, _], _ => rfl
  have kp_z20 := FD_z20.kp
  obtain ⟨fd_z8, FD_z8⟩ := c.def_ 7 (d := d_z8) rfl
  have G_z8 := ok_z8 (P := P) (w := w) (base := base) KX G c FD_z8
  have b_z8 : Binds K fd_z8 ["association", "row"] [] := FD_z8.bindsN fun _ _ _ _ _ _ us hl => match us, hl with | [_, _], _ => rfl
  have kp_z8 := FD_z8.kp
  obtain ⟨fd_z17, FD_z17⟩ := c.def_ 10 (d := d_z17) rfl
  have G_z17 := ok_z17 (P := P) (w := w) (base := base) KX G c FD_z17 8
  have b_z17 : Binds K fd_z17 ["_law_told", "_law_due"] [] := FD_z17.bindsN fun _ _ _ _ _ _ us hl => match us, hl with | [_, _], _ => rfl
  have kp_z17 := FD_z17.kp
  obtain ⟨fd_z24, FD_z24⟩ := c.def_ 2 (d := d_z24) rfl
  have G_z24 := ok_z24 (P := P) (w := w) (base := base) KX G c FD_z24
  have b_z24 : Binds K fd_z24 ["association", "number", "window"] [] := FD_z24.bindsN fun _ _ _ _ _ _ us hl => match us, hl with | [_, _, _], _ => rfl
  have kp_z24 := FD_z24.kp
  obtain ⟨fd_z19, FD_z19⟩ := c.def_ 15 (d := d_z19) rfl
  have G_z19 := ok_z19 (P := P) (w := w) (base := base) KX G c FD_z19
  have b_z19 : Binds K fd_z19 ["_law_own", "_law_rows", "_law_came"] [] := FD_z19.bindsN fun _ _ _ _ _ _ us hl => match us, hl with | [_, _, _], _ => rfl
  have kp_z19 := FD_z19.kp
  unfold F_law
  exact fnK_ok FD sc_law fun cdv A outer s H E hr => by
    unfold B_law
    unfold L_law_4 L_law_3 L_law_2 Q_law_3 Q_law_2 L_law_1 Q_law_1
    exact (cb_cons (cs_set (ps_set (i := 1) sc_law.nd rfl (by first | exact Or.inl rfl | exact Or.inr rfl) (ce_call G_z16 (hr.mono (by decide)) (by rfl) (He.glo_ok KX G (c.fact 30 rfl)) kp_z16 b_z16 (ca_cons (ce_call G_z20 (hr.mono (by decide)) (by rfl) (He.glo_ok KX G (c.fact 29 rfl)) kp_z20 b_z20 (ca_cons (ce_var (pv 0)) (ca_cons ce_int ca_nil))) (ca_cons ce_int ca_nil)))))
    (cb_cons (cs_set (ps_set (i := 2) sc_law.nd rfl (by first | exact Or.inl rfl | exact Or.inr rfl) (ce_call G_z13 (hr.mono (by decide)) (by rfl) (He.glo_ok KX G (c.fact 34 rfl)) kp_z13 b_z13 (ca_cons (ce_var (pv 0)) (ca_cons ce_int (ca_cons ce_int ca_nil))))))
    (cb_cons (by first | exact cs_setM (cs_setLc (own := [("_law_row", 10)]) (i := 3) rfl sc_law.nd rfl rfl (sw_true rfl rfl rfl (by decide +kernel)) (ci_seq (ce_var (pv 2))) (blkOk_by (own := [("_law_row", 10)]) (N := ["_law_script", "_law_draws_here", "_law_rows", "_law_order", "_law_k", "_law_own", "_law_came", "_law_n", "_law_at", "_law_other", "_law_row", "_law_least", "_law_window", "_law_due", "_law_j"]) (sc := defScope s_law) (by decide +kernel)) (fun _ _ _ _ _ => (cgw_of (vs := [10]) (pg_name (i := 10) sc_law.nd rfl (by first | exact Or.inl rfl | exact Or.inr rfl)) (by decide))) (fun _ _ _ _ _ => cts_nil) (fun _ _ _ _ _ => (ce_ix (ce_var (pv 10)) ce_int (fun _ _ => rfl)))) | exact cs_setM (ps_set (i := 3) sc_law.nd rfl (by first | exact Or.inl rfl | exact Or.inr rfl) (ce_lc (own := [("_law_row", 10)]) rfl sc_law.nd (ci_seq (ce_var (pv 2))) (blkOk_by (own := [("_law_row", 10)]) (N := ["_law_script", "_law_draws_here", "_law_rows", "_law_order", "_law_k", "_law_own", "_law_came", "_law_n", "_law_at", "_law_other", "_law_row", "_law_least", "_law_window", "_law_due", "_law_j"]) (sc := defScope s_law) (by decide +kernel)) (fun _ _ _ _ _ => (cgw_of (vs := [10]) (pg_name (i := 10) sc_law.nd rfl (by first | exact Or.inl rfl | exact Or.inr rfl)) (by decide))) (fun _ _ _ _ _ => cts_nil) (fun _ _ _ _ _ => (ce_ix (ce_var (pv 10)) ce_int (fun _ _ => rfl))))))
    (cb_cons (cs_forK PassesOwn.never rfl (ci_rg1 (by rfl) (He.free_ok KX G (c.fact 46 rfl)) (ce_callB ok_len (by rfl) (He.free_ok KX G (c.fact 39 rfl)) (by decide +kernel) (ca_cons (ce_var (pv 3)) ca_nil))) (cg_of (pg_name (i := 4) sc_law.nd rfl (by first | exact Or.inl rfl | exact Or.inr rfl)))
    (cb_cons (cs_set (ps_set (i := 8) sc_law.nd rfl (by first | exact Or.inl rfl | exact Or.inr rfl) (ce_bin ok_mod (ce_callTy ok_int (by rfl) (He.free_ok KX G (c.fact 40 rfl)) (by decide +kernel) (ca_cons (ce_ix (ce_var (pv 1)) (ce_var (pv 4)) (fun _ _ => rfl)) ca_nil)) (ce_callB ok_len (by rfl) (He.free_ok KX G (c.fact 39 rfl)) (by decide +kernel) (ca_cons (ce_var (pv 3)) ca_nil)))))
    (cb_cons (cs_if (ct_cmp ok_gt (ce_bin ok_mod (ce_callTy ok_int (by rfl) (He.free_ok KX G (c.fact 40 rfl)) (by decide +kernel) (ca_cons (ce_ix (ce_var (pv 1)) ce_int (fun _ _ => rfl)) ca_nil)) ce_int) ce_int (nomark _))
    (cb_one (cs_set (ps_set (i := 8) sc_law.nd rfl (by first | exact Or.inl rfl | exact Or.inr rfl) (ce_callB (ok_min2 rfl) (by rfl) (He.free_ok KX G (c.fact 43 rfl)) (by decide +kernel) (ca_cons (ce_bin ok_sub (ce_callB ok_len (by rfl) (He.free_ok KX G (c.fact 39 rfl)) (by decide +kernel) (ca_cons (ce_var (pv 3)) ca_nil)) ce_int) (ca_cons (ce_bin ok_add (ce_var (pv 4)) (ce_bin ok_mod (ce_callTy ok_int (by rfl) (He.free_ok KX G (c.fact 40 rfl)) (by decide +kernel) (ca_cons (ce_ix (ce_var (pv 1)) (ce_var (pv 4)) (fun _ _ => rfl)) ca_nil)) ce_int)) ca_nil))))))
    cb_nil)
    (cb_one (cs_asg (ps_asg (ce_tup (ca_cons (ce_ix (ce_var (pv 3)) (ce_var (pv 8)) (fun _ _ => rfl)) (ca_cons (ce_ix (ce_var (pv 3)) (ce_var (pv 4)) (fun _ _ => rfl)) ca_nil))) (cg_tup rfl (cgs_cons (cg_ix (ce_var (pv 3)) (ce_var (pv 4))) (cgs_cons (cg_ix (ce_var (pv 3)) (ce_var (pv 8))) cgs_nil)))))))))
    (cb_cons (cs_set (ps_set (i := 5) sc_law.nd rfl (by first | exact Or.inl rfl | exact Or.inr rfl) (ce_new (He.mkr_ok (c.fact 1 rfl)) G_z4 (hr.mono (by decide)) (by rfl) (He.glo_ok KX G (c.fact 38 rfl)) b_z4 (ca_cons ce_int (ca_cons ce_int (ca_cons (ce_lst (ca_cons ce_int ca_nil)) ca_nil))))))
    (cb_cons (cs_setM (ps_set (i := 6) sc_law.nd rfl (by first | exact Or.inl rfl | exact Or.inr rfl) (ce_lst ca_nil)))
    (cb_cons (cs_forK PassesOwn.never rfl (ci_seq (ce_var (pv 3))) (cg_of (pg_name (i := 7) sc_law.nd rfl (by first | exact Or.inl rfl | exact Or.inr rfl)))
    (cb_cons (cs_if (ct_not (ct_truth (ce_call G_z17 (hr.mono (by decide)) (by rfl) (He.glo_ok KX G (c.fact 31 rfl)) kp_z17 b_z17 (ca_cons (ce_call G_z24 (hr.mono (by decide)) (by rfl) (He.glo_ok KX G (c.fact 23 rfl)) kp_z24 b_z24 (ca_cons (ce_var (pv 5)) (ca_cons (ce_var (pv 7)) (ca_cons ce_int ca_nil)))) (ca_cons ce_bl ca_nil))) (fun _ => rfl)))
    (cb_one (cs_ret ce_bl))
    cb_nil)
    (cb_cons (cs_expr (ce_call G_z8 (hr.mono (by decide)) (by rfl) (He.glo_ok KX G (c.fact 28 rfl)) kp_z8 b_z8 (ca_cons (ce_var (pv 5)) (ca_cons (ce_ix (ce_var (pv 2)) (ce_bin ok_sub (ce_var (pv 7)) ce_int) (fun _ _ => rfl)) ca_nil))))
    (cb_cons (cs_expr (ce_bm PySem.F.plainAttrs_list PySem.F.slot_list_append PySem.F.type_list_append ok_append (ce_var (pv 6)) (ca_cons (ce_var (pv 7)) ca_nil)))
    (cb_cons (cs_if (ct_w (cw_or (ct_not (ct_truth (ce_call G_z19 hr (by rfl) (He.glo_ok KX G (c.fact 36 rfl)) kp_z19 b_z19 (ca_cons (ce_var (pv 5)) (ca_cons (ce_var (pv 2)) (ca_cons (ce_var (pv 6)) ca_nil)))) (fun _ => rfl))) (cw_or1 (ct_not (ct_truth (ce_call G_z17 (hr.mono (by decide)) (by rfl) (He.glo_ok KX G (c.fact 31 rfl)) kp_z17 b_z17 (ca_cons (ce_call G_z24 (hr.mono (by decide)) (by rfl) (He.glo_ok KX G (c.fact 23 rfl)) kp_z24 b_z24 (ca_cons (ce_var (pv 5)) (ca_cons (ce_var (pv 7)) (ca_cons ce_int ca_nil)))) (ca_cons ce_bl ca_nil))) (fun _ => rfl))))))
    (cb_one (cs_ret ce_bl))
    cb_nil)
    (cb_one (cs_forK PassesOwn.never rfl (ci_rg2 (by rfl) (He.free_ok KX G (c.fact 46 rfl)) ce_int (ce_bin ok_add (ce_callB ok_len (by rfl) (He.free_ok KX G (c.fact 39 rfl)) (by decide +kernel) (ca_cons (ce_var (pv 2)) ca_nil)) ce_int)) (cg_of (pg_name (i := 9) sc_law.nd rfl (by first | exact Or.inl rfl | exact Or.inr rfl)))
    (cb_cons (cs_set (ps_set (i := 11) sc_law.nd rfl (by first | exact Or.inl rfl | exact Or.inr rfl) (ce_callB ok_len (by rfl) (He.free_ok KX G (c.fact 39 rfl)) (by decide +kernel) (ca_cons (ce_lc (own := [("_law_k", 4)]) rfl sc_law.nd (ci_rg2 (by rfl) (He.free_ok KX G (c.fact 46 rfl)) ce_int ce_int) (blkOk_by (own := [("_law_k", 4)]) (N := ["_law_script", "_law_draws_here", "_law_rows", "_law_order", "_law_k", "_law_own", "_law_came", "_law_n", "_law_at", "_law_other", "_law_row", "_law_least", "_law_window", "_law_due", "_law_j"]) (sc := defScope s_law) (by decide +kernel)) (fun _ _ _ _ _ => (cgw_of (vs := [4]) (pg_name (i := 4) sc_law.nd rfl (by first | exact Or.inl rfl | exact Or.inr rfl)) (by decide))) (fun _ _ _ _ _ => (cts_one (ct_cmp (ok_eq hr.units) (ce_callB ok_len (by rfl) (He.free_ok KX G (c.fact 39 rfl)) (by decide +kernel) (ca_cons (ce_lc (own := [("_law_j", 14)]) rfl sc_law.nd (ci_seq (ce_var (pv 6))) (blkOk_by (own := [("_law_j", 14)]) (N := ["_law_script", "_law_draws_here", "_law_rows", "_law_order", "_law_k", "_law_own", "_law_came", "_law_n", "_law_at", "_law_other", "_law_row", "_law_least", "_law_window", "_law_due", "_law_j"]) (sc := _) (by first | rfl | kernel_rfl)) (fun _ _ _ _ _ => (cgw_of (vs := [14]) (pg_name (i := 14) sc_law.nd rfl (by first | exact Or.inl rfl | exact Or.inr rfl)) (by decide))) (fun _ _ _ _ _ => (cts_one (ct_cmp ok_le (ce_var (pv 14)) (ce_var (pv 4)) (nomark _)))) (fun _ _ _ _ _ => (ce_var (pv 14)))) ca_nil)) (ce_var (pv 4)) (nomark _)))) (fun _ _ _ _ _ => (ce_var (pv 4)))) ca_nil))))
    (cb_one (cs_forK PassesOwn.never rfl (ci_seq (ce_lst (ca_cons ce_int (ca_cons ce_int ca_nil)))) (cg_of (pg_name (i := 12) sc_law.nd rfl (by first | exact Or.inl rfl | exact Or.inr rfl)))
    (cb_cons (cs_set (ps_set (i := 13) sc_law.nd rfl (by first | exact Or.inl rfl | exact Or.inr rfl) (ce_and (ce_cmp ok_notin (ce_var (pv 9)) (ce_var (pv 6)) (by rfl)) (ce_and (ce_cmp ok_gt (ce_var (pv 9)) (ce_var (pv 11)) (nomark _)) (ce_one (ce_cmp ok_le (ce_var (pv 9)) (ce_bin ok_add (ce_var (pv 11)) (ce_var (pv 12))) (nomark _)))))))
    (cb_one (cs_if (ct_not (ct_truth (ce_call G_z17 (hr.mono (by decide)) (by rfl) (He.glo_ok KX G (c.fact 31 rfl)) kp_z17 b_z17 (ca_cons (ce_call G_z24 (hr.mono (by decide)) (by rfl) (He.glo_ok KX G (c.fact 23 rfl)) kp_z24 b_z24 (ca_cons (ce_var (pv 5)) (ca_cons (ce_var (pv 9)) (ca_cons (ce_var (pv 12)) ca_nil)))) (ca_cons (ce_var (pv 13)) ca_nil))) (fun _ => rfl)))
    (cb_one (cs_ret ce_bl))
    cb_nil)))))))))))))
    (cb_one (cs_ret ce_bl)))))))))
theorem facts {P : Program} {w : World} {K : PySem.W.Frag} {h : Heap} {mg : Str → Option Value} {f : Addr} (X : K.In h) (G : h.Ns mainGlobals mg) (hfa : mg ("law" : Str) = some (.ref f)) (c : He.SaysD fa fn K) :
    ∃ fd : FuncData, (∀ (s : Shared) (v : Value), BindsTo s fd ⟨[v], []⟩ [("_law_script", v)]) ∧ ∀ base : Heap, K.In base → base.Ns mainGlobals mg → FnOk P w K mg base CX0 11 f fd ["_law_script"] (spF K F_law) := by
  obtain ⟨fd, FD⟩ := c.def_ 16 (d := d_law) rfl
  have e := hfa.symm.trans (He.glo_ok X G (c.fact 37 rfl))
  cases e
  have b := FunD.bindsA (ps := ["_law_script"]) FD fun _ _ _ _ _ _ us hl => match us, hl with | [_], _ => rfl
  exact ⟨fd, fun s v => b s [v] rfl, fun base _ _ => ok_law X G c FD⟩
end K52
open PySem PySem.W PySem.Calls PyProof.Rows
theorem PySem.Challenge.cw_fardesk_k52_delivering_in_order_holds : PySem.Challenge.rw_fardesk_k52_delivering_in_order.Holds := by
  w_on; o_law
  refine HandSHeadRun.head_any (r := OpenLaw.row PySem.Challenge.rw_fardesk_k52_delivering_in_order) (q := view (OpenLaw.row PySem.Challenge.rw_fardesk_k52_delivering_in_order).prog [20]) (H := K52.hk) (ob := K52.ob) (M := 20000) (loose := K52.loose) (d := HandSHeadRun.topDef (OpenLaw.row PySem.Challenge.rw_fardesk_k52_delivering_in_order).prog 20) (kwd := []) K52.ob_eq
    (by kernel_rfl) (fun s => by kernel_rfl) K52.run (by kernel_rfl) (by kernel_rfl) (by kernel_rfl) (by rfl) (by first | assumption | decide +kernel) (by decide +kernel) ⟨rfl, rfl, rfl, rfl, rfl, by decide +kernel⟩ ?hw ?hc
  case hw => w_witness2
  case hc =>
    refine L2.walk_ofE (l := PySem.Challenge.rw_fardesk_k52_delivering_in_order) (n := 63) (k := 11) (x := "_law_script") (CX := L2.CX0) rfl (by decide) (by kernel_rfl) ⟨rfl, by decide, by decide⟩ ?F (fun _ _ _ _ z => z)
    intro w mg fa h Y G hmg0
    obtain ⟨K, KX, c⟩ := Y
    have hmg : mg ("law" : PySem.Str) = some (.ref fa) := by
      have e : (HandSHeadRun.topDef (OpenLaw.row PySem.Challenge.rw_fardesk_k52_delivering_in_order).prog 20).name = ("law" : PySem.Str) := by kernel_rfl
      rw [← e]
      exact hmg0
    obtain ⟨fd, hb, hF⟩ := K52.facts (P := (PySem.Challenge.rw_fardesk_k52_delivering_in_order).prog) (w := w) KX G hmg c
    exact ⟨K, fd, _, KX, hb, CI.law_sp K52.law_true, hF⟩
