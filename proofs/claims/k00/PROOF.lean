import PyProof.Rows.All
import Wide.All
import OpenK.AllK
import Wide.FinOn
import KE.KStateDown
import Lean
import HandS.ForMost
import HandS.WordsExc
import HandS.Defaults
import HandS.Head0
import HandS.Head1
import HandS.Head2
import HandS.HeadEnd
import HandS.HeadHook1
import HandS.HeadHook2
import HandS.TupAny
import HandS.Style
import HandS.Conv
import HandS.IsInst
import HandS.SortInts
import HandS.Star
import HandS.TupMul
import HandS.Iter
import HandS.Text
import HandS.Sort
import KE.KIntText
import HandS.SetFor
import HandS.Flow
import HandS.ExcInit
import HandS.ExcField
import HandS.ExcOwn
import HandS.TryOnly
import PySem.Challenge.RW_fardesk_k00_screens_styles
set_option Elab.async false
set_option linter.all false
set_option maxRecDepth 100000
set_option maxHeartbeats 0

/-! Ci1: values as trees, objects by numbers, what represents them -/
namespace CI
open PySem PySem.Spec PyProof.Rows L2

inductive D where
  | non | bl (b : Bool) | int (i : Int) | str (x : Str) | tup (ds : List D) | lst (ds : List D) | scr (ns : List Int) | loc (k : Nat)
inductive O where
  | lst (ds : List D) | ins (c : Str) (fs : List (Str × D)) | dct (kvs : List (Key × D))
abbrev Mem := List O
abbrev Slots := List (Option D)
/-- a result: a value, or a list that nobody else holds -/
inductive Rz where
  | val (d : D) | new (ds : List D)
def Rz.d : Rz → D
  | .val d => d
  | .new ds => .lst ds

/-- a list that never changes: frozen, or of the written part -/
def SqS (K : PySem.W.Frag) (H : Hp) (a : Addr) (xs : List V) : Prop := (∃ o, H a = some (.frz o (.lst xs))) ∨
  ∃ (o : Obj) (its : Array Value) (n : Nat), K.lookup a = some o ∧ o.cls = .type "list" ∧ o.dict = none ∧ o.data = .seq its n ∧ its.size ≤ sizeLine ∧ Vals xs its.toList
theorem SqS.l {K : PySem.W.Frag} {H : Hp} {a : Addr} {xs : List V} (h : SqS K H a xs) : SqL K H a xs := h.elim (fun h => .inl (.inr h)) .inr
mutual
def Rl (K : PySem.W.Frag) (H : Hp) (m : List Addr) : D → V → Prop
  | .non, v => v = .non
  | .bl b, v => v = .bl b
  | .int i, v => v = .int i
  | .str x, v => v = .str x
  | .tup ds, v => ∃ a vs, v = .ref a ∧ SqT K H a vs ∧ Rls K H m ds vs
  | .lst ds, v => ∃ a vs, v = .ref a ∧ a ∉ m ∧ H a = some (.lst vs) ∧ Rls K H m ds vs
  | .scr ns, v => ∃ a, v = .ref a ∧ SqS K H a (ns.map V.int)
  | .loc k, v => ∃ a, v = .ref a ∧ m[k]? = some a
def Rls (K : PySem.W.Frag) (H : Hp) (m : List Addr) : List D → List V → Prop
  | [], vs => vs = []
  | d :: ds, vs => ∃ v r, vs = v :: r ∧ Rl K H m d v ∧ Rls K H m ds r
end
def Rfs (K : PySem.W.Frag) (H : Hp) (m : List Addr) : List (Str × D) → List (Str × V) → Prop
  | [], gs => gs = []
  | (f, d) :: fs, gs => ∃ v r, gs = (f, v) :: r ∧ Rl K H m d v ∧ Rfs K H m fs r
def Rks (K : PySem.W.Frag) (H : Hp) (m : List Addr) : List (Key × D) → List (Key × V) → Prop
  | [], gs => gs = []
  | (f, d) :: fs, gs => ∃ v r, gs = (f, v) :: r ∧ Rl K H m d v ∧ Rks K H m fs r
def Ro (K : PySem.W.Frag) (H : Hp) (m : List Addr) (a : Addr) : O → Prop
  | .lst ds => ∃ vs, H a = some (.lst vs) ∧ Rls K H m ds vs
  | .ins c fs => ∃ dx gs, H a = some (.ins (He.ga K c) dx gs) ∧ Rfs K H m fs gs
  | .dct kvs => ∃ gs, H a = some (.dK gs) ∧ Rks K H m kvs gs

structure Ext (H : Hp) (m : List Addr) (H' : Hp) (m' : List Addr) : Prop where
  tup : ∀ a xs, H a = some (.tup xs) → H' a = some (.tup xs)
  frz : ∀ a o u, H a = some (.frz o u) → H' a = some (.frz o u)
  oth : ∀ a u, a ∉ m → H a = some u → H' a = some u
  trk : ∀ a, H' a = none → H a = none
  pre : ∃ l, m' = m ++ l ∧ ∀ a ∈ l, H a = none
structure Wd (K : PySem.W.Frag) (H : Hp) (m : List Addr) (M : Mem) : Prop where
  len : m.length = M.length
  nd : m.Nodup
  at_ : ∀ (k : Nat) (a : Addr) (o : O), m[k]? = some a → M[k]? = some o → Ro K H m a o
def Rs (K : PySem.W.Frag) (H : Hp) (m : List Addr) (ρ : Slots) (σ : L2.St) : Prop :=
  ρ.length = σ.length ∧ ∀ (i : Nat) (d : D), ρ[i]? = some (some d) → ∃ v, σ[i]? = some (some v) ∧ Rl K H m d v

section
variable {K : PySem.W.Frag} {H H1 H2 H' : Hp} {m m1 m2 m' : List Addr} {M M1 : Mem} {a p : Addr}
theorem Ext.lst (e : Ext H m H1 m1) (a : Addr) (xs : List V) (n : a ∉ m) (h : H a = some (.lst xs)) : H1 a = some (.lst xs) := e.oth a _ n h
theorem Ext.refl : Ext H m H m := ⟨fun _ _ h => h, fun _ _ _ h => h, fun _ _ _ h => h, fun _ h => h, [], by simp, fun _ h => nomatch h⟩
theorem Ext.notin (e : Ext H m H1 m1) {o : HO} (h : H a = some o) (n : a ∉ m) : a ∉ m1 := by
  obtain ⟨l, rfl, hl⟩ := e.pre
  intro q
  rcases List.mem_append.mp q with q | q
  · exact n q
  · rw [hl a q] at h; cases h
theorem Ext.trans (e : Ext H m H1 m1) (e' : Ext H1 m1 H2 m2) : Ext H m H2 m2 := by
  refine ⟨fun a xs h => e'.tup a xs (e.tup a xs h), fun a o u h => e'.frz a o u (e.frz a o u h), fun a u n h => e'.oth a u (e.notin h n) (e.oth a u n h), fun a h => e.trk a (e'.trk a h), ?_⟩
  obtain ⟨l, rfl, hl⟩ := e.pre
  obtain ⟨l', rfl, hl'⟩ := e'.pre
  exact ⟨l ++ l', by rw [List.append_assoc], fun a q => (List.mem_append.mp q).elim (hl a) fun q => e.trk a (hl' a q)⟩
/-- a new object -/
theorem Ext.new {o : HO} (n : H p = none) : Ext H m (upd H p o) m := by
  have ne : ∀ a u, H a = some u → a ≠ p := fun a u h => ne_of_none h n
  refine ⟨fun a xs h => by rw [upd_ne (ne a _ h)]; exact h, fun a o u h => by rw [upd_ne (ne a _ h)]; exact h, fun a xs _ h => by rw [upd_ne (ne a _ h)]; exact h, fun a h => ?_, [], by simp, fun _ h => nomatch h⟩
  by_cases q : a = p
  · rw [q]; exact n
  · rw [upd_ne q] at h; exact h
/-- an own object is changed -/
theorem Ext.set {o u : HO} (h : H p = some u) (hm : p ∈ m) (nt : ∀ xs, u ≠ .tup xs) (nf : ∀ o u', u ≠ .frz o u') : Ext H m (upd H p o) m := by
  refine ⟨fun a xs q => ?_, fun a o u' q => ?_, fun a xs n q => ?_, fun a q => ?_, [], by simp, fun _ h => nomatch h⟩
  · rw [upd_ne (fun z => by subst z; rw [h] at q; cases q; exact nt xs rfl)]; exact q
  · rw [upd_ne (fun z => by subst z; rw [h] at q; cases q; exact nf _ _ rfl)]; exact q
  · rw [upd_ne (fun z => n (by rw [z]; exact hm))]; exact q
  · by_cases z : a = p
    · rw [z, upd_same] at q; cases q
    · rw [upd_ne z] at q; exact q
theorem Ext.get (e : Ext H m H1 m1) {k : Nat} (h : m[k]? = some a) : m1[k]? = some a := by
  obtain ⟨l, rfl, _⟩ := e.pre
  obtain ⟨h1, _⟩ := List.getElem?_eq_some_iff.mp h
  rw [List.getElem?_append_left h1]; exact h
theorem sqT_ext (e : Ext H m H1 m1) {vs : List V} (h : SqT K H a vs) : SqT K H1 a vs := by
  rcases h with (h | ⟨o, h⟩) | h
  · exact .inl (.inl (e.tup _ _ h))
  · exact .inl (.inr ⟨o, e.frz _ _ _ h⟩)
  · exact .inr h
mutual
theorem Rl.ext (e : Ext H m H1 m1) : ∀ {d : D} {v : V}, Rl K H m d v → Rl K H1 m1 d v
  | .non, _, h => h
  | .bl _, _, h => h
  | .int _, _, h => h
  | .str _, _, h => h
  | .tup ds, _, h => by
    rw [Rl] at h ⊢
    obtain ⟨a, vs, r, s, t⟩ := h
    exact ⟨a, vs, r, sqT_ext e s, Rls.ext e t⟩
  | .lst ds, _, h => by
    rw [Rl] at h ⊢
    obtain ⟨a, vs, r, n, s, t⟩ := h
    exact ⟨a, vs, r, e.notin s n, e.lst _ _ n s, Rls.ext e t⟩
  | .scr ns, _, h => by
    rw [Rl] at h ⊢
    obtain ⟨a, r, s⟩ := h
    exact ⟨a, r, s.imp (fun ⟨o, s⟩ => ⟨o, e.frz _ _ _ s⟩) id⟩
  | .loc k, _, h => by
    rw [Rl] at h ⊢
    obtain ⟨a, r, s⟩ := h
    exact ⟨a, r, e.get s⟩
theorem Rls.ext (e : Ext H m H1 m1) : ∀ {ds : List D} {vs : List V}, Rls K H m ds vs → Rls K H1 m1 ds vs
  | [], _, h => by rw [Rls] at h ⊢; exact h
  | d :: ds, _, h => by
    rw [Rls] at h ⊢
    obtain ⟨v, r, q, h1, h2⟩ := h
    exact ⟨v, r, q, Rl.ext e h1, Rls.ext e h2⟩
end
theorem Rfs.ext (e : Ext H m H1 m1) : ∀ {fs : List (Str × D)} {gs : List (Str × V)}, Rfs K H m fs gs → Rfs K H1 m1 fs gs
  | [], _, h => h
  | (f, d) :: fs, _, h => by
    obtain ⟨v, r, q, h1, h2⟩ := h
    exact ⟨v, r, q, Rl.ext e h1, Rfs.ext e h2⟩
theorem Rks.ext (e : Ext H m H1 m1) : ∀ {fs : List (Key × D)} {gs : List (Key × V)}, Rks K H m fs gs → Rks K H1 m1 fs gs
  | [], _, h => h
  | (f, d) :: fs, _, h => by
    obtain ⟨v, r, q, h1, h2⟩ := h
    exact ⟨v, r, q, Rl.ext e h1, Rks.ext e h2⟩
theorem Ro.ext (e : Ext H m H1 m1) {o : O} (hs : H1 a = H a) (h : Ro K H m a o) : Ro K H1 m1 a o := by
  cases o with
  | lst ds => obtain ⟨vs, h1, h2⟩ := h; exact ⟨vs, hs.trans h1, h2.ext e⟩
  | ins c fs => obtain ⟨dx, gs, h1, h2⟩ := h; exact ⟨dx, gs, hs.trans h1, h2.ext e⟩
  | dct kvs => obtain ⟨gs, h1, h2⟩ := h; exact ⟨gs, hs.trans h1, h2.ext e⟩
theorem Ro.there {o : O} (h : Ro K H m a o) : ∃ u, H a = some u ∧ (∀ xs, u ≠ .tup xs) ∧ ∀ o' u', u ≠ .frz o' u' := by
  cases o with
  | lst ds => obtain ⟨vs, h1, h2⟩ := h; exact ⟨_, h1, (by intro _ z; cases z), (by intro _ _ z; cases z)⟩
  | ins c fs => obtain ⟨dx, gs, h1, h2⟩ := h; exact ⟨_, h1, (by intro _ z; cases z), (by intro _ _ z; cases z)⟩
  | dct kvs => obtain ⟨gs, h1, h2⟩ := h; exact ⟨_, h1, (by intro _ z; cases z), (by intro _ _ z; cases z)⟩
theorem Wd.there (w : Wd K H m M) (h : a ∈ m) : ∃ u, H a = some u ∧ (∀ xs, u ≠ .tup xs) ∧ ∀ o' u', u ≠ .frz o' u' := by
  obtain ⟨k, hk, e⟩ := List.mem_iff_getElem.mp h
  have h2 : k < M.length := by rw [← w.len]; exact hk
  exact (w.at_ k a M[k] (by rw [List.getElem?_eq_getElem hk, e]) (List.getElem?_eq_getElem h2)).there
theorem Wd.fresh (w : Wd K H m M) (n : H p = none) : p ∉ m := fun h => by
  obtain ⟨u, q, _⟩ := w.there h
  rw [n] at q; cases q
theorem Wd.same (w : Wd K H m M) (e : Ext H m H1 m) (hs : ∀ a ∈ m, H1 a = H a) : Wd K H1 m M :=
  ⟨w.len, w.nd, fun k a o h1 h2 => (w.at_ k a o h1 h2).ext e (hs a (List.mem_of_getElem? h1))⟩
theorem Wd.new {o : HO} (w : Wd K H m M) (n : H p = none) : Wd K (upd H p o) m M :=
  w.same (.new n) fun a h => upd_ne fun z => w.fresh n (z ▸ h)
theorem nodup_at {m : List Addr} (nd : m.Nodup) {i j : Nat} (a : m[i]? = some p) (b : m[j]? = some p) : i = j := by
  obtain ⟨h1, e1⟩ := List.getElem?_eq_some_iff.mp a
  obtain ⟨h2, e2⟩ := List.getElem?_eq_some_iff.mp b
  exact (List.getElem_inj nd).mp (e1.trans e2.symm)
/-- the object k is changed -/
theorem Wd.set {k : Nat} {o : O} {u : HO} (w : Wd K H m M) (hk : m[k]? = some p) (h : Ro K (upd H p u) m p o) : Wd K (upd H p u) m (M.set k o) := by
  obtain ⟨v, hv, nt, nf⟩ := w.there (List.mem_of_getElem? hk)
  have e : Ext H m (upd H p u) m := .set hv (List.mem_of_getElem? hk) nt nf
  refine ⟨by rw [List.length_set]; exact w.len, w.nd, fun j a o' h1 h2 => ?_⟩
  by_cases q : j = k
  · subst q
    rw [hk] at h1; cases h1
    obtain ⟨z, _⟩ := List.getElem?_eq_some_iff.mp h2
    rw [List.length_set] at z
    rw [List.getElem?_set_self z] at h2
    cases h2; exact h
  · rw [List.getElem?_set_ne (Ne.symm q)] at h2
    exact (w.at_ j a o' h1 h2).ext e (upd_ne fun z => q (nodup_at w.nd (z ▸ h1) hk))
theorem Wd.ext_set {k : Nat} {u : HO} (w : Wd K H m M) (hk : m[k]? = some p) : Ext H m (upd H p u) m := by
  obtain ⟨v, hv, nt, nf⟩ := w.there (List.mem_of_getElem? hk)
  exact .set hv (List.mem_of_getElem? hk) nt nf
theorem Wd.get (w : Wd K H m M) {k : Nat} {o : O} (h : M[k]? = some o) : ∃ a, m[k]? = some a ∧ Ro K H m a o := by
  obtain ⟨h1, _⟩ := List.getElem?_eq_some_iff.mp h
  have h2 : k < m.length := by rw [w.len]; exact h1
  exact ⟨m[k], List.getElem?_eq_getElem h2, w.at_ k _ o (List.getElem?_eq_getElem h2) h⟩
/-- a new own object -/
theorem Wd.push {o : O} {u : HO} (w : Wd K H m M) (n : H p = none) (h : Ro K (upd H p u) (m ++ [p]) p o) : Wd K (upd H p u) (m ++ [p]) (M ++ [o]) ∧ Ext H m (upd H p u) (m ++ [p]) := by
  have hp := w.fresh n
  have e1 : Ext H m (upd H p u) m := .new n
  have e : Ext H m (upd H p u) (m ++ [p]) := ⟨e1.tup, e1.frz, e1.oth, e1.trk, [p], rfl, fun a q => by simp at q; rw [q]; exact n⟩
  refine ⟨⟨by simp [w.len], ?_, fun k a o' h1 h2 => ?_⟩, e⟩
  · rw [List.nodup_append]
    exact ⟨w.nd, by simp, fun a ha b hb z => by simp at hb; subst hb; exact hp (z ▸ ha)⟩
  · by_cases q : k < m.length
    · rw [List.getElem?_append_left q] at h1
      rw [List.getElem?_append_left (by rw [← w.len]; exact q)] at h2
      exact (w.at_ k a o' h1 h2).ext e (upd_ne fun z => hp (z ▸ List.mem_of_getElem? h1))
    · have hk : k = m.length := by
        obtain ⟨z, _⟩ := List.getElem?_eq_some_iff.mp h1
        simp at z; omega
      subst hk
      rw [List.getElem?_append_right (Nat.le_refl _)] at h1
      rw [w.len, List.getElem?_append_right (Nat.le_refl _)] at h2
      simp at h1 h2
      subst h1 h2
      exact h
theorem Rs.ext (e : Ext H m H1 m1) {ρ : Slots} {σ : L2.St} (h : Rs K H m ρ σ) : Rs K H1 m1 ρ σ :=
  ⟨h.1, fun i d q => let ⟨v, a, b⟩ := h.2 i d q; ⟨v, a, b.ext e⟩⟩
theorem Rs.set {ρ : Slots} {σ : L2.St} {d : D} {v : V} (h : Rs K H m ρ σ) (r : Rl K H m d v) (i : Nat) : Rs K H m (ρ.set i (some d)) (σ.set i (some v)) := by
  refine ⟨by simp [h.1], fun j e q => ?_⟩
  by_cases z : j = i
  · subst z
    obtain ⟨z, _⟩ := List.getElem?_eq_some_iff.mp q
    rw [List.length_set] at z
    rw [List.getElem?_set_self z] at q
    cases q
    exact ⟨v, List.getElem?_set_self (by rw [← h.1]; exact z), r⟩
  · rw [List.getElem?_set_ne (Ne.symm z)] at q
    rw [List.getElem?_set_ne (Ne.symm z)]
    exact h.2 j e q
theorem Rls.length : ∀ {ds : List D} {vs : List V}, Rls K H m ds vs → ds.length = vs.length
  | [], _, h => by rw [Rls] at h; subst h; rfl
  | d :: ds, _, h => by
    rw [Rls] at h
    obtain ⟨v, r, rfl, _, h2⟩ := h
    simp [h2.length]
theorem Rls.get : ∀ {ds : List D} {vs : List V}, Rls K H m ds vs → ∀ {i : Nat} {d : D}, ds[i]? = some d → ∃ v, vs[i]? = some v ∧ Rl K H m d v
  | [], _, h, i, d, q => by simp at q
  | e :: ds, _, h, i, d, q => by
    rw [Rls] at h
    obtain ⟨v, r, rfl, h1, h2⟩ := h
    cases i with
    | zero => simp at q; subst q; exact ⟨v, rfl, h1⟩
    | succ i => simpa using Rls.get h2 (i := i) (d := d) (by simpa using q)
theorem Rls.append : ∀ {ds es : List D} {vs ws : List V}, Rls K H m ds vs → Rls K H m es ws → Rls K H m (ds ++ es) (vs ++ ws)
  | [], _, _, _, h, g => by rw [Rls] at h; subst h; exact g
  | d :: ds, _, _, _, h, g => by
    rw [Rls] at h
    obtain ⟨v, r, rfl, h1, h2⟩ := h
    show Rls K H m (d :: (ds ++ _)) (v :: (r ++ _))
    rw [Rls]
    exact ⟨v, _, rfl, h1, h2.append g⟩
theorem Rls.take : ∀ {ds : List D} {vs : List V} (n : Nat), Rls K H m ds vs → Rls K H m (ds.take n) (vs.take n)
  | _, _, 0, _ => by simp [Rls]
  | [], _, n + 1, h => by rw [Rls] at h; subst h; simp [Rls]
  | d :: ds, _, n + 1, h => by
    rw [Rls] at h
    obtain ⟨v, r, rfl, h1, h2⟩ := h
    show Rls K H m (d :: ds.take n) (v :: r.take n)
    rw [Rls]
    exact ⟨v, _, rfl, h1, h2.take n⟩
theorem Rls.drop : ∀ {ds : List D} {vs : List V} (n : Nat), Rls K H m ds vs → Rls K H m (ds.drop n) (vs.drop n)
  | _, _, 0, h => by simpa using h
  | [], _, n + 1, h => by rw [Rls] at h; subst h; simp [Rls]
  | d :: ds, _, n + 1, h => by
    rw [Rls] at h
    obtain ⟨v, r, rfl, h1, h2⟩ := h
    exact h2.drop n
theorem Rls.one {d : D} {vs : List V} (h : Rls K H m [d] vs) : ∃ v, vs = [v] ∧ Rl K H m d v := by
  rw [Rls] at h
  obtain ⟨v, r, rfl, h1, h2⟩ := h
  rw [Rls] at h2
  subst h2
  exact ⟨v, rfl, h1⟩
theorem Rls.ints : ∀ {ns : List Int}, Rls K H m (ns.map D.int) (ns.map V.int)
  | [] => by simp [Rls]
  | n :: ns => by
    show Rls K H m (D.int n :: ns.map D.int) (V.int n :: ns.map V.int)
    rw [Rls]
    exact ⟨_, _, rfl, by rw [Rl], Rls.ints⟩
theorem Rls.set : ∀ {ds : List D} {vs : List V} {d : D} {v : V} (i : Nat), Rls K H m ds vs → Rl K H m d v → Rls K H m (ds.set i d) (vs.set i v)
  | [], _, _, _, _, h, _ => by rw [Rls] at h; subst h; simp [Rls]
  | e :: ds, _, d, v, 0, h, g => by
    rw [Rls] at h
    obtain ⟨w, r, rfl, h1, h2⟩ := h
    show Rls K H m (d :: ds) (v :: r)
    rw [Rls]
    exact ⟨_, _, rfl, g, h2⟩
  | e :: ds, _, d, v, i + 1, h, g => by
    rw [Rls] at h
    obtain ⟨w, r, rfl, h1, h2⟩ := h
    show Rls K H m (e :: ds.set i d) (w :: r.set i v)
    rw [Rls]
    exact ⟨_, _, rfl, h1, h2.set i g⟩
theorem Rls.eraseIdx : ∀ {ds : List D} {vs : List V} (i : Nat), Rls K H m ds vs → Rls K H m (ds.eraseIdx i) (vs.eraseIdx i)
  | [], _, _, h => by rw [Rls] at h; subst h; simp [Rls]
  | e :: ds, _, 0, h => by
    rw [Rls] at h
    obtain ⟨w, r, rfl, h1, h2⟩ := h
    exact h2
  | e :: ds, _, i + 1, h => by
    rw [Rls] at h
    obtain ⟨w, r, rfl, h1, h2⟩ := h
    show Rls K H m (e :: ds.eraseIdx i) (w :: r.eraseIdx i)
    rw [Rls]
    exact ⟨_, _, rfl, h1, h2.eraseIdx i⟩
theorem Rfs.lookup {f : Str} {d : D} : ∀ {fs : List (Str × D)} {gs : List (Str × V)}, Rfs K H m fs gs → fs.lookup f = some d → ∃ v, gs.lookup f = some v ∧ Rl K H m d v
  | [], _, h, q => by simp at q
  | (g, e) :: fs, _, h, q => by
    obtain ⟨v, r, rfl, h1, h2⟩ := h
    rw [List.lookup_cons] at q ⊢
    by_cases z : f == g
    · simp [z] at q ⊢; subst q; exact h1
    · simp [z] at q ⊢; exact h2.lookup q
theorem Rfs.length : ∀ {fs : List (Str × D)} {gs : List (Str × V)}, Rfs K H m fs gs → fs.length = gs.length
  | [], _, h => by cases h; rfl
  | (g, e) :: fs, _, h => by
    obtain ⟨v, r, rfl, h1, h2⟩ := h
    simp [h2.length]
end
end CI

/-! H1: the head's Hook: constants and dicts of the module's top -/
namespace CI
open PySem PySem.Spec PyProof.Rows L2
/-! ### constants of the module: ints, texts, None, truth values, tuples of such -/
mutual
def cv (K : PySem.W.Frag) : D → Value → Bool
  | .non, .none => true
  | .bl b, .bool c => b == c
  | .int i, .int j _ => decide (i = j)
  | .str x, .str y _ => decide (x = y)
  | .tup ds, .ref a => match K.lookup a with
    | some ⟨.type c, _, .seq its _, _⟩ => decide (c = "tuple") && (decide (its.size ≤ sizeLine) && cvs K ds its.toList)
    | _ => false
  | _, _ => false
def cvs (K : PySem.W.Frag) : List D → List Value → Bool
  | [], [] => true
  | d :: ds, v :: vs => cv K d v && cvs K ds vs
  | _, _ => false
end
mutual
theorem cv_ok {K : PySem.W.Frag} : ∀ {d : D} {v : Value}, cv K d v = true → ∃ x, RelV x v ∧ ∀ H m, Rl K H m d x
  | .non, v, h => by
    cases v <;> first | (simp [cv] at h; done) | exact ⟨.non, rfl, fun _ _ => by rw [Rl]⟩
  | .bl b, v, h => by
    cases v <;> first | (simp [cv] at h; done) | (simp [cv] at h; subst h; exact ⟨.bl b, rfl, fun _ _ => by rw [Rl]⟩)
  | .int b, v, h => by
    cases v <;> first | (simp [cv] at h; done) | (simp [cv] at h; subst h; exact ⟨.int b, ⟨_, rfl⟩, fun _ _ => by rw [Rl]⟩)
  | .str b, v, h => by
    cases v <;> first | (simp [cv] at h; done) | (simp [cv] at h; subst h; exact ⟨.str b, ⟨_, rfl⟩, fun _ _ => by rw [Rl]⟩)
  | .tup ds, v, h => by
    cases v with
    | ref a =>
      rw [cv] at h
      split at h
      · rename_i c dd its n sl hk
        rw [Bool.and_eq_true, Bool.and_eq_true] at h
        obtain ⟨h1, h2, h3⟩ := h
        obtain ⟨vs, r1, r2⟩ := cvs_ok h3
        refine ⟨.ref a, rfl, fun H m => ?_⟩
        rw [Rl]
        exact ⟨a, vs, rfl, .inr ⟨_, its, n, hk, congrArg Value.type (of_decide_eq_true h1), rfl, of_decide_eq_true h2, r1⟩, r2 H m⟩
      · cases h
    | _ => simp [cv] at h
  | .lst _, v, h => by cases v <;> simp [cv] at h
  | .scr _, v, h => by cases v <;> simp [cv] at h
  | .loc _, v, h => by cases v <;> simp [cv] at h
theorem cvs_ok {K : PySem.W.Frag} : ∀ {ds : List D} {vs : List Value}, cvs K ds vs = true → ∃ xs, Vals xs vs ∧ ∀ H m, Rls K H m ds xs
  | [], vs, h => by
    cases vs with
    | nil => exact ⟨[], .nil, fun _ _ => by rw [Rls]⟩
    | cons _ _ => simp [cvs] at h
  | d :: ds, vs, h => by
    cases vs with
    | nil => simp [cvs] at h
    | cons v vs =>
      rw [cvs, Bool.and_eq_true] at h
      obtain ⟨x, r1, r2⟩ := cv_ok h.1
      obtain ⟨xs, s1, s2⟩ := cvs_ok h.2
      exact ⟨x :: xs, .cons r1 s1, fun H m => by rw [Rls]; exact ⟨_, _, rfl, r2 H m, s2 H m⟩⟩
end
def cName (K : PySem.W.Frag) (x : Str) (d : D) : Bool := match PySem.W.nsIn K mainGlobals x with
  | some (some v) => cv K d v
  | _ => false
/-! ### own exception classes -/
def oexB (K : PySem.W.Frag) (C : Addr) : Bool := (match K.lookup C with
  | some ⟨.type c, _, .cls cd, sl⟩ => (match cd.mro, sl.toList with
    | .ref C' :: bm, [_, _, _, _, some (.builtin n), _] => decide (c = "type") && (C' == C && (decide (n = "ValueError.__new__") && (!cd.hasDel && (cd.hasDict && PySem.HandSPX.refsVE bm))))
    | _, _ => false)
  | _ => false) && (decide (PySem.W.findIn K (.ref C) "__setattr__" = some (some (.builtin "object.__setattr__"))) && (decide (PySem.W.subIn K (.ref C) (.type "BaseException") = some true) &&
    (decide (PySem.W.typeIn K (.ref C) = some (.type "type")) && PySem.W.keepIn K (.ref C))))
theorem oexB_ok {K : PySem.W.Frag} {C : Addr} (h : oexB K C = true) : OexC K C := by
  unfold oexB at h
  rw [Bool.and_eq_true, Bool.and_eq_true, Bool.and_eq_true, Bool.and_eq_true] at h
  obtain ⟨h0, h1, h2, h3, h4⟩ := h
  refine ⟨?_, of_decide_eq_true h1, of_decide_eq_true h2, of_decide_eq_true h3, h4⟩
  split at h0
  · rename_i c dd cd sl ho
    split at h0
    · rename_i C' bm k0 k1 k2 k3 n k5 hm hs
      simp only [Bool.and_eq_true, beq_iff_eq, Bool.not_eq_true', decide_eq_true_eq] at h0
      obtain ⟨rfl, rfl, rfl, hdel, hdict, ht⟩ := h0
      obtain ⟨nm, bs, mro, ns, qn, hd, sn, sub, ab, col, del⟩ := cd
      dsimp only at hm hdel hdict
      subst hm hdel hdict
      have hsl : sl = #[k0, k1, k2, k3, some (.builtin "ValueError.__new__"), k5] := by
        obtain ⟨l⟩ := sl
        simp only at hs
        rw [hs]
      subst hsl
      exact ⟨nm, qn, ns, bs, bm, sn, sub, ab, col, dd, k0, k1, k2, k3, k5, ho, ht⟩
    · cases h0
  · cases h0
/-- the own exception class c whose __init__ stores the field f -/
structure ExcF (K : PySem.W.Frag) (c f : Str) : Prop where
  oex : OexC K (He.ga K c)
  xf : XfC K (He.ga K c)
  iC : PySem.W.findIn K (.ref (He.ga K c)) "__init__" = some (some (.ref (He.fAd K (c, some "__init__"))))
  tI : PySem.W.typeIn K (.ref (He.fAd K (c, some "__init__"))) = some (.type "function")
  no : PySem.W.findIn K (.ref (He.ga K c)) f = some none
  ex : PySem.W.exmOne K (.ref (He.ga K c)) (.ref (He.ga K c)) = some true
  glo : PySem.W.nsIn K mainGlobals c = some (some (.ref (He.ga K c)))
def excB (K : PySem.W.Frag) (c f : Str) : Bool := oexB K (He.ga K c) && (xfB K (He.ga K c) && (decide (PySem.W.findIn K (.ref (He.ga K c)) "__init__" = some (some (.ref (He.fAd K (c, some "__init__"))))) &&
  (decide (PySem.W.typeIn K (.ref (He.fAd K (c, some "__init__"))) = some (.type "function")) && (decide (PySem.W.findIn K (.ref (He.ga K c)) f = some none) &&
    (decide (PySem.W.exmOne K (.ref (He.ga K c)) (.ref (He.ga K c)) = some true) && decide (PySem.W.nsIn K mainGlobals c = some (some (.ref (He.ga K c)))))))))
theorem excB_ok {K : PySem.W.Frag} {c f : Str} (h : excB K c f = true) : ExcF K c f := by
  unfold excB at h
  simp only [Bool.and_eq_true, decide_eq_true_eq] at h
  obtain ⟨h1, h2, h3, h4, h5, h6, h7⟩ := h
  exact ⟨oexB_ok h1, xfB_ok h2, h3, h4, h5, h6, h7⟩
def isEx : D → Option Str
  | .tup [.str t, .str f] => if t = "!exc" then some f else none
  | _ => none
def cOne (K : PySem.W.Frag) (x : Str) (d : D) : Bool := match isEx d with
  | some f => excB K x f
  | none => cName K x d
/-! ### the head's Hook with such constants -/
abbrev Cst : Type := List (Str × D)
def csB (cs : Cst) (K : PySem.W.Frag) : Bool := cs.all fun q => cOne K q.1 q.2
abbrev AlC : Type := He.AlD × Bool
def SaysC (fa : List He.Fa) (fn : List He.DefD) (cs : Cst) (K : PySem.W.Frag) : Prop := He.SaysD fa fn K ∧ csB cs K = true
def obsC (n : Nat) (fa : List He.Fa) (fn : List He.DefD) (cs : Cst) (g : Addr → Option Obj) : AlC := (He.obsD fa fn (He.frG g (He.asD g n)), csB cs (He.frG g (He.asD g n)))
theorem SaysC.fact {fa : List He.Fa} {fn : List He.DefD} {cs : Cst} {K : PySem.W.Frag} (c : SaysC fa fn cs K) (i : Nat) {f : He.Fa} (h : fa[i]? = some f := by rfl) : f.ok K = true := c.1.fact i h
theorem SaysC.def_ {fa : List He.Fa} {fn : List He.DefD} {cs : Cst} {K : PySem.W.Frag} (c : SaysC fa fn cs K) (i : Nat) {d : He.DefD} (h : fn[i]? = some d := by rfl) : ∃ fd, FunD K d.name d.qual d.params d.body d.scope (d.dvs K) (d.kws K) (He.fAd K d.at_) fd := c.1.def_ i h
theorem SaysC.exc {fa : List He.Fa} {fn : List He.DefD} {cs : Cst} {K : PySem.W.Frag} (c : SaysC fa fn cs K) (i : Nat) {q : Str × D} {f : Str} (h : cs[i]? = some q := by rfl) (hx : isEx q.2 = some f := by rfl) : ExcF K q.1 f := by
  have z := List.all_eq_true.mp c.2 q (List.mem_of_getElem? h)
  unfold cOne at z
  rw [hx] at z
  exact excB_ok z
/-- the entries of the object are these pairs -/
def Ents (K : PySem.W.Frag) (w : World) : List DictEntry → List (Key × D) → Prop
  | [], [] => True
  | e :: es, p :: ps => (keyIs p.1 e.key = true ∧ e.hash = keyH w p.1 ∧ cv K p.2 e.val = true) ∧ Ents K w es ps
  | _, _ => False
def WD (K : PySem.W.Frag) (w : World) (a : Addr) (kvs : List (Key × D)) : Prop := ∃ es n, K.lookup a = some ⟨.type "dict", none, .dict es n, #[]⟩ ∧ (a == sysModules) = false ∧ Ents K w es.toList kvs
/-! ### the head's Hook with written dicts -/
abbrev Dst : Type := List (Str × List (Key × D))
def keyE (e : DictEntry) : Option (Key × Int) := match e.key with
  | .int i _ => some (.inl i, e.hash)
  | .str x _ => some (.inr x, e.hash)
  | _ => none
def cvE (K : PySem.W.Frag) : List DictEntry → List (Key × D) → Bool
  | [], [] => true
  | e :: es, p :: ps => cv K p.2 e.val && cvE K es ps
  | _, _ => false
def dObs (K : PySem.W.Frag) (q : Str × List (Key × D)) : Option (List (Option (Key × Int))) := match PySem.W.nsIn K mainGlobals q.1 with
  | some (some (.ref a)) => (match K.lookup a with
    | some ⟨.type c, none, .dict es _, sl⟩ => (match decide (c = "dict") && (sl.isEmpty && (!(a == sysModules) && cvE K es.toList q.2)) with
      | true => some (es.toList.map keyE)
      | false => none)
    | _ => none)
  | _ => none
def dVal (w : World) (q : Str × List (Key × D)) : Option (List (Option (Key × Int))) := some (q.2.map fun p => some (p.1, keyH w p.1))
def DOk (K : PySem.W.Frag) (w : World) (q : Str × List (Key × D)) : Prop := ∃ a, PySem.W.nsIn K mainGlobals q.1 = some (some (.ref a)) ∧ WD K w a q.2
theorem ents_of {K : PySem.W.Frag} {w : World} : ∀ {es : List DictEntry} {ps : List (Key × D)}, cvE K es ps = true → es.map keyE = ps.map (fun p => some (p.1, keyH w p.1)) → Ents K w es ps
  | [], [], _, _ => trivial
  | [], _ :: _, h, _ => by cases h
  | _ :: _, [], h, _ => by cases h
  | e :: es, p :: ps, h, h2 => by
    rw [cvE, Bool.and_eq_true] at h
    rw [List.map_cons, List.map_cons] at h2
    injection h2 with h3 h4
    refine ⟨?_, ents_of h.2 h4⟩
    obtain ⟨p1, p2⟩ := p
    unfold keyE at h3
    split at h3
    · rename_i i t q
      obtain ⟨h5, h6⟩ := Prod.mk.inj (Option.some.inj h3)
      have h5 : p1 = .inl i := h5.symm
      subst h5
      exact ⟨by rw [q]; exact keyIs_int _ _, h6, h.1⟩
    · rename_i x t q
      obtain ⟨h5, h6⟩ := Prod.mk.inj (Option.some.inj h3)
      have h5 : p1 = .inr x := h5.symm
      subst h5
      exact ⟨by rw [q]; exact keyIs_str _ _, h6, h.1⟩
    · cases h3
theorem dOk_of {K : PySem.W.Frag} {w : World} {q : Str × List (Key × D)} (h : dObs K q = dVal w q) : DOk K w q := by
  unfold dObs dVal at h
  split at h
  · rename_i a ha
    split at h
    · rename_i c es n sl hl
      split at h
      · rename_i hb
        simp only [Bool.and_eq_true, decide_eq_true_eq] at hb
        obtain ⟨rfl, h1, h2, h3⟩ := hb
        injection h with h
        have : sl = #[] := by simpa using h1
        subst this
        exact ⟨a, ha, es, n, hl, by simpa using h2, ents_of h3 h⟩
      · cases h
    · cases h
  · cases h
abbrev AlE : Type := AlC × List (Option (List (Option (Key × Int))))
def SaysE (fa : List He.Fa) (fn : List He.DefD) (cs : Cst) (ds : Dst) (K : PySem.W.Frag) (w : World) : Prop := SaysC fa fn cs K ∧ ∀ q ∈ ds, DOk K w q
def obsE (n : Nat) (fa : List He.Fa) (fn : List He.DefD) (cs : Cst) (ds : Dst) (g : Addr → Option Obj) : AlE := (obsC n fa fn cs g, ds.map (dObs (He.frG g (He.asD g n))))
theorem dOk_all {K : PySem.W.Frag} {w : World} : ∀ {ds : Dst}, ds.map (dObs K) = ds.map (dVal w) → ∀ q ∈ ds, DOk K w q
  | [], _, _, h => nomatch h
  | p :: ds, e, q, h => by
    rw [List.map_cons, List.map_cons] at e
    injection e with e1 e2
    rcases List.mem_cons.mp h with rfl | z
    · exact dOk_of e1
    · exact dOk_all e2 q z
def hookE (n : Nat) (fa : List He.Fa) (fn : List He.DefD) (cs : Cst) (ds : Dst) : PySem.W.Hook where
  α := AlE
  obs := fun s => obsE n fa fn cs ds s.heap.get?
  val := fun w => ((He.valD fn, true), ds.map (dVal w))
  says := fun w h => ∃ K : PySem.W.Frag, K.In h ∧ SaysE fa fn cs ds K w
  of := fun w _ e => ⟨_, He.frG_in, ⟨congrArg (fun z : AlE => z.1.1) e, congrArg (fun z : AlE => z.1.2) e⟩, dOk_all (congrArg (fun z : AlE => z.2) e)⟩
  keeps := fun _ _ _ ⟨K, hK, c⟩ k => ⟨K, PySem.W.Frag.In.keeps hK k, c⟩
theorem obsE_eq {n : Nat} {fa : List He.Fa} {fn : List He.DefD} {cs : Cst} {ds : Dst} {g : Addr → Option Obj} {s : Shared} (h : ∀ a, g a = s.heap.get? a) : obsE n fa fn cs ds g = (hookE n fa fn cs ds).obs s := by
  have e : g = s.heap.get? := funext h
  subst e; rfl
section
variable {fa : List He.Fa} {fn : List He.DefD} {cs : Cst} {ds : Dst} {K : PySem.W.Frag} {w : World}
theorem SaysE.fact (c : SaysE fa fn cs ds K w) (i : Nat) {f : He.Fa} (h : fa[i]? = some f := by rfl) : f.ok K = true := c.1.fact i h
theorem SaysE.def_ (c : SaysE fa fn cs ds K w) (i : Nat) {d : He.DefD} (h : fn[i]? = some d := by rfl) : ∃ fd, FunD K d.name d.qual d.params d.body d.scope (d.dvs K) (d.kws K) (He.fAd K d.at_) fd := c.1.def_ i h
theorem SaysE.exc (c : SaysE fa fn cs ds K w) (i : Nat) {q : Str × D} {f : Str} (h : cs[i]? = some q := by rfl) (hx : isEx q.2 = some f := by rfl) : ExcF K q.1 f := c.1.exc i h hx
theorem SaysE.dct {hp : Heap} {mg : Str → Option Value} (X : K.In hp) (G : hp.Ns mainGlobals mg) (c : SaysE fa fn cs ds K w) (i : Nat) {q : Str × List (Key × D)} (h : ds[i]? = some q := by rfl) : ∃ a, mg q.1 = some (.ref a) ∧ WD K w a q.2 := by
  obtain ⟨a, h1, h2⟩ := c.2 q (List.mem_of_getElem? h)
  exact ⟨a, PySem.W.mg_of X G h1, h2⟩
end
def ffT (b : Bool) (f : String → Bool) : String → Bool := fun s => if s = "special-get-raises" then b else f s
def wT (b : Bool) (w : World) : World := { w with params := { w.params with followText := ffT b w.params.followText } }
theorem wT_eq (w : World) : w = wT (w.params.followText "special-get-raises") w := by
  have e : ffT (w.params.followText "special-get-raises") w.params.followText = w.params.followText := by
    funext s
    unfold ffT
    split
    · rename_i h; rw [h]
    · rfl
  unfold wT
  rw [e]
end CI

namespace K00
open PySem PySem.Spec PyProof.Rows L2 CI
def top (i : Nat) : Stmt := PySem.Challenge.pw_fardesk_k00_screens_styles.main.body.getD i (.Pass ⟨0, 0, 0, 0⟩)
abbrev s_z10 : Stmt := top 1
def d_z10 : He.DefD := ⟨("digits", none), "digits", "digits", defArgs s_z10, defBody s_z10, defScope s_z10, [], []⟩
abbrev s_z0 : Stmt := top 4
def d_z0 : He.DefD := ⟨("kind_of_number", none), "kind_of_number", "kind_of_number", defArgs s_z0, defBody s_z0, defScope s_z0, [], []⟩
abbrev s_z9 : Stmt := top 5
def d_z9 : He.DefD := ⟨("is_style", none), "is_style", "is_style", defArgs s_z9, defBody s_z9, defScope s_z9, [], []⟩
abbrev s_z2 : Stmt := top 6
def d_z2 : He.DefD := ⟨("without_kind", none), "without_kind", "without_kind", defArgs s_z2, defBody s_z2, defScope s_z2, [], []⟩
abbrev s_z12 : Stmt := top 7
def d_z12 : He.DefD := ⟨("styled", none), "styled", "styled", defArgs s_z12, defBody s_z12, defScope s_z12, [], []⟩
abbrev s_z11 : Stmt := top 8
def d_z11 : He.DefD := ⟨("turned", none), "turned", "turned", defArgs s_z11, defBody s_z11, defScope s_z11, [], []⟩
abbrev s_z5 : Stmt := top 9
def d_z5 : He.DefD := ⟨("style_text", none), "style_text", "style_text", defArgs s_z5, defBody s_z5, defScope s_z5, [], []⟩
abbrev s_z6 : Stmt := top 12
def d_z6 : He.DefD := ⟨("_law_draws", none), "_law_draws", "_law_draws", defArgs s_z6, defBody s_z6, defScope s_z6, [], []⟩
abbrev s_z4 : Stmt := top 13
def d_z4 : He.DefD := ⟨("_law_digits", none), "_law_digits", "_law_digits", defArgs s_z4, defBody s_z4, defScope s_z4, [], []⟩
abbrev s_z8 : Stmt := top 14
def d_z8 : He.DefD := ⟨("_law_kind", none), "_law_kind", "_law_kind", defArgs s_z8, defBody s_z8, defScope s_z8, [], []⟩
abbrev s_z3 : Stmt := top 15
def d_z3 : He.DefD := ⟨("_law_number", none), "_law_number", "_law_number", defArgs s_z3, defBody s_z3, defScope s_z3, [], []⟩
abbrev s_z1 : Stmt := top 16
def d_z1 : He.DefD := ⟨("_law_is_style", none), "_law_is_style", "_law_is_style", defArgs s_z1, defBody s_z1, defScope s_z1, [], []⟩
abbrev s_law : Stmt := top 17
def d_law : He.DefD := ⟨("law", none), "law", "law", defArgs s_law, defBody s_law, defScope s_law, [], []⟩
def fn : List He.DefD := [d_z10, d_z0, d_z9, d_z2, d_z12, d_z11, d_z5, d_z6, d_z4, d_z8, d_z3, d_z1, d_law]
def fa : List He.Fa := ([.glo "digits", .glo "kind_of_number", .glo "is_style", .glo "without_kind", .glo "styled", .glo "turned", .glo "style_text", .glo "_law_cell", .glo "_law_draws", .glo "_law_digits", .glo "_law_kind", .glo "_law_number", .glo "_law_is_style", .glo "law", .free "len", .free "int", .free "tuple", .free "sorted", .free "str", .free "ord", .free "range", .free "enumerate"] : List He.Fa)
def cs : Cst := []
def ds : Dst := [("REMOVED", [(Sum.inl (22), (.str "bold")), (Sum.inl (24), (.str "underlined")), (Sum.inl (27), (.str "inverse")), (Sum.inl (39), (.str "foreground")), (Sum.inl (49), (.str "background"))])]
abbrev R : PySem.W.OpenRow := PySem.W.OpenLaw.row PySem.Challenge.rw_fardesk_k00_screens_styles
abbrev hk : PySem.W.Hook := hookE 4 fa fn cs ds
def ob (s : PySem.W.SharedT) : AlE := obsE 4 fa fn cs ds (HandSHeadRun.getT s)
theorem ob_eq (s : PySem.W.SharedT) : ob s = hk.obs s.abs := obsE_eq (HandSHeadRun.getT_eq s)
def loose : List Str := (["digits", "REMOVED", "kind_of_number", "is_style", "without_kind", "styled", "turned", "style_text", "_law_cell", "_law_draws", "_law_digits", "_law_kind", "_law_number", "_law_is_style"] : List PySem.Str)
theorem cut_run (w : World) (h1 : ∀ os : PySem.OsState, (HandSHeadRun.endF (HandSHeadRun.stepQ (HandSHeadRun.denQ HandSHeadRun.tabQ) R.prog w) 20000 R.prog w os).map (fun s => (HandSHeadRun.looksF R.prog (PySem.W.boot_heap w.params) s.abs, HandSHeadRun.seenQ (PySem.W.view R.prog [17]) loose (PySem.importedModules R.prog.main.body) (fun s => PySem.W.xlAt (PySem.W.view R.prog [17]) [] s && PySem.W.recOk R.toRowW.records s) s.abs)) = some (true, PySem.W.openGood (PySem.W.view R.prog [17]) loose)) (h2 : ∀ os : PySem.OsState, (HandSHeadRun.endF (HandSHeadRun.stepQ (HandSHeadRun.denQ HandSHeadRun.tabQ) R.prog w) 20000 R.prog w os).map (fun s => (fn.all (fun d => d.ok (He.frG (HandSHeadRun.getT s) (He.asD (HandSHeadRun.getT s) 4))), fn.map fun d => He.fnW (He.frG (HandSHeadRun.getT s) (He.asD (HandSHeadRun.getT s) 4)) d.at_)) = some (true, fn.map He.DefD.val)) (h3 : ∀ os : PySem.OsState, (HandSHeadRun.endF (HandSHeadRun.stepQ (HandSHeadRun.denQ HandSHeadRun.tabQ) R.prog w) 20000 R.prog w os).map (fun s => (fa.all (fun f => f.ok (He.frG (HandSHeadRun.getT s) (He.asD (HandSHeadRun.getT s) 4))), csB cs (He.frG (HandSHeadRun.getT s) (He.asD (HandSHeadRun.getT s) 4)), ds.map (dObs (He.frG (HandSHeadRun.getT s) (He.asD (HandSHeadRun.getT s) 4))))) = some (true, true, ds.map (dVal w))) : HandSHeadRun.RunEq R (PySem.W.view R.prog [17]) hk ob 20000 loose w := by
  intro os
  have h1 := h1 os
  have h2 := h2 os
  have h3 := h3 os
  show (HandSHeadRun.endF (HandSHeadRun.stepQ (HandSHeadRun.denQ HandSHeadRun.tabQ) R.prog w) 20000 R.prog w os).map _ = _
  generalize HandSHeadRun.endF (HandSHeadRun.stepQ (HandSHeadRun.denQ HandSHeadRun.tabQ) R.prog w) 20000 R.prog w os = Y at *
  cases Y with
  | none => cases h1
  | some s =>
    have h1 := Option.some.inj h1
    have h2 := Option.some.inj h2
    have h3 := Option.some.inj h3
    have a := congrArg Prod.fst h1
    have b := congrArg Prod.snd h1
    refine congrArg some (Prod.ext a (Prod.ext b ?_))
    have c1 := congrArg Prod.fst h2
    have c2 := congrArg Prod.snd h2
    have d1 := congrArg Prod.fst h3
    have d2 := congrArg (fun z => z.2.1) h3
    have d3 := congrArg (fun z => z.2.2) h3
    have e : (fa.all (fun f => f.ok (He.frG (HandSHeadRun.getT s) (He.asD (HandSHeadRun.getT s) 4))) && fn.all (fun d => d.ok (He.frG (HandSHeadRun.getT s) (He.asD (HandSHeadRun.getT s) 4)))) = true := Bool.and_eq_true_iff.mpr ⟨d1, c1⟩
    exact Prod.ext (Prod.ext (Prod.ext e c2) d2) d3
theorem runT1 (w : World) : ∀ os : PySem.OsState, (HandSHeadRun.endF (HandSHeadRun.stepQ (HandSHeadRun.denQ HandSHeadRun.tabQ) R.prog (wT true w)) 20000 R.prog (wT true w) os).map (fun s => (HandSHeadRun.looksF R.prog (PySem.W.boot_heap (wT true w).params) s.abs, HandSHeadRun.seenQ (PySem.W.view R.prog [17]) loose (PySem.importedModules R.prog.main.body) (fun s => PySem.W.xlAt (PySem.W.view R.prog [17]) [] s && PySem.W.recOk R.toRowW.records s) s.abs)) = some (true, PySem.W.openGood (PySem.W.view R.prog [17]) loose) := by
  intro os
  kernel_rfl
theorem runT2 (w : World) : ∀ os : PySem.OsState, (HandSHeadRun.endF (HandSHeadRun.stepQ (HandSHeadRun.denQ HandSHeadRun.tabQ) R.prog (wT true w)) 20000 R.prog (wT true w) os).map (fun s => (fn.all (fun d => d.ok (He.frG (HandSHeadRun.getT s) (He.asD (HandSHeadRun.getT s) 4))), fn.map fun d => He.fnW (He.frG (HandSHeadRun.getT s) (He.asD (HandSHeadRun.getT s) 4)) d.at_)) = some (true, fn.map He.DefD.val) := by
  intro os
  kernel_rfl
theorem runT3 (w : World) : ∀ os : PySem.OsState, (HandSHeadRun.endF (HandSHeadRun.stepQ (HandSHeadRun.denQ HandSHeadRun.tabQ) R.prog (wT true w)) 20000 R.prog (wT true w) os).map (fun s => (fa.all (fun f => f.ok (He.frG (HandSHeadRun.getT s) (He.asD (HandSHeadRun.getT s) 4))), csB cs (He.frG (HandSHeadRun.getT s) (He.asD (HandSHeadRun.getT s) 4)), ds.map (dObs (He.frG (HandSHeadRun.getT s) (He.asD (HandSHeadRun.getT s) 4))))) = some (true, true, ds.map (dVal (wT true w))) := by
  intro os
  kernel_rfl
theorem runT (w : World) : HandSHeadRun.RunEq R (PySem.W.view R.prog [17]) hk ob 20000 loose (wT true w) := cut_run _ (runT1 w) (runT2 w) (runT3 w)
theorem runF1 (w : World) : ∀ os : PySem.OsState, (HandSHeadRun.endF (HandSHeadRun.stepQ (HandSHeadRun.denQ HandSHeadRun.tabQ) R.prog (wT false w)) 20000 R.prog (wT false w) os).map (fun s => (HandSHeadRun.looksF R.prog (PySem.W.boot_heap (wT false w).params) s.abs, HandSHeadRun.seenQ (PySem.W.view R.prog [17]) loose (PySem.importedModules R.prog.main.body) (fun s => PySem.W.xlAt (PySem.W.view R.prog [17]) [] s && PySem.W.recOk R.toRowW.records s) s.abs)) = some (true, PySem.W.openGood (PySem.W.view R.prog [17]) loose) := by
  intro os
  kernel_rfl
theorem runF2 (w : World) : ∀ os : PySem.OsState, (HandSHeadRun.endF (HandSHeadRun.stepQ (HandSHeadRun.denQ HandSHeadRun.tabQ) R.prog (wT false w)) 20000 R.prog (wT false w) os).map (fun s => (fn.all (fun d => d.ok (He.frG (HandSHeadRun.getT s) (He.asD (HandSHeadRun.getT s) 4))), fn.map fun d => He.fnW (He.frG (HandSHeadRun.getT s) (He.asD (HandSHeadRun.getT s) 4)) d.at_)) = some (true, fn.map He.DefD.val) := by
  intro os
  kernel_rfl
theorem runF3 (w : World) : ∀ os : PySem.OsState, (HandSHeadRun.endF (HandSHeadRun.stepQ (HandSHeadRun.denQ HandSHeadRun.tabQ) R.prog (wT false w)) 20000 R.prog (wT false w) os).map (fun s => (fa.all (fun f => f.ok (He.frG (HandSHeadRun.getT s) (He.asD (HandSHeadRun.getT s) 4))), csB cs (He.frG (HandSHeadRun.getT s) (He.asD (HandSHeadRun.getT s) 4)), ds.map (dObs (He.frG (HandSHeadRun.getT s) (He.asD (HandSHeadRun.getT s) 4))))) = some (true, true, ds.map (dVal (wT false w))) := by
  intro os
  kernel_rfl
theorem runF (w : World) : HandSHeadRun.RunEq R (PySem.W.view R.prog [17]) hk ob 20000 loose (wT false w) := cut_run _ (runF1 w) (runF2 w) (runF3 w)
theorem run (w : World) : HandSHeadRun.RunEq R (PySem.W.view R.prog [17]) hk ob 20000 loose w := by
  rw [wT_eq w]
  cases w.params.followText "special-get-raises"
  · exact runF w
  · exact runT w
end K00
/-! Ci2: readings of expressions -/
namespace CI
open PySem PySem.Spec PyProof.Rows L2

abbrev Ef := Slots → Mem → Option (Rz × Mem)
abbrev Tf := Slots → Mem → Option (Bool × Mem)
abbrev Af := Slots → Mem → Option (List D × Mem)

def Post (K : PySem.W.Frag) (H : Hp) (m : List Addr) (r : Rz) (M' : Mem) (Q : VK) : Prop := ∀ H1 m1, Ext H m H1 m1 → Wd K H1 m1 M' → match r with
  | .val d => ∀ v, Rl K H1 m1 d v → Q v H1
  | .new ds => ∀ vs a, Rls K H1 m1 ds vs → H1 a = none → Q (.ref a) (upd H1 a (.lst vs))
def tE (K : PySem.W.Frag) (f : Ef) : TE := fun σ H Q => ∃ ρ M m r M', Rs K H m ρ σ ∧ Wd K H m M ∧ f ρ M = some (r, M') ∧ Post K H m r M' Q
def tT (K : PySem.W.Frag) (f : Tf) : TT := fun σ H Q => ∃ ρ M m b M', Rs K H m ρ σ ∧ Wd K H m M ∧ f ρ M = some (b, M') ∧ ∀ H1 m1, Ext H m H1 m1 → Wd K H1 m1 M' → Q b H1
def tA (K : PySem.W.Frag) (f : Af) : TA := fun σ H Q => ∃ ρ M m ds M', Rs K H m ρ σ ∧ Wd K H m M ∧ f ρ M = some (ds, M') ∧ ∀ H1 m1 vs, Ext H m H1 m1 → Wd K H1 m1 M' → Rls K H1 m1 ds vs → Q vs H1
abbrev CEx (X : Cx) (e : Expr) (f : Ef) : Prop := PE X e (tE X.K f)
abbrev CTx (X : Cx) (e : Expr) (f : Tf) : Prop := PT X e (tT X.K f)
abbrev CWx (X : Cx) (e : Expr) (f : Tf) : Prop := PW X e (tT X.K f)
abbrev CAx (X : Cx) (es : List Expr) (f : Af) : Prop := PA X es (tA X.K f)

theorem PE.imp {X : Cx} {e : Expr} {t t' : TE} (h : PE X e t) (i : ∀ σ H Q, t' σ H Q → t σ H Q) : PE X e t' := ⟨fun pins s σ H Q I q => h.run pins s σ H Q I (i σ H Q q)⟩
theorem PT.imp {X : Cx} {e : Expr} {t t' : TT} (h : PT X e t) (i : ∀ σ H Q, t' σ H Q → t σ H Q) : PT X e t' := ⟨fun pins s σ H Q I q => h.run pins s σ H Q I (i σ H Q q)⟩
theorem PW.imp {X : Cx} {e : Expr} {t t' : TT} (h : PW X e t) (i : ∀ σ H Q, t' σ H Q → t σ H Q) : PW X e t' := ⟨fun w pins s σ H Q I q => h.run w pins s σ H Q I (i σ H Q q)⟩
theorem PA.imp {X : Cx} {es : List Expr} {t t' : TA} (h : PA X es t) (i : ∀ σ H Q, t' σ H Q → t σ H Q) : PA X es t' := ⟨fun p pins s σ H Q I q => h.run p pins s σ H Q I (i σ H Q q)⟩
theorem PE.or {X : Cx} {e : Expr} {t t' : TE} (h : PE X e t) (h' : PE X e t') : PE X e (fun σ H Q => t σ H Q ∨ t' σ H Q) :=
  ⟨fun pins s σ H Q I q => q.elim (h.run pins s σ H Q I) (h'.run pins s σ H Q I)⟩

section
variable {K : PySem.W.Frag} {H H1 H2 : Hp} {m m1 m2 : List Addr} {M M1 M2 : Mem} {Q : VK} {r : Rz}
theorem Post.use (P : ∀ H1 m1 v, Ext H m H1 m1 → Wd K H1 m1 M1 → Rl K H1 m1 r.d v → Q v H1) : Post K H m r M1 Q := by
  intro H1 m1 e w
  cases r with
  | val d => exact fun v r => P H1 m1 v e w r
  | new ds =>
    intro vs a r n
    have e2 : Ext H1 m1 (upd H1 a (.lst vs)) m1 := .new n
    refine P _ m1 _ (e.trans e2) (w.new n) ?_
    show Rl K _ m1 (.lst ds) _
    rw [Rl]
    exact ⟨a, vs, rfl, w.fresh n, upd_same, r.ext e2⟩
theorem Post.ext (P : Post K H m r M1 Q) (e : Ext H m H2 m2) : Post K H2 m2 r M1 Q := fun H1 m1 e1 w => P H1 m1 (e.trans e1) w
theorem Post.val {d : D} {v : V} (P : Post K H m (.val d) M1 Q) (w : Wd K H m M1) (r : Rl K H m d v) : Q v H := P H m .refl w v r
theorem Post.new {ds : List D} {vs : List V} (P : Post K H m (.new ds) M1 Q) (w : Wd K H m M1) (r : Rls K H m ds vs) : ∀ p, H p = none → Q (.ref p) (upd H p (.lst vs)) :=
  fun p n => P H m .refl w vs p r n
theorem Post.tup {ds : List D} {vs : List V} (P : Post K H m (.val (.tup ds)) M1 Q) (w : Wd K H m M1) (r : Rls K H m ds vs) : ∀ p, H p = none → Q (.ref p) (upd H p (.tup vs)) :=
  fun p n => P _ m (.new n) (w.new n) _ (by rw [Rl]; exact ⟨p, vs, rfl, .of upd_same, r.ext (.new n)⟩)
theorem bindE {f : Ef} {ρ : Slots} {σ : L2.St} (rs : Rs K H m ρ σ) (w : Wd K H m M) (h : f ρ M = some (r, M1))
    (P : ∀ H1 m1 v, Ext H m H1 m1 → Wd K H1 m1 M1 → Rs K H1 m1 ρ σ → Rl K H1 m1 r.d v → Q v H1) : tE K f σ H Q :=
  ⟨ρ, M, m, r, M1, rs, w, h, Post.use fun H1 m1 v e w' r' => P H1 m1 v e w' (rs.ext e) r'⟩
theorem bindT {f : Tf} {ρ : Slots} {σ : L2.St} {b : Bool} {Q : Bool → Hp → Prop} (rs : Rs K H m ρ σ) (w : Wd K H m M) (h : f ρ M = some (b, M1))
    (P : ∀ H1 m1, Ext H m H1 m1 → Wd K H1 m1 M1 → Rs K H1 m1 ρ σ → Q b H1) : tT K f σ H Q :=
  ⟨ρ, M, m, b, M1, rs, w, h, fun H1 m1 e w' => P H1 m1 e w' (rs.ext e)⟩
theorem bindA {f : Af} {ρ : Slots} {σ : L2.St} {ds : List D} {Q : List V → Hp → Prop} (rs : Rs K H m ρ σ) (w : Wd K H m M) (h : f ρ M = some (ds, M1))
    (P : ∀ H1 m1 vs, Ext H m H1 m1 → Wd K H1 m1 M1 → Rs K H1 m1 ρ σ → Rls K H1 m1 ds vs → Q vs H1) : tA K f σ H Q :=
  ⟨ρ, M, m, ds, M1, rs, w, h, fun H1 m1 vs e w' r' => P H1 m1 vs e w' (rs.ext e) r'⟩
end

/-! ### names and constants -/
def slot (ρ : Slots) (i : Nat) : Option D := ρ.getD i none
def cVar (i : Nat) : Ef := fun ρ M => (slot ρ i).bind fun d => some (.val d, M)
def cVal (d : D) : Ef := fun _ M => some (.val d, M)
abbrev cInt (i : Int) : Ef := cVal (.int i)
abbrev cBl (b : Bool) : Ef := cVal (.bl b)
abbrev cStr (x : Str) : Ef := cVal (.str x)
theorem slot_some {ρ : Slots} {i : Nat} {d : D} (h : slot ρ i = some d) : ρ[i]? = some (some d) := by
  unfold slot at h
  rw [List.getD_eq_getElem?_getD] at h
  cases q : ρ[i]? with
  | none => rw [q] at h; cases h
  | some o => rw [q] at h; simp at h; rw [h]
section
variable {X : Cx}
theorem ce_var {e : Expr} {i : Nat} (h : PE X e (tVar i)) : CEx X e (cVar i) := PE.imp h fun σ H Q ⟨ρ, M, m, r, M', rs, w, hf, P⟩ => by
  unfold cVar at hf
  cases q : slot ρ i with
  | none => rw [q] at hf; cases hf
  | some d =>
    rw [q] at hf
    cases hf
    obtain ⟨v, h1, h2⟩ := rs.2 i d (slot_some q)
    exact ⟨v, h1, P.val w h2⟩
theorem ce_val {e : Expr} {d : D} {v : V} (h : PE X e (tC v)) (hr : ∀ H m, Rl X.K H m d v) : CEx X e (cVal d) := PE.imp h fun σ H Q ⟨ρ, M, m, r, M', rs, w, hf, P⟩ => by
  cases hf
  exact P.val w (hr H m)
theorem ce_int {i : Int} {j pos} : CEx X (.Constant (.int i) j pos) (cInt i) := ce_val pe_int fun _ _ => by rw [Rl]
theorem ce_bl {b : Bool} {j pos} : CEx X (.Constant (.bool b) j pos) (cBl b) := ce_val pe_bl fun _ _ => by rw [Rl]
theorem ce_str {x : Str} {j pos} : CEx X (.Constant (.str x) j pos) (cStr x) := ce_val pe_str fun _ _ => by rw [Rl]
end

/-! ### operators -/
def Bop := D → D → Mem → Option Rz
def OpOk (X : Cx) (f : Value → Value → Sem Value) (o : Bop) : Prop := ∃ r : R2, OpR X f r ∧
  ∀ H m M d e x y z Q, Wd X.K H m M → Rl X.K H m d x → Rl X.K H m e y → o d e M = some z → Post X.K H m z M Q → r x y H Q
def cBin (o : Bop) (fa fb : Ef) : Ef := fun ρ M => (fa ρ M).bind fun p => (fb ρ p.2).bind fun q => (o p.1.d q.1.d q.2).bind fun r => some (r, q.2)
theorem bin_of {X : Cx} {o : Bop} {fa fb : Ef} {r : R2} (ho : ∀ H m M d e x y z Q, Wd X.K H m M → Rl X.K H m d x → Rl X.K H m e y → o d e M = some z → Post X.K H m z M Q → r x y H Q)
    {σ : L2.St} {H : Hp} {Q : VK} (h : tE X.K (cBin o fa fb) σ H Q) : tOp r (tE X.K fa) (tE X.K fb) σ H Q := by
  obtain ⟨ρ, M, m, z, M', rs, w, hf, P⟩ := h
  unfold cBin at hf
  cases ea : fa ρ M with
  | none => rw [ea] at hf; cases hf
  | some p =>
    rw [ea] at hf
    cases eb : fb ρ p.2 with
    | none => simp [eb] at hf
    | some q =>
      cases ec : o p.1.d q.1.d q.2 with
      | none => simp [eb, ec] at hf
      | some z' =>
        simp [eb, ec] at hf
        obtain ⟨rfl, rfl⟩ := hf
        refine bindE rs w ea fun H1 m1 v e1 w1 rs1 r1 => ?_
        refine bindE rs1 w1 eb fun H2 m2 u e2 w2 rs2 r2 => ?_
        exact ho H2 m2 q.2 _ _ v u _ Q w2 (r1.ext e2) r2 ec (P.ext (e1.trans e2))
section
variable {X : Cx} {a b c : Expr} {fa fb fc : Ef} {pos : Pos} {o o' : Bop}
theorem ce_bin {op : Operator} (ho : OpOk X (binaryOp op) o) (ha : CEx X a fa) (hb : CEx X b fb) : CEx X (.BinOp a op b pos) (cBin o fa fb) := by
  obtain ⟨r, h1, h2⟩ := ho
  exact PE.imp (pe_op h1 ha hb) fun σ H Q h => bin_of h2 h
theorem ce_cmp {op : CmpOp} (ho : OpOk X (compareOp op) o) (ha : CEx X a fa) (hb : CEx X b fb) (hm : behindInMarks op b = false) : CEx X (.Compare a [op] [b] pos) (cBin o fa fb) := by
  obtain ⟨r, h1, h2⟩ := ho
  exact PE.imp (pe_cmpR h1 ha hb hm) fun σ H Q h => bin_of h2 h
/-- a value that must be a bool, as a test -/
def toB (f : Ef) : Tf := fun ρ M => (f ρ M).bind fun p => match p.1.d with
  | .bl b => some (b, p.2)
  | _ => none
theorem tst_of {f : Ef} {σ : L2.St} {H : Hp} {Q : Bool → Hp → Prop} (h : tT X.K (toB f) σ H Q) : tE X.K f σ H fun x H' => ∃ k, x = .bl k ∧ Q k H' := by
  obtain ⟨ρ, M, m, z, M', rs, w, hf, P⟩ := h
  unfold toB at hf
  cases ea : f ρ M with
  | none => rw [ea] at hf; cases hf
  | some p =>
    rw [ea] at hf
    simp only [Option.bind_some] at hf
    refine bindE rs w ea fun H1 m1 v e1 w1 rs1 r1 => ?_
    split at hf
    · rename_i b hb
      cases hf
      rw [hb, Rl] at r1
      exact ⟨_, r1, P H1 m1 e1 w1⟩
    · cases hf
theorem ct_cmp {op : CmpOp} (ho : OpOk X (compareOp op) o) (ha : CEx X a fa) (hb : CEx X b fb) (hm : behindInMarks op b = false) : CTx X (.Compare a [op] [b] pos) (toB (cBin o fa fb)) := by
  obtain ⟨r, h1, h2⟩ := ho
  exact PT.imp (pt_cmpR h1 ha hb hm) fun σ H Q h => bin_of h2 (tst_of h)
/-- a op b op' c -/
def cChain (o o' : Bop) (fa fb fc : Ef) : Ef := fun ρ M => (fa ρ M).bind fun p => (fb ρ p.2).bind fun q => (o p.1.d q.1.d q.2).bind fun r => match r with
  | .val (.bl true) => (fc ρ q.2).bind fun s => (o' q.1.d s.1.d s.2).bind fun z => some (z, s.2)
  | .val (.bl false) => some (.val (.bl false), q.2)
  | _ => none
theorem chain_of {r r' : R2} (ho : ∀ H m M d e x y z Q, Wd X.K H m M → Rl X.K H m d x → Rl X.K H m e y → o d e M = some z → Post X.K H m z M Q → r x y H Q)
    (ho' : ∀ H m M d e x y z Q, Wd X.K H m M → Rl X.K H m d x → Rl X.K H m e y → o' d e M = some z → Post X.K H m z M Q → r' x y H Q)
    {σ : L2.St} {H : Hp} {Q : VK} (h : tE X.K (cChain o o' fa fb fc) σ H Q) : tChain r r' (tE X.K fa) (tE X.K fb) (tE X.K fc) σ H Q := by
  obtain ⟨ρ, M, m, z, M', rs, w, hf, P⟩ := h
  unfold cChain at hf
  cases ea : fa ρ M with
  | none => rw [ea] at hf; cases hf
  | some p =>
    rw [ea] at hf
    cases eb : fb ρ p.2 with
    | none => simp [eb] at hf
    | some q =>
      cases ec : o p.1.d q.1.d q.2 with
      | none => simp [eb, ec] at hf
      | some z' =>
        simp only [Option.bind_some, eb, ec] at hf
        refine bindE rs w ea fun H1 m1 v e1 w1 rs1 r1 => ?_
        refine bindE rs1 w1 eb fun H2 m2 u e2 w2 rs2 r2 => ?_
        refine ho H2 m2 q.2 _ _ v u _ _ w2 (r1.ext e2) r2 ec ?_
        split at hf
        · refine Post.use fun H3 m3 t e3 w3 r3 => ?_
          rw [show (Rz.val (D.bl true)).d = .bl true from rfl, Rl] at r3
          refine ⟨true, r3, ?_⟩
          rw [if_pos rfl]
          cases es : fc ρ q.2 with
          | none => simp [es] at hf
          | some s =>
            cases et : o' q.1.d s.1.d s.2 with
            | none => simp [es, et] at hf
            | some z2 =>
              simp [es, et] at hf
              obtain ⟨rfl, rfl⟩ := hf
              refine bindE (rs2.ext e3) w3 es fun H4 m4 t' e4 w4 rs4 r4 => ?_
              exact ho' H4 m4 s.2 _ _ u t' _ Q w4 (r2.ext (e3.trans e4)) r4 et (P.ext (((e1.trans e2).trans e3).trans e4))
        · refine Post.use fun H3 m3 t e3 w3 r3 => ?_
          rw [show (Rz.val (D.bl false)).d = .bl false from rfl, Rl] at r3
          refine ⟨false, r3, ?_⟩
          rw [if_neg Bool.false_ne_true]
          cases hf
          exact P.ext ((e1.trans e2).trans e3) |>.val w3 (by rw [Rl])
        · cases hf
theorem ct_chain {op op' : CmpOp} (ho : OpOk X (compareOp op) o) (ho' : OpOk X (compareOp op') o') (ha : CEx X a fa) (hb : CEx X b fb) (hc : CEx X c fc)
    (hm : lastMarks [op, op'] [b, c] = false := by with_unfolding_all rfl) : CTx X (.Compare a [op, op'] [b, c] pos) (toB (cChain o o' fa fb fc)) := by
  obtain ⟨r, h1, h2⟩ := ho
  obtain ⟨r', h1', h2'⟩ := ho'
  exact PT.imp (pt_chain h1 h1' ha hb hc hm) fun σ H Q h => chain_of h2 h2' (tst_of h)
end

/-! ### and, or, not, if else -/
section
variable {X : Cx} {a b c : Expr} {rest : List Expr} {fa fb : Ef} {ta tb : Tf} {pos : Pos}
def kAnd (ta tb : Tf) : Tf := fun ρ M => (ta ρ M).bind fun p => if p.1 = true then tb ρ p.2 else some (false, p.2)
def kOr (ta tb : Tf) : Tf := fun ρ M => (ta ρ M).bind fun p => if p.1 = true then some (true, p.2) else tb ρ p.2
def kNot (ta : Tf) : Tf := fun ρ M => (ta ρ M).bind fun p => some (!p.1, p.2)
theorem cw_and1 (ha : CTx X a ta) : CWx X (.BoolOp .And [a] pos) ta := pw_and1 ha
theorem cw_or1 (ha : CTx X a ta) : CWx X (.BoolOp .Or [a] pos) ta := pw_or1 ha
theorem cw_and (ha : CTx X a ta) (hb : CWx X (.BoolOp .And (b :: rest) pos) tb) : CWx X (.BoolOp .And (a :: b :: rest) pos) (kAnd ta tb) := PW.imp (pw_and ha hb) fun σ H Q h => by
  obtain ⟨ρ, M, m, z, M', rs, w, hf, P⟩ := h
  unfold kAnd at hf
  cases ea : ta ρ M with
  | none => rw [ea] at hf; cases hf
  | some p =>
    rw [ea] at hf
    simp only [Option.bind_some] at hf
    refine bindT rs w ea fun H1 m1 e1 w1 rs1 => ?_
    split at hf
    · rename_i e; rw [if_pos e]
      exact ⟨ρ, p.2, m1, z, M', rs1, w1, hf, fun H2 m2 e2 w2 => P H2 m2 (e1.trans e2) w2⟩
    · rename_i e; rw [if_neg e]
      cases hf
      exact P H1 m1 e1 w1
theorem cw_or (ha : CTx X a ta) (hb : CWx X (.BoolOp .Or (b :: rest) pos) tb) : CWx X (.BoolOp .Or (a :: b :: rest) pos) (kOr ta tb) := PW.imp (pw_or ha hb) fun σ H Q h => by
  obtain ⟨ρ, M, m, z, M', rs, w, hf, P⟩ := h
  unfold kOr at hf
  cases ea : ta ρ M with
  | none => rw [ea] at hf; cases hf
  | some p =>
    rw [ea] at hf
    simp only [Option.bind_some] at hf
    refine bindT rs w ea fun H1 m1 e1 w1 rs1 => ?_
    split at hf
    · rename_i e; rw [if_pos e]
      cases hf
      exact P H1 m1 e1 w1
    · rename_i e; rw [if_neg e]
      exact ⟨ρ, p.2, m1, z, M', rs1, w1, hf, fun H2 m2 e2 w2 => P H2 m2 (e1.trans e2) w2⟩
theorem ct_w (h : CWx X a ta) : CTx X a ta := h.pt
theorem ct_not (ha : CTx X a ta) : CTx X (.UnaryOp .Not a pos) (kNot ta) := PT.imp (pt_not ha) fun σ H Q h => by
  obtain ⟨ρ, M, m, z, M', rs, w, hf, P⟩ := h
  unfold kNot at hf
  cases ea : ta ρ M with
  | none => rw [ea] at hf; cases hf
  | some p =>
    rw [ea] at hf
    cases hf
    exact bindT rs w ea fun H1 m1 e1 w1 rs1 => P H1 m1 e1 w1
/-- .. as values -/
def cAnd (fa fb : Ef) : Ef := fun ρ M => (fa ρ M).bind fun p => match p.1.d with
  | .bl true => fb ρ p.2
  | .bl false => some (.val (.bl false), p.2)
  | _ => none
def cOr (fa fb : Ef) : Ef := fun ρ M => (fa ρ M).bind fun p => match p.1.d with
  | .bl true => some (.val (.bl true), p.2)
  | .bl false => fb ρ p.2
  | _ => none
def cNot (fa : Ef) : Ef := fun ρ M => (fa ρ M).bind fun p => match p.1.d with
  | .bl b => some (.val (.bl (!b)), p.2)
  | _ => none
theorem ce_one {op} (h : CEx X a fa) : CEx X (.BoolOp op [a] pos) fa := pe_one h
theorem ce_and (ha : CEx X a fa) (hb : CEx X (.BoolOp .And (b :: rest) pos) fb) : CEx X (.BoolOp .And (a :: b :: rest) pos) (cAnd fa fb) := PE.imp (pe_and ha hb) fun σ H Q h => by
  obtain ⟨ρ, M, m, z, M', rs, w, hf, P⟩ := h
  unfold cAnd at hf
  cases ea : fa ρ M with
  | none => rw [ea] at hf; cases hf
  | some p =>
    rw [ea] at hf
    simp only [Option.bind_some] at hf
    refine bindE rs w ea fun H1 m1 v e1 w1 rs1 r1 => ?_
    split at hf
    · rename_i e; rw [e, Rl] at r1
      refine ⟨true, r1, ?_⟩; rw [if_pos rfl]
      exact ⟨ρ, p.2, m1, z, M', rs1, w1, hf, P.ext e1⟩
    · rename_i e; rw [e, Rl] at r1
      refine ⟨false, r1, ?_⟩; rw [if_neg Bool.false_ne_true]
      cases hf
      exact (P.ext e1).val w1 (by rw [Rl])
    · cases hf
def cIf (t : Tf) (fa fb : Ef) : Ef := fun ρ M => (t ρ M).bind fun p => if p.1 = true then fa ρ p.2 else fb ρ p.2
theorem ce_if (hc : CTx X c ta) (ha : CEx X a fa) (hb : CEx X b fb) : CEx X (.IfExp c a b pos) (cIf ta fa fb) := PE.imp (pe_ifExp hc ha hb) fun σ H Q h => by
  obtain ⟨ρ, M, m, z, M', rs, w, hf, P⟩ := h
  unfold cIf at hf
  cases ea : ta ρ M with
  | none => rw [ea] at hf; cases hf
  | some p =>
    rw [ea] at hf
    simp only [Option.bind_some] at hf
    refine bindT rs w ea fun H1 m1 e1 w1 rs1 => ?_
    split at hf
    · rename_i e; rw [if_pos e]; exact ⟨ρ, p.2, m1, z, M', rs1, w1, hf, P.ext e1⟩
    · rename_i e; rw [if_neg e]; exact ⟨ρ, p.2, m1, z, M', rs1, w1, hf, P.ext e1⟩
end

/-! ### argument lists, displays -/
section
variable {X : Cx} {e : Expr} {es : List Expr} {f : Ef} {g : Af} {pos : Pos}
def aNil : Af := fun _ M => some ([], M)
def aCons (f : Ef) (g : Af) : Af := fun ρ M => (f ρ M).bind fun p => (g ρ p.2).bind fun q => some (p.1.d :: q.1, q.2)
theorem ca_nil : CAx X [] aNil := PA.imp pa_nil fun σ H Q ⟨ρ, M, m, ds, M', rs, w, hf, P⟩ => by
  cases hf
  exact P H m [] .refl w (by rw [Rls])
theorem ca_cons (ha : CEx X e f) (hr : CAx X es g) (hs : starEach (e :: es) X.env = (false, eval e X.env) :: starEach es X.env := by rfl) : CAx X (e :: es) (aCons f g) := PA.imp (pa_cons ha hr hs) fun σ H Q ⟨ρ, M, m, ds, M', rs, w, hf, P⟩ => by
  unfold aCons at hf
  cases ea : f ρ M with
  | none => rw [ea] at hf; cases hf
  | some p =>
    cases eb : g ρ p.2 with
    | none => simp [ea, eb] at hf
    | some q =>
      simp [ea, eb] at hf
      obtain ⟨rfl, rfl⟩ := hf
      refine bindE rs w ea fun H1 m1 v e1 w1 rs1 r1 => ?_
      refine bindA rs1 w1 eb fun H2 m2 vs e2 w2 rs2 r2 => ?_
      exact P H2 m2 _ (e1.trans e2) w2 (by rw [Rls]; exact ⟨_, _, rfl, r1.ext e2, r2⟩)
def cTup (g : Af) : Ef := fun ρ M => (g ρ M).bind fun p => if p.1.length ≤ sizeLine then some (.val (.tup p.1), p.2) else none
def cLst (g : Af) : Ef := fun ρ M => (g ρ M).bind fun p => if p.1.length ≤ sizeLine then some (.new p.1, p.2) else none
theorem ce_tup {x1} (h : CAx X es g) : CEx X (.Tuple es x1 pos) (cTup g) := PE.imp (pe_tup h) fun σ H Q ⟨ρ, M, m, z, M', rs, w, hf, P⟩ => by
  unfold cTup at hf
  cases ea : g ρ M with
  | none => rw [ea] at hf; cases hf
  | some p =>
    rw [ea] at hf
    simp only [Option.bind_some] at hf
    split at hf
    · cases hf
      refine bindA rs w ea fun H1 m1 vs e1 w1 rs1 r1 => ⟨by rw [← r1.length]; assumption, (P.ext e1).tup w1 r1⟩
    · cases hf
theorem ce_lst (h : CAx X es g) : CEx X (.List es pos) (cLst g) := PE.imp (pe_lst h) fun σ H Q ⟨ρ, M, m, z, M', rs, w, hf, P⟩ => by
  unfold cLst at hf
  cases ea : g ρ M with
  | none => rw [ea] at hf; cases hf
  | some p =>
    rw [ea] at hf
    simp only [Option.bind_some] at hf
    split at hf
    · cases hf
      refine bindA rs w ea fun H1 m1 vs e1 w1 rs1 r1 => ⟨by rw [← r1.length]; assumption, (P.ext e1).new w1 r1⟩
    · cases hf
end
end CI

/-! Ci3: operators by values, subscripts, slices, calls, attributes -/
namespace CI
open PySem PySem.Spec PyProof.Rows L2

/-! ### sequences -/
/-- a list that can be read; that can be written; a tuple -/
def asL (M : Mem) : D → Option (List D)
  | .lst ds => some ds
  | .scr ns => some (ns.map .int)
  | .loc k => match M[k]? with
    | some (.lst ds) => some ds
    | _ => none
  | _ => none
def asW (M : Mem) : D → Option (List D)
  | .lst ds => some ds
  | .loc k => match M[k]? with
    | some (.lst ds) => some ds
    | _ => none
  | _ => none
def asT : D → Option (List D)
  | .tup ds => some ds
  | _ => none
/-- any sequence -/
def asS (M : Mem) (d : D) : Option (List D) := match d with
  | .tup ds => some ds
  | d => asL M d
section
variable {K : PySem.W.Frag} {H : Hp} {m : List Addr} {M : Mem} {d : D} {ds : List D} {x : V}
theorem asW_ok (w : Wd K H m M) (r : Rl K H m d x) (h : asW M d = some ds) : ∃ a vs, x = .ref a ∧ H a = some (.lst vs) ∧ Rls K H m ds vs := by
  cases d with
  | lst es => cases h; rw [Rl] at r; obtain ⟨a, vs, r1, _, r2, r3⟩ := r; exact ⟨a, vs, r1, r2, r3⟩
  | loc k =>
    rw [Rl] at r
    obtain ⟨a, rfl, ha⟩ := r
    unfold asW at h
    simp only at h
    split at h
    · rename_i es hk
      cases h
      obtain ⟨b, hb, vs, h1, h2⟩ := w.get hk
      rw [ha] at hb; cases hb
      exact ⟨a, vs, rfl, h1, h2⟩
    · cases h
  | _ => cases h
theorem asL_ok (w : Wd K H m M) (r : Rl K H m d x) (h : asL M d = some ds) : ∃ a vs, x = .ref a ∧ SqL K H a vs ∧ Rls K H m ds vs := by
  cases d with
  | lst es => obtain ⟨a, vs, h1, h2, h3⟩ := asW_ok w r (d := .lst es) h; exact ⟨a, vs, h1, .of h2, h3⟩
  | loc k => obtain ⟨a, vs, h1, h2, h3⟩ := asW_ok w r (d := .loc k) h; exact ⟨a, vs, h1, .of h2, h3⟩
  | scr ns =>
    cases h
    rw [Rl] at r
    obtain ⟨a, rfl, ha⟩ := r
    exact ⟨a, _, rfl, ha.l, .ints⟩
  | _ => cases h
theorem asT_ok (r : Rl K H m d x) (h : asT d = some ds) : ∃ a vs, x = .ref a ∧ SqT K H a vs ∧ Rls K H m ds vs := by
  cases d with
  | tup es => cases h; rw [Rl] at r; exact r
  | _ => cases h
theorem asS_ok (w : Wd K H m M) (r : Rl K H m d x) (h : asS M d = some ds) : ∃ a vs, x = .ref a ∧ (SqL K H a vs ∨ SqT K H a vs) ∧ Rls K H m ds vs := by
  cases d with
  | tup es => obtain ⟨a, vs, h1, h2, h3⟩ := asT_ok r (d := .tup es) h; exact ⟨a, vs, h1, .inr h2, h3⟩
  | lst es => obtain ⟨a, vs, h1, h2, h3⟩ := asL_ok w r (d := .lst es) h; exact ⟨a, vs, h1, .inl h2, h3⟩
  | loc k => obtain ⟨a, vs, h1, h2, h3⟩ := asL_ok w r (d := .loc k) h; exact ⟨a, vs, h1, .inl h2, h3⟩
  | scr k => obtain ⟨a, vs, h1, h2, h3⟩ := asL_ok w r (d := .scr k) h; exact ⟨a, vs, h1, .inl h2, h3⟩
  | _ => cases h
end

/-! ### int operators -/
section
variable {X : Cx}
def oI (g : Int → Int → D) : Bop := fun d e _ => match d, e with
  | .int i, .int j => some (.val (g i j))
  | _, _ => none
def oIc (C : Int → Int → Bool) (g : Int → Int → D) : Bop := fun d e _ => match d, e with
  | .int i, .int j => if C i j = true then some (.val (g i j)) else none
  | _, _ => none
theorem opOk_I {f : Value → Value → Sem Value} {g : Int → Int → D} {gv : Int → Int → V} (h : OpR X f (rI0 gv)) (hg : ∀ i j H m, Rl X.K H m (g i j) (gv i j)) : OpOk X f (oI g) :=
  ⟨_, h, fun H m M d e x y z Q w rd re ho P => by
    unfold oI at ho
    split at ho
    · rename_i i j
      cases ho
      rw [Rl] at rd re
      exact ⟨i, j, rd, re, P.val w (hg i j H m)⟩
    · cases ho⟩
theorem opOk_Ic {f : Value → Value → Sem Value} {C : Int → Int → Prop} {Cb : Int → Int → Bool} {g : Int → Int → D} {gv : Int → Int → V} (h : OpR X f (rI C gv)) (hg : ∀ i j H m, Rl X.K H m (g i j) (gv i j)) (hc : ∀ i j, Cb i j = true → C i j) : OpOk X f (oIc Cb g) :=
  ⟨_, h, fun H m M d e x y z Q w rd re ho P => by
    unfold oIc at ho
    split at ho
    · rename_i i j
      split at ho
      · rename_i hcb
        cases ho
        rw [Rl] at rd re
        exact ⟨i, j, rd, re, hc i j hcb, P.val w (hg i j H m)⟩
      · cases ho
    · cases ho⟩
theorem OpOk.or {f : Value → Value → Sem Value} {o o' : Bop} (h : OpOk X f o) (h' : OpOk X f o') : OpOk X f (fun d e M => (o d e M).orElse fun _ => o' d e M) := by
  obtain ⟨r, h1, h2⟩ := h
  obtain ⟨r', h1', h2'⟩ := h'
  refine ⟨_, h1.or h1', fun H m M d e x y z Q w rd re ho P => ?_⟩
  cases q : o d e M with
  | some z' => simp [q] at ho; subst ho; exact .inl (h2 H m M d e x y z' Q w rd re q P)
  | none => simp [q] at ho; exact .inr (h2' H m M d e x y z Q w rd re ho P)
def sm64 (i : Int) : Bool := decide (-(2 ^ 64) < i) && decide (i < 2 ^ 64)
def bMul (i j : Int) : Bool := sm64 i || sm64 j
def bDiv (_ j : Int) : Bool := decide (0 < j) && decide (j < 1073741824)
def bMod (_ j : Int) : Bool := decide (0 < j)
def bPow (i j : Int) : Bool := decide (0 ≤ j) && decide (j ≤ 1000000) && decide (i.natAbs < 2 ^ 64)
theorem rl_int {K : PySem.W.Frag} {H : Hp} {m : List Addr} {i : Int} : Rl K H m (.int i) (.int i) := by rw [Rl]
theorem rl_bl {K : PySem.W.Frag} {H : Hp} {m : List Addr} {i : Bool} : Rl K H m (.bl i) (.bl i) := by rw [Rl]
theorem rl_str {K : PySem.W.Frag} {H : Hp} {m : List Addr} {i : Str} : Rl K H m (.str i) (.str i) := by rw [Rl]
theorem rl_non {K : PySem.W.Frag} {H : Hp} {m : List Addr} : Rl K H m .non .non := by rw [Rl]
def oSub : Bop := oI fun i j => .int (i - j)
theorem ok_sub : OpOk X (binaryOp .Sub) oSub := opOk_I op_sub fun _ _ _ _ => rl_int
def oMulI : Bop := oIc bMul fun i j => .int (i * j)
def oDiv : Bop := oIc bDiv fun i j => .int (i / j)
theorem ok_div : OpOk X (binaryOp .FloorDiv) oDiv := opOk_Ic op_fdiv (fun _ _ _ _ => rl_int) fun i j h => by
  unfold bDiv at h
  simp only [Bool.and_eq_true, decide_eq_true_eq] at h
  exact h
def oMod : Bop := oIc bMod fun i j => .int (i % j)
theorem ok_mod : OpOk X (binaryOp .Mod) oMod := opOk_Ic op_mod (fun _ _ _ _ => rl_int) fun i j h => by
  unfold bMod at h
  simpa using h
def oPow : Bop := oIc bPow fun i j => .int (i ^ j.toNat)
theorem ok_pow : OpOk X (binaryOp .Pow) oPow := opOk_Ic op_pow (fun _ _ _ _ => rl_int) fun i j h => by
  unfold bPow at h
  simp only [Bool.and_eq_true, decide_eq_true_eq] at h
  exact ⟨h.1.1, h.1.2, h.2⟩
def oLt : Bop := oI fun i j => .bl (decide (i < j))
theorem ok_lt : OpOk X (compareOp .Lt) oLt := opOk_I op_lt fun _ _ _ _ => rl_bl
def oLe : Bop := oI fun i j => .bl (decide (i ≤ j))
theorem ok_le : OpOk X (compareOp .LtE) oLe := opOk_I op_le fun _ _ _ _ => rl_bl
def oGt : Bop := oI fun i j => .bl (decide (j < i))
theorem ok_gt : OpOk X (compareOp .Gt) oGt := opOk_I op_gt fun _ _ _ _ => rl_bl
def oGe : Bop := oI fun i j => .bl (decide (j ≤ i))
theorem ok_ge : OpOk X (compareOp .GtE) oGe := opOk_I op_ge fun _ _ _ _ => rl_bl
/-! ### + -/
def oAdd : Bop := fun d e M => match d, e with
  | .int i, .int j => some (.val (.int (i + j)))
  | .str i, .str j => if i.length + j.length ≤ sizeLine then some (.val (.str (i ++ j))) else none
  | .tup xs, .tup ys => if xs.length + ys.length ≤ sizeLine then some (.val (.tup (xs ++ ys))) else none
  | d, e => match asW M d, asW M e with
    | some xs, some ys => if xs.length + ys.length ≤ sizeLine then some (.new (xs ++ ys)) else none
    | _, _ => none
theorem rls_nil {K : PySem.W.Frag} {H : Hp} {m : List Addr} {vs : List V} (h : Rls K H m [] vs) : vs = [] := by rw [Rls] at h; exact h
theorem rls_of_nil {K : PySem.W.Frag} {H : Hp} {m : List Addr} {ds : List D} (h : Rls K H m ds []) : ds = [] := by
  have := h.length
  exact List.eq_nil_of_length_eq_zero (by simpa using this)
theorem ok_add : OpOk X (binaryOp .Add) oAdd := by
  refine ⟨_, op_add.or (op_add_str.or (op_catA.or op_cat)), fun H m M d e x y z Q w rd re ho P => ?_⟩
  unfold oAdd at ho
  split at ho
  · rename_i i j
    cases ho
    rw [Rl] at rd re
    exact .inl ⟨i, j, rd, re, P.val w rl_int⟩
  · rename_i i j
    rw [Rl] at rd re
    split at ho
    · rename_i hl
      cases ho
      exact .inr (.inl ⟨i, j, rd, re, hl, P.val w rl_str⟩)
    · cases ho
  · rename_i xs ys
    split at ho
    · rename_i hl
      cases ho
      rw [Rl] at rd re
      obtain ⟨a, vs, rfl, hv, r1⟩ := rd
      obtain ⟨b, ws, rfl, hw, r2⟩ := re
      refine .inr (.inr (.inl ⟨a, b, vs, ws, rfl, rfl, hv, hw, by rw [← r1.length, ← r2.length]; exact hl, fun q => ?_, fun _ q => ?_, fun _ _ => P.tup w (r1.append r2)⟩))
      · subst q
        have := rls_of_nil r1; subst this
        exact P.val w (by rw [Rl]; exact ⟨b, ws, rfl, hw, r2⟩)
      · subst q
        have := rls_of_nil r2; subst this
        exact P.val w (by rw [Rl]; exact ⟨a, vs, rfl, hv, by simpa using r1⟩)
    · cases ho
  · split at ho
    · rename_i xs ys h1 h2
      split at ho
      · rename_i hl
        cases ho
        obtain ⟨a, vs, rfl, hv, r1⟩ := asW_ok w rd h1
        obtain ⟨b, ws, rfl, hw, r2⟩ := asW_ok w re h2
        exact .inr (.inr (.inr ⟨a, b, vs, ws, rfl, rfl, hv, hw, by rw [← r1.length, ← r2.length]; exact hl, P.new w (r1.append r2)⟩))
      · cases ho
    · cases ho

/-! ### is -/
def isBl (b : Bool) : D → Bool
  | .bl a => decide (a = b)
  | _ => false
def isNon : D → Bool
  | .non => true
  | _ => false
def oIs (neg : Bool) : Bop := fun d e _ => match e with
  | .non => some (.val (.bl (neg != isNon d)))
  | .bl b => some (.val (.bl (neg != isBl b d)))
  | _ => none
/-! ### == -/
mutual
def py0 : D → Option PyData
  | .non => some .none
  | .bl b => some (.bool b)
  | .int i => some (.int i)
  | .str x => some (.str x)
  | .tup ds => (py0s ds).map .tuple
  | .lst ds => (py0s ds).map .list
  | .scr ns => some (.list (ns.map .int))
  | .loc _ => none
def py0s : List D → Option (List PyData)
  | [] => some []
  | d :: ds => (py0 d).bind fun p => (py0s ds).bind fun ps => some (p :: ps)
end
def py (M : Mem) (d : D) : Option PyData := match d with
  | .loc k => match M[k]? with
    | some (.lst ds) => (py0s ds).map .list
    | _ => none
  | d => py0 d
section
variable {K : PySem.W.Frag} {H : Hp} {m : List Addr} {M : Mem}
mutual
theorem py0_ok : ∀ {d : D} {x : V} {p : PyData}, Rl K H m d x → py0 d = some p → Dp K H x p
  | .non, _, _, r, h => by rw [Rl] at r; subst r; cases h; exact .non
  | .bl b, _, _, r, h => by rw [Rl] at r; subst r; cases h; exact .bl b
  | .int b, _, _, r, h => by rw [Rl] at r; subst r; cases h; exact .int b
  | .str b, _, _, r, h => by rw [Rl] at r; subst r; cases h; exact .str b
  | .tup ds, _, p, r, h => by
    rw [Rl] at r
    obtain ⟨a, vs, rfl, h1, h2⟩ := r
    rw [py0] at h
    cases q : py0s ds with
    | none => rw [q] at h; cases h
    | some ps => rw [q] at h; cases h; exact .tup h1 (py0s_ok h2 q)
  | .lst ds, _, p, r, h => by
    rw [Rl] at r
    obtain ⟨a, vs, rfl, _, h1, h2⟩ := r
    rw [py0] at h
    cases q : py0s ds with
    | none => rw [q] at h; cases h
    | some ps => rw [q] at h; cases h; exact .lst (.of h1) (py0s_ok h2 q)
  | .scr ns, _, p, r, h => by
    rw [Rl] at r
    obtain ⟨a, rfl, h1⟩ := r
    rw [py0] at h
    cases h
    refine .lst h1.l ?_
    induction ns with
    | nil => exact .nil
    | cons n ns ih => exact .cons (.int n) (by
        clear h1 ih
        induction ns with
        | nil => exact .nil
        | cons n ns ih => exact .cons (.int n) ih)
  | .loc _, _, _, _, h => by cases h
theorem py0s_ok : ∀ {ds : List D} {vs : List V} {ps : List PyData}, Rls K H m ds vs → py0s ds = some ps → DpAll K H vs ps
  | [], _, _, r, h => by rw [Rls] at r; subst r; cases h; exact .nil
  | d :: ds, _, ps, r, h => by
    rw [Rls] at r
    obtain ⟨v, r', rfl, h1, h2⟩ := r
    rw [py0s] at h
    cases q : py0 d with
    | none => rw [q] at h; cases h
    | some p =>
      cases q2 : py0s ds with
      | none => rw [q, q2] at h; cases h
      | some ps2 => rw [q, q2] at h; cases h; exact .cons (py0_ok h1 q) (py0s_ok h2 q2)
end
theorem py_ok {d : D} {x : V} {p : PyData} (w : Wd K H m M) (r : Rl K H m d x) (h : py M d = some p) : Dp K H x p := by
  cases d with
  | loc k =>
    rw [Rl] at r
    obtain ⟨a, rfl, ha⟩ := r
    unfold py at h
    simp only at h
    split at h
    · rename_i ds hk
      cases q : py0s ds with
      | none => rw [q] at h; cases h
      | some ps =>
        rw [q] at h; cases h
        obtain ⟨b, hb, vs, h1, h2⟩ := w.get hk
        rw [ha] at hb; cases hb
        exact .lst (.of h1) (py0s_ok h2 q)
    · cases h
  | _ => exact py0_ok r h
end
def eqB (M : Mem) (d e : D) : Option Bool := match d, e with
  | .int i, .int j => some (decide (i = j))
  | .str i, .str j => some (decide (i = j))
  | .bl i, .bl j => some (decide (i = j))
  | d, e => match py M d, py M e with
    | some a, some b => if SeqAt.shaped a = true ∧ SeqAt.shaped b = true then some (PyData.eqv a b) else none
    | _, _ => none
def oEq : Bop := fun d e M => (eqB M d e).bind fun b => some (.val (.bl b))
def oNe : Bop := fun d e M => (eqB M d e).bind fun b => some (.val (.bl (!b)))
theorem eq_of {H : Hp} {m : List Addr} {M : Mem} {d e : D} {x y : V} {b : Bool} {K : PySem.W.Frag} (w : Wd K H m M) (rd : Rl K H m d x) (re : Rl K H m e y) (h : eqB M d e = some b) :
    (scal x y = true ∧ b = decide (x = y)) ∨ ∃ p q, Dp K H x p ∧ Dp K H y q ∧ SeqAt.shaped p = true ∧ SeqAt.shaped q = true ∧ b = PyData.eqv p q := by
  unfold eqB at h
  split at h
  · rw [Rl] at rd re; subst rd re; cases h; exact .inl ⟨rfl, by simp⟩
  · rw [Rl] at rd re; subst rd re; cases h; exact .inl ⟨rfl, by simp⟩
  · rw [Rl] at rd re; subst rd re; cases h; exact .inl ⟨rfl, by simp⟩
  · split at h
    · rename_i p q h1 h2
      split at h
      · rename_i hs
        cases h
        exact .inr ⟨p, q, py_ok w rd h1, py_ok w re h2, hs.1, hs.2, rfl⟩
      · cases h
    · cases h
theorem ok_eq (hu : X.A.units + 64 < cLine) : OpOk X (compareOp .Eq) oEq := by
  refine ⟨_, op_eq.or (op_eqD hu), fun H m M d e x y z Q w rd re ho P => ?_⟩
  unfold oEq at ho
  cases q : eqB M d e with
  | none => rw [q] at ho; cases ho
  | some b =>
    rw [q] at ho; cases ho
    rcases eq_of w rd re q with ⟨h1, rfl⟩ | ⟨p, p', h1, h2, h3, h4, rfl⟩
    · exact .inl ⟨h1, P.val w rl_bl⟩
    · exact .inr ⟨p, p', h1, h2, h3, h4, P.val w rl_bl⟩
theorem ok_ne (hu : X.A.units + 64 < cLine) : OpOk X (compareOp .NotEq) oNe := by
  refine ⟨_, op_ne.or (op_neD hu), fun H m M d e x y z Q w rd re ho P => ?_⟩
  unfold oNe at ho
  cases q : eqB M d e with
  | none => rw [q] at ho; cases ho
  | some b =>
    rw [q] at ho; cases ho
    rcases eq_of w rd re q with ⟨h1, rfl⟩ | ⟨p, p', h1, h2, h3, h4, rfl⟩
    · exact .inl ⟨h1, P.val w rl_bl⟩
    · exact .inr ⟨p, p', h1, h2, h3, h4, P.val w rl_bl⟩

/-! ### in -/
def fl : D → Bool
  | .non => true | .bl _ => true | .int _ => true | .str _ => true | _ => false
def eqF : D → D → Bool
  | .non, .non => true
  | .bl a, .bl b => a == b
  | .bl a, .int b => (if a then 1 else 0) == b
  | .int a, .bl b => a == (if b then 1 else 0)
  | .int a, .int b => a == b
  | .str a, .str b => a == b
  | _, _ => false
def inD (d : D) (ds : List D) : Bool := ds.any fun e => eqF e d
def oIn (neg : Bool) : Bop := fun d e M => (asS M e).bind fun ds => if fl d = true ∧ ds.all fl = true then some (.val (.bl (if neg then !inD d ds else inD d ds))) else none
theorem fl_ok {K : PySem.W.Frag} {H : Hp} {m : List Addr} {d : D} {x : V} (r : Rl K H m d x) (h : fl d = true) : flatV x = true := by
  cases d <;> first | (rw [Rl] at r; subst r; rfl) | cases h
theorem eqF_ok {K : PySem.W.Frag} {H : Hp} {m : List Addr} {d e : D} {x y : V} (r : Rl K H m d x) (r' : Rl K H m e y) (h : fl d = true) (h' : fl e = true) : eqF d e = eqV x y := by
  cases d <;> first | (cases h; done) | (cases e <;> first | (cases h'; done) | (rw [Rl] at r; rw [Rl] at r'; subst r r'; rfl))
theorem fls_ok {K : PySem.W.Frag} {H : Hp} {m : List Addr} : ∀ {ds : List D} {vs : List V}, Rls K H m ds vs → ds.all fl = true → vs.all flatV = true
  | [], _, r, _ => by rw [Rls] at r; subst r; rfl
  | d :: ds, _, r, h => by
    rw [Rls] at r
    obtain ⟨v, s, rfl, h1, h2⟩ := r
    rw [List.all_cons, Bool.and_eq_true] at h ⊢
    exact ⟨fl_ok h1 h.1, fls_ok h2 h.2⟩
theorem inD_ok {K : PySem.W.Frag} {H : Hp} {m : List Addr} {d : D} {x : V} (r : Rl K H m d x) (h : fl d = true) : ∀ {ds : List D} {vs : List V}, Rls K H m ds vs → ds.all fl = true → inD d ds = inV x vs
  | [], _, r, _ => by rw [Rls] at r; subst r; rfl
  | e :: ds, _, r', h' => by
    rw [Rls] at r'
    obtain ⟨v, s, rfl, h1, h2⟩ := r'
    rw [List.all_cons, Bool.and_eq_true] at h'
    show (eqF e d || inD d ds) = (eqV v x || inV x s)
    rw [eqF_ok h1 r h'.1 h, inD_ok r h h2 h'.2]
theorem in_of {neg : Bool} {H : Hp} {m : List Addr} {M : Mem} {d e : D} {x y : V} {z : Rz} {Q : VK} {K : PySem.W.Frag} (w : Wd K H m M) (rd : Rl K H m d x) (re : Rl K H m e y) (ho : oIn neg d e M = some z) (P : Post K H m z M Q) : rIn K neg x y H Q := by
  unfold oIn at ho
  cases q : asS M e with
  | none => rw [q] at ho; cases ho
  | some ds =>
    rw [q] at ho
    simp only [Option.bind_some] at ho
    split at ho
    · rename_i hh
      cases ho
      obtain ⟨a, vs, rfl, hs, hr⟩ := asS_ok w re q
      refine ⟨a, vs, rfl, hs, fl_ok rd hh.1, fls_ok hr hh.2, ?_⟩
      rw [← inD_ok rd hh.1 hr hh.2]
      exact P.val w rl_bl
    · cases ho
theorem ok_in : OpOk X (compareOp .In) (oIn false) := ⟨_, op_in_seq, fun H m M d e x y z Q w rd re ho P => in_of w rd re ho P⟩
end
end CI

/-! Ci4: subscripts, slices, calls, attributes, methods -/
namespace CI
open PySem PySem.Spec PyProof.Rows L2

section
variable {K : PySem.W.Frag} {H : Hp} {m : List Addr} {M : Mem}
theorem Rls.atI {ds : List D} {vs : List V} (h : Rls K H m ds vs) {i : Int} {d : D} (q : L2.atI ds i = some d) : ∃ v, L2.atI vs i = some v ∧ Rl K H m d v := by
  unfold L2.atI at q ⊢
  rw [← h.length]
  cases e : ixN ds.length i with
  | none => rw [e] at q; cases q
  | some j =>
    rw [e] at q
    exact h.get (i := j) q
def cutD (xs : List D) (lo hi : Option Int) : List D := (xs.drop (HT.sIx xs.length 0 lo)).take (HT.sIx xs.length xs.length hi - HT.sIx xs.length 0 lo)
theorem Rls.cut {ds : List D} {vs : List V} (h : Rls K H m ds vs) (lo hi : Option Int) : Rls K H m (cutD ds lo hi) (cutV vs lo hi) := by
  unfold cutD cutV
  rw [← h.length]
  exact (h.drop _).take _
end

/-! ### subscripts -/
def oIx : Bop := fun d e M => match e with
  | .int i => match d with
    | .str z => if z.length ≤ sizeLine then (L2.atI z.cps.toList i).bind fun c => some (.val (.str ⟨#[c]⟩)) else none
    | d => (asS M d).bind fun ds => (L2.atI ds i).bind fun x => some (.val x)
  | _ => none
section
variable {X : Cx} {a b : Expr} {fa fb : Ef} {pos : Pos}
theorem ce_ix (ha : CEx X a fa) (hb : CEx X b fb) (hs : PlainIx b) : CEx X (.Subscript a b pos) (cBin oIx fa fb) := PE.imp (pe_ix ix_seq ha hb hs) fun σ H Q h => by
  refine bin_of (fun H m M d e x y z Q w rd re ho P => ?_) h
  unfold oIx at ho
  split at ho
  · rename_i i
    rw [Rl] at re; subst re
    split at ho
    · rename_i s
      rw [Rl] at rd; subst rd
      split at ho
      · rename_i hz
        cases q : L2.atI s.cps.toList i with
        | none => rw [q] at ho; cases ho
        | some c => rw [q] at ho; cases ho; exact .inr (.inr ⟨s, i, c, rfl, rfl, hz, q, P.val w rl_str⟩)
      · cases ho
    · cases q : asS M d with
      | none => rw [q] at ho; cases ho
      | some ds =>
        rw [q] at ho
        simp only [Option.bind_some] at ho
        cases q2 : L2.atI ds i with
        | none => rw [q2] at ho; cases ho
        | some c =>
          rw [q2] at ho; cases ho
          obtain ⟨p, vs, rfl, hs, hr⟩ := asS_ok w rd q
          obtain ⟨v, hv, rv⟩ := hr.atI q2
          rcases hs with hs | hs
          · exact .inl ⟨p, vs, i, v, rfl, rfl, hs, hv, P.val w rv⟩
          · exact .inr (.inl ⟨p, vs, i, v, rfl, rfl, hs, hv, P.val w rv⟩)
  · cases ho
end

/-! ### slices -/
abbrev Of := Slots → Mem → Option (Option Int × Mem)
def tO (K : PySem.W.Frag) (f : Of) : TO := fun σ H Q => ∃ ρ M m o M', Rs K H m ρ σ ∧ Wd K H m M ∧ f ρ M = some (o, M') ∧ ∀ H1 m1, Ext H m H1 m1 → Wd K H1 m1 M' → Q o H1
abbrev COx (X : Cx) (e : Option Expr) (f : Of) : Prop := PO X e (tO X.K f)
theorem PO.imp {X : Cx} {e : Option Expr} {t t' : TO} (h : PO X e t) (i : ∀ σ H Q, t' σ H Q → t σ H Q) : PO X e t' := ⟨fun pins s σ H Q I q => h.run pins s σ H Q I (i σ H Q q)⟩
def sNone : Of := fun _ M => some (none, M)
def sSome (f : Ef) : Of := fun ρ M => (f ρ M).bind fun p => match p.1.d with
  | .int i => some (some i, p.2)
  | _ => none
def oSl (lo hi : Option Int) (d : D) (M : Mem) : Option Rz := match d with
  | .tup ds => some (.val (.tup (cutD ds lo hi)))
  | .str z => if z.length ≤ sizeLine then some (.val (.str (cutS z lo hi))) else none
  | d => (asL M d).bind fun ds => some (.new (cutD ds lo hi))
def cSl (f : Ef) (l h : Of) : Ef := fun ρ M => (f ρ M).bind fun p => (l ρ p.2).bind fun q => (h ρ q.2).bind fun r => (oSl q.1 r.1 p.1.d r.2).bind fun z => some (z, r.2)
section
variable {X : Cx} {e : Expr} {lo hi : Option Expr} {f : Ef} {l h : Of} {pos p2 : Pos}
theorem co_none : COx X none sNone := PO.imp po_none fun σ H Q ⟨ρ, M, m, o, M', rs, w, hf, P⟩ => by cases hf; exact P H m .refl w
theorem co_some (he : CEx X e f) : COx X (some e) (sSome f) := PO.imp (po_some he) fun σ H Q ⟨ρ, M, m, o, M', rs, w, hf, P⟩ => by
  unfold sSome at hf
  cases ea : f ρ M with
  | none => rw [ea] at hf; cases hf
  | some p =>
    rw [ea] at hf
    simp only [Option.bind_some] at hf
    refine bindE rs w ea fun H1 m1 v e1 w1 rs1 r1 => ?_
    split at hf
    · rename_i i hi
      cases hf
      rw [hi, Rl] at r1
      exact ⟨i, r1, P H1 m1 e1 w1⟩
    · cases hf
theorem ce_sl (he : CEx X e f) (hl : COx X lo l) (hh : COx X hi h) : CEx X (.Subscript e (.Slice lo hi none p2) pos) (cSl f l h) := PE.imp (pe_slice (sl_tupA.or (sl_str.or sl_list)) he hl hh) fun σ H Q hq => by
  obtain ⟨ρ, M, m, z, M', rs, w, hf, P⟩ := hq
  unfold cSl at hf
  cases ea : f ρ M with
  | none => rw [ea] at hf; cases hf
  | some p =>
    cases el : l ρ p.2 with
    | none => simp [ea, el] at hf
    | some q =>
      cases eh : h ρ q.2 with
      | none => simp [ea, el, eh] at hf
      | some r =>
        cases ez : oSl q.1 r.1 p.1.d r.2 with
        | none => simp [ea, el, eh, ez] at hf
        | some z' =>
          simp [ea, el, eh, ez] at hf
          obtain ⟨rfl, rfl⟩ := hf
          refine bindE rs w ea fun H1 m1 v e1 w1 rs1 r1 => ?_
          refine ⟨ρ, p.2, m1, q.1, q.2, rs1, w1, el, fun H2 m2 e2 w2 => ?_⟩
          refine ⟨ρ, q.2, m2, r.1, r.2, rs1.ext e2, w2, eh, fun H3 m3 e3 w3 => ?_⟩
          have r3 := r1.ext (e2.trans e3)
          have P3 := P.ext ((e1.trans e2).trans e3)
          unfold oSl at ez
          split at ez
          · rename_i ds hd
            cases ez
            rw [hd, Rl] at r3
            obtain ⟨a, vs, rfl, hs, hr⟩ := r3
            refine .inl ⟨a, vs, rfl, hs, fun hw => ?_, fun _ => P3.tup w3 (hr.cut _ _)⟩
            refine P3.val w3 ?_
            rw [Rl]
            refine ⟨a, vs, rfl, hs, ?_⟩
            have e : cutD ds q.1 r.1 = ds := by
              unfold cutD
              rw [hr.length, hw.1, hw.2]
              rw [List.drop_zero, Nat.sub_zero, ← hr.length, List.take_length]
            rw [e]; exact hr
          · rename_i s hd
            split at ez
            · rename_i hz
              cases ez
              rw [hd, Rl] at r3; subst r3
              exact .inr (.inl ⟨s, rfl, hz, P3.val w3 rl_str⟩)
            · cases ez
          · cases eq : asL r.2 p.1.d with
            | none => simp [eq] at ez
            | some ds =>
              simp [eq] at ez
              subst ez
              obtain ⟨a, vs, rfl, hs, hr⟩ := asL_ok w3 r3 eq
              exact .inr (.inr ⟨a, vs, rfl, hs, P3.new w3 (hr.cut _ _)⟩)
end

/-! ### built-in calls -/
def Cop := List D → Mem → Option Rz
def ClOk (X : Cx) (f : Value) (o : Cop) : Prop := ∃ r, CallR X f r ∧ ∀ H m M ds xs z Q, Wd X.K H m M → Rls X.K H m ds xs → o ds M = some z → Post X.K H m z M Q → r xs H Q
def cCB (o : Cop) (g : Af) : Ef := fun ρ M => (g ρ M).bind fun p => (o p.1 p.2).bind fun r => some (r, p.2)
section
variable {X : Cx} {e : Expr} {es : List Expr} {g : Af} {o : Cop} {x : Str} {id T : String} {p pos : Pos}
theorem cb_of {r : List V → Hp → VK → Prop} (ho : ∀ H m M ds xs z Q, Wd X.K H m M → Rls X.K H m ds xs → o ds M = some z → Post X.K H m z M Q → r xs H Q) {σ : L2.St} {H : Hp} {Q : VK}
    (h : tE X.K (cCB o g) σ H Q) : tCB r (tA X.K g) σ H Q := by
  obtain ⟨ρ, M, m, z, M', rs, w, hf, P⟩ := h
  unfold cCB at hf
  cases ea : g ρ M with
  | none => rw [ea] at hf; cases hf
  | some p =>
    cases eb : o p.1 p.2 with
    | none => simp [ea, eb] at hf
    | some q =>
      simp [ea, eb] at hf
      obtain ⟨rfl, rfl⟩ := hf
      exact bindA rs w ea fun H1 m1 vs e1 w1 rs1 r1 => ho H1 m1 p.2 _ _ _ Q w1 r1 eb (P.ext e1)
theorem ce_callB (hc : ClOk X (.builtin id) o) (hg : Gl X x) (hm : X.mg x = none) (hv : bootBuiltins x = some (.builtin id)) (ha : CAx X (e :: es) g) (hn : x ≠ "__name__" := by decide) (hdb : (x == ("__debug__" : Str)) = false := by decide)
    (he : starEach (e :: es) X.env = (false, eval e X.env) :: starEach es X.env := by rfl) (hpl : (backTo pos (starEach es X.env)).any (·.1) = false := by rfl) : CEx X (.Call (.Name x p) (e :: es) [] pos) (cCB o g) := by
  obtain ⟨r, h1, h2⟩ := hc
  exact PE.imp (pe_callB h1 hg hm hv ha hn hdb he hpl) fun σ H Q h => cb_of h2 h
theorem ce_callTy (hc : ClOk X (.type T) o) (hg : Gl X x) (hm : X.mg x = none) (hv : bootBuiltins x = some (.type T)) (ha : CAx X (e :: es) g) (hn : x ≠ "__name__" := by decide) (hdb : (x == ("__debug__" : Str)) = false := by decide)
    (he : starEach (e :: es) X.env = (false, eval e X.env) :: starEach es X.env := by rfl) (hpl : (backTo pos (starEach es X.env)).any (·.1) = false := by rfl) : CEx X (.Call (.Name x p) (e :: es) [] pos) (cCB o g) := by
  obtain ⟨r, h1, h2⟩ := hc
  exact PE.imp (pe_callTy h1 hg hm hv ha hn hdb he hpl) fun σ H Q h => cb_of h2 h
def oLen : Cop := fun ds M => match ds with
  | [.str z] => if z.length ≤ sizeLine then some (.val (.int z.length)) else none
  | [d] => (asS M d).bind fun es => some (.val (.int es.length))
  | _ => none
theorem ok_len : ClOk X (.builtin "len") oLen := by
  refine ⟨_, call_len, fun H m M ds xs z Q w rd ho P => ?_⟩
  unfold oLen at ho
  split at ho
  · rename_i s
    split at ho
    · rename_i hz
      cases ho
      obtain ⟨v, rfl, r⟩ := rd.one
      rw [Rl] at r; subst r
      exact ⟨_, _, rfl, ⟨hz, rfl⟩, P.val w rl_int⟩
    · cases ho
  · rename_i d _
    obtain ⟨v, rfl, r⟩ := rd.one
    cases q : asS M d with
    | none => rw [q] at ho; cases ho
    | some es =>
      rw [q] at ho; cases ho
      obtain ⟨a, vs, rfl, hs, hr⟩ := asS_ok w r q
      refine ⟨_, vs.length, rfl, ?_, by rw [← hr.length]; exact P.val w rl_int⟩
      exact hs.elim (fun hs => .inl ⟨vs, hs, rfl⟩) fun hs => .inr ⟨vs, hs, rfl⟩
  · cases ho
def oInt : Cop := fun ds _ => match ds with
  | [.int i] => some (.val (.int i))
  | [.bl b] => some (.val (.int (if b then 1 else 0)))
  | _ => none
theorem ok_int : ClOk X (.type "int") oInt := by
  refine ⟨_, call_int1, fun H m M ds xs z Q w rd ho P => ?_⟩
  unfold oInt at ho
  split at ho
  · obtain ⟨v, rfl, r⟩ := rd.one
    rw [Rl] at r; subst r; cases ho
    exact .inl ⟨_, rfl, P.val w rl_int⟩
  · obtain ⟨v, rfl, r⟩ := rd.one
    rw [Rl] at r; subst r; cases ho
    exact .inr ⟨_, rfl, P.val w rl_int⟩
  · cases ho
def oTuple : Cop := fun ds M => match ds with
  | [d] => (asS M d).bind fun es => some (.val (.tup es))
  | _ => none
theorem ok_tuple : ClOk X (.type "tuple") oTuple := by
  refine ⟨_, call_tuple_of, fun H m M ds xs z Q w rd ho P => ?_⟩
  unfold oTuple at ho
  split at ho
  · rename_i d
    obtain ⟨v, rfl, r⟩ := rd.one
    cases q : asS M d with
    | none => rw [q] at ho; cases ho
    | some es =>
      rw [q] at ho; cases ho
      obtain ⟨a, vs, rfl, hs, hr⟩ := asS_ok w r q
      refine ⟨a, vs, rfl, ?_⟩
      rcases hs with hs | hs
      · exact .inl ⟨hs, P.tup w hr⟩
      · exact .inr ⟨hs, P.val w (by rw [Rl]; exact ⟨a, vs, rfl, hs, hr⟩)⟩
  · cases ho
def oList : Cop := fun ds M => match ds with
  | [d] => (asS M d).bind fun es => some (.new es)
  | _ => none
def oMax2 : Cop := fun ds _ => match ds with
  | [.int i, .int j] => some (.val (.int (if j > i then j else i)))
  | _ => none
def oMin2 : Cop := fun ds _ => match ds with
  | [.int i, .int j] => some (.val (.int (if j < i then j else i)))
  | _ => none
def oStr : Cop := fun ds _ => match ds with
  | [.int i] => if i.natAbs.log2 < 1920 then some (.val (.str (toString i))) else none
  | _ => none
theorem ok_str : ClOk X (.type "str") oStr := by
  refine ⟨_, call_str_int, fun H m M ds xs z Q w rd ho P => ?_⟩
  unfold oStr at ho
  split at ho
  · obtain ⟨v, rfl, r⟩ := rd.one
    rw [Rl] at r; subst r
    split at ho
    · rename_i hz
      cases ho
      exact ⟨_, rfl, hz, P.val w rl_str⟩
    · cases ho
  · cases ho
def oOrd : Cop := fun ds _ => match ds with
  | [.str x] => if x.length = 1 then some (.val (.int (x.cps.getD 0 0 : Nat))) else none
  | _ => none
theorem ok_ord : ClOk X (.builtin "ord") oOrd := by
  refine ⟨_, call_ord, fun H m M ds xs z Q w rd ho P => ?_⟩
  unfold oOrd at ho
  split at ho
  · obtain ⟨v, rfl, r⟩ := rd.one
    rw [Rl] at r; subst r
    split at ho
    · rename_i hz
      cases ho
      exact ⟨_, rfl, hz, P.val w rl_int⟩
    · cases ho
  · cases ho
/-! sorted of ints -/
def sIns (a : Int) : List Int → List Int
  | [] => [a]
  | b :: l => if a ≤ b then a :: b :: l else b :: sIns a l
def isort (l : List Int) : List Int := l.foldr sIns []
theorem sIns_perm (a : Int) : ∀ l, (sIns a l).Perm (a :: l)
  | [] => .refl _
  | b :: l => by
    unfold sIns
    split
    · exact .refl _
    · exact ((sIns_perm a l).cons b).trans (.swap a b l)
theorem isort_perm : ∀ l, (isort l).Perm l
  | [] => .refl _
  | a :: l => (sIns_perm a (isort l)).trans ((isort_perm l).cons a)
theorem sIns_pw (a : Int) : ∀ l : List Int, l.Pairwise (· ≤ ·) → (sIns a l).Pairwise (· ≤ ·)
  | [], _ => by simp [sIns]
  | b :: l, h => by
    unfold sIns
    rw [List.pairwise_cons] at h
    split
    · rename_i hab
      rw [List.pairwise_cons, List.pairwise_cons]
      refine ⟨fun x hx => ?_, h.1, h.2⟩
      rcases List.mem_cons.mp hx with e | e
      · rw [e]; exact hab
      · exact Int.le_trans hab (h.1 x e)
    · rename_i hab
      rw [List.pairwise_cons]
      refine ⟨fun x hx => ?_, sIns_pw a l h.2⟩
      rcases List.mem_cons.mp ((sIns_perm a l).mem_iff.mp hx) with e | e
      · omega
      · exact h.1 x e
theorem isort_pw : ∀ l : List Int, (isort l).Pairwise (· ≤ ·)
  | [] => .nil
  | a :: l => sIns_pw a _ (isort_pw l)
theorem sorted_one : ∀ {l l' : List Int}, l.Perm l' → l.Pairwise (· ≤ ·) → l'.Pairwise (· ≤ ·) → l = l'
  | [], l', p, _, _ => by rw [List.nil_perm.mp p]
  | a :: l, [], p, _, _ => by simp at p
  | a :: l, b :: l', p, h, h' => by
    rw [List.pairwise_cons] at h h'
    have e : a = b := by
      have h1 : a ∈ b :: l' := p.mem_iff.mp List.mem_cons_self
      have h2 : b ∈ a :: l := p.mem_iff.mpr List.mem_cons_self
      rcases List.mem_cons.mp h1 with e | e
      · exact e
      · rcases List.mem_cons.mp h2 with e' | e'
        · exact e'.symm
        · have := h'.1 a e; have := h.1 b e'; omega
    subst e
    rw [sorted_one (List.Perm.cons_inv p) h.2 h'.2]
def intsD : List D → Option (List Int)
  | [] => some []
  | .int i :: ds => (intsD ds).bind fun is => some (i :: is)
  | _ => none
theorem intsD_eq : ∀ {ds : List D} {is : List Int}, intsD ds = some is → ds = is.map .int
  | [], _, h => by cases h; rfl
  | d :: ds, is, h => by
    cases d with
    | int i =>
      rw [intsD] at h
      cases q : intsD ds with
      | none => rw [q] at h; cases h
      | some js => rw [q] at h; cases h; rw [intsD_eq q]; rfl
    | _ => simp [intsD] at h
theorem intsD_map : ∀ is : List Int, intsD (is.map .int) = some is
  | [] => rfl
  | i :: is => by simp [intsD, intsD_map is]
theorem rls_ints {K : PySem.W.Frag} {H : Hp} {m : List Addr} : ∀ {is : List Int} {vs : List V}, Rls K H m (is.map .int) vs → vs = is.map V.int
  | [], _, h => rls_nil h
  | i :: is, _, h => by
    rw [List.map_cons, Rls] at h
    obtain ⟨v, r, rfl, h1, h2⟩ := h
    rw [Rl] at h1
    rw [h1, rls_ints h2]; rfl
def oSorted : Cop := fun ds M => match ds with
  | [d] => (asL M d).bind fun es => (intsD es).bind fun is => some (.new ((isort is).map .int))
  | _ => none
theorem ok_sorted : ClOk X (.builtin "sorted") oSorted := by
  refine ⟨_, cr_sortedI, fun H m M ds xs z Q w rd ho P => ?_⟩
  unfold oSorted at ho
  split at ho
  · rename_i d
    obtain ⟨v, rfl, r⟩ := rd.one
    cases q : asL M d with
    | none => rw [q] at ho; cases ho
    | some es =>
      cases q2 : intsD es with
      | none => simp [q, q2] at ho
      | some is =>
        simp [q, q2] at ho
        subst ho
        obtain ⟨a, vs, rfl, hs, hr⟩ := asL_ok w r q
        rw [intsD_eq q2] at hr
        have e := rls_ints hr
        subst e
        refine ⟨a, is, rfl, hs, fun ns' p hp hw hn => ?_⟩
        rw [sorted_one (hp.trans (isort_perm is).symm) hw (isort_pw is)]
        exact P.new w .ints p hn
  · cases ho

/-! ### isinstance -/
def tyOf (M : Mem) : D → Option String
  | .non => some "NoneType" | .bl _ => some "bool" | .int _ => some "int" | .str _ => some "str" | .tup _ => some "tuple" | .lst _ => some "list" | .scr _ => some "list"
  | .loc k => match M[k]? with
    | some (.lst _) => some "list"
    | some (.dct _) => some "dict"
    | _ => none
def cIsI (n : String) (f : Ef) : Ef := fun ρ M => (f ρ M).bind fun p => (tyOf p.2 p.1.d).bind fun t => (kitB t n).bind fun b => some (.val (.bl b), p.2)
/-! ### truth -/
def trD (M : Mem) (d : D) : Option Bool := match d with
  | .non => some false
  | .bl b => some b
  | .int i => some (i != 0)
  | .str y => if y.length ≤ sizeLine then some ((y.length : Int) != 0) else none
  | d => (asS M d).bind fun ds => some (!ds.isEmpty)
def toTr (f : Ef) : Tf := fun ρ M => (f ρ M).bind fun p => (trD p.2 p.1.d).bind fun b => some (b, p.2)
theorem ct_truth {f : Ef} (ha : CEx X e f) (he : ∀ whole, isTrue e X.env whole = (do let v ← whole; standAt e.pos; holding [v] (truthy v))) : CTx X e (toTr f) := PT.imp (pt_truth ha he) fun σ H Q h => by
  obtain ⟨ρ, M, m, z, M', rs, w, hf, P⟩ := h
  unfold toTr at hf
  cases ea : f ρ M with
  | none => rw [ea] at hf; cases hf
  | some p =>
    cases eb : trD p.2 p.1.d with
    | none => simp [ea, eb] at hf
    | some b =>
      simp [ea, eb] at hf
      obtain ⟨rfl, rfl⟩ := hf
      refine bindE rs w ea fun H1 m1 v e1 w1 rs1 r1 => ⟨b, ?_, P H1 m1 e1 w1⟩
      unfold trD at eb
      split at eb
      · rename_i hd; rw [hd, Rl] at r1; subst r1; cases eb; rfl
      · rename_i hd; rw [hd, Rl] at r1; subst r1; cases eb; rfl
      · rename_i hd; rw [hd, Rl] at r1; subst r1; cases eb; rfl
      · rename_i hd
        rw [hd, Rl] at r1; subst r1
        split at eb
        · rename_i hz; cases eb; exact ⟨hz, rfl⟩
        · cases eb
      · cases q : asS p.2 p.1.d with
        | none => simp [q] at eb
        | some ds =>
          simp only [q, Option.bind_some, Option.some.injEq] at eb
          subst eb
          obtain ⟨a, vs, rfl, hs, hr⟩ := asS_ok w1 r1 q
          have e : ds.isEmpty = vs.isEmpty := by
            have := hr.length
            cases ds <;> cases vs <;> simp_all
          rcases hs with hs | hs
          · exact .inl ⟨vs, hs, by rw [e]⟩
          · exact .inr (.inl ⟨vs, hs, by rw [e]⟩)
end
end CI

/-! Ci5: calls of defs, attributes, methods, statements, loops -/
namespace CI
open PySem PySem.Spec PyProof.Rows L2

/-! ### what a def means -/
def Fn := List D → Mem → Option (Rz × Mem)
def spF (K : PySem.W.Frag) (F : Fn) : Sp := fun vs H Q _ => ∃ ds M m r M', Rls K H m ds vs ∧ Wd K H m M ∧ F ds M = some (r, M') ∧ Post K H m r M' Q
def cCall (F : Fn) (g : Af) : Ef := fun ρ M => (g ρ M).bind fun p => F p.1 p.2
def cNew (c : Str) (F : Fn) (g : Af) : Ef := fun ρ M => (g ρ M).bind fun p => (F (.loc p.2.length :: p.1) (p.2 ++ [.ins c []])).bind fun q => match q.1 with
  | .val .non => some (.val (.loc p.2.length), q.2)
  | _ => none
def cMeth (c m : Str) (F : Fn) (f : Ef) (g : Af) : Ef := fun ρ M => (f ρ M).bind fun p => match p.1.d with
  | .loc k => match p.2[k]? with
    | some (.ins c' fs) => if c' = c ∧ fs.lookup m = none then (g ρ p.2).bind fun q => F (.loc k :: q.1) q.2 else none
    | _ => none
  | _ => none
def cFld (cs : List Str) (f : Str) (fo : Ef) : Ef := fun ρ M => (fo ρ M).bind fun p => match p.1.d with
  | .loc k => match p.2[k]? with
    | some (.ins c fs) => if c ∈ cs then (fs.lookup f).bind fun d => some (.val d, p.2) else none
    | _ => none
  | _ => none
section
variable {X : Cx} {k : Nat} {f : Addr} {fd : FuncData} {ps : List Str} {x m c : Str} {p pos apos : Pos} {e o : Expr} {es : List Expr} {G : Fn} {fo : Ef} {g : Af}
theorem call_of {σ : L2.St} {H : Hp} {Q : VK} {E : XK} (h : tE X.K (cCall G g) σ H Q) : tCall (spF X.K G) [] E (tA X.K g) σ H Q := by
  obtain ⟨ρ, M, m, z, M', rs, w, hf, P⟩ := h
  unfold cCall at hf
  cases ea : g ρ M with
  | none => rw [ea] at hf; cases hf
  | some p =>
    rw [ea] at hf
    exact bindA rs w ea fun H1 m1 vs e1 w1 rs1 r1 => ⟨p.1, p.2, m1, z, M', by rw [List.append_nil]; exact r1, w1, hf, P.ext e1⟩
theorem ce_call (F : FnOk X.prog X.w X.K X.mg X.base CX0 k f fd ps (spF X.K G)) (hr : Room k X.A) (hg : Gl X x) (hm : X.mg x = some (.ref f)) (hk : PySem.W.keepIn X.K (.ref f) = true) (hb : Binds X.K fd ps [])
    (ha : CAx X (e :: es) g) (hdb : (x == ("__debug__" : Str)) = false := by decide) (he : starEach (e :: es) X.env = (false, eval e X.env) :: starEach es X.env := by rfl) (hpl : (backTo pos (starEach es X.env)).any (·.1) = false := by rfl) :
    CEx X (.Call (.Name x p) (e :: es) [] pos) (cCall G g) := PE.imp (pe_call F hr hg hm hk hb .nil pass0 ha hdb he hpl) fun _ _ _ h => call_of h
end

/-! ### methods of lists -/
def Mop := D → List D → Mem → Option (Rz × Mem)
def MtOk (X : Cx) (T id : String) (o : Mop) : Prop := ∃ r, MtR X id r ∧ ∀ H m M d ds x xs z M' Q, Wd X.K H m M → Rl X.K H m d x → Rls X.K H m ds xs → o d ds M = some (z, M') → Post X.K H m z M' Q → r x xs H Q
def cBM (T : String) (o : Mop) (f : Ef) (g : Af) : Ef := fun ρ M => (f ρ M).bind fun p => if tyOf p.2 p.1.d = some T then (g ρ p.2).bind fun q => o p.1.d q.1 q.2 else none
section
variable {X : Cx} {o e : Expr} {es : List Expr} {fo : Ef} {g : Af} {name : Str} {apos cpos : Pos} {id : String} {op : Mop}
theorem tyV_list {K : PySem.W.Frag} {H : Hp} {m : List Addr} {M : Mem} {d : D} {x : V} (w : Wd K H m M) (r : Rl K H m d x) (h : tyOf M d = some "list") : tyV K "list" x H := by
  cases d with
  | lst ds => rw [Rl] at r; obtain ⟨a, vs, rfl, _, h1, _⟩ := r; exact .inl ⟨rfl, vs, .of h1⟩
  | scr ns => rw [Rl] at r; obtain ⟨a, rfl, h1⟩ := r; exact .inl ⟨rfl, _, h1.l⟩
  | loc k =>
    rw [Rl] at r
    obtain ⟨a, rfl, ha⟩ := r
    unfold tyOf at h
    simp only at h
    split at h
    · rename_i ds hk
      obtain ⟨b, hb, vs, h1, h2⟩ := w.get hk
      rw [ha] at hb; cases hb
      exact .inl ⟨rfl, vs, .of h1⟩
    · exact absurd (Option.some.inj h) (by decide)
    · cases h
  | non => exact absurd (Option.some.inj h) (by decide)
  | bl b => exact absurd (Option.some.inj h) (by decide)
  | int b => exact absurd (Option.some.inj h) (by decide)
  | str b => exact absurd (Option.some.inj h) (by decide)
  | tup b => exact absurd (Option.some.inj h) (by decide)
theorem bm_of {r : V → List V → Hp → VK → Prop} (ho : ∀ H m M d ds x xs z M' Q, Wd X.K H m M → Rl X.K H m d x → Rls X.K H m ds xs → op d ds M = some (z, M') → Post X.K H m z M' Q → r x xs H Q) {σ : L2.St} {H : Hp} {Q : VK}
    (h : tE X.K (cBM "list" op fo g) σ H Q) : tBM X.K "list" r (tE X.K fo) (tA X.K g) σ H Q := by
  obtain ⟨ρ, M, mm, z, M', rs, w, hf, P⟩ := h
  unfold cBM at hf
  cases ea : fo ρ M with
  | none => rw [ea] at hf; cases hf
  | some p =>
    rw [ea] at hf
    simp only [Option.bind_some] at hf
    refine bindE rs w ea fun H1 m1 v e1 w1 rs1 r1 => ?_
    split at hf
    · rename_i ht
      refine ⟨tyV_list w1 r1 ht, ?_⟩
      cases eg : g ρ p.2 with
      | none => rw [eg] at hf; cases hf
      | some q =>
        rw [eg] at hf
        simp only [Option.bind_some] at hf
        exact bindA rs1 w1 eg fun H2 m2 vs e2 w2 rs2 r2 => ho H2 m2 q.2 _ _ _ _ _ _ Q w2 (r1.ext e2) r2 hf (P.ext (e1.trans e2))
    · cases hf
theorem ce_bm (pa : PlainAttrs "list") (slot : Slot "list" name id) (hty : typeOf (.builtin id) = pure (.type "method_descriptor")) (hm : MtOk X "list" id op) (ho : CEx X o fo) (ha : CAx X (e :: es) g)
    (hbase : attributeBase o name X.env (eval o X.env) = eval o X.env := by rfl)
    (hfew : ((backTo cpos (starEach (e :: es) X.env)).all (fun x => !x.1) && (backToKw cpos (keywordEach [] X.env)).all (fun x => x.1.isSome)
      && decide ((e :: es).length + ([] : List Keyword).length + (if ([] : List Keyword).isEmpty then 0 else 1) < 30)) = true := by rfl)
    (hline : (apos.endLine == cpos.line) = true := by rfl) (hs : starEach (e :: es) X.env = (false, eval e X.env) :: starEach es X.env := by rfl) (hplain : (backTo cpos (starEach es X.env)).any (·.1) = false := by rfl) :
    CEx X (.Call (.Attribute o name apos) (e :: es) [] cpos) (cBM "list" op fo g) := by
  obtain ⟨r, h1, h2⟩ := hm
  exact PE.imp (pe_bm pa slot hty h1 ho ha hbase hfew hline hs hplain) fun _ _ _ h => bm_of h2 h
/-- the object k is changed: what follows -/
theorem Post.set {K : PySem.W.Frag} {H : Hp} {m : List Addr} {M : Mem} {k : Nat} {a : Addr} {ob : O} {u : HO} {z : D} {v : V} {Q : VK} (w : Wd K H m M) (hk : m[k]? = some a) (P : Post K H m (.val z) (M.set k ob) Q)
    (ho : Ro K (upd H a u) m a ob) (hz : Rl K (upd H a u) m z v) : Q v (upd H a u) := P _ m (w.ext_set hk) (w.set hk ho) v hz
def oAppend : Mop := fun d ds M => match d, ds with
  | .loc k, [x] => match M[k]? with
    | some (.lst es) => if es.length < sizeLine then some (.val .non, M.set k (.lst (es ++ [x]))) else none
    | _ => none
  | _, _ => none
theorem ok_append : MtOk X "list" "list.append" oAppend := by
  refine ⟨_, mt_append, fun H m M d ds x xs z M' Q w rd rds ho P => ?_⟩
  unfold oAppend at ho
  split at ho
  · rename_i k y
    split at ho
    · rename_i es hk
      split at ho
      · rename_i hz
        cases ho
        rw [Rl] at rd
        obtain ⟨a, rfl, ha⟩ := rd
        obtain ⟨b, hb, vs, h1, h2⟩ := w.get hk
        rw [ha] at hb; cases hb
        obtain ⟨v, rfl, rv⟩ := rds.one
        have e := w.ext_set (K := X.K) (u := .lst (vs ++ [v])) ha
        refine ⟨a, vs, v, rfl, rfl, h1, by rw [← h2.length]; exact hz, P.set w ha ⟨_, upd_same, ?_⟩ rl_non⟩
        exact (h2.ext e).append (by rw [Rls]; exact ⟨_, _, rfl, rv.ext e, by rw [Rls]⟩)
      · cases ho
    · cases ho
  · cases ho
end

/-! ### statements -/
inductive Fl where
  | nx | bk | ct | rt (r : Rz)
abbrev Sf := Slots → Mem → Option (Fl × Slots × Mem)
def PostN (K : PySem.W.Frag) (H : Hp) (m : List Addr) (ρ' : Slots) (M' : Mem) (N : L2.St → Hp → Prop) : Prop := ∀ H1 m1 σ1, Ext H m H1 m1 → Wd K H1 m1 M' → Rs K H1 m1 ρ' σ1 → N σ1 H1
def PostS (K : PySem.W.Frag) (H : Hp) (m : List Addr) (fl : Fl) (ρ' : Slots) (M' : Mem) (Dn : Ends) : Prop := match fl with
  | .nx => PostN K H m ρ' M' Dn.nx
  | .bk => PostN K H m ρ' M' Dn.bk
  | .ct => PostN K H m ρ' M' Dn.ct
  | .rt r => Post K H m r M' Dn.rt
def tS (K : PySem.W.Frag) (f : Sf) : TS := fun Dn σ H => ∃ ρ M m fl ρ' M', Rs K H m ρ σ ∧ Wd K H m M ∧ f ρ M = some (fl, ρ', M') ∧ PostS K H m fl ρ' M' Dn
abbrev CSx (X : Cx) (st : Stmt) (f : Sf) : Prop := PS X st (tS X.K f)
abbrev CBx (X : Cx) (st : List Stmt) (f : Sf) : Prop := PSs X st (tS X.K f)
theorem PS.imp {X : Cx} {e : Stmt} {t t' : TS} (h : PS X e t) (i : ∀ Dn σ H, t' Dn σ H → t Dn σ H) : PS X e t' := ⟨fun pins s σ H Q I q => h.run pins s σ H Q I (i Q σ H q)⟩
theorem PSs.imp {X : Cx} {e : List Stmt} {t t' : TS} (h : PSs X e t) (i : ∀ Dn σ H, t' Dn σ H → t Dn σ H) : PSs X e t' := ⟨fun pins s σ H Q I q => h.run pins s σ H Q I (i Q σ H q)⟩
section
variable {K : PySem.W.Frag} {H H1 : Hp} {m m1 : List Addr} {ρ' : Slots} {M' : Mem} {fl : Fl} {Dn : Ends}
theorem PostN.ext {N : L2.St → Hp → Prop} (P : PostN K H m ρ' M' N) (e : Ext H m H1 m1) : PostN K H1 m1 ρ' M' N := fun H2 m2 σ2 e2 w r => P H2 m2 σ2 (e.trans e2) w r
theorem PostS.ext (P : PostS K H m fl ρ' M' Dn) (e : Ext H m H1 m1) : PostS K H1 m1 fl ρ' M' Dn := by
  cases fl with
  | nx => exact PostN.ext P e
  | bk => exact PostN.ext P e
  | ct => exact PostN.ext P e
  | rt r => exact Post.ext P e
end
section
variable {X : Cx} {st : Stmt} {rest : List Stmt} {f g : Sf} {fe fo : Ef} {ft : Tf} {e : Expr} {pos : Pos}
def sNil : Sf := fun ρ M => some (.nx, ρ, M)
def sCons (f g : Sf) : Sf := fun ρ M => (f ρ M).bind fun p => match p.1 with
  | .nx => g p.2.1 p.2.2
  | fl => some (fl, p.2.1, p.2.2)
theorem nx_of {Dn : Ends} {σ : L2.St} {H : Hp} (h : tS X.K sNil Dn σ H) : Dn.nx σ H := by
  obtain ⟨ρ, M, m, fl, ρ', M', rs, w, hf, P⟩ := h
  cases hf
  exact P H m σ .refl w rs
theorem cb_nil : CBx X [] sNil := PSs.imp pss_nil fun _ _ _ h => nx_of h
theorem cb_cons (h1 : CSx X st f) (h2 : CBx X rest g) : CBx X (st :: rest) (sCons f g) := PSs.imp (pss_cons h1 h2) fun Dn σ H h => by
  obtain ⟨ρ, M, m, fl, ρ', M', rs, w, hf, P⟩ := h
  unfold sCons at hf
  cases ea : f ρ M with
  | none => rw [ea] at hf; cases hf
  | some p =>
    obtain ⟨fl1, ρ1, M1⟩ := p
    rw [ea] at hf
    simp only [Option.bind_some] at hf
    refine ⟨ρ, M, m, fl1, ρ1, M1, rs, w, ea, ?_⟩
    cases fl1 with
    | nx => exact fun H1 m1 σ1 e1 w1 r1 => ⟨ρ1, M1, m1, fl, ρ', M', r1, w1, hf, P.ext e1⟩
    | bk => cases hf; exact P
    | ct => cases hf; exact P
    | rt r => cases hf; exact P
theorem cb_one (h1 : CSx X st f) : CBx X [st] f := pss_one h1
def sBreak : Sf := fun ρ M => some (.bk, ρ, M)
def sCont : Sf := fun ρ M => some (.ct, ρ, M)
def sExpr (f : Ef) : Sf := fun ρ M => (f ρ M).bind fun p => some (.nx, ρ, p.2)
theorem cs_expr (he : CEx X e fe) (hs : swapsWith e none pos.line X.env = pure false := by rfl) : CSx X (.Expr e pos) (sExpr fe) := PS.imp (ps_expr he hs) fun Dn σ H h => by
  obtain ⟨ρ, M, m, fl, ρ', M', rs, w, hf, P⟩ := h
  unfold sExpr at hf
  cases ea : fe ρ M with
  | none => rw [ea] at hf; cases hf
  | some p =>
    rw [ea] at hf
    cases hf
    exact bindE rs w ea fun H1 m1 v e1 w1 rs1 r1 => P H1 m1 σ e1 w1 rs1
def sRet (f : Ef) : Sf := fun ρ M => (f ρ M).bind fun p => some (.rt p.1, ρ, p.2)
theorem cs_ret (he : CEx X e fe) : CSx X (.Return (some e) pos) (sRet fe) := PS.imp (ps_ret he) fun Dn σ H h => by
  obtain ⟨ρ, M, m, fl, ρ', M', rs, w, hf, P⟩ := h
  unfold sRet at hf
  cases ea : fe ρ M with
  | none => rw [ea] at hf; cases hf
  | some p =>
    rw [ea] at hf
    cases hf
    exact ⟨ρ, M, m, p.1, p.2, rs, w, ea, P⟩
def sRetN : Sf := fun ρ M => some (.rt (.val .non), ρ, M)
def sIf (t : Tf) (f g : Sf) : Sf := fun ρ M => (t ρ M).bind fun p => if p.1 = true then f ρ p.2 else g ρ p.2
theorem cs_if {c : Expr} {a b : List Stmt} (hc : CTx X c ft) (ha : CBx X a f) (hb : CBx X b g) : CSx X (.If c a b pos) (sIf ft f g) := PS.imp (ps_if hc ha hb) fun Dn σ H h => by
  obtain ⟨ρ, M, m, fl, ρ', M', rs, w, hf, P⟩ := h
  unfold sIf at hf
  cases ea : ft ρ M with
  | none => rw [ea] at hf; cases hf
  | some p =>
    rw [ea] at hf
    simp only [Option.bind_some] at hf
    refine bindT rs w ea fun H1 m1 e1 w1 rs1 => ?_
    split at hf
    · rename_i e; rw [if_pos e]; exact ⟨ρ, p.2, m1, fl, ρ', M', rs1, w1, hf, P.ext e1⟩
    · rename_i e; rw [if_neg e]; exact ⟨ρ, p.2, m1, fl, ρ', M', rs1, w1, hf, P.ext e1⟩
/-- name = value -/
def sSet (i : Nat) (f : Ef) : Sf := fun ρ M => (f ρ M).bind fun p => some (.nx, ρ.set i (some p.1.d), p.2)
theorem cs_set {i : Nat} (h : PS X st (tAsg (tE X.K fe) (gName i))) : CSx X st (sSet i fe) := PS.imp h fun Dn σ H h => by
  obtain ⟨ρ, M, m, fl, ρ', M', rs, w, hf, P⟩ := h
  unfold sSet at hf
  cases ea : fe ρ M with
  | none => rw [ea] at hf; cases hf
  | some p =>
    rw [ea] at hf
    cases hf
    exact bindE rs w ea fun H1 m1 v e1 w1 rs1 r1 => P H1 m1 _ e1 w1 (rs1.set r1 i)
/-- name = value, a new list becomes an object of our own -/
def sSetM (i : Nat) (f : Ef) : Sf := fun ρ M => (f ρ M).bind fun p => match p.1 with
  | .new ds => some (.nx, ρ.set i (some (.loc p.2.length)), p.2 ++ [.lst ds])
  | .val d => some (.nx, ρ.set i (some d), p.2)
theorem cs_setM {i : Nat} (h : PS X st (tAsg (tE X.K fe) (gName i))) : CSx X st (sSetM i fe) := PS.imp h fun Dn σ H h => by
  obtain ⟨ρ, M, m, fl, ρ', M', rs, w, hf, P⟩ := h
  unfold sSetM at hf
  cases ea : fe ρ M with
  | none => rw [ea] at hf; cases hf
  | some p =>
    obtain ⟨r, M1⟩ := p
    rw [ea] at hf
    simp only [Option.bind_some] at hf
    refine ⟨ρ, M, m, r, M1, rs, w, ea, fun H1 m1 e1 w1 => ?_⟩
    cases r with
    | val d =>
      cases hf
      exact fun v r1 => P H1 m1 _ e1 w1 ((rs.ext e1).set r1 i)
    | new ds =>
      cases hf
      intro vs a r1 n
      obtain ⟨w2, e2⟩ := w1.push (o := .lst ds) (u := .lst vs) n (by
        refine ⟨vs, upd_same, ?_⟩
        have e1 : Ext H1 m1 (upd H1 a (.lst vs)) m1 := .new n
        exact r1.ext ⟨e1.tup, e1.frz, e1.oth, e1.trk, [a], rfl, fun b q => by simp at q; rw [q]; exact n⟩)
      refine P _ _ _ (e1.trans e2) w2 (((rs.ext e1).ext e2).set ?_ i)
      rw [Rl]
      exact ⟨a, rfl, by rw [← w1.len, List.getElem?_append_right (Nat.le_refl _)]; simp⟩
end

/-! ### fields stored -/
def putD (f : Str) (v : D) : List (Str × D) → List (Str × D)
  | [] => [(f, v)]
  | (g, x) :: r => if g = f then (g, v) :: r else (g, x) :: putD f v r
theorem Rfs.put {K : PySem.W.Frag} {H : Hp} {m : List Addr} {f : Str} {d : D} {v : V} (r : Rl K H m d v) : ∀ {fs : List (Str × D)} {gs : List (Str × V)}, Rfs K H m fs gs → Rfs K H m (putD f d fs) (putF f v gs)
  | [], _, h => by cases h; exact ⟨v, [], rfl, r, rfl⟩
  | (g, x) :: fs, _, h => by
    obtain ⟨u, s, rfl, h1, h2⟩ := h
    unfold putD putF
    split
    · exact ⟨v, s, rfl, r, h2⟩
    · exact ⟨u, _, rfl, h1, Rfs.put r h2⟩
def stFld (cs : List Str) (f : Str) (fo : Ef) (d : D) (ρ : Slots) (M : Mem) : Option (Fl × Slots × Mem) := (fo ρ M).bind fun q => match q.1.d with
  | .loc k => match q.2[k]? with
    | some (.ins c fs) => if c ∈ cs ∧ fs.length < 1000 then some (.nx, ρ, q.2.set k (.ins c (putD f d fs))) else none
    | _ => none
  | _ => none
def sFldS (cs : List Str) (f : Str) (fo fv : Ef) : Sf := fun ρ M => (fv ρ M).bind fun p => stFld cs f fo p.1.d ρ p.2
def sFldM (cs : List Str) (f : Str) (fo fv : Ef) : Sf := fun ρ M => (fv ρ M).bind fun p => match p.1 with
  | .new ds => stFld cs f fo (.loc p.2.length) ρ (p.2 ++ [.lst ds])
  | .val d => stFld cs f fo d ρ p.2
section
variable {X : Cx} {st : Stmt} {fe fo fv : Ef} {o value : Expr} {n : Str} {pos pos' : Pos} {cs : List Str}
end
end CI

/-! Ci6: targets, loops, defs -/
namespace CI
open PySem PySem.Spec PyProof.Rows L2

/-! ### targets -/
abbrev Gf := D → Slots → Mem → Option (Slots × Mem)
abbrev GsF := List D → Slots → Mem → Option (Slots × Mem)
def tG (K : PySem.W.Frag) (g : Gf) : TG := fun v σ H Q => ∃ d ρ M m ρ' M', Rl K H m d v ∧ Rs K H m ρ σ ∧ Wd K H m M ∧ g d ρ M = some (ρ', M') ∧ PostN K H m ρ' M' Q
def tGs (K : PySem.W.Frag) (g : GsF) : TGs := fun vs σ H Q => ∃ ds ρ M m ρ' M', Rls K H m ds vs ∧ Rs K H m ρ σ ∧ Wd K H m M ∧ g ds ρ M = some (ρ', M') ∧ PostN K H m ρ' M' Q
theorem PG.imp {X : Cx} {e : Expr} {t t' : TG} (h : PG X e t) (i : ∀ v σ H Q, t' v σ H Q → t v σ H Q) : PG X e t' := ⟨fun pins s σ H v u Q I r q => h.run pins s σ H v u Q I r (i v σ H Q q)⟩
theorem PGs.imp {X : Cx} {e : List Expr} {t t' : TGs} (h : PGs X e t) (i : ∀ v σ H Q, t' v σ H Q → t v σ H Q) : PGs X e t' := ⟨fun pins s σ H v u Q I r q => h.run pins s σ H v u Q I r (i v σ H Q q)⟩
abbrev CGx (X : Cx) (e : Expr) (g : Gf) : Prop := PG X e (tG X.K g)
abbrev CGsx (X : Cx) (es : List Expr) (g : GsF) : Prop := PGs X es (tGs X.K g)
def gNm (i : Nat) : Gf := fun d ρ M => some (ρ.set i (some d), M)
def gsNil : GsF := fun ds ρ M => match ds with
  | [] => some (ρ, M)
  | _ => none
def gsCons (g : Gf) (gs : GsF) : GsF := fun ds ρ M => match ds with
  | d :: ds => (g d ρ M).bind fun p => gs ds p.1 p.2
  | [] => none
def gTp (n : Nat) (gs : GsF) : Gf := fun d ρ M => match d with
  | .tup ds => if ds.length = n then gs ds ρ M else none
  | _ => none
section
variable {X : Cx} {e tg : Expr} {es : List Expr} {g : Gf} {gs : GsF} {pos : Pos} {fe : Ef} {st : Stmt}
theorem cg_of {i : Nat} (h : PG X e (gName i)) : CGx X e (gNm i) := PG.imp h fun v σ H Q ⟨d, ρ, M, m, ρ', M', r, rs, w, hf, P⟩ => by
  cases hf
  exact P H m _ .refl w (rs.set r i)
theorem cgs_nil : CGsx X [] gsNil := PGs.imp pgs_nil fun vs σ H Q ⟨ds, ρ, M, m, ρ', M', r, rs, w, hf, P⟩ => by
  unfold gsNil at hf
  split at hf
  · cases hf
    exact ⟨rls_nil r, P H m _ .refl w rs⟩
  · cases hf
theorem cgs_cons (h1 : CGx X e g) (h2 : CGsx X es gs) (hs : (assignEach (e :: es) X.env).map (·.2) = assign e X.env :: (assignEach es X.env).map (·.2) := by rfl) : CGsx X (e :: es) (gsCons g gs) :=
  PGs.imp (pgs_cons h1 h2 hs) fun vs σ H Q ⟨ds, ρ, M, m, ρ', M', r, rs, w, hf, P⟩ => by
    unfold gsCons at hf
    split at hf
    · rename_i d ds
      rw [Rls] at r
      obtain ⟨v, vr, rfl, r1, r2⟩ := r
      cases ea : g d ρ M with
      | none => rw [ea] at hf; cases hf
      | some p =>
        rw [ea] at hf
        simp only [Option.bind_some] at hf
        refine ⟨v, vr, rfl, d, ρ, M, m, p.1, p.2, r1, rs, w, ea, fun H1 m1 σ1 e1 w1 rs1 => ?_⟩
        exact ⟨ds, p.1, p.2, m1, ρ', M', r2.ext e1, rs1, w1, hf, P.ext e1⟩
    · cases hf
theorem cg_tup {k n : Nat} (hc : X.calm = true) (h : CGsx X es gs) (hn : (assignEach es X.env).length = n := by rfl) (hst : (assignEach es X.env).findIdx? (·.1) = none := by rfl) : CGx X (.Tuple es k pos) (gTp n gs) :=
  PG.imp (pg_tup hc h hn hst) fun v σ H Q ⟨d, ρ, M, m, ρ', M', r, rs, w, hf, P⟩ => by
    unfold gTp at hf
    split at hf
    · rename_i ds
      split at hf
      · rename_i hl
        rw [Rl] at r
        obtain ⟨a, vs, rfl, h1, h2⟩ := r
        exact ⟨a, vs, rfl, h1, by rw [← h2.length]; exact hl, ds, ρ, M, m, ρ', M', h2, rs, w, hf, P⟩
      · cases hf
    · cases hf
def sAsg (g : Gf) (f : Ef) : Sf := fun ρ M => (f ρ M).bind fun p => (g p.1.d ρ p.2).bind fun q => some (.nx, q.1, q.2)
end
/-- xs[i] = v as a target -/
def gIx (fo fi : Ef) : Gf := fun d ρ M => (fo ρ M).bind fun p => (fi ρ p.2).bind fun q => match p.1.d, q.1.d with
  | .loc k, .int i => match q.2[k]? with
    | some (.lst es) => (ixN es.length i).bind fun j => some (ρ, q.2.set k (.lst (es.set j d)))
    | _ => none
  | _, _ => none
/-! ### what is walked -/
abbrev If := Slots → Mem → Option (List D × Option Nat × Mem)
def GdOk (K : PySem.W.Frag) (gk : Option Nat) (ds : List D) (H : Hp) (m : List Addr) : Prop := ∀ k, gk = some k → ∃ a vs, m[k]? = some a ∧ H a = some (.lst vs) ∧ Rls K H m ds vs
structure Yl (K : PySem.W.Frag) (H0 : Hp) (m0 : List Addr) (J : It) (ds : List D) (gk : Option Nat) : Prop where
  go : ∀ i H m, i < ds.length → Ext H0 m0 H m → GdOk K gk ds H m → J.go i H
  yld : ∀ i d H m M x H', ds[i]? = some d → Ext H0 m0 H m → GdOk K gk ds H m → Wd K H m M → J.yld i H x H' → Ext H m H' m ∧ Wd K H' m M ∧ Rl K H' m d x
  stop : ∀ H m, Ext H0 m0 H m → GdOk K gk ds H m → J.stop ds.length H
def tI (K : PySem.W.Frag) (f : If) : TI := fun σ H R => ∃ ρ M m ds gk M', Rs K H m ρ σ ∧ Wd K H m M ∧ f ρ M = some (ds, gk, M') ∧
  ∀ H1 m1 J, Ext H m H1 m1 → Wd K H1 m1 M' → GdOk K gk ds H1 m1 → Yl K H1 m1 J ds gk → R J H1
theorem PI.imp {X : Cx} {tg e : Expr} {t t' : TI} (h : PI X tg e t) (i : ∀ σ H R, t' σ H R → t σ H R) : PI X tg e t' := ⟨fun pins s σ H R I q => h.run pins s σ H R I (i σ H R q)⟩
theorem PI.or {X : Cx} {tg e : Expr} {t t' : TI} (h : PI X tg e t) (h' : PI X tg e t') : PI X tg e (fun σ H R => t σ H R ∨ t' σ H R) := ⟨fun pins s σ H R I q => q.elim (h.run pins s σ H R I) (h'.run pins s σ H R I)⟩
abbrev CIx (X : Cx) (tg e : Expr) (f : If) : Prop := PI X tg e (tI X.K f)
def gkOf : D → Option Nat
  | .loc k => some k
  | _ => none
def iSeq (f : Ef) : If := fun ρ M => (f ρ M).bind fun p => (asS p.2 p.1.d).bind fun ds => some (ds, gkOf p.1.d, p.2)
theorem gd_none {K : PySem.W.Frag} {ds : List D} {H : Hp} {m : List Addr} : GdOk K none ds H m := fun k e => by cases e

section
variable {K : PySem.W.Frag} {H : Hp} {m : List Addr} {M : Mem} {a : Addr} {ds : List D} {vs : List V}
theorem yl_tup (h : SqT K H a vs) (r : Rls K H m ds vs) : Yl K H m (Itt K a) ds none where
  go := fun i H1 m1 hi e _ => by
    have hl := r.length
    exact ⟨vs, vs[i], sqT_ext e h, List.getElem?_eq_getElem (by omega)⟩
  yld := fun i d H1 m1 M1 x H' q e _ w y => by
    obtain ⟨rfl, y⟩ := y
    obtain ⟨v, h1, h2⟩ := (r.ext e).get q
    have := y vs (sqT_ext e h)
    rw [h1] at this; cases this
    exact ⟨.refl, w, h2⟩
  stop := fun H1 m1 e _ => ⟨vs, sqT_ext e h, by rw [r.length]; exact Nat.le_refl _⟩
theorem yl_sq (h : ∀ H1 m1, Ext H m H1 m1 → SqL K H1 a vs) (r : Rls K H m ds vs) : Yl K H m (Itl K a) ds none where
  go := fun i H1 m1 hi e _ => by
    have hl := r.length
    exact ⟨vs, vs[i], h _ _ e, List.getElem?_eq_getElem (by omega)⟩
  yld := fun i d H1 m1 M1 x H' q e _ w y => by
    obtain ⟨rfl, y⟩ := y
    obtain ⟨v, h1, h2⟩ := (r.ext e).get q
    have := y vs (h _ _ e)
    rw [h1] at this; cases this
    exact ⟨.refl, w, h2⟩
  stop := fun H1 m1 e _ => ⟨vs, h _ _ e, by rw [r.length]; exact Nat.le_refl _⟩
theorem yl_loc {k : Nat} (h : m[k]? = some a) : Yl K H m (Itl K a) ds (some k) where
  go := fun i H1 m1 hi e g => by
    obtain ⟨b, vs, h1, h2, h3⟩ := g k rfl
    rw [e.get h] at h1; cases h1
    have hl := h3.length
    exact ⟨vs, vs[i], .of h2, List.getElem?_eq_getElem (by omega)⟩
  yld := fun i d H1 m1 M1 x H' q e g w y => by
    obtain ⟨rfl, y⟩ := y
    obtain ⟨b, vs, h1, h2, h3⟩ := g k rfl
    rw [e.get h] at h1; cases h1
    obtain ⟨v, h4, h5⟩ := h3.get q
    have := y vs (.of h2)
    rw [h4] at this; cases this
    exact ⟨.refl, w, h5⟩
  stop := fun H1 m1 e g => by
    obtain ⟨b, vs, h1, h2, h3⟩ := g k rfl
    rw [e.get h] at h1; cases h1
    exact ⟨vs, .of h2, by rw [h3.length]; exact Nat.le_refl _⟩
def rgD (lo : Int) (n : Nat) : List D := (List.range n).map fun (i : Nat) => D.int (lo + i)
theorem rgD_len {lo : Int} {n : Nat} : (rgD lo n).length = n := by unfold rgD; simp
theorem rgD_get {lo : Int} {n i : Nat} {d : D} (h : (rgD lo n)[i]? = some d) : i < n ∧ d = .int (lo + i) := by
  unfold rgD at h
  rw [List.getElem?_map] at h
  cases q : (List.range n)[i]? with
  | none => rw [q] at h; cases h
  | some j =>
    rw [q] at h
    cases h
    obtain ⟨h1, h2⟩ := List.getElem?_eq_some_iff.mp q
    simp at h1 h2
    exact ⟨h1, by rw [h2]⟩
theorem yl_rng {lo : Int} {n : Nat} : Yl K H m (Itr lo n) (rgD lo n) none where
  go := fun i H1 m1 hi e _ => by rw [rgD_len] at hi; exact hi
  yld := fun i d H1 m1 M1 x H' q e _ w y => by
    obtain ⟨rfl, rfl⟩ := y
    obtain ⟨_, rfl⟩ := rgD_get q
    exact ⟨.refl, w, by rw [Rl]⟩
  stop := fun H1 m1 e _ => by rw [rgD_len]; exact Nat.le_refl _
end
section
variable {X : Cx} {tg e a b : Expr} {f fa fb : Ef} {p pos : Pos}
theorem ci_seq (h : CEx X e f) : CIx X tg e (iSeq f) := PI.imp (PI.or (pi_list h) (pi_tup h)) fun σ H R ⟨ρ, M, m, ds, gk, M', rs, w, hf, P⟩ => by
  unfold iSeq at hf
  cases ea : f ρ M with
  | none => rw [ea] at hf; cases hf
  | some q =>
    obtain ⟨r, M1⟩ := q
    rw [ea] at hf
    simp only [Option.bind_some] at hf
    cases es : asS M1 r.d with
    | none => rw [es] at hf; cases hf
    | some ds' =>
      rw [es] at hf
      cases hf
      cases er : r.d with
      | tup es' =>
        refine .inr (bindE rs w ea fun H1 m1 v e1 w1 rs1 r1 => ?_)
        rw [er] at r1 es
        cases es
        rw [Rl] at r1
        obtain ⟨a, vs, rfl, h1, h2⟩ := r1
        rw [er] at P
        exact ⟨a, rfl, ⟨vs, h1⟩, P H1 m1 _ e1 w1 gd_none (yl_tup h1 h2)⟩
      | lst es' =>
        refine .inl (bindE rs w ea fun H1 m1 v e1 w1 rs1 r1 => ?_)
        rw [er] at r1 es
        cases es
        rw [Rl] at r1
        obtain ⟨a, vs, rfl, hn, h1, h2⟩ := r1
        rw [er] at P
        exact ⟨a, rfl, ⟨vs, .of h1⟩, P H1 m1 _ e1 w1 gd_none (yl_sq (fun H2 m2 e2 => .of (e2.lst _ _ hn h1)) h2)⟩
      | scr ns =>
        refine .inl (bindE rs w ea fun H1 m1 v e1 w1 rs1 r1 => ?_)
        rw [er] at r1 es
        cases es
        rw [Rl] at r1
        obtain ⟨a, rfl, h1⟩ := r1
        rw [er] at P
        exact ⟨a, rfl, ⟨_, h1.l⟩, P H1 m1 _ e1 w1 gd_none (yl_sq (fun H2 m2 e2 => (SqS.l (h1.imp (fun ⟨o, s⟩ => ⟨o, e2.frz _ _ _ s⟩) id))) .ints)⟩
      | loc k =>
        refine .inl (bindE rs w ea fun H1 m1 v e1 w1 rs1 r1 => ?_)
        rw [er] at r1 es
        have r2 := r1
        rw [Rl] at r1
        obtain ⟨a, rfl, ha⟩ := r1
        obtain ⟨b, vs, hb, h1, h2⟩ := asW_ok (d := .loc k) (ds := ds) w1 r2 es
        cases hb
        rw [er] at P
        exact ⟨a, rfl, ⟨vs, .of h1⟩, P H1 m1 _ e1 w1 (fun k' hk => by cases hk; exact ⟨a, vs, ha, h1, h2⟩) (yl_loc ha)⟩
      | _ => rw [er] at es; cases es
def rgB (i : Int) : Bool := decide (-(2 ^ 62) ≤ i) && decide (i < 2 ^ 62)
def iRg1 (fa : Ef) : If := fun ρ M => (fa ρ M).bind fun p => match p.1.d with
  | .int j => if rgB j = true then some (rgD 0 j.toNat, none, p.2) else none
  | _ => none
def iRg2 (fa fb : Ef) : If := fun ρ M => (fa ρ M).bind fun p => (fb ρ p.2).bind fun q => match p.1.d, q.1.d with
  | .int i, .int j => if rgB i = true ∧ rgB j = true then some (rgD i (j - i).toNat, none, q.2) else none
  | _, _ => none
theorem rgB_ok {i : Int} (h : rgB i = true) : -(2 ^ 62) ≤ i ∧ i < 2 ^ 62 := by
  unfold rgB at h
  simpa [Bool.and_eq_true] using h
theorem ci_rg1 (hg : Gl X "range") (hm : X.mg "range" = none) (ha : CEx X a fa) (hs : starEach [a] X.env = [(false, eval a X.env)] := by rfl) (hs' : starEach [a] X.env = (false, eval a X.env) :: starEach [] X.env := by rfl) : CIx X tg (.Call (.Name "range" p) [a] [] pos) (iRg1 fa) :=
  PI.imp (pi_range1 hg hm (pa_cons ha pa_nil hs') hs) fun σ H R ⟨ρ, M, m, ds, gk, M', rs, w, hf, P⟩ => by
    unfold iRg1 at hf
    cases ea : fa ρ M with
    | none => rw [ea] at hf; cases hf
    | some q =>
      rw [ea] at hf
      simp only [Option.bind_some] at hf
      refine bindE rs w ea fun H1 m1 v e1 w1 rs1 r1 => ?_
      split at hf
      · rename_i j hj
        split at hf
        · rename_i hb
          cases hf
          rw [hj, Rl] at r1; subst r1
          exact ⟨j, rfl, (rgB_ok hb).1, (rgB_ok hb).2, P H1 m1 _ e1 w1 gd_none yl_rng⟩
        · cases hf
      · cases hf
end

/-! ### for -/
def guard (gk : Option Nat) (ds : List D) (M : Mem) : Prop := ∀ k, gk = some k → M[k]? = some (.lst ds)
abbrev Stp := D → Slots → Mem → Option (Fl × Slots × Mem)
def loopF (step : Stp) : List D → Slots → Mem → Option (Fl × Slots × Mem)
  | [], ρ, M => some (.nx, ρ, M)
  | d :: ds, ρ, M => (step d ρ M).bind fun p => match p.1 with
    | .nx => loopF step ds p.2.1 p.2.2
    | .ct => loopF step ds p.2.1 p.2.2
    | .bk => some (.nx, p.2.1, p.2.2)
    | .rt r => some (.rt r, p.2.1, p.2.2)
open Classical in
noncomputable def stpF (gk : Option Nat) (ds : List D) (g : Gf) (body : Sf) : Stp := fun d ρ M => (g d ρ M).bind fun p => (body p.1 p.2).bind fun q => if guard gk ds q.2.2 then some q else none
theorem gd_of {K : PySem.W.Frag} {H : Hp} {m : List Addr} {M : Mem} {gk : Option Nat} {ds : List D} (w : Wd K H m M) (h : guard gk ds M) : GdOk K gk ds H m := fun k e => by
  obtain ⟨a, h1, vs, h2, h3⟩ := w.get (h k e)
  exact ⟨a, vs, h1, h2, h3⟩
section
variable {X : Cx} {tg iter : Expr} {body : List Stmt} {it : If} {g : Gf} {fb : Sf} {pos : Pos}
end

/-! ### while -/
section
variable {X : Cx} {c : Expr} {body : List Stmt} {t : Tf} {fb : Sf} {pos : Pos}
end

/-! ### a def -/
mutual
def nl (n : Nat) : D → Bool
  | .loc k => decide (k < n)
  | .tup ds => nls n ds
  | .lst ds => nls n ds
  | _ => true
def nls (n : Nat) : List D → Bool
  | [] => true
  | d :: ds => nl n d && nls n ds
end
section
variable {K : PySem.W.Frag} {H : Hp} {m l : List Addr} {a : Addr}
mutual
theorem Rl.cut : ∀ {d : D} {v : V}, Rl K H (m ++ l) d v → nl m.length d = true → Rl K H m d v
  | .non, _, h, _ => by rw [Rl] at h ⊢; exact h
  | .bl _, _, h, _ => by rw [Rl] at h ⊢; exact h
  | .int _, _, h, _ => by rw [Rl] at h ⊢; exact h
  | .str _, _, h, _ => by rw [Rl] at h ⊢; exact h
  | .scr _, _, h, _ => by rw [Rl] at h ⊢; exact h
  | .tup ds, _, h, n => by
    rw [Rl] at h ⊢
    rw [nl] at n
    obtain ⟨a, vs, r, s, t⟩ := h
    exact ⟨a, vs, r, s, Rls.cut' t n⟩
  | .lst ds, _, h, n => by
    rw [Rl] at h ⊢
    rw [nl] at n
    obtain ⟨a, vs, r, z, s, t⟩ := h
    exact ⟨a, vs, r, fun q => z (List.mem_append_left _ q), s, Rls.cut' t n⟩
  | .loc k, _, h, n => by
    rw [Rl] at h ⊢
    rw [nl] at n
    obtain ⟨a, r, s⟩ := h
    exact ⟨a, r, by rw [List.getElem?_append_left (of_decide_eq_true n)] at s; exact s⟩
theorem Rls.cut' : ∀ {ds : List D} {vs : List V}, Rls K H (m ++ l) ds vs → nls m.length ds = true → Rls K H m ds vs
  | [], _, h, _ => by rw [Rls] at h ⊢; exact h
  | d :: ds, _, h, n => by
    rw [Rls] at h ⊢
    rw [nls, Bool.and_eq_true] at n
    obtain ⟨v, r, q, h1, h2⟩ := h
    exact ⟨v, r, q, Rl.cut h1 n.1, Rls.cut' h2 n.2⟩
end
/-- the heap without a -/
def del (H : Hp) (a : Addr) : Hp := fun b => if b = a then none else H b
theorem del_ne {b : Addr} (h : b ≠ a) : del H a b = H b := if_neg h
theorem del_same : del H a a = none := if_pos rfl
theorem upd_del {o : HO} (h : H a = some o) : upd (del H a) a o = H := by
  funext b
  by_cases q : b = a
  · rw [q, upd_same, h]
  · rw [upd_ne q, del_ne q]
mutual
theorem Rl.del {ws : List V} (ha : H a = some (.lst ws)) (hm : a ∈ l) : ∀ {d : D} {v : V}, Rl K H (m ++ l) d v → nl m.length d = true → Rl K (del H a) m d v
  | .non, _, h, _ => by rw [Rl] at h ⊢; exact h
  | .bl _, _, h, _ => by rw [Rl] at h ⊢; exact h
  | .int _, _, h, _ => by rw [Rl] at h ⊢; exact h
  | .str _, _, h, _ => by rw [Rl] at h ⊢; exact h
  | .scr _, _, h, _ => by
    rw [Rl] at h ⊢
    obtain ⟨b, r, s⟩ := h
    exact ⟨b, r, s.imp (fun ⟨o, s⟩ => ⟨o, by rw [del_ne (fun z => by rw [z, ha] at s; cases s)]; exact s⟩) id⟩
  | .tup ds, _, h, n => by
    rw [Rl] at h ⊢
    rw [nl] at n
    obtain ⟨b, vs, r, s, t⟩ := h
    refine ⟨b, vs, r, ?_, Rls.del ha hm t n⟩
    rcases s with (s | ⟨o, s⟩) | s
    · exact .inl (.inl (by rw [del_ne (fun z => by rw [z, ha] at s; cases s)]; exact s))
    · exact .inl (.inr ⟨o, by rw [del_ne (fun z => by rw [z, ha] at s; cases s)]; exact s⟩)
    · exact .inr s
  | .lst ds, _, h, n => by
    rw [Rl] at h ⊢
    rw [nl] at n
    obtain ⟨b, vs, r, z, s, t⟩ := h
    exact ⟨b, vs, r, fun q => z (List.mem_append_left _ q), by rw [del_ne (fun q => z (List.mem_append_right _ (by rw [q]; exact hm)))]; exact s, Rls.del ha hm t n⟩
  | .loc k, _, h, n => by
    rw [Rl] at h ⊢
    rw [nl] at n
    obtain ⟨b, r, s⟩ := h
    exact ⟨b, r, by rw [List.getElem?_append_left (of_decide_eq_true n)] at s; exact s⟩
theorem Rls.del {ws : List V} (ha : H a = some (.lst ws)) (hm : a ∈ l) : ∀ {ds : List D} {vs : List V}, Rls K H (m ++ l) ds vs → nls m.length ds = true → Rls K (del H a) m ds vs
  | [], _, h, _ => by rw [Rls] at h ⊢; exact h
  | d :: ds, _, h, n => by
    rw [Rls] at h ⊢
    rw [nls, Bool.and_eq_true] at n
    obtain ⟨v, r, q, h1, h2⟩ := h
    exact ⟨v, r, q, Rl.del ha hm h1 n.1, Rls.del ha hm h2 n.2⟩
end
end
end CI

/-! Ci7: a def as a function, comprehensions -/
namespace CI
open PySem PySem.Spec PyProof.Rows L2

def nlF (n : Nat) : List (Str × D) → Bool
  | [] => true
  | (_, d) :: fs => nl n d && nlF n fs
def nlK (n : Nat) : List (Key × D) → Bool
  | [] => true
  | (_, d) :: fs => nl n d && nlK n fs
def nlO (n : Nat) : O → Bool
  | .lst ds => nls n ds
  | .ins _ fs => nlF n fs
  | .dct kvs => nlK n kvs
def nlM (n : Nat) : Mem → Bool
  | [] => true
  | o :: M => nlO n o && nlM n M
section
variable {K : PySem.W.Frag} {H H0 : Hp} {m l : List Addr} {M Me : Mem} {a b : Addr}
mutual
theorem Rl.nl : ∀ {d : D} {v : V}, Rl K H m d v → CI.nl m.length d = true
  | .non, _, _ => rfl
  | .bl _, _, _ => rfl
  | .int _, _, _ => rfl
  | .str _, _, _ => rfl
  | .scr _, _, _ => rfl
  | .tup ds, _, h => by
    rw [Rl] at h
    obtain ⟨a, vs, r, s, t⟩ := h
    rw [CI.nl]; exact Rls.nl t
  | .lst ds, _, h => by
    rw [Rl] at h
    obtain ⟨a, vs, r, _, s, t⟩ := h
    rw [CI.nl]; exact Rls.nl t
  | .loc k, _, h => by
    rw [Rl] at h
    obtain ⟨a, r, s⟩ := h
    rw [CI.nl]
    exact decide_eq_true (List.getElem?_eq_some_iff.mp s).1
theorem Rls.nl : ∀ {ds : List D} {vs : List V}, Rls K H m ds vs → nls m.length ds = true
  | [], _, _ => rfl
  | d :: ds, _, h => by
    rw [Rls] at h
    obtain ⟨v, r, q, h1, h2⟩ := h
    rw [nls, Rl.nl h1, Rls.nl h2]; rfl
end
theorem Rfs.nl : ∀ {fs : List (Str × D)} {gs : List (Str × V)}, Rfs K H m fs gs → nlF m.length fs = true
  | [], _, _ => rfl
  | (f, d) :: fs, _, h => by
    obtain ⟨v, r, q, h1, h2⟩ := h
    rw [nlF, h1.nl, Rfs.nl h2]; rfl
theorem Rks.nl : ∀ {fs : List (Key × D)} {gs : List (Key × V)}, Rks K H m fs gs → nlK m.length fs = true
  | [], _, _ => rfl
  | (f, d) :: fs, _, h => by
    obtain ⟨v, r, q, h1, h2⟩ := h
    rw [nlK, h1.nl, Rks.nl h2]; rfl
theorem Ro.nl {o : O} (h : Ro K H m a o) : nlO m.length o = true := by
  cases o with
  | lst ds => obtain ⟨vs, _, h⟩ := h; exact h.nl
  | ins c fs => obtain ⟨dx, gs, _, h⟩ := h; exact h.nl
  | dct kvs => obtain ⟨gs, _, h⟩ := h; exact h.nl
theorem Wd.nl (w : Wd K H m M) : ∀ o ∈ M, nlO m.length o = true := fun o ho => by
  obtain ⟨k, hk, e⟩ := List.mem_iff_getElem.mp ho
  obtain ⟨a, _, r⟩ := w.get (k := k) (by rw [List.getElem?_eq_getElem hk, e])
  exact r.nl
theorem nlM_ok {n : Nat} : ∀ {M : Mem}, nlM n M = true → ∀ o ∈ M, nlO n o = true
  | [], _, o, h => nomatch h
  | p :: M, h, o, ho => by
    rw [nlM, Bool.and_eq_true] at h
    rcases List.mem_cons.mp ho with e | e
    · rw [e]; exact h.1
    · exact nlM_ok h.2 o e
theorem Rfs.cut : ∀ {fs : List (Str × D)} {gs : List (Str × V)}, Rfs K H (m ++ l) fs gs → nlF m.length fs = true → Rfs K H m fs gs
  | [], _, h, _ => h
  | (f, d) :: fs, _, h, n => by
    obtain ⟨v, r, q, h1, h2⟩ := h
    rw [nlF, Bool.and_eq_true] at n
    exact ⟨v, r, q, h1.cut n.1, Rfs.cut h2 n.2⟩
theorem Rks.cut : ∀ {fs : List (Key × D)} {gs : List (Key × V)}, Rks K H (m ++ l) fs gs → nlK m.length fs = true → Rks K H m fs gs
  | [], _, h, _ => h
  | (f, d) :: fs, _, h, n => by
    obtain ⟨v, r, q, h1, h2⟩ := h
    rw [nlK, Bool.and_eq_true] at n
    exact ⟨v, r, q, h1.cut n.1, Rks.cut h2 n.2⟩
theorem Rfs.del {ws : List V} (ha : H a = some (.lst ws)) (hm : a ∈ l) : ∀ {fs : List (Str × D)} {gs : List (Str × V)}, Rfs K H (m ++ l) fs gs → nlF m.length fs = true → Rfs K (CI.del H a) m fs gs
  | [], _, h, _ => h
  | (f, d) :: fs, _, h, n => by
    obtain ⟨v, r, q, h1, h2⟩ := h
    rw [nlF, Bool.and_eq_true] at n
    exact ⟨v, r, q, h1.del ha hm n.1, Rfs.del ha hm h2 n.2⟩
theorem Rks.del {ws : List V} (ha : H a = some (.lst ws)) (hm : a ∈ l) : ∀ {fs : List (Key × D)} {gs : List (Key × V)}, Rks K H (m ++ l) fs gs → nlK m.length fs = true → Rks K (CI.del H a) m fs gs
  | [], _, h, _ => h
  | (f, d) :: fs, _, h, n => by
    obtain ⟨v, r, q, h1, h2⟩ := h
    rw [nlK, Bool.and_eq_true] at n
    exact ⟨v, r, q, h1.del ha hm n.1, Rks.del ha hm h2 n.2⟩
theorem Ro.cut {o : O} (h : Ro K H (m ++ l) b o) (n : nlO m.length o = true) : Ro K H m b o := by
  cases o with
  | lst ds => obtain ⟨vs, h1, h2⟩ := h; exact ⟨vs, h1, Rls.cut' h2 n⟩
  | ins c fs => obtain ⟨dx, gs, h1, h2⟩ := h; exact ⟨dx, gs, h1, h2.cut n⟩
  | dct kvs => obtain ⟨gs, h1, h2⟩ := h; exact ⟨gs, h1, h2.cut n⟩
theorem Ro.del {o : O} {ws : List V} (ha : H a = some (.lst ws)) (hm : a ∈ l) (hb : b ≠ a) (h : Ro K H (m ++ l) b o) (n : nlO m.length o = true) : Ro K (CI.del H a) m b o := by
  cases o with
  | lst ds => obtain ⟨vs, h1, h2⟩ := h; exact ⟨vs, by rw [del_ne hb]; exact h1, Rls.del ha hm h2 n⟩
  | ins c fs => obtain ⟨dx, gs, h1, h2⟩ := h; exact ⟨dx, gs, by rw [del_ne hb]; exact h1, h2.del ha hm n⟩
  | dct kvs => obtain ⟨gs, h1, h2⟩ := h; exact ⟨gs, by rw [del_ne hb]; exact h1, h2.del ha hm n⟩
theorem Ext.back (e : Ext H0 m H (m ++ l)) : Ext H0 m H m := ⟨e.tup, e.frz, e.oth, e.trk, [], by simp, fun _ h => nomatch h⟩
theorem Ext.fresh (e : Ext H0 m H (m ++ l)) (h : a ∈ l) : H0 a = none := by
  obtain ⟨l', q, hl⟩ := e.pre
  rw [List.append_cancel_left q] at h
  exact hl a h
theorem Ext.del {ws : List V} (e : Ext H0 m H (m ++ l)) (h : a ∈ l) : Ext H0 m (CI.del H a) m := by
  have hf := e.fresh h
  have ne : ∀ b o, H0 b = some o → b ≠ a := fun b o q z => by rw [z, hf] at q; cases q
  refine ⟨fun b xs q => by rw [del_ne (ne b _ q)]; exact e.tup b xs q, fun b o u q => by rw [del_ne (ne b _ q)]; exact e.frz b o u q, fun b u n q => by rw [del_ne (ne b _ q)]; exact e.oth b u n q, fun b q => ?_, [], by simp, fun _ h => nomatch h⟩
  by_cases z : b = a
  · rw [z]; exact hf
  · rw [del_ne z] at q; exact e.trk b q
theorem take_get {M Me : Mem} {n k : Nat} {o : O} (t : Me.take n = M) (h : M[k]? = some o) : Me[k]? = some o := by
  rw [← t, List.getElem?_take] at h
  split at h
  · exact h
  · cases h
theorem Wd.cut (w : Wd K H (m ++ l) Me) (t : Me.take m.length = M) (hl : m.length = M.length) (n : ∀ o ∈ M, nlO m.length o = true) : Wd K H m M := by
  refine ⟨hl, (List.nodup_append.mp w.nd).1, fun k b o h1 h2 => ?_⟩
  have hk : k < m.length := (List.getElem?_eq_some_iff.mp h1).1
  exact (w.at_ k b o (by rw [List.getElem?_append_left hk]; exact h1) (take_get t h2)).cut (n o (List.mem_of_getElem? h2))
theorem Wd.del {ws : List V} (w : Wd K H (m ++ l) Me) (t : Me.take m.length = M) (hl : m.length = M.length) (n : ∀ o ∈ M, nlO m.length o = true) (ha : H a = some (.lst ws)) (hm : a ∈ l) : Wd K (CI.del H a) m M := by
  refine ⟨hl, (List.nodup_append.mp w.nd).1, fun k b o h1 h2 => ?_⟩
  have hk : k < m.length := (List.getElem?_eq_some_iff.mp h1).1
  refine (w.at_ k b o (by rw [List.getElem?_append_left hk]; exact h1) (take_get t h2)).del ha hm (fun z => ?_) (n o (List.mem_of_getElem? h2))
  exact (List.nodup_append.mp w.nd).2.2 b (List.mem_of_getElem? h1) a hm z
end

/-! ### what a def hands back -/
open Classical in
noncomputable def finish (M : Mem) (r : Rz) (Me : Mem) : Rz × Mem :=
  if Me.length = M.length then (r, Me) else if Me.take M.length = M then (match r with
    | .val (.loc k) => if k < M.length then (r, M) else match Me[k]? with
      | some (.lst ds) => if nls M.length ds = true then (.new ds, M) else (r, Me)
      | _ => (r, Me)
    | .val d => if nl M.length d = true then (r, M) else (r, Me)
    | .new ds => if nls M.length ds = true then (r, M) else (r, Me)) else (r, Me)
theorem rs_start {K : PySem.W.Frag} {H : Hp} {m : List Addr} {N : List Str} {ds : List D} {vs : List V} (r : Rls K H m ds vs) : Rs K H m (ds.map some ++ List.replicate (N.length - ds.length) none) (L2.start N vs) := by
  unfold L2.start
  have hl := r.length
  refine ⟨by simp [hl], fun i d q => ?_⟩
  by_cases h : i < ds.length
  · rw [List.getElem?_append_left (by simpa using h), List.getElem?_map] at q
    rw [List.getElem?_append_left (by simpa [← hl] using h), List.getElem?_map]
    cases e : ds[i]? with
    | none => rw [e] at q; cases q
    | some d' =>
      rw [e] at q
      simp at q; subst q
      obtain ⟨v, h1, h2⟩ := r.get e
      exact ⟨v, by rw [h1]; rfl, h2⟩
  · rw [List.getElem?_append_right (by simpa using h), List.getElem?_replicate] at q
    split at q
    · simp at q
    · cases q
section
variable {P : Program} {w : World} {K : PySem.W.Frag} {mg : Str → Option Value} {base : Heap} {x qual : Str} {params : Arguments} {body : List Stmt} {scope : Scope} {f : Addr} {fd : FuncData}
end
/-- a law: called with the script it gives True -/
theorem law_sp {K : PySem.W.Frag} {F : Fn} (h : ∀ ns : List Int, ns.length ≤ 63 → ∃ M, F [.scr ns] [] = some (.val (.bl true), M)) (H : Hp) (a : Addr) (ns : List Int) (hl : ns.length ≤ 63) (hO : Only H) (hS : SqL K H a (ns.map V.int)) :
    spF K F [.ref a] H (fun v _ => v = .bl true) fun _ _ _ => False := by
  obtain ⟨M, hM⟩ := h ns hl
  refine ⟨[.scr ns], [], [], _, M, ?_, ⟨rfl, .nil, fun k a o h _ => by simp at h⟩, hM, fun H1 m1 e1 w1 v r => by rw [Rl] at r; exact r⟩
  rw [Rls]
  refine ⟨_, [], rfl, ?_, by rw [Rls]⟩
  rw [Rl]
  refine ⟨a, rfl, ?_⟩
  rcases hS with (h | h) | h
  · rcases hO a with q | ⟨o, xs, q⟩
    · rw [q] at h; cases h
    · rw [q] at h; cases h
  · exact .inl h
  · exact .inr h
end CI

/-! Ci11: comprehensions -/
namespace CI
open PySem PySem.Spec PyProof.Rows L2

/-! ### targets within a block -/
theorem wipe_set {x : Option V} {i : Nat} : ∀ {vs : List Nat} {σ : L2.St}, i ∈ vs → wipe (σ.set i x) vs = wipe σ vs
  | [], _, h => nomatch h
  | v :: vs, σ, h => by
    show (wipe (σ.set i x) vs).set v none = (wipe σ vs).set v none
    by_cases hi : i ∈ vs
    · rw [wipe_set hi]
    · have hv : i = v := (List.mem_cons.mp h).resolve_right hi
      subst hv
      have key : ∀ (vs : List Nat) (σ : L2.St), i ∉ vs → wipe (σ.set i x) vs = (wipe σ vs).set i x := by
        intro vs
        induction vs with
        | nil => intro σ _; rfl
        | cons v vs ih =>
          intro σ hn
          show (wipe (σ.set i x) vs).set v none = ((wipe σ vs).set v none).set i x
          rw [ih σ fun z => hn (List.mem_cons_of_mem _ z)]
          exact List.set_comm _ _ (fun z => hn (by rw [z]; exact List.mem_cons_self))
      rw [key vs σ hi, List.set_set]
theorem wipe_idem : ∀ {vs : List Nat} {σ : L2.St}, wipe (wipe σ vs) vs = wipe σ vs
  | [], _ => rfl
  | v :: vs, σ => by
    show (wipe ((wipe σ vs).set v none) vs).set v none = (wipe σ vs).set v none
    by_cases hv : v ∈ vs
    · rw [wipe_set hv, wipe_idem]
    · have key : ∀ (us : List Nat) (σ : L2.St), v ∉ us → wipe (σ.set v none) us = (wipe σ us).set v none := by
        intro us
        induction us with
        | nil => intro σ _; rfl
        | cons u us ih =>
          intro σ hn
          show (wipe (σ.set v none) us).set u none = ((wipe σ us).set u none).set v none
          rw [ih σ fun z => hn (List.mem_cons_of_mem _ z)]
          exact List.set_comm _ _ (fun z => hn (by rw [z]; exact List.mem_cons_self))
      rw [key vs _ hv, wipe_idem, List.set_set]
def wipeD (ρ : Slots) : List Nat → Slots
  | [] => ρ
  | v :: vs => (wipeD ρ vs).set v none
theorem Rs.wipe {K : PySem.W.Frag} {H : Hp} {m : List Addr} {ρ : Slots} {σ : L2.St} (h : Rs K H m ρ σ) : ∀ vs : List Nat, Rs K H m (wipeD ρ vs) (L2.wipe σ vs)
  | [] => h
  | v :: vs => by
    have r := h.wipe vs
    refine ⟨by show ((wipeD ρ vs).set v none).length = ((L2.wipe σ vs).set v none).length; simp [r.1], fun i d q => ?_⟩
    show ∃ w, ((L2.wipe σ vs).set v none)[i]? = some (some w) ∧ _
    have q : ((wipeD ρ vs).set v none)[i]? = some (some d) := q
    by_cases z : i = v
    · subst z
      obtain ⟨z, _⟩ := List.getElem?_eq_some_iff.mp q
      rw [List.length_set] at z
      rw [List.getElem?_set_self z] at q
      cases q
    · rw [List.getElem?_set_ne (Ne.symm z)] at q
      rw [List.getElem?_set_ne (Ne.symm z)]
      exact r.2 i d q
/-- a target that stores at the slots vs alone -/
def tGw (K : PySem.W.Frag) (vs : List Nat) (g : Gf) : TG := fun v σ H Q => ∃ d ρ M m ρ' M', Rl K H m d v ∧ Rs K H m ρ σ ∧ Wd K H m M ∧ g d ρ M = some (ρ', M') ∧
  ∀ H1 m1 σ1, Ext H m H1 m1 → Wd K H1 m1 M' → Rs K H1 m1 ρ' σ1 → wipe σ1 vs = wipe σ vs → Q σ1 H1
section
variable {X : Cx} {K : PySem.W.Frag} {e tg : Expr} {es : List Expr} {g : Gf} {gs : GsF} {pos : Pos} {vs : List Nat}
theorem cgw_of {i : Nat} (h : PG X e (gName i)) (hi : i ∈ vs) : PG X e (tGw K vs (gNm i)) := PG.imp h fun v σ H Q ⟨d, ρ, M, m, ρ', M', r, rs, w, hf, P⟩ => by
  cases hf
  exact P H m _ .refl w (rs.set r i) (wipe_set hi)
end

/-! ### the comprehension -/
/-- the turns: the list made so far is the object n -/
noncomputable def lcF (g : Gf) (tt : Tf) (te : Ef) (ρw : Slots) (n : Nat) (gk : Option Nat) (ds0 : List D) : List D → Mem → Option Mem
  | [], M => some M
  | d :: ds, M => (g d ρw M).bind fun p => (tt p.1 p.2).bind fun b => if b.1 = true then (te p.1 b.2).bind fun r => (match r.2[n]? with
      | some (.lst acc) => if acc.length < sizeLine then (open Classical in if guard gk ds0 (r.2.set n (.lst (acc ++ [r.1.d]))) then lcF g tt te ρw n gk ds0 ds (r.2.set n (.lst (acc ++ [r.1.d]))) else none) else none
      | _ => none) else (open Classical in if guard gk ds0 b.2 then lcF g tt te ρw n gk ds0 ds b.2 else none)
open Classical in
noncomputable def cLc (it : If) (vs : List Nat) (g : Gf) (tt : Tf) (te : Ef) : Ef := fun ρ M => (it ρ M).bind fun p =>
  (lcF g tt te (wipeD ρ vs) p.2.2.length p.2.1 p.1 p.1 (p.2.2 ++ [.lst []])).bind fun Me => match Me[p.2.2.length]? with
  | some (.lst acc) => if Me.length = p.2.2.length + 1 ∧ (Me.take p.2.2.length = p.2.2 ∨ nlM p.2.2.length (Me.take p.2.2.length) = true) ∧ nls p.2.2.length acc = true then some (.new acc, Me.take p.2.2.length) else none
  | _ => none
def tYesF : Tf := fun _ M => some (true, M)
section
variable {X : Cx} {elt tg iter : Expr} {ifs : List Expr} {scope : Scope} {own : List (Str × Nat)} {pos : Pos} {it : If} {g : Gf} {tt : Tf} {te : Ef}
theorem lc_of {σ : L2.St} {H : Hp} {Q : VK} {vs : List Nat} (h : tE X.K (cLc it vs g tt te) σ H Q) : tLc (tI X.K it) (tGw X.K vs g) (tT X.K tt) (tE X.K te) vs σ H Q := by
  obtain ⟨ρ, M, m, r, M', rs, w, hf, P⟩ := h
  unfold cLc at hf
  cases ea : it ρ M with
  | none => rw [ea] at hf; cases hf
  | some p =>
    obtain ⟨ds, gk, M1⟩ := p
    rw [ea] at hf
    simp only [Option.bind_some] at hf
    cases el : lcF g tt te (wipeD ρ vs) M1.length gk ds ds (M1 ++ [.lst []]) with
    | none => rw [el] at hf; cases hf
    | some Me =>
      rw [el] at hf
      simp only [Option.bind_some] at hf
      refine ⟨ρ, M, m, ds, gk, M1, rs, w, ea, fun H1 m1 J e1 w1 gd1 Y => fun D hD => ?_⟩
      obtain ⟨w2, e2⟩ := w1.push (o := .lst []) (u := .lst []) hD ⟨[], upd_same, by rw [Rls]⟩
      have gd2 : GdOk X.K gk ds (upd H1 D (.lst [])) (m1 ++ [D]) := fun k hk => by
        obtain ⟨a, us, q1, q2, q3⟩ := gd1 k hk
        exact ⟨a, us, e2.get q1, by rw [upd_ne (fun z => by rw [z, hD] at q2; cases q2)]; exact q2, q3.ext e2⟩
      have hn1 : M1.length = m1.length := w1.len.symm
      have hDm : (m1 ++ [D])[M1.length]? = some D := by rw [hn1, List.getElem?_append_right (Nat.le_refl _)]; simp
      refine ⟨fun i n H => n = ds.length - i ∧ i ≤ ds.length ∧ ∃ M2 m2, Ext (upd H1 D (.lst [])) (m1 ++ [D]) H m2 ∧ Wd X.K H m2 M2 ∧ GdOk X.K gk ds H m2 ∧ lcF g tt te (wipeD ρ vs) M1.length gk ds (ds.drop i) M2 = some Me,
        ⟨ds.length, by simp, Nat.zero_le _, M1 ++ [.lst []], m1 ++ [D], .refl, w2, gd2, by simpa using el⟩, ?_⟩
      rintro i n H ⟨rfl, hle, M2, m2, e3, w3, gd3, hl⟩
      have eY : Ext H1 m1 H m2 := e2.trans e3
      by_cases hlt : i < ds.length
      · refine .inr ⟨Y.go i H m2 hlt eY gd3, ?_⟩
        have hd : ds.drop i = ds[i] :: ds.drop (i + 1) := List.drop_eq_getElem_cons hlt
        rw [hd] at hl
        unfold lcF at hl
        refine ⟨fun H' => ∃ M3 m3, Ext H m2 H' m3 ∧ Wd X.K H' m3 M3 ∧ GdOk X.K gk ds H' m3 ∧ lcF g tt te (wipeD ρ vs) M1.length gk ds (ds.drop (i + 1)) M3 = some Me,
          fun H' ⟨M3, m3, e4, w4, gd4, hl4⟩ => ⟨ds.length - (i + 1), by omega, rfl, hlt, M3, m3, e3.trans e4, w4, gd4, hl4⟩, fun x H' y => ?_⟩
        obtain ⟨e4, w4, r4⟩ := Y.yld i ds[i] H m2 M2 x H' (List.getElem?_eq_getElem hlt) eY gd3 w3 y
        cases eg : g ds[i] (wipeD ρ vs) M2 with
        | none => rw [eg] at hl; cases hl
        | some q =>
          rw [eg] at hl
          simp only [Option.bind_some] at hl
          refine ⟨ds[i], wipeD ρ vs, M2, m2, q.1, q.2, r4, ((rs.ext e1).ext (eY.trans e4)).wipe vs, w4, eg, fun H5 m5 σ5 e5 w5 rs5 z5 => ⟨z5.trans wipe_idem, ?_⟩⟩
          cases et : tt q.1 q.2 with
          | none => rw [et] at hl; cases hl
          | some b =>
            rw [et] at hl
            simp only [Option.bind_some] at hl
            refine bindT rs5 w5 et fun H6 m6 e6 w6 rs6 => ?_
            split at hl
            · rename_i hb
              rw [if_pos hb]
              cases ev : te q.1 b.2 with
              | none => rw [ev] at hl; cases hl
              | some rz =>
                rw [ev] at hl
                simp only [Option.bind_some] at hl
                refine bindE rs6 w6 ev fun H7 m7 v e7 w7 rs7 r7 => ?_
                split at hl
                · rename_i acc hacc
                  split at hl
                  · rename_i hz
                    have eAll : Ext (upd H1 D (.lst [])) (m1 ++ [D]) H7 m7 := (((e3.trans e4).trans e5).trans e6).trans e7
                    have hD7 := eAll.get hDm
                    obtain ⟨a, ha, us, h1, h2⟩ := w7.get hacc
                    rw [hD7] at ha; cases ha
                    refine ⟨us, h1, by rw [← h2.length]; exact hz, ?_⟩
                    have e8 := w7.ext_set (u := .lst (us ++ [v])) hD7
                    have w8 := w7.set (o := .lst (acc ++ [rz.1.d])) (u := .lst (us ++ [v])) hD7 ⟨_, upd_same, (h2.ext e8).append (by rw [Rls]; exact ⟨_, _, rfl, r7.ext e8, by rw [Rls]⟩)⟩
                    split at hl
                    · rename_i hgd
                      exact ⟨_, m7, (((e4.trans e5).trans e6).trans e7).trans e8, w8, gd_of w8 hgd, hl⟩
                    · cases hl
                  · cases hl
                · cases hl
            · rename_i hb
              rw [if_neg hb]
              split at hl
              · rename_i hgd
                exact ⟨_, m6, (e4.trans e5).trans e6, w6, gd_of w6 hgd, hl⟩
              · cases hl
      · have e : i = ds.length := by omega
        subst e
        refine .inl ⟨Y.stop H m2 eY gd3, ?_⟩
        rw [List.drop_length] at hl
        unfold lcF at hl
        cases hl
        split at hf
        · rename_i acc hacc
          split at hf
          · rename_i hcond
            obtain ⟨c1, c2, c3⟩ := hcond
            cases hf
            obtain ⟨l, rfl, hl0⟩ := id e3.pre
            have hl1 : l = [] := by
              have := w3.len
              rw [c1, hn1] at this
              simp at this
              exact this
            subst hl1
            rw [List.append_nil] at w3 e3
            obtain ⟨a, ha, us, h1, h2⟩ := w3.get hacc
            rw [hDm] at ha; cases ha
            have eD : Ext H1 m1 H (m1 ++ [D]) := e2.trans e3
            have hnl : ∀ o ∈ Me.take m1.length, nlO m1.length o = true := by
              rw [hn1] at c2
              rcases c2 with c2 | c2
              · rw [c2]; exact w1.nl
              · exact nlM_ok c2
            have hlen : m1.length = (Me.take m1.length).length := by
              rw [List.length_take, c1, hn1]; omega
            rw [hn1] at P c3
            have := P (del H D) m1 (e1.trans (eD.del (ws := us) (by simp))) (w3.del rfl hlen hnl h1 (by simp)) us D (Rls.del h1 (by simp) h2 c3) del_same
            rw [upd_del h1] at this
            exact this
          · cases hf
        · cases hf
theorem ce_lc (hc : X.calm = true) (hN : X.N.Nodup) (hi : CIx X tg iter it) (ok : BlkOk X.N X.env.scope scope own)
    (hg : ∀ (s : Shared) (H : Hp) (C : Addr) (cl : List (Str × Addr)) (fp : List Addr), PG (X.blk s H scope (compEnvC scope cl C X.env) fp) tg (tGw X.K (own.map (·.2)) g)) (ht : ∀ (s : Shared) (H : Hp) (C : Addr) (cl : List (Str × Addr)) (fp : List Addr), PTs (X.blk s H scope (compEnvC scope cl C X.env) fp) ifs (tT X.K tt))
    (he : ∀ (s : Shared) (H : Hp) (C : Addr) (cl : List (Str × Addr)) (fp : List Addr), PE (X.blk s H scope (compEnvC scope cl C X.env) fp) elt (tE X.K te)) (hs : ∀ x, foldedSetIterable iter X.env x = pure x := by intro _; rfl) :
    CEx X (.ListComp elt [⟨tg, iter, ifs, 0⟩] scope pos) (cLc it (own.map (·.2)) g tt te) := PE.imp (pe_lc hc hN hi ok hg ht he hs) fun _ _ _ h => lc_of h
theorem cs_setLc {i : Nat} {y : Str} {py spos : Pos} (hc : X.calm = true) (hN : X.N.Nodup) (hy : X.N[i]? = some y) (hyl : X.env.scope.names.lookup y = some .local)
    (hsw : swapsWith (.ListComp elt [⟨tg, iter, ifs, 0⟩] scope pos) (some (.Name y py)) spos.line X.env = pure true) (hi : CIx X tg iter it) (ok : BlkOk X.N X.env.scope scope own)
    (hg : ∀ (s : Shared) (H : Hp) (C : Addr) (cl : List (Str × Addr)) (fp : List Addr), PG (X.blk s H scope (compEnvC scope cl C X.env) fp) tg (tGw X.K (own.map (·.2)) g)) (ht : ∀ (s : Shared) (H : Hp) (C : Addr) (cl : List (Str × Addr)) (fp : List Addr), PTs (X.blk s H scope (compEnvC scope cl C X.env) fp) ifs (tT X.K tt))
    (he : ∀ (s : Shared) (H : Hp) (C : Addr) (cl : List (Str × Addr)) (fp : List Addr), PE (X.blk s H scope (compEnvC scope cl C X.env) fp) elt (tE X.K te)) (hs : ∀ x, foldedSetIterable iter X.env x = pure x := by intro _; rfl) :
    PS X (.Assign [.Name y py] (.ListComp elt [⟨tg, iter, ifs, 0⟩] scope pos) spos) (tAsg (tE X.K (cLc it (own.map (·.2)) g tt te)) (gName i)) := PS.imp (ps_setLc hc hN hy hyl hsw hi ok hg ht he hs) fun Dn σ H h => lc_of h
theorem cts_nil : PTs X [] (tT X.K tYesF) := ⟨fun pins s σ H Q I h => by
  obtain ⟨ρ, M, m, b, M', rs, w, hf, P⟩ := h
  cases hf
  exact pts_nil.run pins s σ H Q I (P H m .refl w)⟩
theorem cts_one {c : Expr} (h : CTx X c tt) : PTs X [c] (tT X.K tt) := pts_one h
end
end CI

/-! Ci12: stars in displays, list(range), enumerate; comprehensions reckoned -/
namespace CI
open PySem PySem.Spec PyProof.Rows L2
section
variable {X : Cx} {e : Expr} {es : List Expr} {f : Ef} {g : Af} {p pos : Pos}
/-- the items of a starred sequence are read when it is met: what follows does not change them -/
def aStar' (f : Ef) (g : Af) : Af := fun ρ M => (f ρ M).bind fun p => (asS p.2 p.1.d).bind fun ds => (g ρ p.2).bind fun q => some (ds ++ q.1, q.2)
/-- list(range(a, b)), tuple(range(a, b)) -/
def bRg (a b : Int) : Bool := rgB a && rgB b && decide ((b - a).toNat ≤ 16777216)
def cLRg (fa fb : Ef) : Ef := fun ρ M => (fa ρ M).bind fun p => (fb ρ p.2).bind fun q => match p.1.d, q.1.d with
  | .int i, .int j => if bRg i j = true then some (.new (rgD i (j - i).toNat), q.2) else none
  | _, _ => none
end

end CI

/-! Ci14: tuple * int, -x, constants of the module -/
namespace CI
open PySem PySem.Spec PyProof.Rows L2
theorem tuple_mul1 (l : Addr) (items : Array Value) (n : Nat) (dd : Option Addr) (sl : Array (Option Value)) (x : Int) (u : Tok) (c0 : (decide (x < -(2 ^ 63)) || decide (x ≥ 2 ^ 63)) = false) (c1 : (items.isEmpty || x == 1) = true) :
    Meets (Builtin.«tuple.__mul__» ⟨[.ref l, .int x u], []⟩) (fun _ R s => s.heap.get? l = some { cls := .type "tuple", dict := dd, data := .seq items n, slots := sl } ∧ R (.ok (.ret (Value.ref l))) s) :=
  .of_wp fun prog w A R s h => by
    obtain ⟨hp, g, d, tk, os⟩ := s
    obtain ⟨hl, h⟩ := h
    have f1 := AutoSeq1.idx_int
    wp_walk using wpAny_loadPart' hl
    repeat (first
      | (refine wpAny_ite_false (decide_eq_false (by rw [c0]; exact Bool.false_ne_true)) ?_; wp_walk using wpAny_loadPart' hl)
      | (refine wpAny_ite_true (decide_eq_true (by rw [c1])) ?_; wp_walk using wpAny_loadPart' hl))
    exact ⟨_, rfl, h⟩
theorem tuple_mul0 (l : Addr) (items : Array Value) (n : Nat) (dd : Option Addr) (sl : Array (Option Value)) (x : Int) (u : Tok) (c0 : (decide (x < -(2 ^ 63)) || decide (x ≥ 2 ^ 63)) = false) (c1 : (items.isEmpty || x == 1) = false) (c2 : (decide (x ≤ 0) || items.isEmpty) = true) :
    Meets (Builtin.«tuple.__mul__» ⟨[.ref l, .int x u], []⟩) (fun _ R s => s.heap.get? l = some { cls := .type "tuple", dict := dd, data := .seq items n, slots := sl } ∧
      R (.ok (.ret (Value.ref s.heap.objs.size))) { s with heap := s.heap.push { cls := Value.type "tuple", data := Data.seq #[] }, toks := s.toks }) :=
  .of_wp fun prog w A R s h => by
    obtain ⟨hp, g, d, tk, os⟩ := s
    obtain ⟨hl, h⟩ := h
    have f1 := AutoSeq1.idx_int
    wp_walk using wpAny_loadPart' hl
    repeat (first
      | (refine wpAny_ite_false (decide_eq_false (by rw [c0]; exact Bool.false_ne_true)) ?_; wp_walk using wpAny_loadPart' hl)
      | (refine wpAny_ite_false (decide_eq_false (by rw [c1]; exact Bool.false_ne_true)) ?_; wp_walk using wpAny_loadPart' hl)
      | (refine wpAny_ite_true (decide_eq_true (by rw [c2])) ?_; wp_walk using wpAny_loadPart' hl))
    exact ⟨_, rfl, h⟩
section
variable {X : Cx}
def rMul1 (K : PySem.W.Frag) : R2 := fun x y H Q => ∃ l xs, x = .ref l ∧ y = .int 1 ∧ SqT K H l xs ∧ Q (.ref l) H
def rMul0 (K : PySem.W.Frag) : R2 := fun x y H Q => ∃ l k xs, x = .ref l ∧ y = .int k ∧ SqT K H l xs ∧ xs ≠ [] ∧ k ≤ 0 ∧ -1000000 < k ∧ ∀ p, H p = none → Q (.ref p) (upd H p (.tup []))
theorem op_mul1 : OpR X (binaryOp .Mult) (rMul1 X.K) := by
  intro pins s σ H x y v u Q I rx ry h
  obtain ⟨l, xs, rfl, rfl, hT, q⟩ := h
  cases rx
  obtain ⟨t, rfl⟩ := ry
  obtain ⟨its, r, ⟨⟨cls, dd, data, sl⟩, ho, hc, n, hd⟩, hs⟩ := I.tuple hT
  simp only at hc hd
  subst hc hd
  have c1 : (its.toArray.isEmpty || (1 : Int) == 1) = true := by simp
  refine wpAny_binaryOp_repeat_ref (T := "tuple") (U := "int") (by decide) ⟨_, ho, rfl⟩ (fun s' => typeIs_int s' 1 t) noFill_tuple_mul F.fills_int_mul F.slot_int_rmul repeat_tuple F.slot_int_index.lookup
    (call_meets F.slot_int_rmul (typeIs_int s 1 t) F.entry_int_rmul (F.args_int_rmul_2 _ _) (int_rmul_tuple 1 t l its.toArray n dd sl)
      ⟨ho, rfl, ⟨_, ho, rfl⟩, call_meets F.slot_tuple_mul ⟨_, ho, rfl⟩ F.entry_tuple_mul (F.args_tuple_mul_2 _ _) (tuple_mul1 l its.toArray n dd sl 1 t (by decide) c1) ⟨ho, ?_⟩⟩)
  exact ⟨.ref l, H, I, rfl, q⟩
theorem op_mul0 : OpR X (binaryOp .Mult) (rMul0 X.K) := by
  intro pins s σ H x y v u Q I rx ry h
  obtain ⟨l, k, xs, rfl, rfl, hT, hne, h1, h2, q⟩ := h
  cases rx
  obtain ⟨t, rfl⟩ := ry
  obtain ⟨its, r, ⟨⟨cls, dd, data, sl⟩, ho, hc, n, hd⟩, hs⟩ := I.tuple hT
  simp only at hc hd
  subst hc hd
  have hle : its.length = xs.length := r.length.symm
  have hn : its ≠ [] := fun e => hne (by
    rw [e] at hle
    exact List.eq_nil_of_length_eq_zero hle.symm)
  have hi : its.toArray.isEmpty = false := by
    cases its with
    | nil => exact absurd rfl hn
    | cons a b => rfl
  have c0 : (decide (k < -(2 ^ 63)) || decide (k ≥ 2 ^ 63)) = false := by
    rw [decide_eq_false (by omega), decide_eq_false (by omega)] <;> rfl
  have c1 : (its.toArray.isEmpty || k == 1) = false := by
    rw [hi, Bool.false_or]
    exact beq_eq_false_iff_ne.mpr (by omega)
  have c2 : (decide (k ≤ 0) || its.toArray.isEmpty) = true := by
    rw [decide_eq_true h1]; rfl
  refine wpAny_binaryOp_repeat_ref (T := "tuple") (U := "int") (by decide) ⟨_, ho, rfl⟩ (fun s' => typeIs_int s' k t) noFill_tuple_mul F.fills_int_mul F.slot_int_rmul repeat_tuple F.slot_int_index.lookup
    (call_meets F.slot_int_rmul (typeIs_int s k t) F.entry_int_rmul (F.args_int_rmul_2 _ _) (int_rmul_tuple k t l its.toArray n dd sl)
      ⟨ho, rfl, ⟨_, ho, rfl⟩, call_meets F.slot_tuple_mul ⟨_, ho, rfl⟩ F.entry_tuple_mul (F.args_tuple_mul_2 _ _) (tuple_mul0 l its.toArray n dd sl k t c0 c1 c2) ⟨ho, ?_⟩⟩)
  refine ⟨.ref s.heap.objs.size, _, I.laid (t' := s.toks) (o := .tup []) (fun b ob q => Heap.get?_push_of_some _ q) (Nat.le_refl _) ?_, rfl, q _ (I.hok.fresh (Nat.le_refl _))⟩
  exact ⟨by simp, _, .nil, IsTup.new _ _⟩
theorem Rls.rep {K : PySem.W.Frag} {H : Hp} {m : List Addr} {ds : List D} {vs : List V} (h : Rls K H m ds vs) : ∀ k : Nat, Rls K H m (List.replicate k ds).flatten (List.replicate k vs).flatten
  | 0 => by simp [Rls]
  | k + 1 => by
    rw [List.replicate_succ, List.replicate_succ, List.flatten_cons, List.flatten_cons]
    exact h.append (Rls.rep h k)
def cNeg (f : Ef) : Ef := fun ρ M => (f ρ M).bind fun p => match p.1.d with
  | .int i => some (.val (.int (-i)), p.2)
  | _ => none
end

end CI

/-! Ci15: == of data with itself -/
namespace CI
open PySem PySem.Spec PyProof.Rows L2
def plS : Nat → D → Bool
  | 0, _ => false
  | n + 1, d => match d with
    | .tup ds => ds.all (plS n)
    | .lst ds => ds.all (plS n)
    | .str x => PyData.strOk x
    | .scr _ => false
    | .loc _ => false
    | _ => true
theorem plS_tup {n : Nat} {ds : List D} : plS (n + 1) (.tup ds) = ds.all (plS n) := rfl
theorem plS_lst {n : Nat} {ds : List D} : plS (n + 1) (.lst ds) = ds.all (plS n) := rfl
theorem plS_ok : ∀ (n : Nat) (d : D), plS n d = true → ∃ p, py0 d = some p ∧ p.canLay0 = true ∧ p.depth ≤ n
  | 0, _, h => by cases h
  | n + 1, d, h => by
    have all : ∀ ds : List D, ds.all (plS n) = true → ∃ ps, py0s ds = some ps ∧ PyData.canLayAll0 ps = true ∧ PyData.depthAll ps ≤ n := by
      intro ds
      induction ds with
      | nil => intro _; exact ⟨[], rfl, rfl, Nat.zero_le _⟩
      | cons d ds ih =>
        intro h
        rw [List.all_cons, Bool.and_eq_true] at h
        obtain ⟨p, h1, h2, h3⟩ := plS_ok n d h.1
        obtain ⟨ps, g1, g2, g3⟩ := ih h.2
        refine ⟨p :: ps, by rw [py0s, h1, g1]; rfl, ?_, ?_⟩
        · rw [PyData.canLayAll0, h2, g2]; rfl
        · rw [PyData.depthAll]; exact Nat.max_le.mpr ⟨h3, g3⟩
    cases d with
    | non => exact ⟨.none, rfl, rfl, Nat.zero_le _⟩
    | bl b => exact ⟨.bool b, rfl, rfl, Nat.zero_le _⟩
    | int b => exact ⟨.int b, rfl, rfl, Nat.zero_le _⟩
    | str x => exact ⟨.str x, rfl, h, Nat.zero_le _⟩
    | scr _ => cases h
    | loc _ => cases h
    | tup ds =>
      obtain ⟨ps, h1, h2, h3⟩ := all ds h
      refine ⟨.tuple ps, by rw [py0, h1]; rfl, ?_, ?_⟩
      · rw [PyData.canLay0]; exact h2
      · rw [PyData.depth]; omega
    | lst ds =>
      obtain ⟨ps, h1, h2, h3⟩ := all ds h
      refine ⟨.list ps, by rw [py0, h1]; rfl, ?_, ?_⟩
      · rw [PyData.canLay0]; exact h2
      · rw [PyData.depth]; omega
end CI

/-! Ci16: enumerate of a list that nothing changes -/
namespace CI
open PySem PySem.Spec PyProof.Rows L2
def enD (ds : List D) : List D := ds.zipIdx.map fun p => D.tup [.int ((p.2 : Nat) : Int), p.1]
theorem enD_len {ds : List D} : (enD ds).length = ds.length := by unfold enD; simp
theorem enD_get {ds : List D} {i : Nat} {e : D} (h : (enD ds)[i]? = some e) : ∃ d, ds[i]? = some d ∧ e = .tup [.int (i : Nat), d] := by
  unfold enD at h
  rw [List.getElem?_map, List.getElem?_zipIdx] at h
  cases q : ds[i]? with
  | none => rw [q] at h; cases h
  | some d =>
    rw [q] at h
    refine ⟨d, rfl, ?_⟩
    simp at h
    exact h.symm
theorem yl_en {K : PySem.W.Frag} {H : Hp} {m : List Addr} {a : Addr} {ds : List D} {vs : List V} (h : ∀ H1 m1, Ext H m H1 m1 → SqL K H1 a vs) (r : Rls K H m ds vs) : Yl K H m (Ite K a) (enD ds) none where
  go := fun i H1 m1 hi e _ => by
    have hl := r.length
    rw [enD_len] at hi
    exact ⟨vs, vs[i], h _ _ e, List.getElem?_eq_getElem (by omega)⟩
  yld := fun i d H1 m1 M1 x H' q e _ w y => by
    obtain ⟨T, u, rfl, hn, rfl, y⟩ := y
    obtain ⟨d0, q0, rfl⟩ := enD_get q
    obtain ⟨v, h1, h2⟩ := (r.ext e).get q0
    have := y vs (h _ _ e)
    rw [h1] at this; cases this
    refine ⟨.new hn, w.new hn, ?_⟩
    rw [Rl]
    refine ⟨T, _, rfl, .of upd_same, ?_⟩
    rw [Rls]
    refine ⟨_, _, rfl, by rw [Rl], ?_⟩
    rw [Rls]
    refine ⟨_, _, rfl, h2.ext (.new hn), ?_⟩
    rw [Rls]
  stop := fun H1 m1 e _ => ⟨vs, h _ _ e, by rw [enD_len, r.length]; exact Nat.le_refl _⟩
def iEn (f : Ef) : If := fun ρ M => (f ρ M).bind fun p => match p.1.d with
  | .lst ds => some (enD ds, none, p.2)
  | .scr ns => some (enD (ns.map .int), none, p.2)
  | _ => none
end CI

/-! Ci17: the letters of a string; int of a string -/
namespace CI
open PySem PySem.Spec PyProof.Rows L2
def chD (x : Str) : List D := x.cps.toList.map fun c => D.str ⟨#[c]⟩
theorem chD_len {x : Str} : (chD x).length = x.cps.size := by unfold chD; simp
theorem yl_st {K : PySem.W.Frag} {H : Hp} {m : List Addr} {x : Str} : Yl K H m (Its x) (chD x) none where
  go := fun i H1 m1 hi e _ => by rw [chD_len] at hi; exact hi
  yld := fun i d H1 m1 M1 v H' q e _ w y => by
    obtain ⟨rfl, c, hc, rfl⟩ := y
    unfold chD at q
    rw [List.getElem?_map, Array.getElem?_toList, hc] at q
    cases q
    exact ⟨.refl, w, by rw [Rl]⟩
  stop := fun H1 m1 e _ => by rw [chD_len]; exact Nat.le_refl _
def iSt (f : Ef) : If := fun ρ M => (f ρ M).bind fun p => match p.1.d with
  | .str x => some (chD x, none, p.2)
  | _ => none
theorem ci_st {X : Cx} {tg a : Expr} {fa : Ef} (ha : CEx X a fa) : CIx X tg a (iSt fa) :=
  PI.imp (pi_str ha) fun σ H R ⟨ρ, M, m, ds, gk, M', rs, w, hf, P⟩ => by
    unfold iSt at hf
    cases ea : fa ρ M with
    | none => rw [ea] at hf; cases hf
    | some q =>
      rw [ea] at hf
      simp only [Option.bind_some] at hf
      refine bindE rs w ea fun H1 m1 v e1 w1 rs1 r1 => ?_
      split at hf
      · rename_i x he
        cases hf
        rw [he, Rl] at r1
        exact ⟨x, r1, P H1 m1 _ e1 w1 gd_none yl_st⟩
      · cases hf
def oIntS : Cop := fun ds _ => match ds with
  | [.str a] => if a.length ≤ 640 then (PySem.intText? a).bind fun n => some (.val (.int n)) else none
  | _ => none
theorem ok_intS {X : Cx} : ClOk X (.type "int") oIntS := by
  refine ⟨_, call_int_str, fun H m M ds xs z Q w rd ho P => ?_⟩
  unfold oIntS at ho
  split at ho
  · rename_i a
    obtain ⟨v, rfl, r⟩ := rd.one
    rw [Rl] at r; subst r
    split at ho
    · rename_i hl
      cases q : PySem.intText? a with
      | none => rw [q] at ho; cases ho
      | some n =>
        rw [q] at ho; cases ho
        exact ⟨a, n, rfl, q, hl, P.val w rl_int⟩
    · cases ho
  · cases ho
end CI

/-! Ci18: the digits of a number -/
namespace CI
open PySem PySem.Spec PyProof.Rows L2
theorem dig_nat : ∀ d : Nat, d < 10 → (Nat.digitChar d).toNat = 48 + d := by decide
/-- the digits of a number, the first one first -/
def digs (m : Nat) : List Nat := (Nat.toDigits 10 m).map fun c => c.toNat - 48
theorem dig_mem : ∀ (n : Nat) (m : Nat), m ≤ n → ∀ c ∈ Nat.toDigits 10 m, ∃ d, d < 10 ∧ c.toNat = 48 + d
  | 0, m, hm, c, hc => by
    have : m = 0 := by omega
    subst this
    rw [Nat.toDigits_of_lt_base (by decide)] at hc
    simp at hc; subst hc
    exact ⟨0, by decide, rfl⟩
  | n + 1, m, hm, c, hc => by
    by_cases h : m < 10
    · rw [Nat.toDigits_of_lt_base h] at hc
      simp at hc; subst hc
      exact ⟨m, h, dig_nat m h⟩
    · rw [Nat.toDigits_of_base_le (by decide) (by omega)] at hc
      rcases List.mem_append.mp hc with hc | hc
      · exact dig_mem n (m / 10) (by omega) c hc
      · simp at hc; subst hc
        exact ⟨m % 10, by omega, dig_nat _ (by omega)⟩
theorem digs_lt {m d : Nat} (h : d ∈ digs m) : d < 10 := by
  unfold digs at h
  obtain ⟨c, hc, rfl⟩ := List.mem_map.mp h
  obtain ⟨d, hd, e⟩ := dig_mem m m (Nat.le_refl _) c hc
  omega
theorem chD_num (m : Nat) : chD (Str.ofString (toString ((m : Nat) : Int))) = (digs m).map fun d => D.str ⟨#[48 + d]⟩ := by
  unfold chD digs
  rw [PySem.W.KIN.signs_num, List.map_map, List.map_map]
  refine List.map_congr_left fun c hc => ?_
  obtain ⟨d, hd, e⟩ := dig_mem m m (Nat.le_refl _) c hc
  show D.str ⟨#[c.toNat]⟩ = D.str ⟨#[48 + (c.toNat - 48)]⟩
  rw [e, Nat.add_sub_cancel_left]
end CI

/-! Ci19: defs and loops that tidy up: dead slots, objects that nobody reaches -/
namespace CI
open PySem PySem.Spec PyProof.Rows L2

/-- the objects of M stand in Me as before, or hold nothing that is newer than M -/
def trimOk (M Me : Mem) : Prop := M.length ≤ Me.length ∧ ∀ k o, k < M.length → Me[k]? = some o → M[k]? = some o ∨ nlO M.length o = true
section
variable {K : PySem.W.Frag} {H H0 : Hp} {m l : List Addr} {M Me : Mem} {a b : Addr}
theorem trim_nl (w0 : Wd K H0 m M) (t : trimOk M Me) : ∀ k o, k < m.length → Me[k]? = some o → nlO m.length o = true := fun k o hk h => by
  have hl := w0.len
  rcases t.2 k o (by omega) h with q | q
  · exact w0.nl o (List.mem_of_getElem? q)
  · rw [hl]; exact q
theorem Wd.trim (w : Wd K H (m ++ l) Me) (hl : m.length ≤ Me.length) (n : ∀ k o, k < m.length → Me[k]? = some o → nlO m.length o = true) : Wd K H m (Me.take m.length) := by
  refine ⟨by rw [List.length_take]; omega, (List.nodup_append.mp w.nd).1, fun k b o h1 h2 => ?_⟩
  have hk : k < m.length := (List.getElem?_eq_some_iff.mp h1).1
  rw [List.getElem?_take_of_lt hk] at h2
  exact (w.at_ k b o (by rw [List.getElem?_append_left hk]; exact h1) h2).cut (n k o hk h2)
theorem Wd.trimDel {ws : List V} (w : Wd K H (m ++ l) Me) (hl : m.length ≤ Me.length) (n : ∀ k o, k < m.length → Me[k]? = some o → nlO m.length o = true) (ha : H a = some (.lst ws)) (hm : a ∈ l) : Wd K (CI.del H a) m (Me.take m.length) := by
  refine ⟨by rw [List.length_take]; omega, (List.nodup_append.mp w.nd).1, fun k b o h1 h2 => ?_⟩
  have hk : k < m.length := (List.getElem?_eq_some_iff.mp h1).1
  rw [List.getElem?_take_of_lt hk] at h2
  refine (w.at_ k b o (by rw [List.getElem?_append_left hk]; exact h1) h2).del ha hm (fun z => ?_) (n k o hk h2)
  exact (List.nodup_append.mp w.nd).2.2 b (List.mem_of_getElem? h1) a hm z
end
open Classical in
noncomputable def finK (M : Mem) (r : Rz) (Me : Mem) : Rz × Mem :=
  if trimOk M Me then (match r with
    | .val (.loc k) => if k < M.length then (r, Me.take M.length) else match Me[k]? with
      | some (.lst ds) => if nls M.length ds = true then (.new ds, Me.take M.length) else (r, Me)
      | _ => (r, Me)
    | .val d => if nl M.length d = true then (r, Me.take M.length) else (r, Me)
    | .new ds => if nls M.length ds = true then (r, Me.take M.length) else (r, Me)) else (r, Me)
theorem finK_ok {K : PySem.W.Frag} {H0 : Hp} {m : List Addr} {M Me : Mem} {r : Rz} {Q : VK} (w0 : Wd K H0 m M) (P : Post K H0 m (finK M r Me).1 (finK M r Me).2 Q) : Post K H0 m r Me Q := by
  unfold finK at P
  split at P
  · rename_i ht
    have hn := trim_nl w0 ht
    have hlen := w0.len
    have hle : m.length ≤ Me.length := by rw [hlen]; exact ht.1
    rw [← hlen] at P
    cases r with
    | new ds =>
      simp only at P
      split at P
      · rename_i hd
        intro H1 m1 e1 w1 vs a r1 na
        obtain ⟨l, rfl, _⟩ := id e1.pre
        exact P H1 m e1.back (w1.trim hle hn) vs a (Rls.cut' r1 hd) na
      · exact P
    | val d =>
      have plain : ∀ d, nl m.length d = true → Post K H0 m (.val d) (Me.take m.length) Q → Post K H0 m (.val d) Me Q := fun d hd P => by
        intro H1 m1 e1 w1 v r1
        obtain ⟨l, rfl, _⟩ := id e1.pre
        exact P H1 m e1.back (w1.trim hle hn) v (r1.cut hd)
      cases d with
      | loc k =>
        simp only at P
        split at P
        · rename_i hk
          exact plain _ (by rw [nl]; exact decide_eq_true hk) P
        · rename_i hk
          split at P
          · rename_i ds hds
            split at P
            · rename_i hd
              intro H1 m1 e1 w1 v r1
              obtain ⟨l, rfl, _⟩ := id e1.pre
              rw [Rl] at r1
              obtain ⟨a, rfl, ha⟩ := r1
              obtain ⟨b, hb, vs, h1, h2⟩ := w1.get hds
              rw [ha] at hb; cases hb
              have hal : a ∈ l := by
                rw [List.getElem?_append_right (by omega)] at ha
                exact List.mem_of_getElem? ha
              have := P (del H1 a) m (e1.del (ws := vs) hal) (w1.trimDel hle hn h1 hal) vs a (Rls.del h1 hal h2 hd) del_same
              rw [upd_del h1] at this
              exact this
            · exact P
          · exact P
      | non => exact plain _ rfl (by simpa [nl] using P)
      | bl b => exact plain _ rfl (by simpa [nl] using P)
      | int b => exact plain _ rfl (by simpa [nl] using P)
      | str b => exact plain _ rfl (by simpa [nl] using P)
      | scr b => exact plain _ rfl (by simpa [nl] using P)
      | tup ds =>
        simp only at P
        split at P
        · rename_i hd; exact plain _ hd P
        · exact P
      | lst ds =>
        simp only at P
        split at P
        · rename_i hd; exact plain _ hd P
        · exact P
  · exact P

noncomputable def mkFnK (np ns : Nat) (body : Sf) : Fn := fun ds M => if ds.length = np then (match body (ds.map some ++ List.replicate (ns - ds.length) none) M with
  | some (.rt r, _, Me) => some (finK M r Me)
  | some (.nx, _, Me) => some (finK M (.val .non) Me)
  | _ => none) else none
theorem runK_ok {K : PySem.W.Frag} {N : List Str} {np : Nat} {fb : Sf} {vs : List V} {H : Hp} {Q : VK} {E : XK} (h : spF K (mkFnK np N.length fb) vs H Q E) : tS K fb { nx := fun _ H' => Q .non H', rt := Q } (L2.start N vs) H := by
  obtain ⟨ds, M, m, r, M', rd, w, hf, P⟩ := h
  unfold mkFnK at hf
  split at hf
  · split at hf
    · rename_i r' ρ' Me hb
      cases e : finK M r' Me with | mk a b =>
      rw [e] at hf; cases hf
      refine ⟨_, M, m, _, _, _, rs_start rd, w, hb, ?_⟩
      refine finK_ok w ?_
      rw [e]; exact P
    · rename_i ρ' Me hb
      cases e : finK M (.val .non) Me with | mk a b =>
      rw [e] at hf; cases hf
      refine ⟨_, M, m, _, _, _, rs_start rd, w, hb, fun H1 m1 σ1 e1 w1 rs1 => ?_⟩
      have P2 : Post K H m (.val .non) Me Q := finK_ok w (by rw [e]; exact P)
      exact P2 H1 m1 e1 w1 .non (by rw [Rl])
    · cases hf
  · cases hf
theorem spK_len {K : PySem.W.Frag} {np ns : Nat} {fb : Sf} {vs : List V} {H : Hp} {Q : VK} {E : XK} (h : spF K (mkFnK np ns fb) vs H Q E) : vs.length = np := by
  obtain ⟨ds, M, m, r, M', rd, w, hf, P⟩ := h
  unfold mkFnK at hf
  split at hf
  · rename_i hl; rw [← rd.length]; exact hl
  · cases hf
section
variable {P : Program} {w : World} {K : PySem.W.Frag} {mg : Str → Option Value} {base : Heap} {x qual : Str} {params : Arguments} {body : List Stmt} {scope : Scope} {f : Addr} {fd : FuncData}
theorem fnK_ok {N ps : List Str} {k : Nat} {fb : Sf} (F : FunD K x qual params body scope [] [] f fd) (S : FnScope N ps scope)
    (hb : ∀ (cdv : Value) (A : Around) (outer : List Env) (s : Shared) (H : Hp) (E : XK), Room k (A.deeper (envOfC qual scope s.heap.objs.size f cdv)) → CBx (cxOf CX0 P w K mg base N qual scope f cdv A outer s H E).nox body fb) :
    FnOk P w K mg base CX0 (k + 1) f fd ps (spF K (mkFnK ps.length N.length fb)) :=
  F.ok S (fun vs H Q E h => spK_len h) fun cdv A outer s H vs Q E hr h => ⟨_, PSs.nox (hb cdv A outer s H E hr), runK_ok h⟩
end

/-! ### loops that tidy up -/
def nlS (n : Nat) : Slots → Bool
  | [] => true
  | none :: ρ => nlS n ρ
  | some d :: ρ => nl n d && nlS n ρ
/-- the slots that are read later -/
def keepD : List Bool → Slots → Slots
  | true :: bs, o :: ρ => o :: keepD bs ρ
  | false :: bs, _ :: ρ => none :: keepD bs ρ
  | _, ρ => ρ
open Classical in
noncomputable def tidy (kl : List Bool) (M : Mem) (ρ : Slots) (Me : Mem) : Slots × Mem := if trimOk M Me ∧ nlS M.length (keepD kl ρ) = true then (keepD kl ρ, Me.take M.length) else (keepD kl ρ, Me)
theorem keepD_len : ∀ {kl : List Bool} {ρ : Slots}, (keepD kl ρ).length = ρ.length
  | [], _ => by simp [keepD]
  | true :: _, [] => rfl
  | false :: _, [] => rfl
  | true :: bs, o :: ρ => by rw [keepD, List.length_cons, List.length_cons, keepD_len]
  | false :: bs, o :: ρ => by rw [keepD, List.length_cons, List.length_cons, keepD_len]
theorem keepD_get : ∀ {kl : List Bool} {ρ : Slots} {i : Nat} {d : D}, (keepD kl ρ)[i]? = some (some d) → ρ[i]? = some (some d)
  | [], _, _, _, h => by simpa [keepD] using h
  | true :: _, [], _, _, h => by simp [keepD] at h
  | false :: _, [], _, _, h => by simp [keepD] at h
  | true :: bs, o :: ρ, 0, d, h => by simpa [keepD] using h
  | true :: bs, o :: ρ, i + 1, d, h => by
    rw [keepD] at h
    simpa using keepD_get (i := i) (by simpa using h)
  | false :: bs, o :: ρ, 0, d, h => by simp [keepD] at h
  | false :: bs, o :: ρ, i + 1, d, h => by
    rw [keepD] at h
    simpa using keepD_get (i := i) (by simpa using h)
theorem Rs.keep {K : PySem.W.Frag} {H : Hp} {m : List Addr} {σ : L2.St} {ρ : Slots} (kl : List Bool) (h : Rs K H m ρ σ) : Rs K H m (keepD kl ρ) σ :=
  ⟨by rw [keepD_len]; exact h.1, fun i d q => h.2 i d (keepD_get q)⟩
theorem nlS_get {n : Nat} : ∀ {ρ : Slots}, nlS n ρ = true → ∀ {i : Nat} {d : D}, ρ[i]? = some (some d) → nl n d = true
  | [], _, i, d, h => by simp at h
  | none :: ρ, h, i, d, q => by
    rw [nlS] at h
    cases i with
    | zero => simp at q
    | succ i => exact nlS_get h (i := i) (by simpa using q)
  | some e :: ρ, h, i, d, q => by
    rw [nlS, Bool.and_eq_true] at h
    cases i with
    | zero => simp at q; subst q; exact h.1
    | succ i => exact nlS_get h.2 (i := i) (by simpa using q)
theorem Rs.trim {K : PySem.W.Frag} {H : Hp} {m l : List Addr} {ρ : Slots} {σ : L2.St} (h : Rs K H (m ++ l) ρ σ) (n : nlS m.length ρ = true) : Rs K H m ρ σ :=
  ⟨h.1, fun i d q => let ⟨v, h1, h2⟩ := h.2 i d q; ⟨v, h1, h2.cut (nlS_get n q)⟩⟩
theorem tidy_ok {K : PySem.W.Frag} {H0 H1 : Hp} {m m1 : List Addr} {M Me : Mem} {ρ : Slots} {σ : L2.St} {kl : List Bool} (w0 : Wd K H0 m M) (e : Ext H0 m H1 m1) (w : Wd K H1 m1 Me) (rs : Rs K H1 m1 ρ σ) :
    ∃ m2, Ext H0 m H1 m2 ∧ Wd K H1 m2 (tidy kl M ρ Me).2 ∧ Rs K H1 m2 (tidy kl M ρ Me).1 σ := by
  unfold tidy
  split
  · rename_i h
    obtain ⟨l, rfl, _⟩ := id e.pre
    have hlen := w0.len
    refine ⟨m, e.back, ?_, ?_⟩
    · rw [← hlen]
      exact w.trim (by rw [hlen]; exact h.1.1) (trim_nl w0 h.1)
    · refine (rs.keep kl).trim ?_
      rw [hlen]; exact h.2
  · exact ⟨m1, e, w, rs.keep kl⟩
def Fl.goes : Fl → Bool
  | .nx => true
  | .ct => true
  | _ => false
open Classical in
noncomputable def stpK (kl : List Bool) (gk : Option Nat) (ds : List D) (g : Gf) (body : Sf) : Stp := fun d ρ M => (g d ρ M).bind fun p => (body p.1 p.2).bind fun q =>
  if q.1.goes = true then (if guard gk ds (tidy kl M q.2.1 q.2.2).2 then some (q.1, tidy kl M q.2.1 q.2.2) else none) else some (match q.1 with
  | .rt r => (.rt r, [], q.2.2)
  | _ => q)
noncomputable def sForK (kl : List Bool) (it : If) (g : Gf) (body : Sf) : Sf := fun ρ M => (it ρ M).bind fun p => loopF (stpK kl p.2.1 p.1 g body) p.1 (keepD kl ρ) p.2.2
section
variable {X : Cx} {tg iter : Expr} {body : List Stmt} {it : If} {g : Gf} {fb : Sf} {pos : Pos}
theorem cs_forK {kl : List Bool} (hp : PassesOwn (model X.prog X.w) X.A X.env X.xe) (hc : X.calm = true) (hi : CIx X tg iter it) (hg : CGx X tg g) (hb : CBx X body fb)
    (hs : ∀ x, foldedSetIterable iter X.env x = pure x := by intro _; rfl) : CSx X (.For tg iter body [] pos) (sForK kl it g fb) := PS.imp (ps_for hp hc hi hg hb hs) fun Dn σ H h => by
  obtain ⟨ρ, M, m, fl, ρ', M', rs, w, hf, P⟩ := h
  unfold sForK at hf
  cases ea : it ρ M with
  | none => rw [ea] at hf; cases hf
  | some p =>
    obtain ⟨ds, gk, M1⟩ := p
    rw [ea] at hf
    simp only [Option.bind_some] at hf
    refine ⟨ρ, M, m, ds, gk, M1, rs, w, ea, fun H1 m1 J e1 w1 gd1 Y => ?_⟩
    refine ⟨fun i n σ H => n = ds.length - i ∧ i ≤ ds.length ∧ ∃ ρ2 M2 m2, Ext H1 m1 H m2 ∧ Rs X.K H m2 ρ2 σ ∧ Wd X.K H m2 M2 ∧ GdOk X.K gk ds H m2 ∧ loopF (stpK kl gk ds g fb) (ds.drop i) ρ2 M2 = some (fl, ρ', M'),
      ⟨ds.length, by simp, Nat.zero_le _, keepD kl ρ, M1, m1, .refl, (rs.ext e1).keep kl, w1, gd1, by simpa using hf⟩, ?_⟩
    rintro i n σ H ⟨rfl, hle, ρ2, M2, m2, e2, rs2, w2, gd2, hl⟩
    by_cases hlt : i < ds.length
    · refine .inr ⟨Y.go i H m2 hlt e2 gd2, ?_⟩
      have hd : ds.drop i = ds[i] :: ds.drop (i + 1) := List.drop_eq_getElem_cons hlt
      rw [hd] at hl
      unfold loopF at hl
      cases es : stpK kl gk ds g fb ds[i] ρ2 M2 with
      | none => rw [es] at hl; cases hl
      | some q =>
        obtain ⟨fl1, ρ3, M3⟩ := q
        rw [es] at hl
        simp only [Option.bind_some] at hl
        refine ⟨fun σ' H' => ∃ m3, Ext H m2 H' m3 ∧ Rs X.K H' m3 ρ3 σ' ∧ Wd X.K H' m3 M3 ∧ GdOk X.K gk ds H' m3 ∧ loopF (stpK kl gk ds g fb) (ds.drop (i + 1)) ρ3 M3 = some (fl, ρ', M'),
          fun σ' H' ⟨m3, e3, rs3, w3, gd3, hl3⟩ => ⟨ds.length - (i + 1), by omega, rfl, hlt, ρ3, M3, m3, e2.trans e3, rs3, w3, gd3, hl3⟩, fun x H' y => ?_⟩
        obtain ⟨e3, w3, r3⟩ := Y.yld i ds[i] H m2 M2 x H' (List.getElem?_eq_getElem hlt) e2 gd2 w2 y
        unfold stpK at es
        cases eg : g ds[i] ρ2 M2 with
        | none => rw [eg] at es; cases es
        | some q =>
          rw [eg] at es
          simp only [Option.bind_some] at es
          cases eb : fb q.1 q.2 with
          | none => rw [eb] at es; cases es
          | some q2 =>
            obtain ⟨fl2, ρb, Mb⟩ := q2
            rw [eb] at es
            simp only [Option.bind_some] at es
            refine ⟨ds[i], ρ2, M2, m2, q.1, q.2, r3, rs2.ext e3, w3, eg, fun H4 m4 σ4 e4 w4 rs4 => ?_⟩
            refine ⟨q.1, q.2, m4, fl2, ρb, Mb, rs4, w4, eb, ?_⟩
            have eT : Ext H m2 H4 m4 := e3.trans e4
            have PT := P.ext ((e1.trans e2).trans eT)
            have goes : fl2.goes = true → PostN X.K H4 m4 ρb Mb (fun σ' H' => ∃ m3, Ext H m2 H' m3 ∧ Rs X.K H' m3 ρ3 σ' ∧ Wd X.K H' m3 M3 ∧ GdOk X.K gk ds H' m3 ∧ loopF (stpK kl gk ds g fb) (ds.drop (i + 1)) ρ3 M3 = some (fl, ρ', M')) := by
              intro hgo H5 m5 σ5 e5 w5 rs5
              rw [if_pos hgo] at es
              split at es
              · rename_i hgd
                simp only [Option.some.injEq, Prod.mk.injEq] at es
                obtain ⟨rfl, hty⟩ := es
                obtain ⟨m6, e6, w6, rs6⟩ := tidy_ok (kl := kl) w2 (eT.trans e5) w5 rs5
                -- the tidied memory stands on the memory ahead of the turn
                have h1 : (tidy kl M2 ρb Mb).1 = ρ3 := by rw [hty]
                have h2 : (tidy kl M2 ρb Mb).2 = M3 := by rw [hty]
                rw [h1] at rs6
                rw [h2] at w6 hgd
                refine ⟨m6, e6, rs6, w6, gd_of w6 hgd, ?_⟩
                cases fl2 with
                | nx => exact hl
                | ct => exact hl
                | bk => cases hgo
                | rt r => cases hgo
              · cases es
            cases fl2 with
            | nx => exact goes rfl
            | ct => exact goes rfl
            | bk =>
              simp only [Fl.goes, Bool.false_eq_true, if_false, Option.some.injEq, Prod.mk.injEq] at es
              obtain ⟨rfl, rfl, rfl⟩ := es
              simp only [Option.some.injEq, Prod.mk.injEq] at hl
              obtain ⟨rfl, rfl, rfl⟩ := hl
              exact PT
            | rt r =>
              simp only [Fl.goes, Bool.false_eq_true, if_false, Option.some.injEq, Prod.mk.injEq] at es
              obtain ⟨rfl, rfl, rfl⟩ := es
              simp only [Option.some.injEq, Prod.mk.injEq] at hl
              obtain ⟨rfl, rfl, rfl⟩ := hl
              exact PT
    · have e : i = ds.length := by omega
      subst e
      rw [List.drop_length] at hl
      cases hl
      exact .inl ⟨Y.stop H m2 e2 gd2, P H m2 σ (e1.trans e2) w2 rs2⟩
end
noncomputable def whK (kl : List Bool) (t : Tf) (body : Sf) : Nat → Slots → Mem → Option (Fl × Slots × Mem)
  | 0, _, _ => none
  | n + 1, ρ, M => (t ρ M).bind fun p => if p.1 = true then (body ρ p.2).bind fun q => (match q.1 with
      | .nx => whK kl t body n (tidy kl M q.2.1 q.2.2).1 (tidy kl M q.2.1 q.2.2).2
      | .ct => whK kl t body n (tidy kl M q.2.1 q.2.2).1 (tidy kl M q.2.1 q.2.2).2
      | .bk => some (.nx, q.2.1, q.2.2)
      | .rt r => some (.rt r, q.2.1, q.2.2)) else some (.nx, ρ, p.2)
noncomputable def sWhileK (kl : List Bool) (n : Nat) (t : Tf) (body : Sf) : Sf := fun ρ M => whK kl t body n (keepD kl ρ) M
section
variable {X : Cx} {c : Expr} {body : List Stmt} {t : Tf} {fb : Sf} {pos : Pos}
end
end CI

/-! N16: reckoning, step by step -/
namespace CI
open PySem PySem.Spec PyProof.Rows L2
def bnd {α β : Type} (k : α → Option β) (o : Option α) : Option β := o.bind k
@[simp] theorem bnd_some {α β : Type} {k : α → Option β} {p : α} : bnd k (some p) = k p := rfl
@[simp] theorem bnd_none {α β : Type} {k : α → Option β} : bnd k none = none := rfl
@[simp] theorem bnd_ite {α β : Type} {c : Prop} [Decidable c] {k : α → Option β} {x y : Option α} : bnd k (if c then x else y) = if c then bnd k x else bnd k y := by split <;> rfl
@[simp] theorem Rz_d_val {d : D} : (Rz.val d).d = d := rfl
@[simp] theorem Rz_d_new {ds : List D} : (Rz.new ds).d = .lst ds := rfl
section
variable {ρ : Slots} {M : Mem} {d e : D} {r : Rz} {b c : Bool} {ds : List D} {fa fb fc f fo fv : Ef} {ta tb t : Tf} {g : Af} {o o' : Bop} {i j : Int}
def ret1 (M : Mem) (r : Rz) : Option (Rz × Mem) := some (r, M)
@[simp] theorem ret1_ap : ret1 M r = some (r, M) := rfl
def var1 (M : Mem) (d : D) : Option (Rz × Mem) := some (.val d, M)
@[simp] theorem cVar_ap {i : Nat} : cVar i ρ M = bnd (var1 M) (slot ρ i) := rfl
@[simp] theorem var1_ap : var1 M d = some (.val d, M) := rfl
@[simp] theorem slot_zero {o : Option D} {ρ : Slots} : slot (o :: ρ) 0 = o := rfl
@[simp] theorem slot_succ {o : Option D} {ρ : Slots} {i : Nat} : slot (o :: ρ) (i + 1) = slot ρ i := rfl
@[simp] theorem cVal_ap : cVal d ρ M = some (.val d, M) := rfl
def cBin1 (o : Bop) (fb : Ef) (ρ : Slots) (p : Rz × Mem) : Option (Rz × Mem) := (fb ρ p.2).bind fun q => (o p.1.d q.1.d q.2).bind fun r => some (r, q.2)
def cBin2 (o : Bop) (d : D) (q : Rz × Mem) : Option (Rz × Mem) := (o d q.1.d q.2).bind fun r => some (r, q.2)
@[simp] theorem cBin_ap : cBin o fa fb ρ M = bnd (cBin1 o fb ρ) (fa ρ M) := rfl
@[simp] theorem cBin1_ap : cBin1 o fb ρ (r, M) = bnd (cBin2 o r.d) (fb ρ M) := rfl
@[simp] theorem cBin2_ap : cBin2 o d (r, M) = bnd (ret1 M) (o d r.d M) := rfl
def toB1 (p : Rz × Mem) : Option (Bool × Mem) := match p.1.d with | .bl b => some (b, p.2) | _ => none
@[simp] theorem toB_ap : toB f ρ M = bnd toB1 (f ρ M) := rfl
@[simp] theorem toB1_ap : toB1 (.val (.bl b), M) = some (b, M) := rfl
def cCh4 (o' : Bop) (e : D) (s : Rz × Mem) : Option (Rz × Mem) := (o' e s.1.d s.2).bind fun z => some (z, s.2)
def cCh3 (o' : Bop) (fc : Ef) (ρ : Slots) (e : D) (M : Mem) (r : Rz) : Option (Rz × Mem) := match r with
  | .val (.bl true) => (fc ρ M).bind (cCh4 o' e)
  | .val (.bl false) => some (.val (.bl false), M)
  | _ => none
def cCh2 (o o' : Bop) (fc : Ef) (ρ : Slots) (d : D) (q : Rz × Mem) : Option (Rz × Mem) := (o d q.1.d q.2).bind (cCh3 o' fc ρ q.1.d q.2)
def cCh1 (o o' : Bop) (fb fc : Ef) (ρ : Slots) (p : Rz × Mem) : Option (Rz × Mem) := (fb ρ p.2).bind (cCh2 o o' fc ρ p.1.d)
@[simp] theorem cChain_ap : cChain o o' fa fb fc ρ M = bnd (cCh1 o o' fb fc ρ) (fa ρ M) := rfl
@[simp] theorem cCh1_ap : cCh1 o o' fb fc ρ (r, M) = bnd (cCh2 o o' fc ρ r.d) (fb ρ M) := rfl
@[simp] theorem cCh2_ap : cCh2 o o' fc ρ d (r, M) = bnd (cCh3 o' fc ρ r.d M) (o d r.d M) := rfl
@[simp] theorem cCh3_ap : cCh3 o' fc ρ e M (.val (.bl b)) = if b = true then bnd (cCh4 o' e) (fc ρ M) else some (.val (.bl false), M) := by cases b <;> rfl
@[simp] theorem cCh4_ap : cCh4 o' e (r, M) = bnd (ret1 M) (o' e r.d M) := rfl
def kAnd1 (tb : Tf) (ρ : Slots) (p : Bool × Mem) : Option (Bool × Mem) := if p.1 = true then tb ρ p.2 else some (false, p.2)
def kOr1 (tb : Tf) (ρ : Slots) (p : Bool × Mem) : Option (Bool × Mem) := if p.1 = true then some (true, p.2) else tb ρ p.2
def kNot1 (p : Bool × Mem) : Option (Bool × Mem) := some (!p.1, p.2)
@[simp] theorem kAnd_ap : kAnd ta tb ρ M = bnd (kAnd1 tb ρ) (ta ρ M) := rfl
@[simp] theorem kAnd1_ap : kAnd1 tb ρ (b, M) = if b = true then tb ρ M else some (false, M) := rfl
@[simp] theorem kOr_ap : kOr ta tb ρ M = bnd (kOr1 tb ρ) (ta ρ M) := rfl
@[simp] theorem kOr1_ap : kOr1 tb ρ (b, M) = if b = true then some (true, M) else tb ρ M := rfl
@[simp] theorem kNot_ap : kNot ta ρ M = bnd kNot1 (ta ρ M) := rfl
@[simp] theorem kNot1_ap : kNot1 (b, M) = some (!b, M) := rfl
@[simp] theorem mg_B {p : Prop} [Decidable p] : (if p then some (b, M) else some (c, M)) = some (if p then b else c, M) := by split <;> rfl
def cAnd1 (fb : Ef) (ρ : Slots) (p : Rz × Mem) : Option (Rz × Mem) := match p.1.d with | .bl true => fb ρ p.2 | .bl false => some (.val (.bl false), p.2) | _ => none
def cOr1 (fb : Ef) (ρ : Slots) (p : Rz × Mem) : Option (Rz × Mem) := match p.1.d with | .bl true => some (.val (.bl true), p.2) | .bl false => fb ρ p.2 | _ => none
def cNot1 (p : Rz × Mem) : Option (Rz × Mem) := match p.1.d with | .bl b => some (.val (.bl (!b)), p.2) | _ => none
def cIf1 (fa fb : Ef) (ρ : Slots) (p : Bool × Mem) : Option (Rz × Mem) := if p.1 = true then fa ρ p.2 else fb ρ p.2
@[simp] theorem cAnd_ap : cAnd fa fb ρ M = bnd (cAnd1 fb ρ) (fa ρ M) := rfl
@[simp] theorem cAnd1_ap : cAnd1 fb ρ (.val (.bl b), M) = if b = true then fb ρ M else some (.val (.bl false), M) := by cases b <;> rfl
@[simp] theorem cOr_ap : cOr fa fb ρ M = bnd (cOr1 fb ρ) (fa ρ M) := rfl
@[simp] theorem cOr1_ap : cOr1 fb ρ (.val (.bl b), M) = if b = true then some (.val (.bl true), M) else fb ρ M := by cases b <;> rfl
@[simp] theorem cNot_ap : cNot fa ρ M = bnd cNot1 (fa ρ M) := rfl
@[simp] theorem cNot1_ap : cNot1 (.val (.bl b), M) = some (.val (.bl (!b)), M) := rfl
@[simp] theorem cIf_ap : cIf t fa fb ρ M = bnd (cIf1 fa fb ρ) (t ρ M) := rfl
@[simp] theorem cIf1_ap : cIf1 fa fb ρ (b, M) = if b = true then fa ρ M else fb ρ M := rfl
@[simp] theorem mg_bl {p : Prop} [Decidable p] : (if p then some (Rz.val (.bl b), M) else some (Rz.val (.bl c), M)) = some (Rz.val (.bl (if p then b else c)), M) := by split <;> rfl
@[simp] theorem mg_int {p : Prop} [Decidable p] : (if p then some (Rz.val (.int i), M) else some (Rz.val (.int j), M)) = some (Rz.val (.int (if p then i else j)), M) := by split <;> rfl
@[simp] theorem mg_str {p : Prop} [Decidable p] {i j : Str} : (if p then some (Rz.val (.str i), M) else some (Rz.val (.str j), M)) = some (Rz.val (.str (if p then i else j)), M) := by split <;> rfl
/-! argument lists, displays -/
def aCons1 (g : Af) (ρ : Slots) (p : Rz × Mem) : Option (List D × Mem) := (g ρ p.2).bind fun q => some (p.1.d :: q.1, q.2)
def aCons2 (d : D) (q : List D × Mem) : Option (List D × Mem) := some (d :: q.1, q.2)
@[simp] theorem aNil_ap : aNil ρ M = some ([], M) := rfl
@[simp] theorem aCons_ap : aCons f g ρ M = bnd (aCons1 g ρ) (f ρ M) := rfl
@[simp] theorem aCons1_ap : aCons1 g ρ (r, M) = bnd (aCons2 r.d) (g ρ M) := rfl
@[simp] theorem aCons2_ap : aCons2 d (ds, M) = some (d :: ds, M) := rfl
def aStar2 (g : Af) (ρ : Slots) (M : Mem) (ds : List D) : Option (List D × Mem) := (g ρ M).bind fun q => some (ds ++ q.1, q.2)
def aStar1 (g : Af) (ρ : Slots) (p : Rz × Mem) : Option (List D × Mem) := (asS p.2 p.1.d).bind (aStar2 g ρ p.2)
def aStar3 (ds : List D) (q : List D × Mem) : Option (List D × Mem) := some (ds ++ q.1, q.2)
@[simp] theorem aStar_ap : aStar' f g ρ M = bnd (aStar1 g ρ) (f ρ M) := rfl
@[simp] theorem aStar1_ap : aStar1 g ρ (r, M) = bnd (aStar2 g ρ M) (asS M r.d) := rfl
@[simp] theorem aStar2_ap : aStar2 g ρ M ds = bnd (aStar3 ds) (g ρ M) := rfl
@[simp] theorem aStar3_ap {es : List D} : aStar3 ds (es, M) = some (ds ++ es, M) := rfl
def cTup1 (p : List D × Mem) : Option (Rz × Mem) := if p.1.length ≤ sizeLine then some (.val (.tup p.1), p.2) else none
def cLst1 (p : List D × Mem) : Option (Rz × Mem) := if p.1.length ≤ sizeLine then some (.new p.1, p.2) else none
@[simp] theorem cTup_ap : cTup g ρ M = bnd cTup1 (g ρ M) := rfl
@[simp] theorem cTup1_ap : cTup1 (ds, M) = if ds.length ≤ sizeLine then some (.val (.tup ds), M) else none := rfl
@[simp] theorem cLst_ap : cLst g ρ M = bnd cLst1 (g ρ M) := rfl
@[simp] theorem cLst1_ap : cLst1 (ds, M) = if ds.length ≤ sizeLine then some (.new ds, M) else none := rfl
def sSome1 (p : Rz × Mem) : Option (Option Int × Mem) := match p.1.d with | .int i => some (some i, p.2) | _ => none
@[simp] theorem sNone_ap : sNone ρ M = some (none, M) := rfl
@[simp] theorem sSome_ap : sSome f ρ M = bnd sSome1 (f ρ M) := rfl
@[simp] theorem sSome1_ap : sSome1 (.val (.int i), M) = some (some i, M) := rfl
def cSl3 (lo : Option Int) (d : D) (q : Option Int × Mem) : Option (Rz × Mem) := (oSl lo q.1 d q.2).bind fun z => some (z, q.2)
def cSl2 (h : Of) (ρ : Slots) (d : D) (q : Option Int × Mem) : Option (Rz × Mem) := (h ρ q.2).bind (cSl3 q.1 d)
def cSl1 (l h : Of) (ρ : Slots) (p : Rz × Mem) : Option (Rz × Mem) := (l ρ p.2).bind (cSl2 h ρ p.1.d)
@[simp] theorem cSl_ap {l h : Of} : cSl f l h ρ M = bnd (cSl1 l h ρ) (f ρ M) := rfl
@[simp] theorem cSl1_ap {l h : Of} : cSl1 l h ρ (r, M) = bnd (cSl2 h ρ r.d) (l ρ M) := rfl
@[simp] theorem cSl2_ap {h : Of} {lo : Option Int} : cSl2 h ρ d (lo, M) = bnd (cSl3 lo d) (h ρ M) := rfl
@[simp] theorem cSl3_ap {lo hi : Option Int} : cSl3 lo d (hi, M) = bnd (ret1 M) (oSl lo hi d M) := rfl
def cCB1 (o : Cop) (p : List D × Mem) : Option (Rz × Mem) := (o p.1 p.2).bind fun r => some (r, p.2)
@[simp] theorem cCB_ap {o : Cop} : cCB o g ρ M = bnd (cCB1 o) (g ρ M) := rfl
@[simp] theorem cCB1_ap {o : Cop} : cCB1 o (ds, M) = bnd (ret1 M) (o ds M) := rfl
def isI3 (M : Mem) (b : Bool) : Option (Rz × Mem) := some (.val (.bl b), M)
def isI2 (n : String) (M : Mem) (t : String) : Option (Rz × Mem) := (kitB t n).bind (isI3 M)
def isI1 (n : String) (p : Rz × Mem) : Option (Rz × Mem) := (tyOf p.2 p.1.d).bind (isI2 n p.2)
@[simp] theorem cIsI_ap {n : String} : cIsI n f ρ M = bnd (isI1 n) (f ρ M) := rfl
@[simp] theorem isI1_ap {n : String} : isI1 n (r, M) = bnd (isI2 n M) (tyOf M r.d) := rfl
@[simp] theorem isI2_ap {n t : String} : isI2 n M t = bnd (isI3 M) (kitB t n) := rfl
@[simp] theorem isI3_ap : isI3 M b = some (.val (.bl b), M) := rfl
def toTr2 (M : Mem) (b : Bool) : Option (Bool × Mem) := some (b, M)
def toTr1 (p : Rz × Mem) : Option (Bool × Mem) := (trD p.2 p.1.d).bind (toTr2 p.2)
@[simp] theorem toTr_ap : toTr f ρ M = bnd toTr1 (f ρ M) := rfl
@[simp] theorem toTr1_ap : toTr1 (r, M) = bnd (toTr2 M) (trD M r.d) := rfl
@[simp] theorem toTr2_ap : toTr2 M b = some (b, M) := rfl
def cCall1 (F : Fn) (p : List D × Mem) : Option (Rz × Mem) := F p.1 p.2
@[simp] theorem cCall_ap {F : Fn} : cCall F g ρ M = bnd (cCall1 F) (g ρ M) := rfl
@[simp] theorem cCall1_ap {F : Fn} : cCall1 F (ds, M) = F ds M := rfl
def cNew2 (k : Nat) (q : Rz × Mem) : Option (Rz × Mem) := match q.1 with | .val .non => some (.val (.loc k), q.2) | _ => none
def cNew1 (c : Str) (F : Fn) (p : List D × Mem) : Option (Rz × Mem) := (F (.loc p.2.length :: p.1) (p.2 ++ [.ins c []])).bind (cNew2 p.2.length)
@[simp] theorem cNew_ap {F : Fn} {c : Str} : cNew c F g ρ M = bnd (cNew1 c F) (g ρ M) := rfl
@[simp] theorem cNew1_ap {F : Fn} {c : Str} : cNew1 c F (ds, M) = bnd (cNew2 M.length) (F (.loc M.length :: ds) (M ++ [.ins c []])) := rfl
@[simp] theorem cNew2_ap {k : Nat} : cNew2 k (.val .non, M) = some (.val (.loc k), M) := rfl
def cMe2 (F : Fn) (k : Nat) (q : List D × Mem) : Option (Rz × Mem) := F (.loc k :: q.1) q.2
def cMe3 (c m : Str) (F : Fn) (g : Af) (ρ : Slots) (k : Nat) (M : Mem) (o : O) : Option (Rz × Mem) := match o with
  | .ins c' fs => if c' = c ∧ fs.lookup m = none then (g ρ M).bind (cMe2 F k) else none
  | _ => none
def cMe1 (c m : Str) (F : Fn) (g : Af) (ρ : Slots) (p : Rz × Mem) : Option (Rz × Mem) := match p.1.d with
  | .loc k => (p.2[k]?).bind (cMe3 c m F g ρ k p.2)
  | _ => none
@[simp] theorem cMeth_ap {F : Fn} {c m : Str} : cMeth c m F f g ρ M = bnd (cMe1 c m F g ρ) (f ρ M) := by
  show (f ρ M).bind _ = (f ρ M).bind _
  congr 1
  funext ⟨r, M2⟩
  unfold cMe1
  cases hd : r.d with
  | loc k =>
    simp only [hd]
    cases hk : M2[k]? with
    | none => rfl
    | some o => cases o <;> rfl
  | _ => simp only [hd]
@[simp] theorem cMe1_ap {F : Fn} {c m : Str} {k : Nat} : cMe1 c m F g ρ (.val (.loc k), M) = bnd (cMe3 c m F g ρ k M) M[k]? := rfl
@[simp] theorem cMe3_ap {F : Fn} {c c' m : Str} {k : Nat} {fs : List (Str × D)} : cMe3 c m F g ρ k M (.ins c' fs) = if c' = c ∧ fs.lookup m = none then bnd (cMe2 F k) (g ρ M) else none := rfl
@[simp] theorem cMe2_ap {F : Fn} {k : Nat} : cMe2 F k (ds, M) = F (.loc k :: ds) M := rfl
def cFl2 (cs : List Str) (n : Str) (M : Mem) (o : O) : Option (Rz × Mem) := match o with
  | .ins c fs => if c ∈ cs then (fs.lookup n).bind (var1 M) else none
  | _ => none
def cFl1 (cs : List Str) (n : Str) (p : Rz × Mem) : Option (Rz × Mem) := match p.1.d with
  | .loc k => (p.2[k]?).bind (cFl2 cs n p.2)
  | _ => none
@[simp] theorem cFld_ap {cs : List Str} {n : Str} : cFld cs n f ρ M = bnd (cFl1 cs n) (f ρ M) := by
  show (f ρ M).bind _ = (f ρ M).bind _
  congr 1
  funext ⟨r, M2⟩
  unfold cFl1
  cases hd : r.d with
  | loc k =>
    simp only [hd]
    cases hk : M2[k]? with
    | none => rfl
    | some o => cases o <;> rfl
  | _ => simp only [hd]
@[simp] theorem cFl1_ap {cs : List Str} {n : Str} {k : Nat} : cFl1 cs n (.val (.loc k), M) = bnd (cFl2 cs n M) M[k]? := rfl
@[simp] theorem cFl2_ap {cs : List Str} {n c : Str} {fs : List (Str × D)} : cFl2 cs n M (.ins c fs) = if c ∈ cs then bnd (var1 M) (fs.lookup n) else none := rfl
def cBM2 (o : Mop) (d : D) (q : List D × Mem) : Option (Rz × Mem) := o d q.1 q.2
def cBM1 (T : String) (o : Mop) (g : Af) (ρ : Slots) (p : Rz × Mem) : Option (Rz × Mem) := if tyOf p.2 p.1.d = some T then (g ρ p.2).bind (cBM2 o p.1.d) else none
@[simp] theorem cBM_ap {T : String} {o : Mop} : cBM T o f g ρ M = bnd (cBM1 T o g ρ) (f ρ M) := rfl
@[simp] theorem cBM1_ap {T : String} {o : Mop} : cBM1 T o g ρ (r, M) = if tyOf M r.d = some T then bnd (cBM2 o r.d) (g ρ M) else none := rfl
@[simp] theorem cBM2_ap {o : Mop} : cBM2 o d (ds, M) = o d ds M := rfl
def cNeg1 (p : Rz × Mem) : Option (Rz × Mem) := match p.1.d with | .int i => some (.val (.int (-i)), p.2) | _ => none
@[simp] theorem cNeg_ap : cNeg f ρ M = bnd cNeg1 (f ρ M) := rfl
@[simp] theorem cNeg1_ap : cNeg1 (.val (.int i), M) = some (.val (.int (-i)), M) := rfl
def lRg2 (d : D) (q : Rz × Mem) : Option (Rz × Mem) := match d, q.1.d with
  | .int i, .int j => if bRg i j = true then some (.new (rgD i (j - i).toNat), q.2) else none
  | _, _ => none
def lRg1 (fb : Ef) (ρ : Slots) (p : Rz × Mem) : Option (Rz × Mem) := (fb ρ p.2).bind (lRg2 p.1.d)
@[simp] theorem cLRg_ap : cLRg fa fb ρ M = bnd (lRg1 fb ρ) (fa ρ M) := rfl
@[simp] theorem lRg1_ap : lRg1 fb ρ (r, M) = bnd (lRg2 r.d) (fb ρ M) := rfl
@[simp] theorem lRg2_ap : lRg2 (.int i) (.val (.int j), M) = if bRg i j = true then some (.new (rgD i (j - i).toNat), M) else none := rfl
/-! statements -/
variable {s s' : Sf} {n : Nat} {x : Str} {cs : List Str}
def sCons1 (s : Sf) (p : Fl × Slots × Mem) : Option (Fl × Slots × Mem) := match p.1 with | .nx => s p.2.1 p.2.2 | fl => some (fl, p.2.1, p.2.2)
@[simp] theorem sNil_ap : sNil ρ M = some (.nx, ρ, M) := rfl
@[simp] theorem sCons_ap : sCons s s' ρ M = bnd (sCons1 s') (s ρ M) := rfl
@[simp] theorem sCons1_nx : sCons1 s (.nx, ρ, M) = s ρ M := rfl
@[simp] theorem sCons1_rt : sCons1 s (.rt r, ρ, M) = some (.rt r, ρ, M) := rfl
@[simp] theorem sCons1_bk : sCons1 s (.bk, ρ, M) = some (.bk, ρ, M) := rfl
@[simp] theorem sCons1_ct : sCons1 s (.ct, ρ, M) = some (.ct, ρ, M) := rfl
@[simp] theorem sBreak_ap : sBreak ρ M = some (.bk, ρ, M) := rfl
@[simp] theorem sCont_ap : sCont ρ M = some (.ct, ρ, M) := rfl
def sExpr1 (ρ : Slots) (p : Rz × Mem) : Option (Fl × Slots × Mem) := some (.nx, ρ, p.2)
@[simp] theorem sExpr_ap : sExpr f ρ M = bnd (sExpr1 ρ) (f ρ M) := rfl
@[simp] theorem sExpr1_ap : sExpr1 ρ (r, M) = some (.nx, ρ, M) := rfl
def sRet1 (ρ : Slots) (p : Rz × Mem) : Option (Fl × Slots × Mem) := some (.rt p.1, ρ, p.2)
@[simp] theorem sRet_ap : sRet f ρ M = bnd (sRet1 ρ) (f ρ M) := rfl
@[simp] theorem sRet1_ap : sRet1 ρ (r, M) = some (.rt r, ρ, M) := rfl
@[simp] theorem sRetN_ap : sRetN ρ M = some (.rt (.val .non), ρ, M) := rfl
def sIf1 (s s' : Sf) (ρ : Slots) (p : Bool × Mem) : Option (Fl × Slots × Mem) := if p.1 = true then s ρ p.2 else s' ρ p.2
@[simp] theorem sIf_ap : sIf t s s' ρ M = bnd (sIf1 s s' ρ) (t ρ M) := rfl
@[simp] theorem sIf1_ap : sIf1 s s' ρ (b, M) = if b = true then s ρ M else s' ρ M := rfl
def sSet1 (n : Nat) (ρ : Slots) (p : Rz × Mem) : Option (Fl × Slots × Mem) := some (.nx, ρ.set n (some p.1.d), p.2)
@[simp] theorem sSet_ap : sSet n f ρ M = bnd (sSet1 n ρ) (f ρ M) := rfl
@[simp] theorem sSet1_ap : sSet1 n ρ (r, M) = some (.nx, ρ.set n (some r.d), M) := rfl
def sSetM1 (n : Nat) (ρ : Slots) (p : Rz × Mem) : Option (Fl × Slots × Mem) := match p.1 with
  | .new ds => some (.nx, ρ.set n (some (.loc p.2.length)), p.2 ++ [.lst ds])
  | .val d => some (.nx, ρ.set n (some d), p.2)
@[simp] theorem sSetM_ap : sSetM n f ρ M = bnd (sSetM1 n ρ) (f ρ M) := rfl
@[simp] theorem sSetM1_new : sSetM1 n ρ (.new ds, M) = some (.nx, ρ.set n (some (.loc M.length)), M ++ [.lst ds]) := rfl
@[simp] theorem sSetM1_val : sSetM1 n ρ (.val d, M) = some (.nx, ρ.set n (some d), M) := rfl
def stF2 (cs : List Str) (x : Str) (d : D) (ρ : Slots) (k : Nat) (M : Mem) (o : O) : Option (Fl × Slots × Mem) := match o with
  | .ins c fs => if c ∈ cs ∧ fs.length < 1000 then some (.nx, ρ, M.set k (.ins c (putD x d fs))) else none
  | _ => none
def stF1 (cs : List Str) (x : Str) (d : D) (ρ : Slots) (q : Rz × Mem) : Option (Fl × Slots × Mem) := match q.1.d with
  | .loc k => (q.2[k]?).bind (stF2 cs x d ρ k q.2)
  | _ => none
theorem stFld_ap : stFld cs x fo d ρ M = bnd (stF1 cs x d ρ) (fo ρ M) := by
  show (fo ρ M).bind _ = (fo ρ M).bind _
  congr 1
  funext ⟨r, M2⟩
  unfold stF1
  cases hd : r.d with
  | loc k =>
    simp only [hd]
    cases hk : M2[k]? with
    | none => rfl
    | some o => cases o <;> rfl
  | _ => simp only [hd]
@[simp] theorem stF1_ap {k : Nat} : stF1 cs x d ρ (.val (.loc k), M) = bnd (stF2 cs x d ρ k M) M[k]? := rfl
@[simp] theorem stF2_ap {k : Nat} {c : Str} {fs : List (Str × D)} : stF2 cs x d ρ k M (.ins c fs) = if c ∈ cs ∧ fs.length < 1000 then some (.nx, ρ, M.set k (.ins c (putD x d fs))) else none := rfl
def sFlS1 (cs : List Str) (x : Str) (fo : Ef) (ρ : Slots) (p : Rz × Mem) : Option (Fl × Slots × Mem) := stFld cs x fo p.1.d ρ p.2
def sFlM1 (cs : List Str) (x : Str) (fo : Ef) (ρ : Slots) (p : Rz × Mem) : Option (Fl × Slots × Mem) := match p.1 with
  | .new ds => stFld cs x fo (.loc p.2.length) ρ (p.2 ++ [.lst ds])
  | .val d => stFld cs x fo d ρ p.2
@[simp] theorem sFldS_ap : sFldS cs x fo fv ρ M = bnd (sFlS1 cs x fo ρ) (fv ρ M) := rfl
@[simp] theorem sFlS1_ap : sFlS1 cs x fo ρ (r, M) = bnd (stF1 cs x r.d ρ) (fo ρ M) := stFld_ap
@[simp] theorem sFldM_ap : sFldM cs x fo fv ρ M = bnd (sFlM1 cs x fo ρ) (fv ρ M) := rfl
@[simp] theorem sFlM1_new : sFlM1 cs x fo ρ (.new ds, M) = bnd (stF1 cs x (.loc M.length) ρ) (fo ρ (M ++ [.lst ds])) := stFld_ap
@[simp] theorem sFlM1_val : sFlM1 cs x fo ρ (.val d, M) = bnd (stF1 cs x d ρ) (fo ρ M) := stFld_ap
def sAsg2 (p : Slots × Mem) : Option (Fl × Slots × Mem) := some (.nx, p.1, p.2)
def sAsg1 (gg : Gf) (ρ : Slots) (p : Rz × Mem) : Option (Fl × Slots × Mem) := (gg p.1.d ρ p.2).bind sAsg2
@[simp] theorem sAsg_ap {gg : Gf} : sAsg gg f ρ M = bnd (sAsg1 gg ρ) (f ρ M) := rfl
@[simp] theorem sAsg1_ap {gg : Gf} : sAsg1 gg ρ (r, M) = bnd sAsg2 (gg r.d ρ M) := rfl
@[simp] theorem sAsg2_ap : sAsg2 (ρ, M) = some (.nx, ρ, M) := rfl
@[simp] theorem gNm_ap : gNm n d ρ M = some (ρ.set n (some d), M) := rfl
@[simp] theorem gsNil_ap : gsNil [] ρ M = some (ρ, M) := rfl
def gsC1 (gs : GsF) (ds : List D) (p : Slots × Mem) : Option (Slots × Mem) := gs ds p.1 p.2
@[simp] theorem gsCons_ap {gg : Gf} {gs : GsF} : gsCons gg gs (d :: ds) ρ M = bnd (gsC1 gs ds) (gg d ρ M) := rfl
@[simp] theorem gsC1_ap {gs : GsF} : gsC1 gs ds (ρ, M) = gs ds ρ M := rfl
@[simp] theorem gTp_ap {gs : GsF} : gTp n gs (.tup ds) ρ M = if ds.length = n then gs ds ρ M else none := rfl
def gIx3 (d : D) (k : Nat) (i : Int) (ρ : Slots) (M : Mem) (es : List D) (j : Nat) : Option (Slots × Mem) := some (ρ, M.set k (.lst (es.set j d)))
def gIx2 (d : D) (ρ : Slots) (e : D) (q : Rz × Mem) : Option (Slots × Mem) := match e, q.1.d with
  | .loc k, .int i => match q.2[k]? with
    | some (.lst es) => (ixN es.length i).bind (gIx3 d k i ρ q.2 es)
    | _ => none
  | _, _ => none
def gIx1 (fb : Ef) (d : D) (ρ : Slots) (p : Rz × Mem) : Option (Slots × Mem) := (fb ρ p.2).bind (gIx2 d ρ p.1.d)
@[simp] theorem gIx_ap : gIx fa fb d ρ M = bnd (gIx1 fb d ρ) (fa ρ M) := rfl
@[simp] theorem gIx1_ap : gIx1 fb d ρ (r, M) = bnd (gIx2 d ρ r.d) (fb ρ M) := rfl
def iSeq2 (d : D) (M : Mem) (ds : List D) : Option (List D × Option Nat × Mem) := some (ds, gkOf d, M)
def iSeq1 (p : Rz × Mem) : Option (List D × Option Nat × Mem) := (asS p.2 p.1.d).bind (iSeq2 p.1.d p.2)
@[simp] theorem iSeq_ap : iSeq f ρ M = bnd iSeq1 (f ρ M) := rfl
@[simp] theorem iSeq1_ap : iSeq1 (r, M) = bnd (iSeq2 r.d M) (asS M r.d) := rfl
@[simp] theorem iSeq2_ap : iSeq2 d M ds = some (ds, gkOf d, M) := rfl
def iRga (p : Rz × Mem) : Option (List D × Option Nat × Mem) := match p.1.d with | .int j => if rgB j = true then some (rgD 0 j.toNat, none, p.2) else none | _ => none
@[simp] theorem iRg1_ap : iRg1 fa ρ M = bnd iRga (fa ρ M) := rfl
@[simp] theorem iRga_ap : iRga (.val (.int j), M) = if rgB j = true then some (rgD 0 j.toNat, none, M) else none := rfl
def iRgc (d : D) (q : Rz × Mem) : Option (List D × Option Nat × Mem) := match d, q.1.d with | .int i, .int j => if rgB i = true ∧ rgB j = true then some (rgD i (j - i).toNat, none, q.2) else none | _, _ => none
def iRgb (fb : Ef) (ρ : Slots) (p : Rz × Mem) : Option (List D × Option Nat × Mem) := (fb ρ p.2).bind (iRgc p.1.d)
@[simp] theorem iRg2_ap : iRg2 fa fb ρ M = bnd (iRgb fb ρ) (fa ρ M) := rfl
@[simp] theorem iRgb_ap : iRgb fb ρ (r, M) = bnd (iRgc r.d) (fb ρ M) := rfl
@[simp] theorem iRgc_ap : iRgc (.int i) (.val (.int j), M) = if rgB i = true ∧ rgB j = true then some (rgD i (j - i).toNat, none, M) else none := rfl
def iEn1 (p : Rz × Mem) : Option (List D × Option Nat × Mem) := match p.1.d with | .lst ds => some (enD ds, none, p.2) | .scr ns => some (enD (ns.map .int), none, p.2) | _ => none
@[simp] theorem iEn_ap : iEn f ρ M = bnd iEn1 (f ρ M) := rfl
@[simp] theorem iEn1_lst : iEn1 (.val (.lst ds), M) = some (enD ds, none, M) := rfl
@[simp] theorem iEn1_new : iEn1 (.new ds, M) = some (enD ds, none, M) := rfl
def iSt1 (p : Rz × Mem) : Option (List D × Option Nat × Mem) := match p.1.d with | .str x => some (chD x, none, p.2) | _ => none
@[simp] theorem iSt_ap : iSt f ρ M = bnd iSt1 (f ρ M) := rfl
@[simp] theorem iSt1_ap : iSt1 (.val (.str x), M) = some (chD x, none, M) := rfl
/-! loops -/
variable {kl : List Bool} {it : If} {gg : Gf}
noncomputable def sForK1 (kl : List Bool) (gg : Gf) (s : Sf) (ρ : Slots) (p : List D × Option Nat × Mem) : Option (Fl × Slots × Mem) := loopF (stpK kl p.2.1 p.1 gg s) p.1 (keepD kl ρ) p.2.2
@[simp] theorem sForK_ap : sForK kl it gg s ρ M = bnd (sForK1 kl gg s ρ) (it ρ M) := rfl
@[simp] theorem sForK1_ap {gk : Option Nat} : sForK1 kl gg s ρ (ds, gk, M) = loopF (stpK kl gk ds gg s) ds (keepD kl ρ) M := rfl
@[simp] theorem sWhileK_ap : sWhileK kl n t s ρ M = whK kl t s n (keepD kl ρ) M := rfl
end
end CI

/-! N17: operators, memories, loops, reckoned -/
namespace CI
open PySem PySem.Spec PyProof.Rows L2

@[simp] theorem line_le {n : Nat} : (n ≤ sizeLine) = (n ≤ 16777216) := by rw [sizeLine_eq]
@[simp] theorem line_lt {n : Nat} : (n < sizeLine) = (n < 16777216) := by rw [sizeLine_eq]
@[simp] theorem guard_none {ds : List D} {M : Mem} : guard none ds M = True := by
  unfold guard; simp
theorem set_end {M : Mem} {a b : O} : (M ++ [a]).set M.length b = M ++ [b] := by
  rw [List.set_append_right _ _ (Nat.le_refl _)]; simp
theorem get_end {M : Mem} {a : O} : (M ++ [a])[M.length]? = some a := by simp
@[simp] theorem nls_ints {n : Nat} : ∀ {ns : List Int}, nls n (ns.map .int) = true
  | [] => rfl
  | _ :: ns => by rw [List.map_cons, nls, nls_ints, Bool.and_true]; simp [nl]
@[simp] theorem oI_int {g : Int → Int → D} {i j : Int} {M : Mem} : oI g (.int i) (.int j) M = some (.val (g i j)) := rfl
@[simp] theorem oIc_int {C : Int → Int → Bool} {g : Int → Int → D} {i j : Int} {M : Mem} : oIc C g (.int i) (.int j) M = if C i j = true then some (.val (g i j)) else none := rfl
@[simp] theorem oAdd_int {i j : Int} {M : Mem} : oAdd (.int i) (.int j) M = some (.val (.int (i + j))) := rfl
@[simp] theorem oAdd_tup {xs ys : List D} {M : Mem} : oAdd (.tup xs) (.tup ys) M = if xs.length + ys.length ≤ sizeLine then some (.val (.tup (xs ++ ys))) else none := rfl
@[simp] theorem oAdd_lst {xs ys : List D} {M : Mem} : oAdd (.lst xs) (.lst ys) M = if xs.length + ys.length ≤ sizeLine then some (.new (xs ++ ys)) else none := rfl
@[simp] theorem oEq_int {i j : Int} {M : Mem} : oEq (.int i) (.int j) M = some (.val (.bl (decide (i = j)))) := rfl
@[simp] theorem oNe_int {i j : Int} {M : Mem} : oNe (.int i) (.int j) M = some (.val (.bl (!decide (i = j)))) := rfl
@[simp] theorem oEq_str {i j : Str} {M : Mem} : oEq (.str i) (.str j) M = some (.val (.bl (decide (i = j)))) := rfl
@[simp] theorem oNe_str {i j : Str} {M : Mem} : oNe (.str i) (.str j) M = some (.val (.bl (!decide (i = j)))) := rfl
@[simp] theorem oSub_int {i j : Int} {M : Mem} : oSub (.int i) (.int j) M = some (.val (.int (i - j))) := rfl
@[simp] theorem oLt_int {i j : Int} {M : Mem} : oLt (.int i) (.int j) M = some (.val (.bl (decide (i < j)))) := rfl
@[simp] theorem oLe_int {i j : Int} {M : Mem} : oLe (.int i) (.int j) M = some (.val (.bl (decide (i ≤ j)))) := rfl
@[simp] theorem oGt_int {i j : Int} {M : Mem} : oGt (.int i) (.int j) M = some (.val (.bl (decide (j < i)))) := rfl
@[simp] theorem oGe_int {i j : Int} {M : Mem} : oGe (.int i) (.int j) M = some (.val (.bl (decide (j ≤ i)))) := rfl
@[simp] theorem oMul_int {i j : Int} {M : Mem} : oMulI (.int i) (.int j) M = if bMul i j = true then some (.val (.int (i * j))) else none := rfl
@[simp] theorem oDiv_int {i j : Int} {M : Mem} : oDiv (.int i) (.int j) M = if bDiv i j = true then some (.val (.int (i / j))) else none := rfl
@[simp] theorem oMod_int {i j : Int} {M : Mem} : oMod (.int i) (.int j) M = if bMod i j = true then some (.val (.int (i % j))) else none := rfl
@[simp] theorem oPow_int {i j : Int} {M : Mem} : oPow (.int i) (.int j) M = if bPow i j = true then some (.val (.int (i ^ j.toNat))) else none := rfl
@[simp] theorem oInt_int {i : Int} {M : Mem} : oInt [.int i] M = some (.val (.int i)) := rfl
@[simp] theorem bMul_eq {i j : Int} : bMul i j = (sm64 i || sm64 j) := rfl
theorem p64 : (2 : Int) ^ 64 = 18446744073709551616 := by decide
theorem sm64_of {i : Int} (h0 : -1000000000000000000 < i) (h1 : i < 1000000000000000000) : sm64 i = true := by
  unfold sm64
  rw [p64]
  simp only [Bool.and_eq_true, decide_eq_true_eq]
  omega
@[simp] theorem sm64_lit {n : Nat} (h : n < 1000000000000000000) : sm64 (no_index (@OfNat.ofNat Int n instOfNat)) = true := sm64_of (by show (-1000000000000000000 : Int) < (n : Int); omega) (by show (n : Int) < 1000000000000000000; omega)
@[simp] theorem bDiv_eq {i j : Int} : bDiv i j = (decide (0 < j) && decide (j < 1073741824)) := rfl
@[simp] theorem bMod_eq {i j : Int} : bMod i j = decide (0 < j) := rfl
@[simp] theorem bPow_eq {i j : Int} : bPow i j = (decide (0 ≤ j) && decide (j ≤ 1000000) && decide (i.natAbs < 2 ^ 64)) := rfl
@[simp] theorem asS_lst {ds : List D} {M : Mem} : asS M (.lst ds) = some ds := rfl
@[simp] theorem asS_tup {ds : List D} {M : Mem} : asS M (.tup ds) = some ds := rfl
@[simp] theorem asS_scr {ns : List Int} {M : Mem} : asS M (.scr ns) = some (ns.map .int) := rfl
@[simp] theorem asL_lst {ds : List D} {M : Mem} : asL M (.lst ds) = some ds := rfl
@[simp] theorem asL_scr {ns : List Int} {M : Mem} : asL M (.scr ns) = some (ns.map .int) := rfl
theorem asS_loc {k : Nat} {M : Mem} {ds : List D} (h : M[k]? = some (.lst ds)) : asS M (.loc k) = some ds := by
  show (match M[k]? with | some (.lst ds) => some ds | _ => none) = some ds
  rw [h]
@[simp] theorem oLen_lst {ds : List D} {M : Mem} : oLen [.lst ds] M = some (.val (.int ds.length)) := rfl
@[simp] theorem oLen_tup {ds : List D} {M : Mem} : oLen [.tup ds] M = some (.val (.int ds.length)) := rfl
@[simp] theorem oLen_scr {ns : List Int} {M : Mem} : oLen [.scr ns] M = some (.val (.int ns.length)) := by
  show some (Rz.val (.int (ns.map D.int).length)) = _
  rw [List.length_map]
theorem oAppend_loc {k : Nat} {M : Mem} {ds : List D} {d : D} (h : M[k]? = some (.lst ds)) (hl : ds.length < 16777216) : oAppend (.loc k) [d] M = some (.val .non, M.set k (.lst (ds ++ [d]))) := by
  show (match M[k]? with | some (.lst es) => if es.length < sizeLine then some (Rz.val D.non, M.set k (.lst (es ++ [d]))) else none | _ => none) = _
  rw [h]
  simp [hl]
@[simp] theorem kit_NoneType_bool : kitB "NoneType" "bool" = some false := by decide +kernel
@[simp] theorem kit_NoneType_int : kitB "NoneType" "int" = some false := by decide +kernel
@[simp] theorem kit_NoneType_str : kitB "NoneType" "str" = some false := by decide +kernel
@[simp] theorem kit_NoneType_tuple : kitB "NoneType" "tuple" = some false := by decide +kernel
@[simp] theorem kit_NoneType_list : kitB "NoneType" "list" = some false := by decide +kernel
@[simp] theorem kit_NoneType_dict : kitB "NoneType" "dict" = some false := by decide +kernel
@[simp] theorem kit_bool_bool : kitB "bool" "bool" = some true := by decide +kernel
@[simp] theorem kit_bool_int : kitB "bool" "int" = some true := by decide +kernel
@[simp] theorem kit_bool_str : kitB "bool" "str" = some false := by decide +kernel
@[simp] theorem kit_bool_tuple : kitB "bool" "tuple" = some false := by decide +kernel
@[simp] theorem kit_bool_list : kitB "bool" "list" = some false := by decide +kernel
@[simp] theorem kit_bool_dict : kitB "bool" "dict" = some false := by decide +kernel
@[simp] theorem kit_int_bool : kitB "int" "bool" = some false := by decide +kernel
@[simp] theorem kit_int_int : kitB "int" "int" = some true := by decide +kernel
@[simp] theorem kit_int_str : kitB "int" "str" = some false := by decide +kernel
@[simp] theorem kit_int_tuple : kitB "int" "tuple" = some false := by decide +kernel
@[simp] theorem kit_int_list : kitB "int" "list" = some false := by decide +kernel
@[simp] theorem kit_int_dict : kitB "int" "dict" = some false := by decide +kernel
@[simp] theorem kit_str_bool : kitB "str" "bool" = some false := by decide +kernel
@[simp] theorem kit_str_int : kitB "str" "int" = some false := by decide +kernel
@[simp] theorem kit_str_str : kitB "str" "str" = some true := by decide +kernel
@[simp] theorem kit_str_tuple : kitB "str" "tuple" = some false := by decide +kernel
@[simp] theorem kit_str_list : kitB "str" "list" = some false := by decide +kernel
@[simp] theorem kit_str_dict : kitB "str" "dict" = some false := by decide +kernel
@[simp] theorem kit_tuple_bool : kitB "tuple" "bool" = some false := by decide +kernel
@[simp] theorem kit_tuple_int : kitB "tuple" "int" = some false := by decide +kernel
@[simp] theorem kit_tuple_str : kitB "tuple" "str" = some false := by decide +kernel
@[simp] theorem kit_tuple_tuple : kitB "tuple" "tuple" = some true := by decide +kernel
@[simp] theorem kit_tuple_list : kitB "tuple" "list" = some false := by decide +kernel
@[simp] theorem kit_tuple_dict : kitB "tuple" "dict" = some false := by decide +kernel
@[simp] theorem kit_list_bool : kitB "list" "bool" = some false := by decide +kernel
@[simp] theorem kit_list_int : kitB "list" "int" = some false := by decide +kernel
@[simp] theorem kit_list_str : kitB "list" "str" = some false := by decide +kernel
@[simp] theorem kit_list_tuple : kitB "list" "tuple" = some false := by decide +kernel
@[simp] theorem kit_list_list : kitB "list" "list" = some true := by decide +kernel
@[simp] theorem kit_list_dict : kitB "list" "dict" = some false := by decide +kernel
@[simp] theorem kit_dict_bool : kitB "dict" "bool" = some false := by decide +kernel
@[simp] theorem kit_dict_int : kitB "dict" "int" = some false := by decide +kernel
@[simp] theorem kit_dict_str : kitB "dict" "str" = some false := by decide +kernel
@[simp] theorem kit_dict_tuple : kitB "dict" "tuple" = some false := by decide +kernel
@[simp] theorem kit_dict_list : kitB "dict" "list" = some false := by decide +kernel
@[simp] theorem kit_dict_dict : kitB "dict" "dict" = some true := by decide +kernel

@[simp] theorem oIs_non {b : Bool} {d : D} {M : Mem} : oIs b d .non M = some (.val (.bl (b != isNon d))) := rfl
@[simp] theorem oIs_bl {b c : Bool} {d : D} {M : Mem} : oIs b d (.bl c) M = some (.val (.bl (b != isBl c d))) := rfl
@[simp] theorem trD_bl {b : Bool} {M : Mem} : trD M (.bl b) = some b := rfl
@[simp] theorem ge_nat {n : Nat} : ((n : Int) < 0) = False := by simp

@[simp] theorem isNon_non : isNon .non = true := rfl
@[simp] theorem isNon_bl {b} : isNon (.bl b) = false := rfl
@[simp] theorem isNon_int {b} : isNon (.int b) = false := rfl
@[simp] theorem isNon_str {b} : isNon (.str b) = false := rfl
@[simp] theorem isNon_tup {b} : isNon (.tup b) = false := rfl
@[simp] theorem isNon_lst {b} : isNon (.lst b) = false := rfl
@[simp] theorem isNon_scr {b} : isNon (.scr b) = false := rfl
@[simp] theorem isNon_loc {b} : isNon (.loc b) = false := rfl
@[simp] theorem isBl_bl {b c} : isBl b (.bl c) = decide (c = b) := rfl
@[simp] theorem isBl_non {b} : isBl b .non = false := rfl
@[simp] theorem isBl_int {b c} : isBl b (.int c) = false := rfl
@[simp] theorem isBl_str {b c} : isBl b (.str c) = false := rfl
@[simp] theorem isBl_tup {b c} : isBl b (.tup c) = false := rfl
@[simp] theorem isBl_lst {b c} : isBl b (.lst c) = false := rfl
@[simp] theorem isBl_scr {b c} : isBl b (.scr c) = false := rfl
@[simp] theorem isBl_loc {b c} : isBl b (.loc c) = false := rfl
@[simp] theorem tyOf_non {M} : tyOf M .non = some "NoneType" := rfl
@[simp] theorem tyOf_bl {M b} : tyOf M (.bl b) = some "bool" := rfl
@[simp] theorem tyOf_int {M b} : tyOf M (.int b) = some "int" := rfl
@[simp] theorem tyOf_str {M b} : tyOf M (.str b) = some "str" := rfl
@[simp] theorem tyOf_tup {M b} : tyOf M (.tup b) = some "tuple" := rfl
@[simp] theorem tyOf_lst {M b} : tyOf M (.lst b) = some "list" := rfl
@[simp] theorem tyOf_scr {M b} : tyOf M (.scr b) = some "list" := rfl
theorem tyOf_loc {k : Nat} {M : Mem} {ds : List D} (h : M[k]? = some (.lst ds)) : tyOf M (.loc k) = some "list" := by
  show (match M[k]? with | some (.lst _) => some "list" | some (.dct _) => some "dict" | _ => none) = _
  rw [h]

@[simp] theorem wipeD_nil {ρ : Slots} : wipeD ρ [] = ρ := rfl
@[simp] theorem wipeD_cons {ρ : Slots} {v : Nat} {vs : List Nat} : wipeD ρ (v :: vs) = (wipeD ρ vs).set v none := rfl
@[simp] theorem tYesF_ap {ρ : Slots} {M : Mem} : tYesF ρ M = some (true, M) := rfl

@[simp] theorem filter_true {ds : List D} : ds.filter (fun _ => true) = ds := by simp

theorem guard_app {gk : Option Nat} {ds : List D} {M : Mem} (h : guard gk ds M) (x : O) : guard gk ds (M ++ [x]) := fun k e => by
  have := h k e
  rw [List.getElem?_append_left (List.getElem?_eq_some_iff.mp this).1]; exact this

/-! ### memories -/
@[simp] theorem get_app0 {M : Mem} {a : O} {A : Mem} : (M ++ a :: A)[M.length]? = some a := by
  rw [List.getElem?_append_right (Nat.le_refl _)]; simp
@[simp] theorem get_appj {M A : Mem} {j : Nat} : (M ++ A)[M.length + j]? = A[j]? := by
  rw [List.getElem?_append_right (Nat.le_add_right _ _)]; simp
@[simp] theorem set_app0 {M : Mem} {a b : O} {A : Mem} : (M ++ a :: A).set M.length b = M ++ b :: A := by
  rw [List.set_append_right _ _ (Nat.le_refl _)]; simp
@[simp] theorem set_appj {M A : Mem} {j : Nat} {b : O} : (M ++ A).set (M.length + j) b = M ++ A.set j b := by
  rw [List.set_append_right _ _ (Nat.le_add_right _ _)]; simp
@[simp] theorem take_app {M A : Mem} : (M ++ A).take M.length = M := by simp
@[simp] theorem take_appj {M A : Mem} {j : Nat} : (M ++ A).take (M.length + j) = M ++ A.take j := by
  rw [List.take_append, List.take_of_length_le (by omega), Nat.add_sub_cancel_left]
@[simp] theorem take_len {M : Mem} : M.take M.length = M := List.take_length
/-! ### what is trimmed -/
@[simp] theorem trimOk_refl {M : Mem} : trimOk M M := ⟨Nat.le_refl _, fun k o _ h => .inl h⟩
@[simp] theorem trimOk_app {M A : Mem} : trimOk M (M ++ A) := ⟨by simp, fun k o hk h => .inl (by rw [List.getElem?_append_left hk] at h; exact h)⟩
def trimC (n : Nat) : Mem → Mem → Prop
  | [], _ => True
  | o :: M, o' :: Me => (o' = o ∨ nlO n o' = true) ∧ trimC n M Me
  | _ :: _, [] => False
theorem trimC_len {n : Nat} : ∀ {M Me : Mem}, trimC n M Me → M.length ≤ Me.length
  | [], _, _ => Nat.zero_le _
  | _ :: M, _ :: Me, h => by simp; exact trimC_len h.2
theorem trimC_get {n : Nat} : ∀ {M Me : Mem}, trimC n M Me → ∀ {k : Nat} {o : O}, k < M.length → Me[k]? = some o → M[k]? = some o ∨ nlO n o = true
  | [], _, _, k, o, hk, _ => by simp at hk
  | a :: M, b :: Me, h, k, o, hk, q => by
    cases k with
    | zero =>
      simp at q
      subst q
      rcases h.1 with e | e
      · exact .inl (by rw [e]; rfl)
      · exact .inr e
    | succ k => simpa using trimC_get h.2 (k := k) (by simpa using hk) (by simpa using q)
theorem trimOk_C {M Me : Mem} (h : trimC M.length M Me) : trimOk M Me := ⟨trimC_len h, fun k o hk q => trimC_get h hk q⟩
theorem trimOk_C2 {M A B : Mem} (h : trimC (M.length + A.length) A B) : trimOk (M ++ A) (M ++ B) := by
  refine ⟨by simp; exact trimC_len h, fun k o hk q => ?_⟩
  by_cases hm : k < M.length
  · rw [List.getElem?_append_left hm] at q ⊢; exact .inl q
  · rw [List.getElem?_append_right (by omega)] at q ⊢
    rw [List.length_append] at hk ⊢
    exact trimC_get h (by omega) q
@[simp] theorem nl_non {n} : nl n .non = true := rfl
@[simp] theorem nl_bl {n b} : nl n (.bl b) = true := rfl
@[simp] theorem nl_int {n i} : nl n (.int i) = true := rfl
@[simp] theorem nl_str {n i} : nl n (.str i) = true := rfl
@[simp] theorem nl_scr {n i} : nl n (.scr i) = true := rfl
@[simp] theorem nl_tup {n ds} : nl n (.tup ds) = nls n ds := by rw [nl]
@[simp] theorem nl_lst {n ds} : nl n (.lst ds) = nls n ds := by rw [nl]
@[simp] theorem nl_loc {n k} : nl n (.loc k) = decide (k < n) := by rw [nl]
@[simp] theorem nls_nil {n} : nls n [] = true := rfl
@[simp] theorem nls_cons {n d ds} : nls n (d :: ds) = (nl n d && nls n ds) := rfl
theorem nls_of {n : Nat} : ∀ {ds : List D}, (∀ d ∈ ds, nl n d = true) → nls n ds = true
  | [], _ => rfl
  | d :: ds, h => by rw [nls, h d List.mem_cons_self, nls_of fun e he => h e (List.mem_cons_of_mem _ he)]; rfl
@[simp] theorem nls_app {n : Nat} : ∀ {ds es : List D}, nls n (ds ++ es) = (nls n ds && nls n es)
  | [], _ => by simp
  | d :: ds, es => by rw [List.cons_append, nls_cons, nls_cons, nls_app, Bool.and_assoc]
theorem nls_map {α : Type} {n : Nat} {f : α → D} (h : ∀ x, nl n (f x) = true) (xs : List α) : nls n (xs.map f) = true := nls_of fun d hd => by
  obtain ⟨x, _, rfl⟩ := List.mem_map.mp hd; exact h x
@[simp] theorem nls_mp {α : Type} {n : Nat} {f : α → D} {xs : List α} (h : ∀ x, nl n (f x) = true) : nls n (xs.map f) = true := nls_map h xs
@[simp] theorem nlO_lst {n ds} : nlO n (.lst ds) = nls n ds := rfl
@[simp] theorem nlO_ins {n c fs} : nlO n (.ins c fs) = nlF n fs := rfl
@[simp] theorem nlO_dct {n fs} : nlO n (.dct fs) = nlK n fs := rfl
@[simp] theorem nlF_nil {n} : nlF n [] = true := rfl
@[simp] theorem nlF_cons {n f d fs} : nlF n ((f, d) :: fs) = (nl n d && nlF n fs) := rfl
@[simp] theorem nlK_nil {n} : nlK n [] = true := rfl
@[simp] theorem nlK_cons {n f d fs} : nlK n ((f, d) :: fs) = (nl n d && nlK n fs) := rfl
@[simp] theorem nlS_nil {n} : nlS n [] = true := rfl
@[simp] theorem nlS_none {n ρ} : nlS n (none :: ρ) = nlS n ρ := rfl
@[simp] theorem nlS_some {n d ρ} : nlS n (some d :: ρ) = (nl n d && nlS n ρ) := rfl
@[simp] theorem keepD_nil {ρ} : keepD [] ρ = ρ := by cases ρ <;> rfl
@[simp] theorem keepD_t {bs o ρ} : keepD (true :: bs) (o :: ρ) = o :: keepD bs ρ := rfl
@[simp] theorem keepD_f {bs o ρ} : keepD (false :: bs) (o :: ρ) = none :: keepD bs ρ := rfl
/-! ### the end of a def -/
section
variable {M Me G : Mem} {r : Rz}
theorem finK_same {r : Rz} : finK M r M = (r, M) := by
  unfold finK
  rw [if_pos trimOk_refl, List.take_length]
  cases r with
  | new ds => simp only; split <;> rfl
  | val d =>
    cases d with
    | loc k =>
      simp only
      split
      · rfl
      · rename_i h
        rw [List.getElem?_eq_none (by omega)]
    | _ => simp only; split <;> rfl
theorem finK_val {d : D} (t : trimOk M Me) (h : nl M.length d = true) : finK M (.val d) Me = (.val d, Me.take M.length) := by
  unfold finK
  rw [if_pos t]
  cases d with
  | loc k => rw [nl_loc] at h; simp only; rw [if_pos (of_decide_eq_true h)]
  | _ => simp only; rw [if_pos h]
theorem finK_new {ds : List D} (t : trimOk M Me) (h : nls M.length ds = true) : finK M (.new ds) Me = (.new ds, Me.take M.length) := by
  unfold finK
  rw [if_pos t]
  simp only
  rw [if_pos h]
theorem finK_loc {k : Nat} {ds : List D} (t : trimOk M Me) (hk : ¬ k < M.length) (hd : Me[k]? = some (.lst ds)) (h : nls M.length ds = true) : finK M (.val (.loc k)) Me = (.new ds, Me.take M.length) := by
  unfold finK
  rw [if_pos t]
  simp only
  rw [if_neg hk, hd]
  simp only
  rw [if_pos h]
@[simp] theorem finK_id {r : Rz} : finK M r M = (r, M) := finK_same
@[simp] theorem finK_appV {d : D} (h : nl M.length d = true) : finK M (.val d) (M ++ G) = (.val d, M) := by rw [finK_val trimOk_app h, take_app]
@[simp] theorem finK_appN {ds : List D} (h : nls M.length ds = true) : finK M (.new ds) (M ++ G) = (.new ds, M) := by rw [finK_new trimOk_app h, take_app]
@[simp] theorem finK_appL0 {ds : List D} (h : nls M.length ds = true) : finK M (.val (.loc M.length)) (M ++ .lst ds :: G) = (.new ds, M) := by
  rw [finK_loc trimOk_app (by omega) get_app0 h, take_app]
theorem finK_appL {j : Nat} {ds : List D} (hd : G[j]? = some (.lst ds)) (h : nls M.length ds = true) : finK M (.val (.loc (M.length + j))) (M ++ G) = (.new ds, M) := by
  rw [finK_loc trimOk_app (by omega) (by rw [get_appj]; exact hd) h, take_app]
@[simp] theorem finK_appL1 {a : O} {ds : List D} (h : nls M.length ds = true) : finK M (.val (.loc (M.length + 1))) (M ++ a :: .lst ds :: G) = (.new ds, M) := finK_appL rfl h
@[simp] theorem finK_appL2 {a b : O} {ds : List D} (h : nls M.length ds = true) : finK M (.val (.loc (M.length + 2))) (M ++ a :: b :: .lst ds :: G) = (.new ds, M) := finK_appL rfl h
end
noncomputable def fnOut (M : Mem) : Option (Fl × Slots × Mem) → Option (Rz × Mem)
  | some (.rt r, _, Me) => some (finK M r Me)
  | some (.nx, _, Me) => some (finK M (.val .non) Me)
  | _ => none
@[simp] theorem fnOut_rt {M Me : Mem} {r : Rz} {ρ : Slots} : fnOut M (some (.rt r, ρ, Me)) = some (finK M r Me) := rfl
@[simp] theorem fnOut_nx {M Me : Mem} {ρ : Slots} : fnOut M (some (.nx, ρ, Me)) = some (finK M (.val .non) Me) := rfl
@[simp] theorem fnOut_ite {M : Mem} {c : Prop} [Decidable c] {a b : Option (Fl × Slots × Mem)} : fnOut M (if c then a else b) = if c then fnOut M a else fnOut M b := by split <;> rfl
/-! ### a turn of a loop -/
section
variable {kl : List Bool} {M Me G : Mem} {ρ : Slots} {gk : Option Nat} {ds : List D} {g : Gf} {body : Sf} {d : D}
@[simp] theorem tidy_same : tidy kl M ρ M = (keepD kl ρ, M) := by
  unfold tidy
  rw [List.take_length]
  split <;> rfl
theorem tidy_trim (t : trimOk M Me) (h : nlS M.length (keepD kl ρ) = true) : tidy kl M ρ Me = (keepD kl ρ, Me.take M.length) := by
  unfold tidy
  rw [if_pos ⟨t, h⟩]
@[simp] theorem tidy_app (h : nlS M.length (keepD kl ρ) = true) : tidy kl M ρ (M ++ G) = (keepD kl ρ, M) := by rw [tidy_trim trimOk_app h, take_app]
noncomputable def stpOut (kl : List Bool) (gk : Option Nat) (ds : List D) (M : Mem) (q : Fl × Slots × Mem) : Option (Fl × Slots × Mem) := open Classical in
  if q.1.goes = true then (if guard gk ds (tidy kl M q.2.1 q.2.2).2 then some (q.1, tidy kl M q.2.1 q.2.2) else none) else some (match q.1 with
  | .rt r => (.rt r, [], q.2.2)
  | _ => q)
noncomputable def stpK1 (kl : List Bool) (gk : Option Nat) (ds : List D) (body : Sf) (M : Mem) (p : Slots × Mem) : Option (Fl × Slots × Mem) := (body p.1 p.2).bind (stpOut kl gk ds M)
@[simp] theorem stpK_ap : stpK kl gk ds g body d ρ M = bnd (stpK1 kl gk ds body M) (g d ρ M) := rfl
@[simp] theorem stpK1_ap {M2 : Mem} : stpK1 kl gk ds body M (ρ, M2) = bnd (stpOut kl gk ds M) (body ρ M2) := rfl
@[simp] theorem stpOut_nx : stpOut kl none ds M (.nx, ρ, Me) = some (.nx, tidy kl M ρ Me) := by
  show (if (true = true) then _ else _) = _
  rw [if_pos rfl, if_pos (by simp)]
@[simp] theorem stpOut_ct : stpOut kl none ds M (.ct, ρ, Me) = some (.ct, tidy kl M ρ Me) := by
  show (if (true = true) then _ else _) = _
  rw [if_pos rfl, if_pos (by simp)]
@[simp] theorem stpOut_bk : stpOut kl gk ds M (.bk, ρ, Me) = some (.bk, ρ, Me) := rfl
@[simp] theorem stpOut_rt {r : Rz} : stpOut kl gk ds M (.rt r, ρ, Me) = some (.rt r, [], Me) := rfl
@[simp] theorem gkOf_lst {ds} : gkOf (.lst ds) = none := rfl
@[simp] theorem gkOf_tup {ds} : gkOf (.tup ds) = none := rfl
@[simp] theorem gkOf_scr {ds} : gkOf (.scr ds) = none := rfl
@[simp] theorem gkOf_loc {k} : gkOf (.loc k) = some k := rfl
end
/-! ### loops over typed items -/
/-! ### comprehensions over typed items -/
def elemF (g : Gf) (tt : Tf) (te : Ef) (ρw : Slots) (d : D) (M : Mem) : Option (Option D × Mem) := (g d ρw M).bind fun p => (tt p.1 p.2).bind fun b => if b.1 = true then (te p.1 b.2).bind fun r => some (some r.1.d, r.2) else some (none, b.2)
def elem3 (r : Rz × Mem) : Option (Option D × Mem) := some (some r.1.d, r.2)
def elem2 (te : Ef) (ρ : Slots) (b : Bool × Mem) : Option (Option D × Mem) := if b.1 = true then (te ρ b.2).bind elem3 else some (none, b.2)
def elem1 (tt : Tf) (te : Ef) (p : Slots × Mem) : Option (Option D × Mem) := (tt p.1 p.2).bind (elem2 te p.1)
@[simp] theorem elemF_ap {g : Gf} {tt : Tf} {te : Ef} {ρw : Slots} {d : D} {M : Mem} : elemF g tt te ρw d M = bnd (elem1 tt te) (g d ρw M) := rfl
@[simp] theorem elem1_ap {tt : Tf} {te : Ef} {ρ : Slots} {M : Mem} : elem1 tt te (ρ, M) = bnd (elem2 te ρ) (tt ρ M) := rfl
@[simp] theorem elem2_ap {te : Ef} {ρ : Slots} {b : Bool} {M : Mem} : elem2 te ρ (b, M) = if b = true then bnd elem3 (te ρ M) else some (none, M) := rfl
@[simp] theorem elem3_ap {r : Rz} {M : Mem} : elem3 (r, M) = some (some r.d, M) := rfl
/-! ### methods of lists -/
@[simp] theorem oAppend_ap {k : Nat} {x : D} {M : Mem} : oAppend (.loc k) [x] M = (match M[k]? with
    | some (.lst es) => if es.length < sizeLine then some (.val .non, M.set k (.lst (es ++ [x]))) else none
    | _ => none) := rfl
/-- None or an int -/
def stD : Option Int → D
  | none => .non
  | some i => .int i
@[simp] theorem nl_stD {n : Nat} {s : Option Int} : nl n (stD s) = true := by cases s <;> simp [stD, nl]
@[simp] theorem isNon_st {s : Option Int} : isNon (stD s) = s.isNone := by cases s <;> rfl

end CI

/-! N18: more methods of lists -/
namespace CI
open PySem PySem.Spec PyProof.Rows L2
def oPop : Mop := fun d ds M => match d, ds with
  | .loc k, [] => match M[k]? with
    | some (.lst es) => (es[es.length - 1]?).bind fun y => some (.val y, M.set k (.lst es.dropLast))
    | _ => none
  | _, _ => none
def oPopAt : Mop := fun d ds M => match d, ds with
  | .loc k, [.int i] => match M[k]? with
    | some (.lst es) => if -(2 ^ 63) ≤ i ∧ i < 2 ^ 63 then (seqIndex? i es.length).bind fun j => (es[j]?).bind fun y => some (.val y, M.set k (.lst (es.eraseIdx j))) else none
    | _ => none
  | _, _ => none
def oInsert : Mop := fun d ds M => match d, ds with
  | .loc k, [.int i, y] => match M[k]? with
    | some (.lst es) => if es.length < sizeLine ∧ 0 ≤ i ∧ i < 2 ^ 63 then some (.val .non, M.set k (.lst (es.take i.toNat ++ y :: es.drop i.toNat))) else none
    | _ => none
  | _, _ => none
def oReverse : Mop := fun d ds M => match d, ds with
  | .loc k, [] => match M[k]? with
    | some (.lst es) => some (.val .non, M.set k (.lst es.reverse))
    | _ => none
  | _, _ => none
section
variable {K : PySem.W.Frag} {H : Hp} {m : List Addr}
theorem Rls.dropLast : ∀ {ds : List D} {vs : List V}, Rls K H m ds vs → Rls K H m ds.dropLast vs.dropLast
  | ds, vs, h => by rw [List.dropLast_eq_take, List.dropLast_eq_take, ← h.length]; exact h.take _
theorem Rls.snoc {ds : List D} {vs : List V} {d : D} {v : V} (h : Rls K H m ds vs) (r : Rl K H m d v) : Rls K H m (d :: ds) (v :: vs) := by
  rw [Rls]; exact ⟨v, vs, rfl, r, h⟩
theorem Rls.reverse : ∀ {ds : List D} {vs : List V}, Rls K H m ds vs → Rls K H m ds.reverse vs.reverse
  | [], _, h => by rw [rls_nil h]; rw [List.reverse_nil, List.reverse_nil, Rls]
  | d :: ds, _, h => by
    rw [Rls] at h
    obtain ⟨v, r, rfl, h1, h2⟩ := h
    rw [List.reverse_cons, List.reverse_cons]
    exact (Rls.reverse h2).append (by rw [Rls]; exact ⟨v, [], rfl, h1, by rw [Rls]⟩)
end
section
variable {X : Cx}
end
section
variable {k : Nat} {M : Mem} {i : Int} {y : D}
@[simp] theorem oPop_ap : oPop (.loc k) [] M = (match M[k]? with
    | some (.lst es) => (es[es.length - 1]?).bind fun y => some (.val y, M.set k (.lst es.dropLast))
    | _ => none) := rfl
@[simp] theorem oPopAt_ap : oPopAt (.loc k) [.int i] M = (match M[k]? with
    | some (.lst es) => if -(2 ^ 63) ≤ i ∧ i < 2 ^ 63 then (seqIndex? i es.length).bind fun j => (es[j]?).bind fun y => some (.val y, M.set k (.lst (es.eraseIdx j))) else none
    | _ => none) := rfl
@[simp] theorem oInsert_ap : oInsert (.loc k) [.int i, y] M = (match M[k]? with
    | some (.lst es) => if es.length < sizeLine ∧ 0 ≤ i ∧ i < 2 ^ 63 then some (.val .non, M.set k (.lst (es.take i.toNat ++ y :: es.drop i.toNat))) else none
    | _ => none) := rfl
@[simp] theorem oReverse_ap : oReverse (.loc k) [] M = (match M[k]? with
    | some (.lst es) => some (.val .non, M.set k (.lst es.reverse))
    | _ => none) := rfl
end
end CI

/-! N19: memories with a part at the end; places in lists; typed items -/
namespace CI
open PySem PySem.Spec PyProof.Rows L2
def tyO : Option O → Option String
  | some (.lst _) => some "list"
  | some (.dct _) => some "dict"
  | _ => none
@[simp] theorem tyOf_loc' {k : Nat} {M : Mem} : tyOf M (.loc k) = tyO M[k]? := by
  show (match M[k]? with | some (.lst _) => some "list" | some (.dct _) => some "dict" | _ => none) = _
  cases M[k]? with
  | none => rfl
  | some o => cases o <;> rfl
@[simp] theorem tyO_lst {ds} : tyO (some (.lst ds)) = some "list" := rfl
@[simp] theorem tyO_dct {ds} : tyO (some (.dct ds)) = some "dict" := rfl
def lsO : Option O → Option (List D)
  | some (.lst ds) => some ds
  | _ => none
@[simp] theorem asS_loc' {k : Nat} {M : Mem} : asS M (.loc k) = lsO M[k]? := by
  show (match M[k]? with | some (.lst ds) => some ds | _ => none) = _
  cases M[k]? with
  | none => rfl
  | some o => cases o <;> rfl
@[simp] theorem lsO_lst {ds} : lsO (some (.lst ds)) = some ds := rfl
@[simp] theorem asL_loc' {k : Nat} {M : Mem} : asL M (.loc k) = lsO M[k]? := asS_loc'
def lenO (ds : List D) : Option Rz := some (.val (.int ds.length))
@[simp] theorem lenO_ap {ds} : lenO ds = some (.val (.int ds.length)) := rfl
@[simp] theorem oLen_loc' {k : Nat} {M : Mem} : oLen [.loc k] M = bnd lenO (lsO M[k]?) := by
  show ((asS M (.loc k)).bind fun es => some (Rz.val (.int es.length))) = _
  rw [asS_loc']; rfl
section
variable {kl : List Bool} {M A B : Mem} {ρ : Slots}
theorem tidy_C2 (t : trimC (M.length + A.length) A B) (h : nlS (M.length + A.length) (keepD kl ρ) = true) : tidy kl (M ++ A) ρ (M ++ B) = (keepD kl ρ, M ++ B.take A.length) := by
  rw [tidy_trim (trimOk_C2 t) (by rw [List.length_append]; exact h), List.length_append, take_appj]
theorem tidy_C (t : trimC A.length A B) (h : nlS A.length (keepD kl ρ) = true) : tidy kl A ρ B = (keepD kl ρ, B.take A.length) := tidy_trim (trimOk_C t) h
@[simp] theorem tidy_a1 {a a' : O} (t : a' = a ∨ nlO (M.length + 1) a' = true) (h : nlS (M.length + 1) (keepD kl ρ) = true) : tidy kl (M ++ [a]) ρ (M ++ a' :: B) = (keepD kl ρ, M ++ [a']) := tidy_C2 (A := [a]) ⟨t, trivial⟩ h
@[simp] theorem tidy_a2 {a a' b b' : O} (t : a' = a ∨ nlO (M.length + 2) a' = true) (t2 : b' = b ∨ nlO (M.length + 2) b' = true) (h : nlS (M.length + 2) (keepD kl ρ) = true) : tidy kl (M ++ [a, b]) ρ (M ++ a' :: b' :: B) = (keepD kl ρ, M ++ [a', b']) := tidy_C2 (A := [a, b]) ⟨t, t2, trivial⟩ h
@[simp] theorem tidy_a3 {a a' b b' c c' : O} (t : a' = a ∨ nlO (M.length + 3) a' = true) (t2 : b' = b ∨ nlO (M.length + 3) b' = true) (t3 : c' = c ∨ nlO (M.length + 3) c' = true) (h : nlS (M.length + 3) (keepD kl ρ) = true) : tidy kl (M ++ [a, b, c]) ρ (M ++ a' :: b' :: c' :: B) = (keepD kl ρ, M ++ [a', b', c']) := tidy_C2 (A := [a, b, c]) ⟨t, t2, t3, trivial⟩ h
@[simp] theorem trimC_nil {n} {B} : trimC n [] B = True := rfl
@[simp] theorem trimC_cons {n a b} {A B} : trimC n (a :: A) (b :: B) = ((b = a ∨ nlO n b = true) ∧ trimC n A B) := rfl
end
/-! ### places -/
theorem at_nat {α : Type} {xs : List α} {i : Int} (h0 : 0 ≤ i) : L2.atI xs i = xs[i.toNat]? := by
  unfold L2.atI
  by_cases h : i < xs.length
  · have : ixN xs.length i = some i.toNat := by unfold ixN; split <;> (try split) <;> first | rfl | omega | simp_all
    rw [this]; rfl
  · have e : xs[i.toNat]? = none := List.getElem?_eq_none (by omega)
    have : ixN xs.length i = none := by unfold ixN; split <;> (try split) <;> first | rfl | omega | simp_all
    rw [this, e]; rfl
theorem at_map {α : Type} {xs : List α} {f : α → D} {i : Int} : L2.atI (xs.map f) i = (L2.atI xs i).map f := by
  unfold L2.atI
  rw [List.length_map]
  cases ixN xs.length i with
  | none => rfl
  | some j => simp
def ixO (o : Option D) : Option Rz := o.bind fun x => some (.val x)
@[simp] theorem ixO_some {x : D} : ixO (some x) = some (.val x) := rfl
@[simp] theorem oIx_tup {ds : List D} {i : Int} {M : Mem} : oIx (.tup ds) (.int i) M = ixO (L2.atI ds i) := rfl
@[simp] theorem oIx_lst {ds : List D} {i : Int} {M : Mem} : oIx (.lst ds) (.int i) M = ixO (L2.atI ds i) := rfl
@[simp] theorem oIx_scr {ns : List Int} {i : Int} {M : Mem} : oIx (.scr ns) (.int i) M = ixO (L2.atI (ns.map D.int) i) := rfl
def ixL (i : Int) (ds : List D) : Option Rz := ixO (L2.atI ds i)
@[simp] theorem ixL_ap {i ds} : ixL i ds = ixO (L2.atI ds i) := rfl
@[simp] theorem oIx_loc {k : Nat} {i : Int} {M : Mem} : oIx (.loc k) (.int i) M = bnd (ixL i) (lsO M[k]?) := by
  show ((asS M (.loc k)).bind fun ds => (L2.atI ds i).bind fun x => some (Rz.val x)) = _
  rw [asS_loc']; rfl
@[simp] theorem atI_0 {α : Type} {x : α} {xs : List α} : L2.atI (x :: xs) 0 = some x := by rw [at_nat (by omega)]; rfl
@[simp] theorem atI_1 {α : Type} {x y : α} {xs : List α} : L2.atI (x :: y :: xs) 1 = some y := by rw [at_nat (by omega)]; rfl
@[simp] theorem atI_2 {α : Type} {x y z : α} {xs : List α} : L2.atI (x :: y :: z :: xs) 2 = some z := by rw [at_nat (by omega)]; rfl
@[simp] theorem atI_3 {α : Type} {x y z u : α} {xs : List α} : L2.atI (x :: y :: z :: u :: xs) 3 = some u := by rw [at_nat (by omega)]; rfl
@[simp] theorem atI_4 {α : Type} {x y z u v : α} {xs : List α} : L2.atI (x :: y :: z :: u :: v :: xs) 4 = some v := by rw [at_nat (by omega)]; rfl
@[simp] theorem atI_5 {α : Type} {x y z u v w : α} {xs : List α} : L2.atI (x :: y :: z :: u :: v :: w :: xs) 5 = some w := by rw [at_nat (by omega)]; rfl
/-! ### slices -/
def cutL {α : Type} (xs : List α) (lo hi : Option Int) : List α := (xs.drop (HT.sIx xs.length 0 lo)).take (HT.sIx xs.length xs.length hi - HT.sIx xs.length 0 lo)
@[simp] theorem cutD_map {α : Type} {xs : List α} {f : α → D} {lo hi : Option Int} : cutD (xs.map f) lo hi = (cutL xs lo hi).map f := by
  unfold cutD cutL
  rw [List.length_map, List.map_take, List.map_drop]
@[simp] theorem oSl_tup {ds : List D} {lo hi : Option Int} {M : Mem} : oSl lo hi (.tup ds) M = some (.val (.tup (cutD ds lo hi))) := rfl
@[simp] theorem oSl_lst {ds : List D} {lo hi : Option Int} {M : Mem} : oSl lo hi (.lst ds) M = some (.new (cutD ds lo hi)) := rfl
@[simp] theorem oSl_scr {ns : List Int} {lo hi : Option Int} {M : Mem} : oSl lo hi (.scr ns) M = some (.new ((cutL ns lo hi).map .int)) := by
  rw [← cutD_map]; rfl
def slL (lo hi : Option Int) (ds : List D) : Option Rz := some (.new (cutD ds lo hi))
@[simp] theorem slL_ap {lo hi ds} : slL lo hi ds = some (.new (cutD ds lo hi)) := rfl
@[simp] theorem oSl_loc {k : Nat} {lo hi : Option Int} {M : Mem} : oSl lo hi (.loc k) M = bnd (slL lo hi) (lsO M[k]?) := by
  show ((asL M (.loc k)).bind fun ds => some (Rz.new (cutD ds lo hi))) = _
  rw [asL_loc']; rfl
section
variable {α : Type} {xs : List α} {a b : Int}
theorem cutL_hi (h : 0 ≤ b) : cutL xs none (some b) = xs.take b.toNat := by
  show (xs.drop 0).take ((if b < 0 then (b + (xs.length : Int)).toNat else min b.toNat xs.length) - 0) = _
  rw [if_neg (by omega), List.drop_zero, Nat.sub_zero]
  by_cases q : b.toNat ≤ xs.length
  · rw [Nat.min_eq_left q]
  · rw [Nat.min_eq_right (by omega), List.take_length, List.take_of_length_le (by omega)]
end
@[simp] theorem inD_str {k : Str} : ∀ {ks : List Str}, inD (.str k) (ks.map .str) = decide (k ∈ ks)
  | [] => by simp [inD]
  | x :: ks => by
    have ih := inD_str (k := k) (ks := ks)
    unfold inD at ih ⊢
    rw [List.map_cons, List.any_cons, ih]
    show ((x == k) || decide (k ∈ ks)) = _
    by_cases h : x = k
    · subst h; simp
    · have h2 : ¬ k = x := fun e => h e.symm
      simp [h, h2]
@[simp] theorem inD_int {k : Int} : ∀ {ks : List Int}, inD (.int k) (ks.map .int) = decide (k ∈ ks)
  | [] => by simp [inD]
  | x :: ks => by
    have ih := inD_int (k := k) (ks := ks)
    unfold inD at ih ⊢
    rw [List.map_cons, List.any_cons, ih]
    show ((x == k) || decide (k ∈ ks)) = _
    by_cases h : x = k
    · subst h; simp
    · have h2 : ¬ k = x := fun e => h e.symm
      simp [h, h2]
@[simp] theorem allfl_str {ks : List Str} : (ks.map D.str).all fl = true := by
  rw [List.all_eq_true]; intro x hx
  obtain ⟨y, _, rfl⟩ := List.mem_map.mp hx; rfl
@[simp] theorem allfl_int {ks : List Int} : (ks.map D.int).all fl = true := by
  rw [List.all_eq_true]; intro x hx
  obtain ⟨y, _, rfl⟩ := List.mem_map.mp hx; rfl
@[simp] theorem fl_str {x} : fl (.str x) = true := rfl
@[simp] theorem fl_int {x} : fl (.int x) = true := rfl
def in1 (neg : Bool) (d : D) (ds : List D) : Option Rz := if fl d = true ∧ ds.all fl = true then some (.val (.bl (if neg then !inD d ds else inD d ds))) else none
@[simp] theorem oIn_ap {neg : Bool} {d e : D} {M : Mem} : oIn neg d e M = bnd (in1 neg d) (asS M e) := rfl
@[simp] theorem in1_str {neg : Bool} {k : Str} {ks : List Str} : in1 neg (.str k) (ks.map .str) = some (.val (.bl (if neg then !decide (k ∈ ks) else decide (k ∈ ks)))) := by
  unfold in1; rw [if_pos ⟨rfl, allfl_str⟩, inD_str]
@[simp] theorem in1_int {neg : Bool} {k : Int} {ks : List Int} : in1 neg (.int k) (ks.map .int) = some (.val (.bl (if neg then !decide (k ∈ ks) else decide (k ∈ ks)))) := by
  unfold in1; rw [if_pos ⟨rfl, allfl_int⟩, inD_int]
/-! loops over written lists -/
def loopF1 (step : Stp) (ds : List D) (p : Fl × Slots × Mem) : Option (Fl × Slots × Mem) := match p.1 with
  | .nx => loopF step ds p.2.1 p.2.2
  | .ct => loopF step ds p.2.1 p.2.2
  | .bk => some (.nx, p.2.1, p.2.2)
  | .rt r => some (.rt r, p.2.1, p.2.2)
section
variable {step : Stp} {d : D} {ds : List D} {ρ : Slots} {M : Mem} {r : Rz}
@[simp] theorem loopF_nil : loopF step [] ρ M = some (.nx, ρ, M) := rfl
@[simp] theorem loopF_cons : loopF step (d :: ds) ρ M = bnd (loopF1 step ds) (step d ρ M) := rfl
@[simp] theorem loopF1_nx : loopF1 step ds (.nx, ρ, M) = loopF step ds ρ M := rfl
@[simp] theorem loopF1_ct : loopF1 step ds (.ct, ρ, M) = loopF step ds ρ M := rfl
@[simp] theorem loopF1_bk : loopF1 step ds (.bk, ρ, M) = some (.nx, ρ, M) := rfl
@[simp] theorem loopF1_rt : loopF1 step ds (.rt r, ρ, M) = some (.rt r, ρ, M) := rfl
end
/-! calls -/
def tupO (ds : List D) : Option Rz := some (.val (.tup ds))
@[simp] theorem tupO_ap {ds} : tupO ds = some (.val (.tup ds)) := rfl
@[simp] theorem oTuple_ap {d : D} {M : Mem} : oTuple [d] M = bnd tupO (asS M d) := rfl
def lisO (ds : List D) : Option Rz := some (.new ds)
@[simp] theorem lisO_ap {ds} : lisO ds = some (.new ds) := rfl
@[simp] theorem oList_ap {d : D} {M : Mem} : oList [d] M = bnd lisO (asS M d) := rfl
theorem oMin2_if {i j : Int} {M : Mem} : oMin2 [.int i, .int j] M = some (.val (.int (if j < i then j else i))) := rfl
theorem oMax2_if {i j : Int} {M : Mem} : oMax2 [.int i, .int j] M = some (.val (.int (if j > i then j else i))) := rfl
@[simp] theorem oMin2_ap {i j : Int} {M : Mem} : oMin2 [.int i, .int j] M = some (.val (.int (min i j))) := by
  rw [oMin2_if]; congr 3; split <;> omega
@[simp] theorem oMax2_ap {i j : Int} {M : Mem} : oMax2 [.int i, .int j] M = some (.val (.int (max i j))) := by
  rw [oMax2_if]; congr 3; split <;> omega
@[simp] theorem oInt_bl {b : Bool} {M : Mem} : oInt [.bl b] M = some (.val (.int (if b then 1 else 0))) := rfl
def srt2 (is : List Int) : Option Rz := some (.new ((isort is).map .int))
def srt1 (ds : List D) : Option Rz := (intsD ds).bind srt2
@[simp] theorem oSorted_ap {d : D} {M : Mem} : oSorted [d] M = bnd srt1 (asL M d) := rfl
@[simp] theorem srt1_ints {is : List Int} : srt1 (is.map .int) = some (.new ((isort is).map .int)) := by unfold srt1; rw [intsD_map]; rfl
@[simp] theorem oStr_int {i : Int} {M : Mem} : oStr [.int i] M = if i.natAbs.log2 < 1920 then some (.val (.str (toString i))) else none := rfl
@[simp] theorem trD_int {i : Int} {M : Mem} : trD M (.int i) = some (i != 0) := rfl
@[simp] theorem trD_non {M : Mem} : trD M .non = some false := rfl
def trO (ds : List D) : Option Bool := some (!ds.isEmpty)
@[simp] theorem trO_ap {ds} : trO ds = some (!ds.isEmpty) := rfl
@[simp] theorem trD_tup {ds} {M : Mem} : trD M (.tup ds) = some (!ds.isEmpty) := rfl
@[simp] theorem trD_lst {ds} {M : Mem} : trD M (.lst ds) = some (!ds.isEmpty) := rfl
@[simp] theorem trD_loc {k : Nat} {M : Mem} : trD M (.loc k) = bnd trO (lsO M[k]?) := by
  show ((asS M (.loc k)).bind fun ds => some (!ds.isEmpty)) = _
  rw [asS_loc']; rfl
end CI

/-! N20: * of ints, tuples, lists -/
namespace CI
open PySem PySem.Spec PyProof.Rows L2
section
variable {X : Cx}
def rMulE (K : PySem.W.Frag) : R2 := fun x y H Q => ∃ l k, x = .ref l ∧ y = .int k ∧ SqT K H l [] ∧ -1000000 < k ∧ k < 1000000 ∧ Q (.ref l) H
theorem op_mulE : OpR X (binaryOp .Mult) (rMulE X.K) := by
  intro pins s σ H x y v u Q I rx ry h
  obtain ⟨l, k, rfl, rfl, hT, h1, h2, q⟩ := h
  cases rx
  obtain ⟨t, rfl⟩ := ry
  obtain ⟨its, r, ⟨⟨cls, dd, data, sl⟩, ho, hc, n, hd⟩, hs⟩ := I.tuple hT
  simp only at hc hd
  subst hc hd
  have hle : its.length = 0 := r.length.symm
  have hn : its = [] := List.eq_nil_of_length_eq_zero hle
  have c0 : (decide (k < -(2 ^ 63)) || decide (k ≥ 2 ^ 63)) = false := by
    rw [decide_eq_false (by omega), decide_eq_false (by omega)] <;> rfl
  have c1 : (its.toArray.isEmpty || k == 1) = true := by rw [hn]; rfl
  refine wpAny_binaryOp_repeat_ref (T := "tuple") (U := "int") (by decide) ⟨_, ho, rfl⟩ (fun s' => typeIs_int s' k t) noFill_tuple_mul F.fills_int_mul F.slot_int_rmul repeat_tuple F.slot_int_index.lookup
    (call_meets F.slot_int_rmul (typeIs_int s k t) F.entry_int_rmul (F.args_int_rmul_2 _ _) (int_rmul_tuple k t l its.toArray n dd sl)
      ⟨ho, rfl, ⟨_, ho, rfl⟩, call_meets F.slot_tuple_mul ⟨_, ho, rfl⟩ F.entry_tuple_mul (F.args_tuple_mul_2 _ _) (tuple_mul1 l its.toArray n dd sl k t c0 c1) ⟨ho, ?_⟩⟩)
  exact ⟨.ref l, H, I, rfl, q⟩
def oMulA : Bop := fun d e M => match d, e with
  | .int i, .int j => if bMul i j = true then some (.val (.int (i * j))) else none
  | .tup ds, .int k => if -1000000 < k ∧ k ≤ 1000 ∧ ds.length ≤ 1000 then some (.val (.tup (List.replicate k.toNat ds).flatten)) else none
  | d, .int k => (asW M d).bind fun ds => if -1000000 < k ∧ k ≤ 1000 ∧ ds.length ≤ 1000 then some (.new (List.replicate k.toNat ds).flatten) else none
  | _, _ => none
theorem rep_nil {α : Type} : ∀ n : Nat, (List.replicate n ([] : List α)).flatten = []
  | 0 => rfl
  | n + 1 => by rw [List.replicate_succ, List.flatten_cons, rep_nil n]; rfl
theorem ok_mulA : OpOk X (binaryOp .Mult) oMulA := by
  refine ⟨_, op_mul.or (op_repT.or (op_mul1.or (op_mul0.or (op_mulE.or op_rep)))), fun H m M d e x y z Q w rd re ho P => ?_⟩
  unfold oMulA at ho
  split at ho
  · rename_i i j
    split at ho
    · rename_i hb
      cases ho
      rw [Rl] at rd; rw [Rl] at re
      refine .inl ⟨i, j, rd, re, ?_, P.val w rl_int⟩
      unfold bMul sm64 at hb
      simp only [Bool.or_eq_true, Bool.and_eq_true, decide_eq_true_eq] at hb
      exact hb
    · cases ho
  · rename_i ds k
    split at ho
    · rename_i hc
      obtain ⟨h2, h3, h4⟩ := hc
      cases ho
      have rd0 := rd
      rw [Rl] at rd; rw [Rl] at re; subst re
      obtain ⟨a, vs, rfl, hs, hr⟩ := rd
      by_cases hd : ds = []
      · subst hd
        have hv := rls_nil hr
        subst hv
        rw [rep_nil] at P
        exact .inr (.inr (.inr (.inr (.inl ⟨a, k, rfl, rfl, hs, h2, by omega, P.val w rd0⟩))))
      · have hv : vs ≠ [] := fun e => hd (by subst e; exact rls_of_nil hr)
        by_cases q1 : 2 ≤ k
        · exact .inr (.inl ⟨a, k, vs, rfl, rfl, hs, hv, q1, h3, by rw [← hr.length]; exact h4, P.tup w (hr.rep _)⟩)
        · by_cases q2 : k = 1
          · subst q2
            refine .inr (.inr (.inl ⟨a, vs, rfl, rfl, hs, P.val w ?_⟩))
            simpa using rd0
          · have hk : k.toNat = 0 := by omega
            rw [hk] at P
            exact .inr (.inr (.inr (.inl ⟨a, k, vs, rfl, rfl, hs, hv, by omega, h2, P.tup (ds := []) w (by rw [Rls])⟩)))
    · cases ho
  · rename_i k h1 h2
    cases q : asW M d with
    | none => rw [q] at ho; cases ho
    | some ds =>
      rw [q] at ho
      simp only [Option.bind_some] at ho
      split at ho
      · rename_i hc
        cases ho
        obtain ⟨a, vs, rfl, hv, hr⟩ := asW_ok w rd q
        rw [Rl] at re; subst re
        refine .inr (.inr (.inr (.inr (.inr ⟨a, k, vs, rfl, rfl, hv, by omega, by omega, ?_, P.new w (hr.rep _)⟩))))
        rw [← hr.length, sizeLine_eq]
        have : k.toNat ≤ 1000 := by omega
        calc ds.length * k.toNat ≤ 1000 * 1000 := Nat.mul_le_mul hc.2.2 this
          _ ≤ _ := by decide
      · cases ho
  · cases ho
@[simp] theorem oMulA_int {i j : Int} {M : Mem} : oMulA (.int i) (.int j) M = if bMul i j = true then some (.val (.int (i * j))) else none := rfl
@[simp] theorem oMulA_tup {ds : List D} {k : Int} {M : Mem} : oMulA (.tup ds) (.int k) M = if -1000000 < k ∧ k ≤ 1000 ∧ ds.length ≤ 1000 then some (.val (.tup (List.replicate k.toNat ds).flatten)) else none := rfl
@[simp] theorem oMulA_lst {ds : List D} {k : Int} {M : Mem} : oMulA (.lst ds) (.int k) M = if -1000000 < k ∧ k ≤ 1000 ∧ ds.length ≤ 1000 then some (.new (List.replicate k.toNat ds).flatten) else none := rfl
end
end CI

/-! N21: == of data, by their trees -/
namespace CI
open PySem PySem.Spec PyProof.Rows L2
mutual
def deq : D → D → Bool
  | .non, .non => true
  | .bl a, .bl b => decide (a = b)
  | .bl a, .int b => decide ((if a then 1 else 0) = b)
  | .int a, .bl b => decide (a = (if b then 1 else 0))
  | .int a, .int b => decide (a = b)
  | .str a, .str b => decide (a = b)
  | .tup a, .tup b => deqs a b
  | .lst a, .lst b => deqs a b
  | _, _ => false
def deqs : List D → List D → Bool
  | [], [] => true
  | a :: as, b :: bs => deq a b && deqs as bs
  | _, _ => false
end
mutual
theorem deq_py : ∀ (n m : Nat) (d e : D) (p q : PyData), py0 d = some p → py0 e = some q → plS n d = true → plS m e = true → PyData.eqv p q = deq d e
  | 0, _, d, _, _, _, _, _, h, _ => by cases h
  | _ + 1, 0, _, e, _, _, _, _, _, h => by cases h
  | n + 1, m + 1, d, e, p, q, hp, hq, h1, h2 => by
    cases d with
    | scr _ => cases h1
    | loc _ => cases h1
    | non => cases hp; cases e <;> first | (cases h2; done) | (simp [py0] at hq; first | (subst hq; simp [PyData.eqv, deq]; done) | (subst hq; simp only [PyData.eqv, deq]; first | rfl | (rw [Bool.eq_iff_iff]; simp; done)) | (obtain ⟨ps, hps, rfl⟩ := hq; simp [PyData.eqv, deq]; done))
    | bl b => cases hp; cases e <;> first | (cases h2; done) | (simp [py0] at hq; first | (subst hq; simp [PyData.eqv, deq]; done) | (subst hq; simp only [PyData.eqv, deq]; first | rfl | (rw [Bool.eq_iff_iff]; simp; done)) | (obtain ⟨ps, hps, rfl⟩ := hq; simp [PyData.eqv, deq]; done))
    | int b => cases hp; cases e <;> first | (cases h2; done) | (simp [py0] at hq; first | (subst hq; simp [PyData.eqv, deq]; done) | (subst hq; simp only [PyData.eqv, deq]; first | rfl | (rw [Bool.eq_iff_iff]; simp; done)) | (obtain ⟨ps, hps, rfl⟩ := hq; simp [PyData.eqv, deq]; done))
    | str b => cases hp; cases e <;> first | (cases h2; done) | (simp [py0] at hq; first | (subst hq; simp [PyData.eqv, deq]; done) | (subst hq; simp only [PyData.eqv, deq]; first | rfl | (rw [Bool.eq_iff_iff]; simp; done)) | (obtain ⟨ps, hps, rfl⟩ := hq; simp [PyData.eqv, deq]; done))
    | tup as =>
      simp [py0] at hp
      obtain ⟨ps, hps, rfl⟩ := hp
      cases e with
      | scr _ => cases h2
      | loc _ => cases h2
      | tup bs =>
        simp [py0] at hq
        obtain ⟨qs, hqs, rfl⟩ := hq
        rw [PyData.eqv, deq]
        exact deqs_py n m as bs ps qs hps hqs h1 h2
      | lst bs => simp [py0] at hq; obtain ⟨qs, hqs, rfl⟩ := hq; simp [PyData.eqv, deq]
      | _ => simp [py0] at hq; subst hq; simp [PyData.eqv, deq]
    | lst as =>
      simp [py0] at hp
      obtain ⟨ps, hps, rfl⟩ := hp
      cases e with
      | scr _ => cases h2
      | loc _ => cases h2
      | lst bs =>
        simp [py0] at hq
        obtain ⟨qs, hqs, rfl⟩ := hq
        rw [PyData.eqv, deq]
        exact deqs_py n m as bs ps qs hps hqs h1 h2
      | tup bs => simp [py0] at hq; obtain ⟨qs, hqs, rfl⟩ := hq; simp [PyData.eqv, deq]
      | _ => simp [py0] at hq; subst hq; simp [PyData.eqv, deq]
theorem deqs_py : ∀ (n m : Nat) (ds es : List D) (ps qs : List PyData), py0s ds = some ps → py0s es = some qs → ds.all (plS n) = true → es.all (plS m) = true → PyData.eqvAll ps qs = deqs ds es
  | _, _, [], [], _, _, hp, hq, _, _ => by cases hp; cases hq; simp [PyData.eqvAll, deqs]
  | _, _, [], e :: es, _, qs, hp, hq, _, _ => by
    cases hp
    rw [py0s] at hq
    cases h : py0 e with
    | none => rw [h] at hq; cases hq
    | some q => cases h' : py0s es with
      | none => rw [h, h'] at hq; cases hq
      | some qs' => rw [h, h'] at hq; cases hq; simp [PyData.eqvAll, deqs]
  | _, _, d :: ds, [], ps, _, hp, hq, _, _ => by
    cases hq
    rw [py0s] at hp
    cases h : py0 d with
    | none => rw [h] at hp; cases hp
    | some q => cases h' : py0s ds with
      | none => rw [h, h'] at hp; cases hp
      | some qs' => rw [h, h'] at hp; cases hp; simp [PyData.eqvAll, deqs]
  | n, m, d :: ds, e :: es, ps, qs, hp, hq, h1, h2 => by
    rw [py0s] at hp hq
    rw [List.all_cons, Bool.and_eq_true] at h1 h2
    cases a1 : py0 d with
    | none => rw [a1] at hp; cases hp
    | some p =>
      cases a2 : py0s ds with
      | none => rw [a1, a2] at hp; cases hp
      | some ps' =>
        cases b1 : py0 e with
        | none => rw [b1] at hq; cases hq
        | some q =>
          cases b2 : py0s es with
          | none => rw [b1, b2] at hq; cases hq
          | some qs' =>
            rw [a1, a2] at hp; rw [b1, b2] at hq; cases hp; cases hq
            rw [PyData.eqvAll, deqs, deq_py n m d e p q a1 b1 h1.1 h2.1, deqs_py n m ds es ps' qs' a2 b2 h1.2 h2.2]
end
theorem eqB_deq {M : Mem} {n m : Nat} {d e : D} (hn : n ≤ 64) (hm : m ≤ 64) (h1 : plS n d = true) (h2 : plS m e = true) : eqB M d e = some (deq d e) := by
  obtain ⟨p, p1, p2, p3⟩ := plS_ok n d h1
  obtain ⟨q, q1, q2, q3⟩ := plS_ok m e h2
  have sp : SeqAt.shaped p = true := by unfold SeqAt.shaped; rw [p2, Bool.true_and]; exact decide_eq_true (by omega)
  have sq : SeqAt.shaped q = true := by unfold SeqAt.shaped; rw [q2, Bool.true_and]; exact decide_eq_true (by omega)
  have hk := deq_py n m d e p q p1 q1 h1 h2
  have hd : py M d = some p := by cases d <;> first | exact p1 | cases p1
  have he : py M e = some q := by cases e <;> first | exact q1 | cases q1
  have gen : (match py M d, py M e with
    | some a, some b => if SeqAt.shaped a = true ∧ SeqAt.shaped b = true then some (PyData.eqv a b) else none
    | _, _ => none) = some (deq d e) := by
    rw [hd, he]
    simp only [sp, sq, and_self, if_true, hk]
  unfold eqB
  split
  · rw [deq]
  · rw [deq]
  · rw [deq]
  · exact gen
theorem deqs_map {α : Type} [DecidableEq α] {f : α → D} (hf : ∀ a b, deq (f a) (f b) = decide (a = b)) : ∀ xs ys : List α, deqs (xs.map f) (ys.map f) = decide (xs = ys)
  | [], [] => by simp [deqs]
  | [], y :: ys => by simp [deqs]
  | x :: xs, [] => by simp [deqs]
  | x :: xs, y :: ys => by
    rw [List.map_cons, List.map_cons, deqs, hf, deqs_map hf xs ys]
    by_cases h : x = y <;> by_cases h' : xs = ys <;> simp [h, h']
@[simp] theorem deq_int (a b : Int) : deq (.int a) (.int b) = decide (a = b) := by rw [deq]
@[simp] theorem deq_bl (a b : Bool) : deq (.bl a) (.bl b) = decide (a = b) := by rw [deq]
@[simp] theorem deq_str (a b : Str) : deq (.str a) (.str b) = decide (a = b) := by rw [deq]
@[simp] theorem deq_tup (a b : List D) : deq (.tup a) (.tup b) = deqs a b := by rw [deq]
@[simp] theorem deq_lst (a b : List D) : deq (.lst a) (.lst b) = deqs a b := by rw [deq]
@[simp] theorem deqs_nil : deqs [] [] = true := by rw [deqs]
@[simp] theorem deqs_nc {a as} : deqs [] (a :: as) = false := by simp [deqs]
@[simp] theorem deqs_cn {a as} : deqs (a :: as) [] = false := by simp [deqs]
@[simp] theorem deqs_cons {a b as bs} : deqs (a :: as) (b :: bs) = (deq a b && deqs as bs) := by rw [deqs]
@[simp] theorem deq_non : deq .non .non = true := by rw [deq]
@[simp] theorem deqs_ints {a b : List Int} : deqs (a.map .int) (b.map .int) = decide (a = b) := deqs_map (fun x y => deq_int x y) a b
end CI

/-! N22: memories that are written out -/
namespace CI
open PySem PySem.Spec PyProof.Rows L2
section
variable {kl : List Bool} {M A B Me : Mem} {ρ : Slots} {a b : O} {d : D} {ds : List D} {k : Nat}
theorem trimOk_nil : trimOk [] Me := ⟨Nat.zero_le _, fun k o hk _ => by simp at hk⟩
@[simp] theorem tidy_nil (h : nlS 0 (keepD kl ρ) = true) : tidy kl [] ρ Me = (keepD kl ρ, []) := tidy_trim trimOk_nil h
@[simp] theorem tidy_cons (t : trimC (A.length + 1) (a :: A) (b :: B)) (h : nlS (A.length + 1) (keepD kl ρ) = true) : tidy kl (a :: A) ρ (b :: B) = (keepD kl ρ, b :: B.take A.length) := tidy_C t h
@[simp] theorem finK_nil (h : nl 0 d = true) : finK [] (.val d) Me = (.val d, []) := finK_val trimOk_nil h
@[simp] theorem finK_nilN (h : nls 0 ds = true) : finK [] (.new ds) Me = (.new ds, []) := finK_new trimOk_nil h
end
@[simp] theorem nls_take {n k : Nat} {ds : List D} (h : nls n ds = true) : nls n (ds.take k) = true := by
  have : nls n (ds.take k ++ ds.drop k) = true := by rw [List.take_append_drop]; exact h
  rw [nls_app, Bool.and_eq_true] at this
  exact this.1
@[simp] theorem nls_drop {n k : Nat} {ds : List D} (h : nls n ds = true) : nls n (ds.drop k) = true := by
  have : nls n (ds.take k ++ ds.drop k) = true := by rw [List.take_append_drop]; exact h
  rw [nls_app, Bool.and_eq_true] at this
  exact this.2
end CI

/-! N23: enumerate of a tuple -/
namespace CI
open PySem PySem.Spec PyProof.Rows L2
open AutoSeq1 (wpAny_loadPart')
section enumT
variable {pg : Program} {wd : World} {Ar : Around} {Er : Value → Shared → Prop} {sh : Shared} {e it tu : Addr} {i : Nat} {items : Array Value} {x old : Value}
theorem newT (tu : Addr) (items : Array Value) (n : Nat) (dct : Option Addr) (sl : Array (Option Value)) :
    Meets (Builtin.«enumerate.__new__» ⟨[.type "enumerate", .ref tu], []⟩) (fun _ Rr sh => sh.heap.get? tu = some { cls := .type "tuple", dict := dct, data := .seq items n, slots := sl } ∧
      Rr (.ok (.ret (.ref (sh.heap.push { cls := .type "tuple_iterator", data := .fields #[.ref tu, .int 0 0] }).objs.size)))
        { sh with heap := (sh.heap.push { cls := .type "tuple_iterator", data := .fields #[.ref tu, .int 0 0] }).push { cls := .type "enumerate", data := .fields #[.none, .bool false, .ref sh.heap.objs.size, rawInt 0, .none, .none] } }) :=
  .of_wp fun pg wd Ar Rr sh hh => by
    obtain ⟨hp, g, dd, tk, os⟩ := sh; obtain ⟨ht, hh⟩ := hh
    have hsub := sub_enumerate
    have hT : Heap.IsTuple (Shared.heap ⟨hp, g, dd, tk, os⟩) tu items := ⟨_, ht, rfl, n, rfl⟩
    wp_walk using wpAny_loadPart' ht
    refine wpAny_stack_any fun stt => wpAny_pure ?_
    split
    · rename_i cc _ _ _ _ _
      cases (cc == Value.type "enumerate")
      · wp_walk using wpAny_loadPart' ht, wpAny_pyIter_tuple hT
        exact ⟨_, rfl, hh⟩
      · wp_walk using wpAny_loadPart' ht, wpAny_pyIter_tuple hT
        exact ⟨_, rfl, hh⟩
    · wp_walk using wpAny_loadPart' ht, wpAny_pyIter_tuple hT
      exact ⟨_, rfl, hh⟩
theorem callT {Qr : Value → Shared → Prop} (hT : sh.heap.IsTuple tu items)
    (hh : ∀ hq, IsEnum hq (sh.heap.objs.size + 1) sh.heap.objs.size 0 .none → hq.IsTupleIter sh.heap.objs.size tu 0 → hq.objs.size = sh.heap.objs.size + 2 →
      (∀ b o, sh.heap.get? b = some o → hq.get? b = some o) → Qr (.ref (sh.heap.objs.size + 1)) { sh with heap := hq }) :
    wpAny (model pg wd) Ar (call (.type "enumerate") [.ref tu]) Qr Er sh := by
  obtain ⟨⟨cc, dct, dt, sl⟩, ht, hc, n, hd⟩ := hT
  replace hc : cc = .type "tuple" := hc
  replace hd : dt = .seq items n := hd
  subst hc hd
  refine callType_new F.called_enumerate (by decide) (F.typeCall_enumerate_1 _) (F.newCall_enumerate_1 _) (fun ob => F.args_object_init_2 ob _) F.entry_enumerate_new
    (newT tu items n dct sl) ⟨ht, ?_⟩
  have hz : (sh.heap.push { cls := .type "tuple_iterator", data := .fields #[.ref tu, .int 0 0] }).objs.size = sh.heap.objs.size + 1 := Heap.size_push ..
  show _ ∧ _
  rw [hz]
  have he : IsEnum ((sh.heap.push { cls := .type "tuple_iterator", data := .fields #[.ref tu, .int 0 0] }).push
      { cls := .type "enumerate", data := .fields #[.none, .bool false, .ref sh.heap.objs.size, rawInt 0, .none, .none] }) (sh.heap.objs.size + 1) sh.heap.objs.size 0 .none := by
    have := Heap.get?_push_size (sh.heap.push { cls := .type "tuple_iterator", data := .fields #[.ref tu, .int 0 0] })
      (o := { cls := .type "enumerate", data := .fields #[.none, .bool false, .ref sh.heap.objs.size, rawInt 0, .none, .none] }) rfl
    rw [hz] at this; exact this
  refine ⟨⟨_, he, rfl⟩, hh _ he ⟨_, Heap.get?_push_of_some _ (Heap.get?_push_size _ rfl), rfl, rfl⟩ (by rw [Heap.size_push, hz]) fun b o q => Heap.get?_push_of_some _ (Heap.get?_push_of_some _ q)⟩
theorem nextT {Qr : Value → Shared → Prop} (hit : sh.heap.IsTupleIter it tu i) (ht : sh.heap.IsTuple tu items) (hx : items[i]? = some x)
    (hQ : ∀ hq, hq.IsTupleIter it tu (i + 1) → Heap.SameBut it sh.heap hq → Qr x { sh with heap := hq }) :
    wpAny (model pg wd) Ar (Builtin.SmallTypes.nextOf (.ref it)) Qr Er sh := by
  obtain ⟨o, ho, hc, hd⟩ := id hit
  obtain ⟨ot, hot, _, nt, hdt⟩ := ht
  unfold Builtin.SmallTypes.nextOf
  refine wpAny_bind (wpAny_callSpecial?_slot (name := Str.ofString "__next__") hit.typeIs F.slot_tuple_iterator_next (wpAny_call_entry F.slot_tuple_iterator_next hit.typeIs F.entry_tuple_iterator_next ?_ (F.args_tuple_iterator_next_1 _)))
  show wpAny _ _ (field (.ref it) 0 >>= _) _ _ sh
  refine wpAny_bind (wpAny_field ho hd (x := .ref tu) rfl ?_)
  show wpAny _ _ (if (Value.ref tu == Value.none) = true then _ else _) _ _ sh
  rw [if_neg (show ¬ ((Value.ref tu == Value.none) = true) from Bool.false_ne_true)]
  show wpAny _ _ (field (.ref it) 1 >>= _) _ _ sh
  refine wpAny_bind (wpAny_field ho hd (x := .int i 0) rfl ?_)
  show wpAny _ _ (seqItems? (.ref tu) >>= _) _ _ sh
  refine wpAny_bind (wpAny_seqItems hot hdt ?_)
  simp only [Int.toNat_natCast, hx]
  refine wpAny_bind (wpAny_setField ho hd (by simp) (wpAny_pure ⟨x, rfl, wpAny_pure (hQ _ ⟨_, Heap.get?_update_self _ ho (Obj.isFreed_of_fields (Obj.data_mapFields hd _)), (Obj.cls_mapFields ..).trans hc, by rw [Obj.data_mapFields hd]; simp [rawInt]⟩ (Heap.SameBut.update ..))⟩))
theorem nextTend {Qr : Value → Shared → Prop} (hn : Ar.handled = none) (hit : sh.heap.IsTupleIter it tu i) (ht : sh.heap.IsTuple tu items) (hx : items[i]? = none)
    (hE : ∀ hq ee, Heap.ExtBut it sh.heap hq → (∃ o, hq.get? ee = some o ∧ o.cls = .type "StopIteration") → Er (.ref ee) { sh with heap := hq }) :
    wpAny (model pg wd) Ar (Builtin.SmallTypes.nextOf (.ref it)) Qr Er sh := by
  obtain ⟨o, ho, hc, hd⟩ := id hit
  obtain ⟨ot, hot, _, nt, hdt⟩ := ht
  unfold Builtin.SmallTypes.nextOf
  refine wpAny_bind (wpAny_callSpecial?_slot (name := Str.ofString "__next__") hit.typeIs F.slot_tuple_iterator_next (wpAny_call_entry F.slot_tuple_iterator_next hit.typeIs F.entry_tuple_iterator_next ?_ (F.args_tuple_iterator_next_1 _)))
  show wpAny _ _ (field (.ref it) 0 >>= _) _ _ sh
  refine wpAny_bind (wpAny_field ho hd (x := .ref tu) rfl ?_)
  show wpAny _ _ (if (Value.ref tu == Value.none) = true then _ else _) _ _ sh
  rw [if_neg (show ¬ ((Value.ref tu == Value.none) = true) from Bool.false_ne_true)]
  show wpAny _ _ (field (.ref it) 1 >>= _) _ _ sh
  refine wpAny_bind (wpAny_field ho hd (x := .int i 0) rfl ?_)
  show wpAny _ _ (seqItems? (.ref tu) >>= _) _ _ sh
  refine wpAny_bind (wpAny_seqItems hot hdt ?_)
  simp only [Int.toNat_natCast, hx]
  refine wpAny_bind (wpAny_rule (wpAny_bind (wpAny_setField ho hd (by simp) ?_)))
  show wpAny _ _ (newExc (.type "StopIteration") [] >>= _) _ _ _
  refine wpAny_bind ?_
  simp only [newExc, newTuple]
  refine wpAny_bind (wpAny_newObj_type (wpAny_bind (m := firstArgMember _ _) (wpAny_of_eq (a := Value.none) (by first | rfl | (simp only [firstArgMember]; rfl)) (wpAny_newObj_type ?_ (by size_fits)))) (by size_fits))
  simp only [raiseNew]
  refine wpAny_bind (wpAny_handled ?_)
  first | rw [show Ar.in1.handled = none from hn] | rw [hn]
  exact wpAny_bind (wpAny_pure (wpAny_throw (hE _ _ (((Heap.SameBut.update ..).extBut.push _).push _) ⟨_, Heap.get?_push_size _ rfl, rfl⟩)))
theorem enumTitem {Qr : Value → Shared → Prop} (he : IsEnum sh.heap e it i old) (hit : sh.heap.IsTupleIter it tu i) (ht : sh.heap.IsTuple tu items) (hx : items[i]? = some x) (hne : e ≠ it)
    (hQ : ∀ hq, IsEnumOut hq e it ((i : Int) + 1) x sh.heap.objs.size → hq.IsTupleIter it tu (i + 1) →
      hq.get? sh.heap.objs.size = some { cls := .type "tuple", data := .seq #[.int i sh.toks, x] } → hq.objs.size = sh.heap.objs.size + 1 →
      (∀ b o, b ≠ e → b ≠ it → sh.heap.get? b = some o → hq.get? b = some o) → Qr (.ref sh.heap.objs.size) { sh with heap := hq, toks := sh.toks + 1 }) :
    wpAny (model pg wd) Ar (Builtin.«enumerate.__next__» ⟨[.ref e], []⟩) (fun fin s2 => ∃ v, fin = .done (.ret v) ∧ Qr v s2) Er sh := by
  obtain ⟨hp, g, dd, tk, os⟩ := sh
  show wpAny _ _ (field (.ref e) 2 >>= _) _ _ _
  refine wpAny_bind (wpAny_field he rfl (x := .ref it) rfl ?_)
  refine wpAny_bind (nextT hit ht hx fun k1 kit1 ks1 => ?_)
  replace ks1 : Heap.SameBut it hp k1 := ks1
  have ke1 : IsEnum k1 e it i old := (ks1.2 e hne).trans he
  show wpAny _ _ (field (.ref e) 3 >>= _) _ _ ⟨k1, g, dd, tk, os⟩
  refine wpAny_bind (wpAny_field ke1 rfl (x := rawInt i) rfl ?_)
  show wpAny _ _ (field (.ref e) 4 >>= _) _ _ ⟨k1, g, dd, tk, os⟩
  refine wpAny_bind (wpAny_field ke1 rfl (x := .none) rfl ?_)
  show wpAny _ _ (mkInt i >>= _) _ _ ⟨k1, g, dd, tk, os⟩
  refine wpAny_bind (wpAny_mkInt ?_)
  show wpAny _ _ (setField (.ref e) 3 (rawInt ((i : Int) + 1)) >>= _) _ _ ⟨k1, g, dd, tk + 1, os⟩
  refine wpAny_bind (wpAny_setField_rec ke1 (by simp) fun k2 ke2 ks2 => ?_)
  replace ks2 : Heap.SameBut e k1 k2 := ks2
  replace ke2 : IsEnum k2 e it ((i : Int) + 1) old := ke2
  show wpAny _ _ (setField (.ref e) 4 .none >>= _) _ _ ⟨k2, g, dd, tk + 1, os⟩
  refine wpAny_bind (wpAny_setField_rec ke2 (by simp) fun k3 ke3 ks3 => ?_)
  replace ks3 : Heap.SameBut e k2 k3 := ks3
  replace ke3 : IsEnum k3 e it ((i : Int) + 1) old := ke3
  show wpAny _ _ (newTuple [.int i tk, x] >>= _) _ _ ⟨k3, g, dd, tk + 1, os⟩
  refine wpAny_bind (wpAny_newTuple ?_)
  have ke4 : IsEnum (k3.push { cls := .type "tuple", data := .seq #[.int i tk, x] }) e it ((i : Int) + 1) old := Heap.get?_push_of_some _ ke3
  generalize kh4 : k3.push { cls := .type "tuple", data := .seq #[.int i tk, x] } = k4 at ke4
  have ksz : k3.objs.size = hp.objs.size := by rw [ks3.1, ks2.1, ks1.1]
  have kel : e < hp.objs.size := Heap.lt_size he
  have kt4 : k4.get? hp.objs.size = some { cls := .type "tuple", data := .seq #[.int i tk, x] } := by rw [← kh4, ← ksz]; exact Heap.get?_push_size _ rfl
  have kz4 : k4.objs.size = hp.objs.size + 1 := by rw [← kh4, Heap.size_push, ksz]
  have kk4 : ∀ b o, b ≠ e → b ≠ it → hp.get? b = some o → k4.get? b = some o := fun b o q1 q2 hb => by
    rw [← kh4]; exact Heap.get?_push_of_some _ (ks3.extBut b o q1 (ks2.extBut b o q1 (ks1.extBut b o q2 hb)))
  have kit4 : k4.IsTupleIter it tu (i + 1) := by
    rw [← kh4]; obtain ⟨o, ho, r⟩ := (kit1.extBut ks2.extBut (Ne.symm hne)).extBut ks3.extBut (Ne.symm hne); exact ⟨o, Heap.get?_push_of_some _ ho, r⟩
  show wpAny _ _ (Builtin.SmallTypes.ownedTupleIsFree (.ref e) >>= _) _ _ ⟨k4, g, dd, tk + 1, os⟩
  rw [ksz]
  clear kh4 ke3 ks3 ke2 ks2 ke1 ks1 kit1 ksz k3 k2 k1
  refine wpAny_bind ?_
  unfold Builtin.SmallTypes.ownedTupleIsFree
  refine wpAny_bind (wpAny_field ke4 rfl (x := .none) rfl (wpAny_pure ?_))
  simp only [if_true]
  refine wpAny_bind (wpAny_rule ?_)
  refine wpAny_bind (wpAny_field ke4 rfl (x := old) rfl ?_)
  refine wpAny_bind (wpAny_setField_rec ke4 (by simp) fun k5 ke5 ks5 => ?_)
  replace ks5 : Heap.SameBut e k4 k5 := ks5
  replace ke5 : IsEnum k5 e it ((i : Int) + 1) x := ke5
  show wpAny _ _ (Builtin.SmallTypes.ownedTupleHandOut (.ref e) (.ref hp.objs.size) >>= _) _ _ ⟨k5, g, dd, tk + 1, os⟩
  refine wpAny_bind ?_
  unfold Builtin.SmallTypes.ownedTupleHandOut
  refine wpAny_bind (wpAny_setField_rec ke5 (by simp) fun k6 ke6 ks6 => ?_)
  replace ks6 : Heap.SameBut e k5 k6 := ks6
  replace ke6 : IsEnumOut k6 e it ((i : Int) + 1) x hp.objs.size := ke6
  refine wpAny_setField_rec ke6 (by simp) fun k7 ke7 ks7 => ?_
  replace ks7 : Heap.SameBut e k6 k7 := ks7
  replace ke7 : IsEnumOut k7 e it ((i : Int) + 1) x hp.objs.size := ke7
  refine wpAny_bind (wpAny_letGo (wpAny_pure ⟨_, rfl, hQ k7 ke7 (((kit4.extBut ks5.extBut (Ne.symm hne)).extBut ks6.extBut (Ne.symm hne)).extBut ks7.extBut (Ne.symm hne))
    (ks7.extBut _ _ (Nat.ne_of_gt kel) (ks6.extBut _ _ (Nat.ne_of_gt kel) (ks5.extBut _ _ (Nat.ne_of_gt kel) kt4))) (by rw [ks7.1, ks6.1, ks5.1, kz4])
    fun b o q1 q2 hb => ks7.extBut b o q1 (ks6.extBut b o q1 (ks5.extBut b o q1 (kk4 b o q1 q2 hb)))⟩))
theorem pyNextT {Qr : Option Value → Shared → Prop} (he : IsEnum sh.heap e it i old) (hit : sh.heap.IsTupleIter it tu i) (ht : sh.heap.IsTuple tu items) (hx : items[i]? = some x) (hne : e ≠ it)
    (hQ : ∀ hq, IsEnumOut hq e it ((i : Int) + 1) x sh.heap.objs.size → hq.IsTupleIter it tu (i + 1) →
      hq.get? sh.heap.objs.size = some { cls := .type "tuple", data := .seq #[.int i sh.toks, x] } → hq.objs.size = sh.heap.objs.size + 1 →
      (∀ b o, b ≠ e → b ≠ it → sh.heap.get? b = some o → hq.get? b = some o) → Qr (some (.ref sh.heap.objs.size)) { sh with heap := hq, toks := sh.toks + 1 }) :
    wpAny (model pg wd) Ar (pyNext (.ref e)) Qr Er sh := by
  have hT : sh.TypeIs (.ref e) "enumerate" := ⟨_, he, rfl⟩
  unfold pyNext
  exact wpAny_bind (wpAny_attempt (wpAny_callSpecial?_slot (name := Str.ofString "__next__") hT F.slot_enumerate_next (wpAny_call_entry F.slot_enumerate_next hT F.entry_enumerate_next
      (enumTitem he hit ht hx hne fun hq a b c d k => wpAny_pure (hQ hq a b c d k)) (F.args_enumerate_next_1 _))))
theorem pyNextTend {Qr : Option Value → Shared → Prop} (hn : Ar.handled = none) (he : IsEnum sh.heap e it i old) (hit : sh.heap.IsTupleIter it tu i) (ht : sh.heap.IsTuple tu items) (hx : items[i]? = none)
    (hQ : ∀ hq, Heap.ExtBut it sh.heap hq → Qr none { sh with heap := hq }) : wpAny (model pg wd) Ar (pyNext (.ref e)) Qr Er sh := by
  have hT : sh.TypeIs (.ref e) "enumerate" := ⟨_, he, rfl⟩
  unfold pyNext
  refine wpAny_bind (wpAny_attempt (wpAny_callSpecial?_slot (name := Str.ofString "__next__") hT F.slot_enumerate_next (wpAny_call_entry F.slot_enumerate_next hT F.entry_enumerate_next ?_ (F.args_enumerate_next_1 _))))
  show wpAny _ _ (field (.ref e) 2 >>= _) _ _ _
  refine wpAny_bind (wpAny_field he rfl (x := .ref it) rfl ?_)
  refine wpAny_bind (nextTend hn hit ht hx fun hq ee he2 ⟨o, ho, hc⟩ => ?_)
  exact wpAny_bind (wpAny_isInstance (T := "StopIteration") (b := true) ⟨o, ho, hc⟩ isSubtype_stop (wpAny_pure (hQ _ he2)))
end enumT
/-- the tuple at a, each item in a new pair -/
def IteT (K : PySem.W.Frag) (a : Addr) : It :=
  ⟨fun i H => ∃ (xs : List V) (x : V), SqT K H a xs ∧ xs[i]? = some x, fun i H v H' => ∃ T x, v = .ref T ∧ H T = none ∧ H' = upd H T (.tup [.int (i : Nat), x]) ∧ ∀ xs, SqT K H a xs → xs[i]? = some x, fun i H => ∃ xs : List V, SqT K H a xs ∧ xs.length ≤ i⟩
theorem tupOf {h : Heap} {a : Addr} {its : Array Value} (p : IsTup h a its) : h.IsTuple a its := p
theorem turnT {Pg : Program} {wd : World} {K : PySem.W.Frag} {elts : List Expr} {kk : Nat} {tpos : Pos} (a e it : Addr) :
    Turn Pg wd K (.Tuple elts kk tpos) (IteT K a) [e, it] e (fun i h => (∃ old, IsEnum h e it ((i : Nat) : Int) old) ∧ h.IsTupleIter it a i ∧ e ≠ it) where
  mem := by simp
  obj := fun i h st b hb => by
    obtain ⟨⟨old, he⟩, ⟨o, ho, hc, hd⟩, _⟩ := st
    have e2 : b = e ∨ b = it := by simpa using hb
    rcases e2 with z | z
    · rw [z]; exact ⟨_, he, fun v q => nomatch q⟩
    · rw [z]; exact ⟨o, ho, fun v q => by rw [hd] at q; cases q⟩
  keep := fun i h h2 st k => let ⟨⟨old, he⟩, ⟨o, ho, r⟩, hne⟩ := st; ⟨⟨old, k e (by simp) _ he⟩, ⟨o, k it (by simp) o ho, r⟩, hne⟩
  item := by
    intro X hP hw hK hc i pins sh σ H E I hf st hg
    subst hP hw hK
    obtain ⟨⟨old, he⟩, hit, hne⟩ := st
    obtain ⟨xs, x, hq, hx⟩ := hg
    obtain ⟨its, rv, p, hz⟩ := I.tuple hq
    obtain ⟨u, hu, ru⟩ := rv.get hx
    have hel : e < sh.heap.objs.size := Heap.lt_size he
    have hil : it < sh.heap.objs.size := by obtain ⟨_, q, _⟩ := hit; exact Heap.lt_size q
    refine pyNextT he hit (tupOf p) (x := u) (by simpa using hu) hne fun h1 ho hit1 hT hsz hk => ?_
    refine ⟨_, rfl, wpAny_letOwnedTupleGo_enum (s := { sh with heap := h1, toks := sh.toks + 1 }) ho fun h2 he2 sb => ?_⟩
    have hT2 : h2.get? sh.heap.objs.size = some { cls := .type "tuple", data := .seq #[.int i sh.toks, u] } := (sb.2 _ (Nat.ne_of_gt hel)).trans hT
    have new : ObjOk X.prog X.w (upd H sh.heap.objs.size (.tup [.int (i : Nat), x])) h2 sh.heap.objs.size (.tup [.int (i : Nat), x]) :=
      ⟨by show 2 ≤ sizeLine; decide, [.int i sh.toks, u], .cons ⟨_, rfl⟩ (.cons ru .nil), ⟨_, hT2, rfl, _, rfl⟩⟩
    have I1 : Inv X pins σ (upd H sh.heap.objs.size (.tup [.int (i : Nat), x])) { sh with heap := h2, toks := sh.toks + 1 } :=
      I.turnedNew (ch := [e, it]) (fun b ob hb q => (sb.2 b (fun z => hb (by simp [z]))).trans (hk b ob (fun z => hb (by simp [z])) (fun z => hb (by simp [z])) q)) hf (Nat.le_refl _) new
    refine ⟨.ref sh.heap.objs.size, _, I1, rfl, ⟨_, x, rfl, I.hok.fresh (Nat.le_refl _), rfl, fun ys hy => by rw [I.tuple_inj hy hq]; exact hx⟩, ⟨⟨u, ?_⟩, ?_, hne⟩, fun b hb => ?_⟩
    · have e1 : ((i + 1 : Nat) : Int) = (i : Int) + 1 := by omega
      rw [e1]; exact he2
    · obtain ⟨o, ho2, r⟩ := hit1
      exact ⟨o, (sb.2 it (Ne.symm hne)).trans ho2, r⟩
    · have hb2 : b < sh.heap.objs.size := by
        have e2 : b = e ∨ b = it := by simpa using hb
        rcases e2 with z | z
        · rw [z]; exact hel
        · rw [z]; exact hil
      rw [upd_ne (Nat.ne_of_lt hb2)]
      exact (hf b hb).1
  done := by
    intro X hP hw hK hc i pins sh σ H E I hf st hg
    subst hP hw hK
    obtain ⟨⟨old, he⟩, hit, hne⟩ := st
    obtain ⟨xs, hq, hx⟩ := hg
    obtain ⟨its, rv, p, hz⟩ := I.tuple hq
    obtain ⟨f0, f1, f2, f3, f4, f5⟩ := hf it (by simp)
    have hl := rv.length
    exact pyNextTend (I.ok.hd hc) he hit (tupOf p) (by simp; omega) fun h1 eb => ⟨rfl, I.turned (t' := sh.toks) (fun b o hb q => eb b o hb q) f0 f1 f3 f4 f5⟩
  self := fun Ar i sh Q E st h => let ⟨⟨_, he⟩, _⟩ := st; wpAny_pyIter_enum he h
def iEnumTu (K : PySem.W.Frag) (ta : TA) : TI := fun σ H R => ta σ H fun vs H1 => ∃ a xs, vs = [.ref a] ∧ SqT K H1 a xs ∧ R (IteT K a) H1
theorem pi_enumT {X : Cx} {e : Expr} {ta : TA} {p pos tpos : Pos} {elts : List Expr} {kk : Nat} (hg : Gl X "enumerate") (hm : X.mg "enumerate" = none) (ha : PA X [e] ta) (hs : starEach [e] X.env = [(false, eval e X.env)] := by rfl) :
    PI X (.Tuple elts kk tpos) (.Call (.Name "enumerate" p) [e] [] pos) (iEnumTu X.K ta) := by
  refine ⟨fun pins sh σ H R I h => ?_⟩
  refine Call_ (ld_blt I hg hm boot_enumerate (PyProof.Rows.callWith_type1 (thn (ha.run pos pins sh σ H _ I h) fun us s1 ⟨vs, H1, I1, r1, q1⟩ => ?_) hs rfl))
  obtain ⟨a, xs, ex, hq, q⟩ := q1
  subst ex
  cases r1 with
  | cons r rr =>
    cases rr
    cases r
    obtain ⟨its, rv, p2, hz⟩ := I1.tuple hq
    refine callT (tupOf p2) fun h1 he hit hsz hk => wpAny_pyIter_enum he ?_
    have I2 : Inv X pins σ H1 { s1 with heap := h1 } := I1.kept (t' := s1.toks) hk
    refine ⟨s1.heap.objs.size + 1, [s1.heap.objs.size + 1, s1.heap.objs.size], _, _, H1, rfl, I2, turnT a (s1.heap.objs.size + 1) s1.heap.objs.size, ⟨⟨.none, he⟩, hit, Nat.succ_ne_self _⟩, fun b hb => ?_, q⟩
    have e2 : b = s1.heap.objs.size + 1 ∨ b = s1.heap.objs.size := by simpa using hb
    have hle : s1.heap.objs.size ≤ b := by
      rcases e2 with z | z
      · rw [z]; exact Nat.le_succ _
      · rw [z]; exact Nat.le_refl _
    exact I1.fpOk hle (I1.hok.fresh hle)
theorem yl_enT {K : PySem.W.Frag} {H : Hp} {m : List Addr} {a : Addr} {ds : List D} {vs : List V} (h : SqT K H a vs) (r : Rls K H m ds vs) : Yl K H m (IteT K a) (enD ds) none where
  go := fun i H1 m1 hi e _ => by
    have hl := r.length
    rw [enD_len] at hi
    exact ⟨vs, vs[i], sqT_ext e h, List.getElem?_eq_getElem (by omega)⟩
  yld := fun i d H1 m1 M1 x H' q e _ w y => by
    obtain ⟨T, u, rfl, hn, rfl, y⟩ := y
    obtain ⟨d0, q0, rfl⟩ := enD_get q
    obtain ⟨v, h1, h2⟩ := (r.ext e).get q0
    have := y vs (sqT_ext e h)
    rw [h1] at this; cases this
    refine ⟨.new hn, w.new hn, ?_⟩
    rw [Rl]
    refine ⟨T, _, rfl, .of upd_same, ?_⟩
    rw [Rls]
    refine ⟨_, _, rfl, by rw [Rl], ?_⟩
    rw [Rls]
    refine ⟨_, _, rfl, h2.ext (.new hn), ?_⟩
    rw [Rls]
  stop := fun H1 m1 e _ => ⟨vs, sqT_ext e h, by rw [enD_len, r.length]; exact Nat.le_refl _⟩
def iEnT (f : Ef) : If := fun ρ M => (f ρ M).bind fun p => match p.1.d with
  | .tup ds => some (enD ds, none, p.2)
  | .lst ds => some (enD ds, none, p.2)
  | .scr ns => some (enD (ns.map .int), none, p.2)
  | _ => none
theorem ci_enT {X : Cx} {a : Expr} {fa : Ef} {p pos tpos : Pos} {elts : List Expr} {kk : Nat} (hg : Gl X "enumerate") (hm : X.mg "enumerate" = none) (ha : CEx X a fa) (hs : starEach [a] X.env = [(false, eval a X.env)] := by rfl) (hs' : starEach [a] X.env = (false, eval a X.env) :: starEach [] X.env := by rfl) :
    CIx X (.Tuple elts kk tpos) (.Call (.Name "enumerate" p) [a] [] pos) (iEnT fa) :=
  PI.imp (PI.or (pi_enum hg hm (pa_cons ha pa_nil hs') hs) (pi_enumT hg hm (pa_cons ha pa_nil hs') hs)) fun σ H R ⟨ρ, M, m, ds, gk, M', rs, w, hf, P⟩ => by
    unfold iEnT at hf
    cases ea : fa ρ M with
    | none => rw [ea] at hf; cases hf
    | some q =>
      rw [ea] at hf
      simp only [Option.bind_some] at hf
      split at hf
      · rename_i es he
        cases hf
        refine .inr (bindE rs w ea fun H1 m1 v e1 w1 rs1 r1 => ?_)
        rw [he, Rl] at r1
        obtain ⟨b, vs, rfl, h1, h2⟩ := r1
        exact ⟨b, vs, rfl, h1, P H1 m1 _ e1 w1 gd_none (yl_enT h1 h2)⟩
      · rename_i es he
        cases hf
        refine .inl (bindE rs w ea fun H1 m1 v e1 w1 rs1 r1 => ?_)
        rw [he, Rl] at r1
        obtain ⟨b, vs, rfl, hn, h1, h2⟩ := r1
        exact ⟨b, vs, rfl, .of h1, P H1 m1 _ e1 w1 gd_none (yl_en (fun H2 m2 e2 => .of (e2.lst _ _ hn h1)) h2)⟩
      · rename_i ns he
        cases hf
        refine .inl (bindE rs w ea fun H1 m1 v e1 w1 rs1 r1 => ?_)
        rw [he, Rl] at r1
        obtain ⟨b, rfl, h1⟩ := r1
        exact ⟨b, _, rfl, h1.l, P H1 m1 _ e1 w1 gd_none (yl_en (fun H2 m2 e2 => (SqS.l (h1.imp (fun ⟨o, s⟩ => ⟨o, e2.frz _ _ _ s⟩) id))) .ints)⟩
      · cases hf
def iEnT1 (p : Rz × Mem) : Option (List D × Option Nat × Mem) := match p.1.d with | .tup ds => some (enD ds, none, p.2) | .lst ds => some (enD ds, none, p.2) | .scr ns => some (enD (ns.map .int), none, p.2) | _ => none
section
variable {f : Ef} {ρ : Slots} {M : Mem} {ds : List D}
@[simp] theorem iEnT_ap : iEnT f ρ M = bnd iEnT1 (f ρ M) := rfl
@[simp] theorem iEnT1_tup : iEnT1 (.val (.tup ds), M) = some (enD ds, none, M) := rfl
@[simp] theorem iEnT1_lst : iEnT1 (.val (.lst ds), M) = some (enD ds, none, M) := rfl
@[simp] theorem iEnT1_new : iEnT1 (.new ds, M) = some (enD ds, none, M) := rfl
end
theorem enD_map {α : Type} {f : α → D} {xs : List α} : enD (xs.map f) = xs.zipIdx.map fun p => D.tup [.int ((p.2 : Nat) : Int), f p.1] := by
  unfold enD
  rw [List.zipIdx_map, List.map_map]
  rfl
end CI

/-! N24: stores at places -/
namespace CI
open PySem PySem.Spec PyProof.Rows L2
section
variable {d : D} {ρ : Slots} {k : Nat} {i : Int} {M : Mem} {es : List D} {j : Nat}
def gIx4 (d : D) (ρ : Slots) (k : Nat) (i : Int) (M : Mem) (es : List D) : Option (Slots × Mem) := (ixN es.length i).bind (gIx3 d k i ρ M es)
@[simp] theorem gIx2_loc : gIx2 d ρ (.loc k) (.val (.int i), M) = bnd (gIx4 d ρ k i M) (lsO M[k]?) := by
  show (match M[k]? with | some (.lst es) => (ixN es.length i).bind (gIx3 d k i ρ M es) | _ => none) = _
  cases M[k]? with
  | none => rfl
  | some o => cases o <;> rfl
@[simp] theorem gIx4_ap : gIx4 d ρ k i M es = bnd (gIx3 d k i ρ M es) (ixN es.length i) := rfl
@[simp] theorem gIx3_ap : gIx3 d k i ρ M es j = some (ρ, M.set k (.lst (es.set j d))) := rfl
end
@[simp] theorem nls_set {n : Nat} {e : D} (he : nl n e = true) : ∀ {ds : List D} {i : Nat}, nls n ds = true → nls n (ds.set i e) = true
  | [], _, _ => rfl
  | d :: ds, 0, h => by
    rw [nls_cons, Bool.and_eq_true] at h
    rw [List.set_cons_zero, nls_cons, he, h.2]; rfl
  | d :: ds, i + 1, h => by
    rw [nls_cons, Bool.and_eq_true] at h
    rw [List.set_cons_succ, nls_cons, h.1, nls_set he h.2]; rfl
end CI

/-! N25: x in range(..) -/
namespace CI
open PySem PySem.Spec PyProof.Rows L2
section
variable {X : Cx} {a b c : Expr} {fa fb fc : Ef} {p pos pos2 : Pos}
def rInR (neg : Bool) : R2 := fun x y H Q => ∃ i ad lo hi, x = V.int i ∧ y = V.ref ad ∧ H ad = some (.rng lo hi) ∧ Q (.bl (if neg then !decide (lo ≤ i ∧ i < hi) else decide (lo ≤ i ∧ i < hi))) H
theorem op_inR : OpR X (compareOp .In) (rInR false) := op_in_rng
/-- x in range(lo, hi) -/
def cInR (neg : Bool) (fa fb fc : Ef) : Ef := fun ρ M => (fa ρ M).bind fun p => (fb ρ p.2).bind fun q => (fc ρ q.2).bind fun r => match p.1.d, q.1.d, r.1.d with
  | .int i, .int lo, .int hi => some (.val (.bl (if neg then !decide (lo ≤ i ∧ i < hi) else decide (lo ≤ i ∧ i < hi))), r.2)
  | _, _, _ => none
theorem inR_of {neg : Bool} {σ : L2.St} {H : Hp} {Q : VK} (h : tE X.K (cInR neg fa fb fc) σ H Q) :
    tE X.K fa σ H fun x H1 => tE X.K fb σ H1 fun y H2 => tE X.K fc σ H2 fun z H3 => ∃ lo hi, [y, z] = [V.int lo, V.int hi] ∧ ∀ q, H3 q = none → rInR neg x (.ref q) (upd H3 q (.rng lo hi)) Q := by
  obtain ⟨ρ, M, m, z, M', rs, w, hf, P⟩ := h
  unfold cInR at hf
  cases ea : fa ρ M with
  | none => rw [ea] at hf; cases hf
  | some p =>
    cases eb : fb ρ p.2 with
    | none => simp [ea, eb] at hf
    | some q =>
      cases ec : fc ρ q.2 with
      | none => simp [ea, eb, ec] at hf
      | some r =>
        simp only [ea, eb, ec, Option.bind_some] at hf
        refine bindE rs w ea fun H1 m1 v1 e1 w1 rs1 r1 => bindE rs1 w1 eb fun H2 m2 v2 e2 w2 rs2 r2 => bindE rs2 w2 ec fun H3 m3 v3 e3 w3 rs3 r3 => ?_
        split at hf
        · rename_i i lo hi h1 h2 h3
          cases hf
          rw [h1, Rl] at r1; subst r1
          rw [h2, Rl] at r2; subst r2
          rw [h3, Rl] at r3; subst r3
          refine ⟨lo, hi, rfl, fun ad hn => ⟨i, ad, lo, hi, rfl, rfl, upd_same, ?_⟩⟩
          exact (P.ext (((e1.trans e2).trans e3).trans (.new hn))).val (w3.new hn) (by rw [Rl])
        · cases hf
def cInR1 (neg : Bool) (fa fc : Ef) : Ef := cInR neg fa (cInt 0) fc
theorem ct_inR2 {op : CmpOp} {neg : Bool} (ho : OpR X (compareOp op) (rInR neg)) (hg : Gl X "range") (hm : X.mg "range" = none) (ha : CEx X a fa) (hb : CEx X b fb) (hc : CEx X c fc) (hk : behindInMarks op (.Call (.Name "range" p) [b, c] [] pos2) = false := by rfl)
    (na : starEach [b, c] X.env = (false, eval b X.env) :: starEach [c] X.env := by rfl) (nb : starEach [c] X.env = (false, eval c X.env) :: starEach [] X.env := by rfl) (hpl : (backTo pos2 (starEach [c] X.env)).any (·.1) = false := by rfl) :
    CTx X (.Compare a [op] [.Call (.Name "range" p) [b, c] [] pos2] pos) (toB (cInR neg fa fb fc)) :=
  PT.imp (pt_cmpR ho ha (pe_callTy cr_range2 hg hm (by decide +kernel) (pa_cons hb (pa_cons hc pa_nil nb) na) (by decide) (by decide) na hpl) hk) fun σ H Q h => inR_of (tst_of h)
def inR3 (neg : Bool) (d e : D) (r : Rz × Mem) : Option (Rz × Mem) := match d, e, r.1.d with
  | .int i, .int lo, .int hi => some (.val (.bl (if neg then !decide (lo ≤ i ∧ i < hi) else decide (lo ≤ i ∧ i < hi))), r.2)
  | _, _, _ => none
def inR2 (neg : Bool) (fc : Ef) (ρ : Slots) (d : D) (q : Rz × Mem) : Option (Rz × Mem) := (fc ρ q.2).bind (inR3 neg d q.1.d)
def inR1 (neg : Bool) (fb fc : Ef) (ρ : Slots) (p : Rz × Mem) : Option (Rz × Mem) := (fb ρ p.2).bind (inR2 neg fc ρ p.1.d)
variable {ρ : Slots} {M : Mem} {neg : Bool} {r : Rz} {d : D} {i lo hi : Int}
@[simp] theorem cInR_ap : cInR neg fa fb fc ρ M = bnd (inR1 neg fb fc ρ) (fa ρ M) := rfl
@[simp] theorem cInR1_ap : cInR1 neg fa fc ρ M = bnd (inR1 neg (cInt 0) fc ρ) (fa ρ M) := rfl
@[simp] theorem inR1_ap : inR1 neg fb fc ρ (r, M) = bnd (inR2 neg fc ρ r.d) (fb ρ M) := rfl
@[simp] theorem inR2_ap : inR2 neg fc ρ d (r, M) = bnd (inR3 neg d r.d) (fc ρ M) := rfl
@[simp] theorem inR3_ap : inR3 neg (.int i) (.int lo) (.val (.int hi), M) = some (.val (.bl (if neg then !decide (lo ≤ i ∧ i < hi) else decide (lo ≤ i ∧ i < hi))), M) := rfl
end
end CI

/-! N26: small helps for walks: == of objects, results that hold an object, loops with an accumulating list -/
namespace CI
open PySem PySem.Spec PyProof.Rows L2
theorem py_loc {M : Mem} {k : Nat} {es : List D} (hk : M[k]? = some (.lst es)) : py M (.loc k) = py M (.lst es) := by
  have a : py M (.loc k) = (py0s es).map PyData.list := by
    show (match M[k]? with | some (.lst ds) => (py0s ds).map PyData.list | _ => none) = _
    rw [hk]
  have b : py M (.lst es) = (py0s es).map PyData.list := by
    show py0 (.lst es) = _
    rw [py0]
  rw [a, b]
theorem eqB_locL {M : Mem} {k : Nat} {es : List D} {e : D} (hk : M[k]? = some (.lst es)) : eqB M (.loc k) e = eqB M (.lst es) e := by
  have h := py_loc hk
  unfold eqB
  cases e <;> simp only [h]
theorem eqB_locR {M : Mem} {k : Nat} {es : List D} {e : D} (hk : M[k]? = some (.lst es)) : eqB M e (.loc k) = eqB M e (.lst es) := by
  have h := py_loc hk
  unfold eqB
  cases e <;> simp only [h]
theorem strOk_lit (s : String) : PyData.strOk (Str.ofString s) = true := by
  rw [Str.ofString_eq_toList]
  unfold PyData.strOk
  simp only [List.all_toArray, List.all_map, List.all_eq_true, Function.comp, decide_eq_true_eq]
  intro c _
  have := c.valid
  show c.val.toNat < 1114112
  rcases this with h | h
  · have : c.val.toNat < 55296 := h
    omega
  · exact h.2
end CI

/-! N27: lists lent to a def that only reads them -/
namespace CI
open PySem PySem.Spec PyProof.Rows L2
mutual
/-- no list and no place in it: numbers, words, tuples of such -/
def flat : D → Bool
  | .tup ds => flats ds
  | .lst _ => false
  | .loc _ => false
  | _ => true
def flats : List D → Bool
  | [] => true
  | d :: ds => flat d && flats ds
end
def flatR : Rz → Bool
  | .val d => flat d
  | .new ds => flats ds
def lend (M : Mem) (d : D) : D := match d with
  | .loc k => match M[k]? with
    | some (.lst ds) => .lst ds
    | _ => .loc k
  | d => d
def cLend1 (F : Fn) (p : List D × Mem) : Option (Rz × Mem) :=
  if nls 0 (p.1.map (lend p.2)) = true then (F (p.1.map (lend p.2)) []).bind fun q => if q.2 = [] ∧ flatR q.1 = true then some (q.1, p.2) else none else none
def cLend (F : Fn) (g : Af) : Ef := fun ρ M => (g ρ M).bind (cLend1 F)
section
variable {K : PySem.W.Frag} {H : Hp} {m : List Addr} {M : Mem}
mutual
theorem Rl.up : ∀ {d : D} {v : V}, flat d = true → Rl K H [] d v → Rl K H m d v
  | .non, _, _, h => h
  | .bl _, _, _, h => h
  | .int _, _, _, h => h
  | .str _, _, _, h => h
  | .scr _, _, _, h => h
  | .tup ds, _, f, h => by
    rw [Rl] at h ⊢
    obtain ⟨a, vs, h1, h2, h3⟩ := h
    rw [flat] at f
    exact ⟨a, vs, h1, h2, Rls.up f h3⟩
  | .lst _, _, f, _ => by rw [flat] at f; cases f
  | .loc _, _, f, _ => by rw [flat] at f; cases f
theorem Rls.up : ∀ {ds : List D} {vs : List V}, flats ds = true → Rls K H [] ds vs → Rls K H m ds vs
  | [], _, _, h => by rw [Rls] at h ⊢; exact h
  | d :: ds, _, f, h => by
    rw [Rls] at h ⊢
    obtain ⟨v, r, h1, h2, h3⟩ := h
    rw [flats, Bool.and_eq_true] at f
    exact ⟨v, r, h1, Rl.up f.1 h2, Rls.up f.2 h3⟩
end
end
section
variable {X : Cx} {k : Nat} {f : Addr} {fd : FuncData} {ps : List Str} {x m c : Str} {p pos apos : Pos} {e o : Expr} {es : List Expr} {G : Fn} {fo : Ef} {g : Af}
end
@[simp] theorem cLend_ap {F : Fn} {g : Af} {ρ : Slots} {M : Mem} : cLend F g ρ M = bnd (cLend1 F) (g ρ M) := rfl
end CI

/-! N28: written dicts: d[k], k in d for a dict of the module's top -/
namespace CI
open PySem PySem.Spec PyProof.Rows L2
def keyD : D → Option Key
  | .int i => some (.inl i)
  | .str x => some (.inr x)
  | _ => none
def lkD (kvs : List (Key × D)) (k : Key) : Option D := (kvs.find? fun p => decide (p.1 = k)).map (·.2)
@[simp] theorem lkD_nil {k : Key} : lkD [] k = none := rfl
@[simp] theorem lkD_cons {k : Key} {p : Key × D} {kvs : List (Key × D)} : lkD (p :: kvs) k = if p.1 = k then some p.2 else lkD kvs k := by
  unfold lkD
  rw [List.find?_cons]
  by_cases h : p.1 = k <;> simp [h]
theorem keyIs_inj {v : Value} {a b : Key} (ha : keyIs a v = true) (hb : keyIs b v = true) : a = b := by
  rcases keyIs_shape ha with ⟨i, t, rfl, rfl⟩ | ⟨x, t, rfl, rfl⟩
  · rcases keyIs_shape hb with ⟨j, u, rfl, e⟩ | ⟨y, u, rfl, e⟩
    · injection e with e1 _; rw [e1]
    · exact nomatch e
  · rcases keyIs_shape hb with ⟨j, u, rfl, e⟩ | ⟨y, u, rfl, e⟩
    · exact nomatch e
    · injection e with e1 _; rw [e1]
theorem ents_find {K : PySem.W.Frag} {w : World} (k : Key) : ∀ {es : List DictEntry} {ps : List (Key × D)}, Ents K w es ps → match lkD ps k with
    | some d => ∃ e, es.find? (fun e => keyIs k e.key) = some e ∧ cv K d e.val = true
    | none => es.find? (fun e => keyIs k e.key) = none
  | [], [], _ => rfl
  | [], _ :: _, h => h.elim
  | _ :: _, [], h => h.elim
  | e :: es, p :: ps, h => by
    obtain ⟨⟨h1, h2, h3⟩, h4⟩ := h
    rw [lkD_cons, List.find?_cons]
    by_cases z : p.1 = k
    · rw [if_pos z, ← z, h1]
      exact ⟨e, rfl, h3⟩
    · have n : keyIs k e.key = false := by
        cases q : keyIs k e.key with
        | false => rfl
        | true => exact absurd (keyIs_inj h1 q) z
      rw [if_neg z, n]
      exact ents_find k h4
theorem ents_keys {K : PySem.W.Frag} {w : World} : ∀ {es : List DictEntry} {ps : List (Key × D)}, Ents K w es ps → ∀ e ∈ es, ∃ k, keyIs k e.key = true ∧ e.hash = keyH w k
  | [], [], _, _, h => nomatch h
  | [], _ :: _, h, _, _ => h.elim
  | _ :: _, [], h, _, _ => h.elim
  | e :: es, p :: ps, h, x, hx => by
    rcases List.mem_cons.mp hx with rfl | q
    · exact ⟨p.1, h.1.1, h.1.2.1⟩
    · exact ents_keys h.2 x q
theorem WD.map {K : PySem.W.Frag} {w : World} {P : Program} {h : Heap} {a : Addr} {kvs : List (Key × D)} (W : WD K w a kvs) (X : K.In h) : ∃ f : Key → Option Value, h.MapOf (mixKind P w) a f ∧ (a == sysModules) = false ∧ ∀ k, match lkD kvs k with
    | some d => ∃ v x, f k = some v ∧ RelV x v ∧ ∀ H m, Rl K H m d x
    | none => f k = none := by
  obtain ⟨es, n, h1, h2, h3⟩ := W
  refine ⟨fun k => findBy keyIs es k, ⟨_, es, n, X _ _ h1, ⟨rfl, rfl, rfl⟩, rfl, fun e he => ?_, fun _ => rfl⟩, h2, fun k => ?_⟩
  · exact ents_keys h3 e (Array.mem_toList_iff.mpr he)
  · have := ents_find k h3
    have e1 : findBy keyIs es k = (es.toList.find? fun e => keyIs k e.key).map (·.val) := by
      obtain ⟨l⟩ := es
      unfold findBy
      rw [List.find?_toArray]
    dsimp only
    rw [e1]
    cases q : lkD kvs k with
    | none => rw [q] at this; simp only at this ⊢; rw [this]; rfl
    | some d =>
      rw [q] at this
      obtain ⟨e, h4, h5⟩ := this
      obtain ⟨x, h6, h7⟩ := cv_ok h5
      simp only
      rw [h4]
      exact ⟨e.val, x, rfl, h6, h7⟩
theorem key_rel {K : PySem.W.Frag} {H : Hp} {m : List Addr} {d : D} {k : Key} {y : V} {u : Value} (h : keyD d = some k) (r : Rl K H m d y) (ry : RelV y u) : keyIs k u = true := by
  cases d <;> first | (cases h; done) | skip
  · cases h; rw [Rl] at r; subst r; obtain ⟨t, rfl⟩ := ry; exact keyIs_int _ _
  · cases h; rw [Rl] at r; subst r; obtain ⟨t, rfl⟩ := ry; exact keyIs_str _ _
def rWx (K : PySem.W.Frag) (w : World) : R2 := fun x y H Q => ∃ a kvs d k e m, x = .ref a ∧ WD K w a kvs ∧ Rl K H m d y ∧ keyD d = some k ∧ lkD kvs k = some e ∧ ∀ v, (∀ H m, Rl K H m e v) → Q v H
theorem ix_w {X : Cx} : IxR X (rWx X.K X.w) := by
  intro value slice pins s σ H x y v u Q I rx ry h hs
  obtain ⟨a, kvs, d, k, e, m, rfl, W, r, hk, hl, q⟩ := h
  obtain rfl : v = Value.ref a := rx
  obtain ⟨f, hm, _, hf⟩ := W.map (P := X.prog) I.kIn
  have := hf k
  rw [hl] at this
  obtain ⟨v, z, h1, h2, h3⟩ := this
  exact tail_any hm.typeIs PySem.F.slot_dict_getitem.lookup (wpAny_getItem_of (knd := mixKind X.prog X.w) (key_rel hk r ry) hm h1 ⟨z, H, I.tok _, h2, q z h3⟩) hs
def rWin (K : PySem.W.Frag) (w : World) (neg : Bool) : R2 := fun y x H Q => ∃ a kvs d k m, x = .ref a ∧ WD K w a kvs ∧ Rl K H m d y ∧ keyD d = some k ∧ Q (.bl (neg != (lkD kvs k).isSome)) H
theorem some_w {kvs : List (Key × D)} {K : PySem.W.Frag} {f : Key → Option Value} {k : Key} (h : match lkD kvs k with | some d => ∃ v x, f k = some v ∧ RelV x v ∧ ∀ H m, Rl K H m d x | none => f k = none) : (f k).isSome = (lkD kvs k).isSome := by
  cases q : lkD kvs k with
  | none => rw [q] at h; simp only at h; rw [h]; rfl
  | some d => rw [q] at h; obtain ⟨v, x, h1, _⟩ := h; rw [h1]; rfl
theorem op_win {X : Cx} : OpR X (compareOp .In) (rWin X.K X.w false) := by
  intro pins s σ H y x u v Q I ry rx h
  obtain ⟨a, kvs, d, k, m, rfl, W, r, hk, q⟩ := h
  obtain rfl : v = Value.ref a := rx
  obtain ⟨f, hm, hd, hf⟩ := W.map (P := X.prog) I.kIn
  refine wpAny_in_of (knd := mixKind X.prog X.w) (key_rel hk r ry) hd hm ⟨.bl _, H, I.tok _, rfl, ?_⟩
  rw [some_w (hf k)]
  simpa using q
/-! ### expressions -/
def cGIx (kvs : List (Key × D)) (f : Ef) : Ef := fun ρ M => (f ρ M).bind fun p => (keyD p.1.d).bind fun k => (lkD kvs k).bind fun d => some (.val d, p.2)
def cGIn (neg : Bool) (kvs : List (Key × D)) (f : Ef) : Ef := fun ρ M => (f ρ M).bind fun p => (keyD p.1.d).bind fun k => some (.val (.bl (neg != (lkD kvs k).isSome)), p.2)
section
variable {X : Cx} {a b : Expr} {x : Str} {f : Ef} {p pos : Pos} {kvs : List (Key × D)} {ad : Addr}
theorem ce_gix (ha : PE X a (tC (.ref ad))) (W : WD X.K X.w ad kvs) (hb : CEx X b f) (hs : PlainIx b) : CEx X (.Subscript a b pos) (cGIx kvs f) := PE.imp (pe_ix ix_w ha hb hs) fun σ H Q ⟨ρ, M, m, z, M', rs, w, hf, P⟩ => by
  unfold cGIx at hf
  cases ea : f ρ M with
  | none => rw [ea] at hf; cases hf
  | some q =>
    rw [ea] at hf; simp only [Option.bind_some] at hf
    cases ek : keyD q.1.d with
    | none => rw [ek] at hf; cases hf
    | some k =>
      rw [ek] at hf; simp only [Option.bind_some] at hf
      cases el : lkD kvs k with
      | none => rw [el] at hf; cases hf
      | some e =>
        rw [el] at hf; cases hf
        refine bindE rs w ea fun H1 m1 v e1 w1 rs1 r1 => ?_
        exact ⟨ad, kvs, q.1.d, k, e, m1, rfl, W, r1, ek, el, fun v hv => P H1 m1 e1 w1 v (hv H1 m1)⟩
theorem ct_gin {op : CmpOp} {neg : Bool} (ho : OpR X (compareOp op) (rWin X.K X.w neg)) (ha : PE X a (tC (.ref ad))) (W : WD X.K X.w ad kvs) (hb : CEx X b f) (hm : behindInMarks op a = false) : CTx X (.Compare b [op] [a] pos) (toB (cGIn neg kvs f)) := PT.imp (pt_cmpR ho hb ha hm) fun σ H Q h => by
  have h2 := tst_of h
  obtain ⟨ρ, M, m, z, M', rs, w, hf, P⟩ := h2
  unfold cGIn at hf
  cases ea : f ρ M with
  | none => rw [ea] at hf; cases hf
  | some q =>
    rw [ea] at hf; simp only [Option.bind_some] at hf
    cases ek : keyD q.1.d with
    | none => rw [ek] at hf; cases hf
    | some k =>
      rw [ek] at hf; cases hf
      refine bindE rs w ea fun H1 m1 v e1 w1 rs1 r1 => ?_
      exact ⟨ad, kvs, q.1.d, k, m1, rfl, W, r1, ek, P H1 m1 e1 w1 _ rl_bl⟩
end
/-! ### reckoning -/
section
variable {ρ : Slots} {M : Mem} {f : Ef} {kvs : List (Key × D)} {neg : Bool}
def gix1 (kvs : List (Key × D)) (M : Mem) (k : Key) : Option (Rz × Mem) := (lkD kvs k).bind fun d => some (.val d, M)
def cGIx1 (kvs : List (Key × D)) (p : Rz × Mem) : Option (Rz × Mem) := (keyD p.1.d).bind (gix1 kvs p.2)
@[simp] theorem cGIx_ap : cGIx kvs f ρ M = bnd (cGIx1 kvs) (f ρ M) := rfl
end
end CI

/-! N29: dicts of one's own: displays, d[k], k in d, d[k] = v; results without what was made on the way -/
namespace CI
open PySem PySem.Spec PyProof.Rows L2
/-- in its place, or at the end -/
def putKD (kvs : List (Key × D)) (k : Key) (d : D) : List (Key × D) := if (kvs.any fun p => decide (p.1 = k)) = true then kvs.map (fun p => if p.1 = k then (p.1, d) else p) else kvs ++ [(k, d)]
def mergeKD (kvs more : List (Key × D)) : List (Key × D) := more.foldl (fun acc p => putKD acc p.1 p.2) kvs
section
variable {K : PySem.W.Frag} {H : Hp} {m : List Addr} {M : Mem}
theorem Rks.look {k : Key} : ∀ {kvs : List (Key × D)} {gs : List (Key × V)}, Rks K H m kvs gs → match lkD kvs k with
    | some d => ∃ v, valV gs k = some v ∧ Rl K H m d v
    | none => valV gs k = none
  | [], _, h => by rw [Rks] at h; subst h; rfl
  | (f, d) :: kvs, _, h => by
    rw [Rks] at h
    obtain ⟨v, r, rfl, h1, h2⟩ := h
    rw [lkD_cons]
    by_cases z : f = k
    · rw [if_pos z, valV_pos z]; exact ⟨v, rfl, h1⟩
    · rw [if_neg z, valV_neg z]; exact Rks.look h2
theorem Rks.any_ {k : Key} : ∀ {kvs : List (Key × D)} {gs : List (Key × V)}, Rks K H m kvs gs → (gs.any fun p => decide (p.1 = k)) = kvs.any fun p => decide (p.1 = k)
  | [], _, h => by rw [Rks] at h; subst h; rfl
  | (f, d) :: kvs, _, h => by
    rw [Rks] at h
    obtain ⟨v, r, rfl, h1, h2⟩ := h
    rw [List.any_cons, List.any_cons, Rks.any_ h2]
theorem Rks.repl {k : Key} {d : D} {v : V} (rd : Rl K H m d v) : ∀ {kvs : List (Key × D)} {gs : List (Key × V)}, Rks K H m kvs gs → Rks K H m (kvs.map fun p => if p.1 = k then (p.1, d) else p) (gs.map fun p => if p.1 = k then (p.1, v) else p)
  | [], _, h => by rw [Rks] at h; subst h; rw [List.map_nil, Rks]; rfl
  | (f, e) :: kvs, _, h => by
    rw [Rks] at h
    obtain ⟨u, r, rfl, h1, h2⟩ := h
    rw [List.map_cons, List.map_cons]
    by_cases z : f = k
    · rw [if_pos z, if_pos z, Rks]; exact ⟨v, _, rfl, rd, Rks.repl rd h2⟩
    · rw [if_neg z, if_neg z, Rks]; exact ⟨u, _, rfl, h1, Rks.repl rd h2⟩
theorem Rks.snoc {k : Key} {d : D} {v : V} (rd : Rl K H m d v) : ∀ {kvs : List (Key × D)} {gs : List (Key × V)}, Rks K H m kvs gs → Rks K H m (kvs ++ [(k, d)]) (gs ++ [(k, v)])
  | [], _, h => by rw [Rks] at h; subst h; rw [List.nil_append, List.nil_append, Rks]; exact ⟨v, [], rfl, rd, by rw [Rks]⟩
  | (f, e) :: kvs, _, h => by
    rw [Rks] at h
    obtain ⟨u, r, rfl, h1, h2⟩ := h
    rw [List.cons_append, List.cons_append, Rks]
    exact ⟨u, _, rfl, h1, Rks.snoc rd h2⟩
theorem Rks.put {k : Key} {d : D} {v : V} (rd : Rl K H m d v) {kvs : List (Key × D)} {gs : List (Key × V)} (h : Rks K H m kvs gs) : Rks K H m (putKD kvs k d) (putK gs k v) := by
  unfold putKD putK
  rw [h.any_]
  split
  · exact h.repl rd
  · exact h.snoc rd
theorem Rks.length : ∀ {kvs : List (Key × D)} {gs : List (Key × V)}, Rks K H m kvs gs → kvs.length = gs.length
  | [], _, h => by rw [Rks] at h; subst h; rfl
  | (f, e) :: kvs, _, h => by
    rw [Rks] at h
    obtain ⟨u, r, rfl, h1, h2⟩ := h
    rw [List.length_cons, List.length_cons, Rks.length h2]
theorem Rks.merge : ∀ {more : List (Key × D)} {ms : List (Key × V)} {kvs : List (Key × D)} {gs : List (Key × V)}, Rks K H m more ms → Rks K H m kvs gs → Rks K H m (mergeKD kvs more) (mergeK gs ms)
  | [], _, _, _, h, r => by rw [Rks] at h; subst h; exact r
  | (f, e) :: more, _, kvs, gs, h, r => by
    rw [Rks] at h
    obtain ⟨u, s, rfl, h1, h2⟩ := h
    show Rks K H m (mergeKD (putKD kvs f e) more) (mergeK (putK gs f u) s)
    exact Rks.merge h2 (r.put h1)
end
/-! ### displays -/
abbrev Pf := Slots → Mem → Option (List (Key × D) × Mem)
def pNilF : Pf := fun _ M => some ([], M)
def pConsF (fk fv : Ef) (r : Pf) : Pf := fun ρ M => (fk ρ M).bind fun p => (fv ρ p.2).bind fun q => (r ρ q.2).bind fun s => (keyD p.1.d).bind fun k => some ((k, q.1.d) :: s.1, s.2)
def tPf (K : PySem.W.Frag) (r : Pf) (trs : List (TE × TE)) : Prop := ∀ σ H (Q : List (V × V) → Hp → Prop), (∃ ρ M m kvs M', Rs K H m ρ σ ∧ Wd K H m M ∧ r ρ M = some (kvs, M') ∧ ∀ H1 m1 gs, Ext H m H1 m1 → Wd K H1 m1 M' → Rks K H1 m1 kvs gs → Q (gs.map fun p => (kV p.1, p.2)) H1) → tPairs trs σ H Q
structure CPs (X : Cx) (pos : Pos) (keys : List (Option Expr)) (values : List Expr) (r : Pf) : Prop where
  pps : ∃ trs, PPs X pos keys values trs ∧ tPf X.K r trs
  all : keys.all (·.isSome) = true
  len : keys.length = values.length
theorem key_kV {K : PySem.W.Frag} {H : Hp} {m : List Addr} {d : D} {k : Key} {y : V} (h : keyD d = some k) (r : Rl K H m d y) : y = kV k := by
  cases d <;> first | (cases h; done) | (cases h; rw [Rl] at r; subst r; rfl)
section
variable {X : Cx} {pos : Pos} {k v : Expr} {ks : List (Option Expr)} {vs : List Expr} {fk fv : Ef} {r : Pf}
theorem cp_nil : CPs X pos [] [] pNilF := ⟨⟨[], pps_nil, fun σ H Q ⟨ρ, M, m, kvs, M', rs, w, hf, P⟩ => by
  cases hf
  exact P H m [] .refl w (by rw [Rks])⟩, rfl, rfl⟩
theorem cp_cons (hk : CEx X k fk) (hv : CEx X v fv) (hr : CPs X pos ks vs r) : CPs X pos (some k :: ks) (v :: vs) (pConsF fk fv r) := by
  obtain ⟨⟨trs, h1, h2⟩, h3, h4⟩ := hr
  refine ⟨⟨_, pps_cons hk hv h1, fun σ H Q ⟨ρ, M, m, kvs, M', rs, w, hf, P⟩ => ?_⟩, by simpa using h3, by simp [h4]⟩
  unfold pConsF at hf
  cases ea : fk ρ M with
  | none => rw [ea] at hf; cases hf
  | some p =>
    rw [ea] at hf; simp only [Option.bind_some] at hf
    cases eb : fv ρ p.2 with
    | none => rw [eb] at hf; cases hf
    | some q =>
      rw [eb] at hf; simp only [Option.bind_some] at hf
      cases ec : r ρ q.2 with
      | none => rw [ec] at hf; cases hf
      | some s =>
        rw [ec] at hf; simp only [Option.bind_some] at hf
        cases ed : keyD p.1.d with
        | none => rw [ed] at hf; cases hf
        | some kk =>
          rw [ed] at hf; cases hf
          refine bindE rs w ea fun H1 m1 x e1 w1 rs1 r1 => bindE rs1 w1 eb fun H2 m2 y e2 w2 rs2 r2 => h2 σ H2 _ ⟨ρ, q.2, m2, s.1, s.2, rs2, w2, ec, fun H3 m3 gs e3 w3 r3 => ?_⟩
          have := P H3 m3 ((kk, y) :: gs) ((e1.trans e2).trans e3) w3 (by rw [Rks]; exact ⟨y, gs, rfl, r2.ext e3, r3⟩)
          rw [List.map_cons] at this
          rw [key_kV ed r1]
          exact this
def cDisp (r : Pf) : Ef := fun ρ M => (r ρ (M ++ [.dct []])).bind fun p => match p.2[M.length]? with
  | some (.dct []) => if p.1.length ≤ 15 then some (.val (.loc M.length), p.2.set M.length (.dct (mergeKD [] p.1))) else none
  | _ => none
theorem ce_disp {keys : List (Option Expr)} {values : List Expr} (h : CPs X pos keys values r) (h0 : keys ≠ []) (h15 : keys.length ≤ 15) : CEx X (.Dict keys values pos) (cDisp r) := by
  obtain ⟨⟨trs, h1, h2⟩, h3, h4⟩ := h
  refine PE.imp (pe_disp h1 h3 h4 h0 h15) fun σ H Q ⟨ρ, M, m, z, M', rs, w, hf, P⟩ => ?_
  intro p hp
  unfold cDisp at hf
  cases ea : r ρ (M ++ [.dct []]) with
  | none => rw [ea] at hf; cases hf
  | some q =>
    rw [ea] at hf; simp only [Option.bind_some] at hf
    split at hf
    · rename_i hd
      split at hf
      · rename_i hl
        cases hf
        have hlen := w.len
        obtain ⟨w1, e1⟩ := w.push (o := .dct []) (u := .dK []) hp ⟨[], upd_same, by rw [Rks]⟩
        refine h2 σ _ _ ⟨ρ, _, _, q.1, q.2, rs.ext e1, w1, ea, fun H1 m1 gs e2 w2 r2 => ?_⟩
        obtain ⟨a, ha, gs0, hb, r0⟩ := w2.get hd
        have ha2 : m1[M.length]? = some p := e2.get (by rw [← hlen, List.getElem?_append_right (Nat.le_refl _)]; simp)
        rw [ha] at ha2; cases ha2
        rw [Rks] at r0; subst r0
        refine ⟨hb, gs, rfl, by rw [← r2.length]; exact hl, ?_⟩
        have e3 := w2.ext_set (u := .dK (mergeK [] gs)) ha
        refine P _ m1 ((e1.trans e2).trans e3) (w2.set ha ⟨mergeK [] gs, upd_same, Rks.merge (r2.ext e3) (by rw [Rks])⟩) _ ?_
        rw [Rl]
        exact ⟨_, rfl, ha⟩
      · cases hf
    · cases hf
def cDNew : Ef := fun _ M => some (.val (.loc M.length), M ++ [.dct []])
theorem ce_dnew : CEx X (.Dict [] [] pos) cDNew := PE.imp pe_dnewK fun σ H Q ⟨ρ, M, m, z, M', rs, w, hf, P⟩ => fun p hp => by
  cases hf
  obtain ⟨w1, e1⟩ := w.push (o := .dct []) (u := .dK []) hp ⟨[], upd_same, by rw [Rks]⟩
  refine P _ _ e1 w1 (.ref p) ?_
  rw [Rl]
  exact ⟨p, rfl, by rw [← w.len, List.getElem?_append_right (Nat.le_refl _)]; simp⟩
end
/-! ### d[k], k in d -/
def dctAt (M : Mem) (d : D) : Option (List (Key × D)) := match d with
  | .loc k => match M[k]? with
    | some (.dct kvs) => some kvs
    | _ => none
  | _ => none
theorem dctAt_ok {K : PySem.W.Frag} {H : Hp} {m : List Addr} {M : Mem} {d : D} {x : V} {kvs : List (Key × D)} (w : Wd K H m M) (r : Rl K H m d x) (h : dctAt M d = some kvs) : ∃ k a gs, d = .loc k ∧ m[k]? = some a ∧ x = .ref a ∧ H a = some (.dK gs) ∧ Rks K H m kvs gs := by
  cases d with
  | loc k =>
    unfold dctAt at h; simp only at h
    split at h
    · rename_i kvs' hk
      cases h
      obtain ⟨a, ha, gs, h1, h2⟩ := w.get hk
      rw [Rl] at r
      obtain ⟨b, rfl, hb⟩ := r
      rw [ha] at hb; cases hb
      exact ⟨k, a, gs, rfl, ha, rfl, h1, h2⟩
    · cases h
  | _ => cases h
def cDGet (fd fk : Ef) : Ef := fun ρ M => (fd ρ M).bind fun p => (fk ρ p.2).bind fun q => (dctAt q.2 p.1.d).bind fun kvs => (keyD q.1.d).bind fun k => (lkD kvs k).bind fun d => some (.val d, q.2)
def cDIn (neg : Bool) (fk fd : Ef) : Ef := fun ρ M => (fk ρ M).bind fun q => (fd ρ q.2).bind fun p => (dctAt p.2 p.1.d).bind fun kvs => (keyD q.1.d).bind fun k => some (.val (.bl (neg != (lkD kvs k).isSome)), p.2)
section
variable {X : Cx} {pos pos' : Pos} {o i value : Expr} {fd fk fv : Ef}
theorem ce_dget (hu : X.A.units + 1 < cLine) (ho : CEx X o fd) (hi : CEx X i fk) (hs : NoSl i) : CEx X (.Subscript o i pos) (cDGet fd fk) := PE.imp (pe_dget hu ho hi hs) fun σ H Q ⟨ρ, M, m, z, M', rs, w, hf, P⟩ => by
  unfold cDGet at hf
  cases ea : fd ρ M with
  | none => rw [ea] at hf; cases hf
  | some p =>
    rw [ea] at hf; simp only [Option.bind_some] at hf
    cases eb : fk ρ p.2 with
    | none => rw [eb] at hf; cases hf
    | some q =>
      rw [eb] at hf; simp only [Option.bind_some] at hf
      cases ec : dctAt q.2 p.1.d with
      | none => rw [ec] at hf; cases hf
      | some kvs =>
        rw [ec] at hf; simp only [Option.bind_some] at hf
        cases ed : keyD q.1.d with
        | none => rw [ed] at hf; cases hf
        | some k =>
          rw [ed] at hf; simp only [Option.bind_some] at hf
          cases el : lkD kvs k with
          | none => rw [el] at hf; cases hf
          | some e =>
            rw [el] at hf; cases hf
            refine bindE rs w ea fun H1 m1 x e1 w1 rs1 r1 => bindE rs1 w1 eb fun H2 m2 y e2 w2 rs2 r2 => ?_
            obtain ⟨n, a, gs, h1, h2, rfl, h3, h4⟩ := dctAt_ok w2 (r1.ext e2) ec
            have := h4.look (k := k)
            rw [el] at this
            obtain ⟨v, h5, h6⟩ := this
            refine ⟨a, v, rfl, ?_, P H2 m2 (e1.trans e2) w2 v h6⟩
            rw [← h5, key_kV ed r2]
            exact DGet.k h3
theorem din_of {neg : Bool} {σ : L2.St} {H : Hp} {Q : VK} (h : tE X.K (cDIn neg fk fd) σ H Q) : tE X.K fk σ H fun y H1 => tE X.K fd σ H1 fun x H2 => ∃ a o, x = .ref a ∧ DGet H2 a y o ∧ Q (.bl (neg != o.isSome)) H2 := by
  obtain ⟨ρ, M, m, z, M', rs, w, hf, P⟩ := h
  unfold cDIn at hf
  cases ea : fk ρ M with
  | none => rw [ea] at hf; cases hf
  | some q =>
    rw [ea] at hf; simp only [Option.bind_some] at hf
    cases eb : fd ρ q.2 with
    | none => rw [eb] at hf; cases hf
    | some p =>
      rw [eb] at hf; simp only [Option.bind_some] at hf
      cases ec : dctAt p.2 p.1.d with
      | none => rw [ec] at hf; cases hf
      | some kvs =>
        rw [ec] at hf; simp only [Option.bind_some] at hf
        cases ed : keyD q.1.d with
        | none => rw [ed] at hf; cases hf
        | some k =>
          rw [ed] at hf; cases hf
          refine bindE rs w ea fun H1 m1 y e1 w1 rs1 r1 => bindE rs1 w1 eb fun H2 m2 x e2 w2 rs2 r2 => ?_
          obtain ⟨n, a, gs, h1, h2, rfl, h3, h4⟩ := dctAt_ok w2 r2 ec
          have := h4.look (k := k)
          refine ⟨a, valV gs k, rfl, by rw [key_kV ed (r1.ext e2)]; exact DGet.k h3, ?_⟩
          have es : (valV gs k).isSome = (lkD kvs k).isSome := by
            cases el : lkD kvs k with
            | none => rw [el] at this; simp only at this; rw [this]; rfl
            | some d => rw [el] at this; obtain ⟨v, h5, _⟩ := this; rw [h5]; rfl
          rw [es]
          exact P H2 m2 (e1.trans e2) w2 _ rl_bl
theorem pc_in_of (hu : X.A.units + 1 < cLine) (hi : CEx X i fk) (ho : CEx X o fd) : PC X .In i o (tE X.K (cDIn false fk fd)) := ⟨fun pins s σ H Q I h => (pc_din hu hi ho).run pins s σ H Q I (by
  obtain ⟨ρ, M, m, z, M', rs, w, hf, P⟩ := din_of h
  exact ⟨ρ, M, m, z, M', rs, w, hf, by simpa using P⟩)⟩
theorem ct_pc {op : CmpOp} {f : Ef} (h : PC X op i o (tE X.K f)) (hm : behindInMarks op o = false) : CTx X (.Compare i [op] [o] pos) (toB f) := PT.imp (pt_cmp h hm) fun σ H Q q => tst_of q
/-! ### d[k] = v -/
def sDSet (fd fk fv : Ef) : Sf := fun ρ M => (fv ρ M).bind fun v => (fd ρ v.2).bind fun p => (fk ρ p.2).bind fun q => (dctAt q.2 p.1.d).bind fun kvs => (keyD q.1.d).bind fun k => match p.1.d with
  | .loc n => if kvs.length < sizeLine then some (.nx, ρ, q.2.set n (.dct (putKD kvs k v.1.d))) else none
  | _ => none
theorem cs_dset (hu : X.A.units + 1 < cLine) (ho : CEx X o fd) (hi : CEx X i fk) (hv : CEx X value fv) (hs : swapsWith value (some (.Subscript o i pos')) pos.line X.env = pure false := by rfl) :
    CSx X (.Assign [.Subscript o i pos'] value pos) (sDSet fd fk fv) := PS.imp (ps_dput hu ho hi hv hs) fun Dn σ H ⟨ρ, M, m, fl, ρ', M', rs, w, hf, P⟩ => by
  unfold sDSet at hf
  cases ez : fv ρ M with
  | none => rw [ez] at hf; cases hf
  | some v =>
    rw [ez] at hf; simp only [Option.bind_some] at hf
    cases ea : fd ρ v.2 with
    | none => rw [ea] at hf; cases hf
    | some p =>
      rw [ea] at hf; simp only [Option.bind_some] at hf
      cases eb : fk ρ p.2 with
      | none => rw [eb] at hf; cases hf
      | some q =>
        rw [eb] at hf; simp only [Option.bind_some] at hf
        cases ec : dctAt q.2 p.1.d with
        | none => rw [ec] at hf; cases hf
        | some kvs =>
          rw [ec] at hf; simp only [Option.bind_some] at hf
          cases ed : keyD q.1.d with
          | none => rw [ed] at hf; cases hf
          | some k =>
            rw [ed] at hf; simp only [Option.bind_some] at hf
            refine bindE rs w ez fun H1 m1 x e1 w1 rs1 r1 => bindE rs1 w1 ea fun H2 m2 y e2 w2 rs2 r2 => bindE rs2 w2 eb fun H3 m3 z e3 w3 rs3 r3 => ?_
            obtain ⟨n, a, gs, h1, h2, rfl, h3, h4⟩ := dctAt_ok w3 (r2.ext e3) ec
            rw [h1] at hf
            simp only at hf
            split at hf
            · rename_i hl
              cases hf
              have e4 := w3.ext_set (u := .dK (putK gs k x)) h2
              refine ⟨a, upd H3 a (.dK (putK gs k x)), rfl, by rw [key_kV ed r3]; exact DPut.k h3 (by rw [← h4.length]; exact hl), ?_⟩
              exact P _ m3 σ (((e1.trans e2).trans e3).trans e4) (w3.set h2 ⟨_, upd_same, (h4.ext e4).put (((r1.ext e2).ext e3).ext e4)⟩) (rs3.ext e4)
            · cases hf
/-! ### a result without what was made on the way -/
end
end CI

/-! N30: attributes as targets of an unpacking; xs.count(k); sep.join(xs) -/
namespace CI
open PySem PySem.Spec PyProof.Rows L2
section
variable {X : Cx} {o : Expr} {n : Str} {pos : Pos} {fo : Ef} {cs : List Str}
/-! ### count, join -/
end
end CI

/-! N31: a new list inside a returned tuple becomes a value -/
namespace CI
open PySem PySem.Spec PyProof.Rows L2
mutual
def resD (n : Nat) (Me : Mem) : D → Option D
  | .loc k => if k < n then some (.loc k) else match Me[k]? with
    | some (.lst ds) => if nls n ds = true then some (.lst ds) else none
    | _ => none
  | .tup ds => (resDs n Me ds).map .tup
  | .lst ds => if nls n ds = true then some (.lst ds) else none
  | .non => some .non
  | .bl b => some (.bl b)
  | .int i => some (.int i)
  | .str x => some (.str x)
  | .scr x => some (.scr x)
def resDs (n : Nat) (Me : Mem) : List D → Option (List D)
  | [] => some []
  | d :: ds => (resD n Me d).bind fun e => (resDs n Me ds).map fun es => e :: es
end
section
variable {K : PySem.W.Frag} {H H0 : Hp} {m l : List Addr} {M Me : Mem}
open Classical in
noncomputable def finR (M : Mem) (r : Rz) (Me : Mem) : Rz × Mem := match r with
  | .val (.tup ds) => if trimOk M Me then (match resD M.length Me (.tup ds) with
    | some e => (.val e, Me.take M.length)
    | none => finK M r Me) else finK M r Me
  | r => finK M r Me
end
noncomputable def mkFnR (np ns : Nat) (body : Sf) : Fn := fun ds M => if ds.length = np then (match body (ds.map some ++ List.replicate (ns - ds.length) none) M with
  | some (.rt r, _, Me) => some (finR M r Me)
  | some (.nx, _, Me) => some (finR M (.val .non) Me)
  | _ => none) else none
section
variable {P : Program} {w : World} {K : PySem.W.Frag} {mg : Str → Option Value} {base : Heap} {x qual : Str} {params : Arguments} {body : List Stmt} {scope : Scope} {f : Addr} {fd : FuncData}
end
end CI

/-! N32: the least and greatest of a list of ints; range with a step -/
namespace CI
open PySem PySem.Spec PyProof.Rows L2
section
variable {X : Cx}
end
/-! ### range with a step -/
section
variable {K : PySem.W.Frag} {H : Hp} {m : List Addr} {M : Mem}
end
section
variable {X : Cx} {tg e a b c : Expr} {f fa fb fc : Ef} {p pos : Pos}
end
end CI

/-! N33: the two ways of a world, where the top holds a dict -/
namespace CI
open PySem PySem.Spec PyProof.Rows L2
end CI

/-! N34: in of a tuple of data of any depth -/
namespace CI
open PySem PySem.Spec PyProof.Rows L2
section
variable {X : Cx}
end
end CI

/-! N35: a op b op' c op'' d -/
namespace CI
open PySem PySem.Spec PyProof.Rows L2
section
variable {X : Cx} {a b c d : Expr} {pos : Pos} {fa fb fc fd : Ef} {o o' o'' : Bop}
end
end CI

/-! N36: == of dicts whose values are data -/
namespace CI
open PySem PySem.Spec PyProof.Rows L2
section
variable {X : Cx}
/-- what each key of ks has in ls, compared -/
inductive HitV (K : PySem.W.Frag) (H : Hp) (ls : List (Key × V)) : List (Key × V) → Bool → Prop
  | nil : HitV K H ls [] true
  | cons {k : Key} {v y : V} {r : List (Key × V)} {p q : PyData} {b : Bool} : valV ls k = some y → Dp K H v p → Dp K H y q → SeqAt.shaped p = true → SeqAt.shaped q = true → HitV K H ls r b → HitV K H ls ((k, v) :: r) (PyData.eqv p q && b)
end
end CI

/-! N37: a, b = x, y with names of the def (the machine stores them without a tuple) -/
namespace CI
open PySem PySem.Spec PyProof.Rows L2
section
variable {X : Cx}
end
end CI

/-! N38: loops over enumerate of an own list that stays as it is -/
namespace CI
open PySem PySem.Spec PyProof.Rows L2
structure YlE (K : PySem.W.Frag) (H0 : Hp) (m0 : List Addr) (J : It) (is ds : List D) (gk : Option Nat) : Prop where
  go : ∀ i H m, i < is.length → Ext H0 m0 H m → GdOk K gk ds H m → J.go i H
  yld : ∀ i d H m M x H', is[i]? = some d → Ext H0 m0 H m → GdOk K gk ds H m → Wd K H m M → J.yld i H x H' → Ext H m H' m ∧ Wd K H' m M ∧ Rl K H' m d x
  stop : ∀ H m, Ext H0 m0 H m → GdOk K gk ds H m → J.stop is.length H
theorem YlE.of {K : PySem.W.Frag} {H : Hp} {m : List Addr} {J : It} {is ds : List D} (y : Yl K H m J is none) : YlE K H m J is ds none :=
  ⟨fun i H1 m1 hi e _ => y.go i H1 m1 hi e gd_none, fun i d H1 m1 M1 x H' q e _ w z => y.yld i d H1 m1 M1 x H' q e gd_none w z, fun H1 m1 e _ => y.stop H1 m1 e gd_none⟩
section
variable {X : Cx} {iter : Expr} {body : List Stmt} {g : Gf} {fb : Sf} {pos : Pos}
end
end CI

/-! N39: exceptions as tagged values: calls of defs that may raise -/
namespace CI
open PySem PySem.Spec PyProof.Rows L2
def xTag : Str := "!raised"
def mkX (c f : Str) (d : D) : D := .tup [.str xTag, .str c, .str f, d]
def flatV : D → Option V
  | .int i => some (.int i)
  | .str x => some (.str x)
  | _ => none
def asX : D → Option (Str × Str × D)
  | .tup [.str t, .str c, .str f, .int i] => if t = xTag then some (c, f, .int i) else none
  | .tup [.str t, .str c, .str f, .str x] => if t = xTag then some (c, f, .str x) else none
  | _ => none
/-- what is wanted where the exception (c with f = d) leaves -/
def XOut (K : PySem.W.Frag) (H : Hp) (m : List Addr) (c f : Str) (d : D) (M' : Mem) (Q : XK) : Prop := ∀ H1 m1, Ext H m H1 m1 → Wd K H1 m1 M' →
  ∀ dx fs v, H1 dx = none → fs.lookup f = some v → flatV d = some v → Q (.ref (He.ga K c)) (some dx) (upd H1 dx (.xd fs))
def PostX (K : PySem.W.Frag) (H : Hp) (m : List Addr) (r : Rz) (M' : Mem) (Q : VK) (E : XK) : Prop := match asX r.d with
  | none => Post K H m r M' Q
  | some (c, f, d) => XOut K H m c f d M' E
theorem XOut.ext {K : PySem.W.Frag} {H H1 : Hp} {m m1 : List Addr} {c f : Str} {d : D} {M' : Mem} {Q : XK} (P : XOut K H m c f d M' Q) (e : Ext H m H1 m1) : XOut K H1 m1 c f d M' Q :=
  fun H2 m2 e2 w => P H2 m2 (e.trans e2) w
theorem PostX.ext {K : PySem.W.Frag} {H H1 : Hp} {m m1 : List Addr} {r : Rz} {M' : Mem} {Q : VK} {E : XK} (P : PostX K H m r M' Q E) (e : Ext H m H1 m1) : PostX K H1 m1 r M' Q E := by
  unfold PostX at P ⊢
  split at P
  · exact Post.ext P e
  · exact XOut.ext P e
section
variable {X : Cx} {k : Nat} {f : Addr} {fd : FuncData} {ps : List Str} {x m c : Str} {p pos apos : Pos} {e o : Expr} {es : List Expr} {G : Fn} {fo : Ef} {g : Af}
end
end CI

/-! N40: statements that may raise; try .. except -/
namespace CI
open PySem PySem.Spec PyProof.Rows L2
def XOutS (K : PySem.W.Frag) (H : Hp) (m : List Addr) (c f : Str) (d : D) (ρ' : Slots) (M' : Mem) (W : WX) : Prop := ∀ H1 m1 σ1, Ext H m H1 m1 → Wd K H1 m1 M' → Rs K H1 m1 ρ' σ1 →
  ∀ dx fs v, H1 dx = none → fs.lookup f = some v → flatV d = some v → W (.ref (He.ga K c)) (some dx) σ1 (upd H1 dx (.xd fs))
def PostSX (K : PySem.W.Frag) (H : Hp) (m : List Addr) (fl : Fl) (ρ' : Slots) (M' : Mem) (Dn : Ends) (W : WX) : Prop := match fl with
  | .nx => PostN K H m ρ' M' Dn.nx
  | .bk => PostN K H m ρ' M' Dn.bk
  | .ct => PostN K H m ρ' M' Dn.ct
  | .rt r => match asX r.d with
    | none => Post K H m r M' Dn.rt
    | some (c, f, d) => XOutS K H m c f d ρ' M' W
theorem PostSX.ext {K : PySem.W.Frag} {H H1 : Hp} {m m1 : List Addr} {fl : Fl} {ρ' : Slots} {M' : Mem} {Dn : Ends} {W : WX} (P : PostSX K H m fl ρ' M' Dn W) (e : Ext H m H1 m1) : PostSX K H1 m1 fl ρ' M' Dn W := by
  cases fl with
  | nx => exact PostN.ext P e
  | bk => exact PostN.ext P e
  | ct => exact PostN.ext P e
  | rt r =>
    unfold PostSX at P ⊢
    dsimp only at P ⊢
    split at P
    · exact Post.ext P e
    · exact fun H2 m2 σ2 e2 w2 r2 => P H2 m2 σ2 (e.trans e2) w2 r2
section
variable {X : Cx} {st : Stmt} {rest : List Stmt} {f g : Sf} {fe fo : Ef} {ft : Tf} {e : Expr} {pos : Pos}
end
/-! ### the handler: the exception's field is known -/
structure Fct (a dx : Addr) (i : Nat) (fs : List (Str × V)) (σ : L2.St) (H : Hp) (m : List Addr) : Prop where
  sl : σ[i]? = some (some (.ref a))
  at_ : H dx = some (.xd fs)
  nm : dx ∉ m
theorem Fct.ext {a dx : Addr} {i : Nat} {fs : List (Str × V)} {σ : L2.St} {H H1 : Hp} {m m1 : List Addr} (h : Fct a dx i fs σ H m) (e : Ext H m H1 m1) : Fct a dx i fs σ H1 m1 := by
  refine ⟨h.sl, e.oth dx _ h.nm h.at_, fun q => ?_⟩
  obtain ⟨l, rfl, hl⟩ := e.pre
  rcases List.mem_append.mp q with q | q
  · exact h.nm q
  · have := hl dx q
    rw [h.at_] at this
    cases this
/-- what the handler knows: a the exception, dx its dict, dv its field fld, slot i -/
structure Hd where
  a : Addr
  dx : Addr
  i : Nat
  fld : Str
  dv : D
section
variable {X : Cx} {h : Hd} {a b : Expr} {rest : List Expr} {sts : List Stmt} {fa fb fe : Ef} {f : Sf} {pos : Pos} {o : Bop}
end
/-! ### try .. except C as e -/
theorem Rs.clr {K : PySem.W.Frag} {H : Hp} {m : List Addr} {ρ : Slots} {σ : L2.St} {x : Option V} (h : Rs K H m ρ σ) (i : Nat) : Rs K H m (ρ.set i none) (σ.set i x) := by
  refine ⟨by simp [h.1], fun j d q => ?_⟩
  by_cases z : j = i
  · subst z
    obtain ⟨z, _⟩ := List.getElem?_eq_some_iff.mp q
    rw [List.length_set] at z
    rw [List.getElem?_set_self z] at q
    cases q
  · rw [List.getElem?_set_ne (Ne.symm z)] at q
    rw [List.getElem?_set_ne (Ne.symm z)]
    exact h.2 j d q
section
variable {X : Cx} {c fld n : Str} {i : Nat} {body suite : List Stmt} {b₀ : Stmt} {np pos pos' : Pos} {fb : Sf} {hs : D → Sf} {hn : Sf}
end
end CI

/-! N41: defs that may raise; C(e) raised -/
namespace CI
open PySem PySem.Spec PyProof.Rows L2
section
variable {P : Program} {w : World} {K : PySem.W.Frag} {mg : Str → Option Value} {base : Heap} {x qual : Str} {params : Arguments} {body : List Stmt} {scope : Scope} {f : Addr} {fd : FuncData}
end
section
variable {X : Cx} {k : Nat} {fd : FuncData} {ps : List Str} {c f : Str} {p pos : Pos} {e : Expr} {fe : Ef}
end
/-! ### not e, as a value, of what is no bool -/
end CI

/-! N42: a new list as an object of one's own, within an expression -/
namespace CI
open PySem PySem.Spec PyProof.Rows L2
end CI

/-! N43: the result of a call that may raise is appended -/
namespace CI
open PySem PySem.Spec PyProof.Rows L2
end CI

/-! N44: `[d[x] for x in d if d[x] > 0]`, d an own dict of numbers -/
namespace CI
open PySem PySem.Spec PyProof.Rows L2
/-- of the entries' keys, in their order: what the whole dict holds there, if above 0 -/
def posK (all : List (Key × D)) : List (Key × D) → Option (List Int)
  | [] => some []
  | p :: r => match lkD all p.1 with
    | some (.int n) => (posK all r).map fun ys => if 0 < n then n :: ys else ys
    | _ => none
def cDPos (i : Nat) : Ef := fun ρ M => (slot ρ i).bind fun d => (dctAt M d).bind fun kvs => if kvs.length < sizeLine then (posK kvs kvs).map fun ys => (.new (ys.map D.int), M) else none
section
variable {K : PySem.W.Frag} {H : Hp} {m : List Addr} {M : Mem}
theorem Rks.keys : ∀ {kvs : List (Key × D)} {gs : List (Key × V)}, Rks K H m kvs gs → gs.map (·.1) = kvs.map (·.1)
  | [], _, h => by rw [Rks] at h; subst h; rfl
  | (f, d) :: kvs, _, h => by
    rw [Rks] at h
    obtain ⟨v, r, rfl, h1, h2⟩ := h
    rw [List.map_cons, List.map_cons, Rks.keys h2]
theorem rls_iV : ∀ (ys : List Int), Rls K H m (ys.map D.int) (ys.map V.int)
  | [] => by rw [List.map_nil, List.map_nil, Rls]
  | y :: ys => by
    rw [List.map_cons, List.map_cons, Rls]
    exact ⟨_, _, rfl, by rw [Rl], rls_iV ys⟩
end
theorem dpos_of {X : Cx} {i j : Nat} (hij : i ≠ j) {σ : L2.St} {H : Hp} {Q : VK} (hj : j < σ.length) (h : tE X.K (cDPos i) σ H Q) :
    tLockE (tLc (iKeys (tVar i)) (gName j) (tTest (tOp (rI0 fun i j => .bl (decide (j < i))) (tDGet (tVar i) (tVar j)) (tC (.int 0)))) (tDGet (tVar i) (tVar j)) [j]) σ H Q := by
  obtain ⟨ρ, M, m, z, M', rs, w, hf, P⟩ := h
  unfold cDPos at hf
  cases ea : slot ρ i with
  | none => rw [ea] at hf; cases hf
  | some d =>
    rw [ea] at hf
    simp only [Option.bind_some] at hf
    cases ec : dctAt M d with
    | none => rw [ec] at hf; cases hf
    | some kvs =>
      rw [ec] at hf
      simp only [Option.bind_some] at hf
      split at hf
      · rename_i hlen
        cases ek : posK kvs kvs with
        | none => rw [ek] at hf; cases hf
        | some ys =>
          rw [ek] at hf
          cases hf
          obtain ⟨v, hv, rv⟩ := rs.2 i d (slot_some ea)
          obtain ⟨k, a, gs, -, -, rfl, ha, rk⟩ := dctAt_ok w rv ec
          have kk := rk.keys
          have kl : gs.length = kvs.length := by have := congrArg List.length kk; simpa using this
          refine ⟨a, .dK gs, ha, trivial, fun od => ?_⟩
          refine ⟨_, hv, a, od, rfl, .inl ⟨gs, upd_same, fun D hD => ?_⟩⟩
          have hDa : D ≠ a := fun q => by rw [q, upd_same] at hD; cases hD
          have hD0 : H D = none := by rw [upd_ne hDa] at hD; exact hD
          refine ⟨fun i n H2 => n = gs.length - i ∧ i ≤ gs.length ∧ ∃ acc ys' : List Int, H2 = upd (upd H a (.frz od (.dK gs))) D (.lst (acc.map V.int)) ∧ posK kvs (kvs.drop i) = some ys' ∧ ys = acc ++ ys' ∧ acc.length ≤ i,
            ⟨gs.length, by simp, Nat.zero_le _, [], ys, rfl, by simpa using ek, rfl, Nat.le_refl _⟩, ?_⟩
          rintro t n H2 ⟨rfl, hle, acc, ys', rfl, hp, hy, hac⟩
          have hA : upd (upd H a (.frz od (.dK gs))) D (.lst (acc.map V.int)) a = some (.frz od (.dK gs)) := by rw [upd_ne (Ne.symm hDa), upd_same]
          by_cases hlt : t < gs.length
          · refine .inr ⟨⟨hA, hlt⟩, ?_⟩
            have hlt' : t < kvs.length := by omega
            have hd : kvs.drop t = kvs[t] :: kvs.drop (t + 1) := List.drop_eq_getElem_cons hlt'
            rw [hd] at hp
            unfold posK at hp
            split at hp
            · rename_i q hq
              cases er : posK kvs (kvs.drop (t + 1)) with
              | none => rw [er] at hp; cases hp
              | some zs =>
                rw [er] at hp
                have hp : (if 0 < q then q :: zs else zs) = ys' := by simpa using hp
                have lk := rk.look (k := kvs[t].1)
                rw [hq] at lk
                obtain ⟨u, lk1, lk2⟩ := lk
                rw [Rl] at lk2
                subst lk2
                refine ⟨fun H' => ∃ acc ys' : List Int, H' = upd (upd H a (.frz od (.dK gs))) D (.lst (acc.map V.int)) ∧ posK kvs (kvs.drop (t + 1)) = some ys' ∧ ys = acc ++ ys' ∧ acc.length ≤ t + 1,
                  fun H' ⟨acc, ys', h1, h2, h3, h4⟩ => ⟨gs.length - (t + 1), by omega, rfl, hlt, acc, ys', h1, h2, h3, h4⟩, fun x H' y => ?_⟩
                obtain ⟨rfl, k, v, hg, rfl⟩ := y
                have hk : k = kvs[t].1 := by
                  have h1 : (gs.map (·.1))[t]? = some k := by rw [List.getElem?_map, hg]; rfl
                  rw [kk, List.getElem?_map, List.getElem?_eq_getElem hlt'] at h1
                  cases h1; rfl
                subst hk
                have s1 : ((wipe σ [j]).set j (some (kV kvs[t].1)))[i]? = some (some (V.ref a)) := by
                  rw [List.getElem?_set_ne (Ne.symm hij), wipe_out (by simp; exact hij)]; exact hv
                have s2 : ((wipe σ [j]).set j (some (kV kvs[t].1)))[j]? = some (some (kV kvs[t].1)) := List.getElem?_set_self (by rw [wipe_length]; exact hj)
                have dg : DGet (upd (upd H a (.frz od (.dK gs))) D (.lst (acc.map V.int))) a (kV kvs[t].1) (some (.int q)) := .inl ⟨gs, _, .inr ⟨od, hA⟩, rfl, lk1.symm⟩
                refine ⟨(wipe_set (by simp)).trans wipe_idem, ⟨_, s1, _, s2, a, .int q, rfl, dg, ?_⟩⟩
                refine ⟨q, 0, rfl, rfl, _, rfl, ?_⟩
                show ite (decide (0 < q) = true) _ _
                by_cases hq0 : 0 < q
                · rw [if_pos (decide_eq_true hq0)]
                  rw [if_pos hq0] at hp
                  refine ⟨_, s1, _, s2, a, .int q, rfl, dg, acc.map V.int, upd_same, ?_, acc ++ [q], zs, ?_, er, ?_, ?_⟩
                  · rw [List.length_map]; omega
                  · rw [upd_upd, List.map_append]; rfl
                  · rw [hy, ← hp]; simp
                  · rw [List.length_append, List.length_singleton]; omega
                · rw [if_neg (show ¬ (decide (0 < q) = true) from fun z => hq0 (of_decide_eq_true z))]
                  rw [if_neg hq0] at hp
                  exact ⟨acc, zs, rfl, er, by rw [hp]; exact hy, by omega⟩
            · cases hp
          · have e : t = gs.length := by omega
            subst e
            refine .inl ⟨⟨hA, Nat.le_refl _⟩, hA, ?_⟩
            have hn : kvs.drop gs.length = [] := by rw [kl]; exact List.drop_length
            rw [hn] at hp
            cases hp
            rw [List.append_nil] at hy
            subst hy
            have := P H m .refl w (ys.map V.int) D (rls_iV ys) hD0
            have e : upd (upd (upd H a (.frz od (.dK gs))) D (.lst (ys.map V.int))) a (.dK gs) = upd H D (.lst (ys.map V.int)) := by
              funext b
              by_cases h1 : b = a
              · subst h1; rw [upd_same, upd_ne (Ne.symm hDa)]; exact ha.symm
              · rw [upd_ne h1]
                by_cases h2 : b = D
                · subst h2; rw [upd_same, upd_same]
                · rw [upd_ne h2, upd_ne h1, upd_ne h2]
            rw [e]
            exact this
      · cases hf
theorem ce_dpos {X : Cx} {i j : Nat} {y : Str} {tg iter dx kx dx' kx' : Expr} {scope : Scope} {pos p1 p2 p3 p4 : Pos} {jj} (hij : i ≠ j) (hu : X.A.units + 1 < cLine) (hc : X.calm = true) (hN : X.N.Nodup) (hi : PE X iter (tVar i)) (ok : BlkOk X.N X.env.scope scope [(y, j)])
    (hub : ∀ (s : Shared) (H : Hp) (C : Addr) (cl : List (Str × Addr)) (fp : List Addr), (X.blk s H scope (compEnvC scope cl C X.env) fp).A.units + 1 < cLine)
    (hg : ∀ (s : Shared) (H : Hp) (C : Addr) (cl : List (Str × Addr)) (fp : List Addr), PG (X.blk s H scope (compEnvC scope cl C X.env) fp) tg (gName j))
    (hd : ∀ (s : Shared) (H : Hp) (C : Addr) (cl : List (Str × Addr)) (fp : List Addr), PE (X.blk s H scope (compEnvC scope cl C X.env) fp) dx (tVar i) ∧ PE (X.blk s H scope (compEnvC scope cl C X.env) fp) kx (tVar j))
    (hd' : ∀ (s : Shared) (H : Hp) (C : Addr) (cl : List (Str × Addr)) (fp : List Addr), PE (X.blk s H scope (compEnvC scope cl C X.env) fp) dx' (tVar i) ∧ PE (X.blk s H scope (compEnvC scope cl C X.env) fp) kx' (tVar j))
    (ns : NoSl kx) (ns' : NoSl kx') (hm : behindInMarks .Gt (.Constant (.int 0) jj p3) = false) (hs : ∀ x, foldedSetIterable iter X.env x = pure x := by intro _; rfl) :
    CEx X (.ListComp (.Subscript dx kx p1) [⟨tg, iter, [.Compare (.Subscript dx' kx' p2) [.Gt] [.Constant (.int 0) jj p3] p4], 0⟩] scope pos) (cDPos i) := by
  refine ⟨fun pins s σ H Q I h => ?_⟩
  have hj : j < σ.length := by
    have h1 := ok.ix (y, j) (by simp)
    have h2 := (List.getElem?_eq_some_iff.mp h1).1
    rw [I.len]
    exact h2
  exact (pe_lock (pe_lc (own := [(y, j)]) hc hN (pi_keys hi) ok hg (fun s H C cl fp => pts_one (pt_cmpR op_gt (pe_dget (hub s H C cl fp) (hd' s H C cl fp).1 (hd' s H C cl fp).2 ns') pe_int hm)) (fun s H C cl fp => pe_dget (hub s H C cl fp) (hd s H C cl fp).1 (hd s H C cl fp).2 ns) hs)).run pins s σ H Q I (dpos_of hij hj h)
end CI

/-! T1: the typed reading: values of Lean types, an environment of such values, what stands for it in slots and memory -/
namespace TL
open PySem PySem.Spec PyProof.Rows L2 CI
class Enc (α : Type) where
  enc : α → D
  nle : ∀ (n : Nat) (x : α), nl n (enc x) = true
structure Tu (α : Type) where
  l : List α
  deriving DecidableEq
structure Scr where
  l : List Int
structure P3 (α β γ : Type) where
  a : α
  b : β
  c : γ
  deriving DecidableEq
structure P4 (α β γ δ : Type) where
  a : α
  b : β
  c : γ
  d : δ
  deriving DecidableEq
structure P5 (α β γ δ ε : Type) where
  a : α
  b : β
  c : γ
  d : δ
  e : ε
  deriving DecidableEq
section
variable {α β γ δ ε : Type} [Enc α] [Enc β] [Enc γ] [Enc δ] [Enc ε]
instance : Enc Int := ⟨.int, fun _ _ => rfl⟩
instance : Enc Bool := ⟨.bl, fun _ _ => rfl⟩
instance : Enc Str := ⟨.str, fun _ _ => rfl⟩
instance : Enc Unit := ⟨fun _ => .non, fun _ _ => rfl⟩
instance : Enc Scr := ⟨fun s => .scr s.l, fun _ _ => rfl⟩
theorem nls_enc (n : Nat) (xs : List α) : nls n (xs.map Enc.enc) = true := nls_of fun d hd => by
  obtain ⟨x, _, rfl⟩ := List.mem_map.mp hd
  exact Enc.nle n x
instance : Enc (List α) := ⟨fun xs => .lst (xs.map Enc.enc), fun n xs => by rw [nl_lst]; exact nls_enc n xs⟩
instance : Enc (Tu α) := ⟨fun xs => .tup (xs.l.map Enc.enc), fun n xs => by rw [nl_tup]; exact nls_enc n xs.l⟩
instance : Enc (α × β) := ⟨fun p => .tup [Enc.enc p.1, Enc.enc p.2], fun n p => by simp [Enc.nle]⟩
instance : Enc (P3 α β γ) := ⟨fun p => .tup [Enc.enc p.a, Enc.enc p.b, Enc.enc p.c], fun n p => by simp [Enc.nle]⟩
instance : Enc (P4 α β γ δ) := ⟨fun p => .tup [Enc.enc p.a, Enc.enc p.b, Enc.enc p.c, Enc.enc p.d], fun n p => by simp [Enc.nle]⟩
instance : Enc (P5 α β γ δ ε) := ⟨fun p => .tup [Enc.enc p.a, Enc.enc p.b, Enc.enc p.c, Enc.enc p.d, Enc.enc p.e], fun n p => by simp [Enc.nle]⟩
instance : Enc (Option α) := ⟨fun o => match o with | some x => Enc.enc x | none => .non, fun n o => by cases o <;> simp [Enc.nle]⟩
end
abbrev enc {α : Type} [Enc α] (x : α) : D := Enc.enc x

/-! ### objects -/
/-- memories in which no object points beyond the end -/
def Cl (M : Mem) : Prop := ∀ (j : Nat) (o : O), M[j]? = some o → nlO M.length o = true
abbrev Fp := Nat → Prop
def Frm (M : Mem) (fp : Fp) (M' : Mem) : Prop := M.length ≤ M'.length ∧ ∀ (j : Nat), j < M.length → ¬ fp j → M'[j]? = M[j]?
theorem Frm.refl {M : Mem} {fp : Fp} : Frm M fp M := ⟨Nat.le_refl _, fun _ _ _ => rfl⟩
theorem Frm.trans {M M1 M2 : Mem} {fp fp1 : Fp} (h : Frm M fp M1) (hf : ∀ j, fp1 j → fp j ∨ M.length ≤ j) (h1 : Frm M1 fp1 M2) : Frm M fp M2 :=
  ⟨Nat.le_trans h.1 h1.1, fun j hj hn => by
    rw [h1.2 j (Nat.lt_of_lt_of_le hj h.1) (fun q => by rcases hf j q with q | q <;> first | exact hn q | omega), h.2 j hj hn]⟩
class Rep (σ : Type) where
  rep : Mem → Nat → σ → Fp → Prop
  frame : ∀ {M M' k s fp}, rep M k s fp → (∀ j, fp j → M'[j]? = M[j]?) → rep M' k s fp
  bnd : ∀ {M k s fp}, rep M k s fp → ∀ j, fp j → j < M.length
  self : ∀ {M k s fp}, rep M k s fp → fp k
  trim : ∀ {M k s fp} {n : Nat}, rep M k s fp → k < n → (∀ (j : Nat) (o : O), j < n → M[j]? = some o → nlO n o = true) → ∀ j, fp j → j < n
/-- a list of a name of its own -/
structure LS (α : Type) where
  l : List α
theorem lt_of_get {M : Mem} {k : Nat} {o : O} (h : M[k]? = some o) : k < M.length := by
  rcases Nat.lt_or_ge k M.length with q | q
  · exact q
  · rw [List.getElem?_eq_none q] at h; cases h
instance {α : Type} [Enc α] : Rep (LS α) where
  rep M k s fp := M[k]? = some (.lst (s.l.map Enc.enc)) ∧ ∀ j, fp j ↔ j = k
  frame h hf := ⟨by rw [hf _ ((h.2 _).mpr rfl)]; exact h.1, h.2⟩
  bnd h j hj := by rw [(h.2 j).mp hj]; exact lt_of_get h.1
  self h := (h.2 _).mpr rfl
  trim h hk _ j hj := by rw [(h.2 j).mp hj]; exact hk
structure Ob (σ : Type) where
  v : Option σ

/-! ### environments -/
class SlotR (τ : Type) where
  rel : τ → Option D → Mem → Fp → Prop
  frame : ∀ {t d M M' fp}, rel t d M fp → (∀ j, fp j → M'[j]? = M[j]?) → rel t d M' fp
  bnd : ∀ {t d M fp}, rel t d M fp → ∀ j, fp j → j < M.length
  emp : τ
  emp_rel : ∀ d M, rel emp d M fun _ => False
  trim : ∀ {t d M fp} {n : Nat}, rel t d M fp → (∀ x, d = some x → nl n x = true) → (∀ (j : Nat) (o : O), j < n → M[j]? = some o → nlO n o = true) → ∀ j, fp j → j < n
instance {α : Type} [Enc α] : SlotR (Option α) where
  rel t d M fp := (∀ v, t = some v → d = some (Enc.enc v)) ∧ ∀ j, ¬ fp j
  frame h _ := h
  bnd h j hj := absurd hj (h.2 j)
  emp := none
  emp_rel d M := ⟨fun v h => (nomatch h), fun _ h => h⟩
  trim h _ _ j hj := absurd hj (h.2 j)
instance {σ : Type} [Rep σ] : SlotR (Ob σ) where
  rel t d M fp := match t.v with
    | none => ∀ j, ¬ fp j
    | some s => ∃ k, d = some (.loc k) ∧ Rep.rep M k s fp
  frame {t d M M' fp} h hf := by
    cases e : t.v with
    | none => rw [e] at h; exact h
    | some s => rw [e] at h; obtain ⟨k, h1, h2⟩ := h; exact ⟨k, h1, Rep.frame h2 hf⟩
  bnd {t d M fp} h j hj := by
    cases e : t.v with
    | none => rw [e] at h; exact absurd hj (h j)
    | some s => rw [e] at h; obtain ⟨k, h1, h2⟩ := h; exact Rep.bnd h2 j hj
  emp := ⟨none⟩
  emp_rel d M := fun _ h => h
  trim {t d M fp n} h hd hM j hj := by
    cases e : t.v with
    | none => rw [e] at h; exact absurd hj (h j)
    | some s =>
      rw [e] at h
      obtain ⟨k, h1, h2⟩ := h
      have := hd _ h1
      rw [nl_loc] at this
      exact Rep.trim h2 (of_decide_eq_true this) hM j hj
class EnvR (E : Type) where
  rel : E → Slots → Mem → Fp → Prop
  frame : ∀ {e ρ M M' fp}, rel e ρ M fp → (∀ j, fp j → M'[j]? = M[j]?) → rel e ρ M' fp
  bnd : ∀ {e ρ M fp}, rel e ρ M fp → ∀ j, fp j → j < M.length
  keep : List Bool → E → E
  keep_rel : ∀ {e ρ M fp} kl, rel e ρ M fp → ∃ fp', rel (keep kl e) (keepD kl ρ) M fp' ∧ ∀ j, fp' j → fp j
  trim : ∀ {e ρ M fp} {n : Nat}, rel e ρ M fp → nlS n ρ = true → (∀ (j : Nat) (o : O), j < n → M[j]? = some o → nlO n o = true) → ∀ j, fp j → j < n
instance : EnvR Unit where
  rel _ _ _ fp := ∀ j, ¬ fp j
  frame h _ := h
  bnd h j hj := absurd hj (h j)
  keep _ e := e
  keep_rel _ h := ⟨_, h, fun _ q => q⟩
  trim h _ _ j hj := absurd hj (h j)
def keepC {τ E : Type} [SlotR τ] (kE : List Bool → E → E) : List Bool → τ × E → τ × E
  | true :: bs, e => (e.1, kE bs e.2)
  | false :: bs, e => (SlotR.emp, kE bs e.2)
  | [], e => e
instance {τ E : Type} [SlotR τ] [EnvR E] : EnvR (τ × E) where
  rel e ρ M fp := ∃ d ρ' f1 f2, ρ = d :: ρ' ∧ SlotR.rel e.1 d M f1 ∧ EnvR.rel e.2 ρ' M f2 ∧ (∀ j, f1 j → ¬ f2 j) ∧ ∀ j, fp j ↔ f1 j ∨ f2 j
  frame {e ρ M M' fp} h hf := by
    obtain ⟨d, ρ', f1, f2, h1, h2, h3, h4, h5⟩ := h
    exact ⟨d, ρ', f1, f2, h1, SlotR.frame h2 fun j q => hf j ((h5 j).mpr (.inl q)), EnvR.frame h3 fun j q => hf j ((h5 j).mpr (.inr q)), h4, h5⟩
  bnd {e ρ M fp} h j hj := by
    obtain ⟨d, ρ', f1, f2, h1, h2, h3, h4, h5⟩ := h
    rcases (h5 j).mp hj with q | q
    · exact SlotR.bnd h2 j q
    · exact EnvR.bnd h3 j q
  keep := keepC EnvR.keep
  keep_rel {e ρ M fp} kl h := by
    obtain ⟨d, ρ', f1, f2, rfl, h2, h3, h4, h5⟩ := id h
    cases kl with
    | nil => exact ⟨fp, by rw [keepD_nil]; exact h, fun _ q => q⟩
    | cons b bs =>
      obtain ⟨f3, h6, h7⟩ := EnvR.keep_rel bs h3
      cases b with
      | true => exact ⟨fun j => f1 j ∨ f3 j, ⟨d, _, f1, f3, rfl, h2, h6, fun j q q2 => h4 j q (h7 j q2), fun _ => Iff.rfl⟩, fun j q => (h5 j).mpr (q.imp id (h7 j))⟩
      | false => exact ⟨f3, ⟨none, _, _, f3, rfl, SlotR.emp_rel _ _, h6, fun j q => q.elim, fun j => ⟨.inr, fun q => q.elim False.elim id⟩⟩, fun j q => (h5 j).mpr (.inr (h7 j q))⟩
  trim {e ρ M fp n} h hn hM j hj := by
    obtain ⟨d, ρ', f1, f2, rfl, h2, h3, h4, h5⟩ := h
    have n1 : ∀ x, d = some x → nl n x = true := fun x q => by subst q; rw [nlS_some, Bool.and_eq_true] at hn; exact hn.1
    have n2 : nlS n ρ' = true := by
      cases d with
      | none => rw [nlS_none] at hn; exact hn
      | some x => rw [nlS_some, Bool.and_eq_true] at hn; exact hn.2
    rcases (h5 j).mp hj with q | q
    · exact SlotR.trim h2 n1 hM j q
    · exact EnvR.trim h3 n2 hM j q
theorem rel_nil {ρ : Slots} {M : Mem} : EnvR.rel () ρ M fun _ => False := fun _ h => h
theorem rel_cons {τ E : Type} [SlotR τ] [EnvR E] {t : τ} {e : E} {d : Option D} {ρ : Slots} {M : Mem} (h1 : SlotR.rel t d M fun _ => False) (h2 : EnvR.rel e ρ M fun _ => False) : EnvR.rel (t, e) (d :: ρ) M fun _ => False :=
  ⟨d, ρ, _, _, rfl, h1, h2, fun _ q => q.elim, fun _ => ⟨.inl, fun q => q.elim id id⟩⟩
theorem rel_val {α : Type} [Enc α] {v : α} {M : Mem} : SlotR.rel (some v) (some (Enc.enc v)) M fun _ => False := ⟨fun w h => by cases h; rfl, fun _ h => h⟩
theorem ob_some {σ : Type} [Rep σ] {t : Ob σ} {d : Option D} {M : Mem} {fp : Fp} {s : σ} (h : SlotR.rel t d M fp) (e : t.v = some s) : ∃ k, d = some (.loc k) ∧ Rep.rep M k s fp := by
  cases t with
  | mk v =>
    have e : v = some s := e
    subst e
    exact h
theorem ob_mk {σ : Type} [Rep σ] {d : Option D} {M : Mem} {fp : Fp} {s : σ} {k : Nat} (h1 : d = some (.loc k)) (h : Rep.rep M k s fp) : SlotR.rel (⟨some s⟩ : Ob σ) d M fp := ⟨k, h1, h⟩
theorem ls_get {α : Type} [Enc α] {M : Mem} {k : Nat} {s : LS α} {fp : Fp} (h : Rep.rep M k s fp) : M[k]? = some (.lst (s.l.map Enc.enc)) ∧ ∀ j, fp j ↔ j = k := h
/-- a place of an environment -/
structure Lens (E τ : Type) (i : Nat) where
  get : E → τ
  set : E → τ → E
class LOk {E τ : Type} [EnvR E] [SlotR τ] {i : Nat} (ln : Lens E τ i) : Prop where
  okd : ∀ e ρ M fp, EnvR.rel e ρ M fp → ∃ f1, SlotR.rel (ln.get e) (slot ρ i) M f1 ∧ (∀ j, f1 j → fp j) ∧
    ∀ t' d' M' f1', SlotR.rel t' d' M' f1' → (∀ j, fp j → ¬ f1 j → M'[j]? = M[j]?) → (∀ j, f1' j → fp j → f1 j) →
      ∃ fp', EnvR.rel (ln.set e t') (ρ.set i d') M' fp' ∧ ∀ j, fp' j → (fp j ∧ ¬ f1 j) ∨ f1' j
  gs : ∀ e t, ln.get (ln.set e t) = t
  ss : ∀ e t t', ln.set (ln.set e t) t' = ln.set e t'
theorem LOk.ok {E τ : Type} [EnvR E] [SlotR τ] {i : Nat} {ln : Lens E τ i} [LOk ln] (e : E) (ρ : Slots) (M : Mem) (fp : Fp) (R : EnvR.rel e ρ M fp) : ∃ f1, SlotR.rel (ln.get e) (slot ρ i) M f1 ∧ (∀ j, f1 j → fp j) ∧
    ∀ t' d' M' f1', SlotR.rel t' d' M' f1' → (∀ j, fp j → ¬ f1 j → M'[j]? = M[j]?) → (∀ j, f1' j → f1 j ∨ M.length ≤ j) →
      ∃ fp', EnvR.rel (ln.set e t') (ρ.set i d') M' fp' ∧ ∀ j, fp' j → (fp j ∧ ¬ f1 j) ∨ f1' j := by
  obtain ⟨f1, h1, h2, h3⟩ := LOk.okd (ln := ln) e ρ M fp R
  refine ⟨f1, h1, h2, fun t' d' M' f1' r hf hn => h3 t' d' M' f1' r hf fun j q q2 => ?_⟩
  rcases hn j q with z | z
  · exact z
  · have := EnvR.bnd R j q2; omega
@[reducible] def Lens.hd {E τ : Type} : Lens (τ × E) τ 0 := ⟨fun e => e.1, fun e t => (t, e.2)⟩
@[reducible] def Lens.tl {E τ υ : Type} {i : Nat} (l : Lens E τ i) : Lens (υ × E) τ (i + 1) := ⟨fun e => l.get e.2, fun e t => (e.1, l.set e.2 t)⟩
instance {E τ : Type} [EnvR E] [SlotR τ] : LOk (Lens.hd : Lens (τ × E) τ 0) where
  gs _ _ := rfl
  ss _ _ _ := rfl
  okd e ρ M fp h := by
    obtain ⟨d, ρ', f1, f2, rfl, h2, h3, h4, h5⟩ := h
    refine ⟨f1, h2, fun j q => (h5 j).mpr (.inl q), fun t' d' M' f1' r hf hn => ?_⟩
    refine ⟨fun j => f1' j ∨ f2 j, ⟨d', ρ', f1', f2, rfl, r, EnvR.frame h3 fun j q => hf j ((h5 j).mpr (.inr q)) (fun z => h4 j z q), fun j q q2 => h4 j (hn j q ((h5 j).mpr (.inr q2))) q2, fun _ => Iff.rfl⟩, fun j q => ?_⟩
    rcases q with q | q
    · exact .inr q
    · exact .inl ⟨(h5 j).mpr (.inr q), fun z => h4 j z q⟩
instance {E τ υ : Type} [EnvR E] [SlotR τ] [SlotR υ] {i : Nat} (l : Lens E τ i) [LOk l] : LOk (Lens.tl l : Lens (υ × E) τ (i + 1)) where
  gs e t := LOk.gs (ln := l) e.2 t
  ss e t t' := by show (e.1, l.set (l.set e.2 t) t') = (e.1, l.set e.2 t'); rw [LOk.ss]
  okd e ρ M fp h := by
    obtain ⟨d, ρ', f1, f2, rfl, h2, h3, h4, h5⟩ := h
    obtain ⟨g1, k1, k2, k3⟩ := LOk.okd (ln := l) e.2 ρ' M f2 h3
    refine ⟨g1, k1, fun j q => (h5 j).mpr (.inr (k2 j q)), fun t' d' M' g1' r hf hn => ?_⟩
    obtain ⟨f2', k4, k5⟩ := k3 t' d' M' g1' r (fun j q q2 => hf j ((h5 j).mpr (.inr q)) q2) (fun j q q2 => hn j q ((h5 j).mpr (.inr q2)))
    refine ⟨fun j => f1 j ∨ f2' j, ⟨d, ρ'.set i d', f1, f2', rfl, SlotR.frame h2 fun j q => hf j ((h5 j).mpr (.inl q)) (fun z => h4 j q (k2 j z)), k4, fun j q q2 => ?_, fun _ => Iff.rfl⟩, fun j q => ?_⟩
    · rcases k5 j q2 with z | z
      · exact h4 j q z.1
      · exact h4 j q (k2 j (hn j z ((h5 j).mpr (.inl q))))
    · rcases q with q | q
      · exact .inl ⟨(h5 j).mpr (.inl q), fun z => h4 j q (k2 j z)⟩
      · rcases k5 j q with z | z
        · exact .inl ⟨(h5 j).mpr (.inr z.1), z.2⟩
        · exact .inr z
/-- what is kept of an environment -/
@[simp] def kpU : Unit → Unit := id
@[simp] def kpT {τ E : Type} (k : E → E) : τ × E → τ × E := fun e => (e.1, k e.2)
@[simp] def kpF {τ E : Type} (z : τ) (k : E → E) : τ × E → τ × E := fun e => (z, k e.2)
class KOk {E : Type} [EnvR E] (kl : List Bool) (kp : E → E) : Prop where
  eq : ∀ e, EnvR.keep kl e = kp e
instance : KOk [] kpU := ⟨fun _ => rfl⟩
instance {τ E : Type} [SlotR τ] [EnvR E] {kl : List Bool} {k : E → E} [h : KOk kl k] : KOk (true :: kl) (kpT k : τ × E → τ × E) := ⟨fun e => by
  show (e.1, EnvR.keep kl e.2) = _
  rw [KOk.eq (kl := kl) (kp := k)]; rfl⟩
instance {α E : Type} [Enc α] [EnvR E] {kl : List Bool} {k : E → E} [h : KOk kl k] : KOk (false :: kl) (kpF none k : Option α × E → Option α × E) := ⟨fun e => by
  show ((none : Option α), EnvR.keep kl e.2) = _
  rw [KOk.eq (kl := kl) (kp := k)]; rfl⟩
instance {σ E : Type} [Rep σ] [EnvR E] {kl : List Bool} {k : E → E} [h : KOk kl k] : KOk (false :: kl) (kpF ⟨none⟩ k : Ob σ × E → Ob σ × E) := ⟨fun e => by
  show ((⟨none⟩ : Ob σ), EnvR.keep kl e.2) = _
  rw [KOk.eq (kl := kl) (kp := k)]; rfl⟩
theorem rel_none {α : Type} [Enc α] {d : Option D} {M : Mem} : SlotR.rel (none : Option α) d M fun _ => False := SlotR.emp_rel (τ := Option α) d M
theorem rel_obn {σ : Type} [Rep σ] {d : Option D} {M : Mem} : SlotR.rel (⟨none⟩ : Ob σ) d M fun _ => False := SlotR.emp_rel (τ := Ob σ) d M
end TL

/-! T2: the typed reading of expressions -/
namespace TL
open PySem PySem.Spec PyProof.Rows L2 CI
def DenF (fp : Fp) (M : Mem) (d d0 : D) : Prop := d = d0 ∨ ∃ k ds, d = .loc k ∧ d0 = .lst ds ∧ M[k]? = some (.lst ds) ∧ fp k
section
variable {E : Type} [EnvR E] {α β γ δ ε σ : Type} [Enc α] [Enc β] [Enc γ] [Enc δ] [Enc ε] [Enc σ]
def EV (g : E → Option α) (f : Ef) : Prop := ∀ e ρ M fp, EnvR.rel e ρ M fp → Cl M → ∀ v, g e = some v → ∃ r, f ρ M = some (r, M) ∧ DenF fp M r.d (Enc.enc v)
def EP (g : E → Option α) (f : Ef) : Prop := ∀ e ρ M fp, EnvR.rel e ρ M fp → Cl M → ∀ v, g e = some v → ∃ r, f ρ M = some (r, M) ∧ r.d = Enc.enc v
def EN (g : E → Option α) (f : Ef) : Prop := ∀ e ρ M fp, EnvR.rel e ρ M fp → Cl M → ∀ v, g e = some v → ∃ ds, f ρ M = some (.new ds, M) ∧ Enc.enc v = .lst ds
def TP (g : E → Option Bool) (t : Tf) : Prop := ∀ e ρ M fp, EnvR.rel e ρ M fp → Cl M → ∀ b, g e = some b → t ρ M = some (b, M)
def OV (g : E → Option (Option Int)) (o : Of) : Prop := ∀ e ρ M fp, EnvR.rel e ρ M fp → Cl M → ∀ v, g e = some v → o ρ M = some (v, M)
theorem EP.v {g : E → Option α} {f : Ef} (h : EP g f) : EV g f := fun e ρ M fp R C v q => by
  obtain ⟨r, h1, h2⟩ := h e ρ M fp R C v q
  exact ⟨r, h1, .inl h2⟩
theorem EN.p {g : E → Option α} {f : Ef} (h : EN g f) : EP g f := fun e ρ M fp R C v q => by
  obtain ⟨ds, h1, h2⟩ := h e ρ M fp R C v q
  exact ⟨_, h1, h2.symm⟩
theorem EN.v {g : E → Option α} {f : Ef} (h : EN g f) : EV g f := h.p.v
/-- values that are no lists -/
class NL (α : Type) [Enc α] : Prop where
  ne : ∀ (x : α) ds, Enc.enc x ≠ D.lst ds
instance : NL Int := ⟨fun _ _ h => nomatch h⟩
instance : NL Bool := ⟨fun _ _ h => nomatch h⟩
instance : NL Str := ⟨fun _ _ h => nomatch h⟩
instance : NL Unit := ⟨fun _ _ h => nomatch h⟩
instance : NL Scr := ⟨fun _ _ h => nomatch h⟩
instance : NL (Tu α) := ⟨fun _ _ h => nomatch h⟩
instance : NL (α × β) := ⟨fun _ _ h => nomatch h⟩
instance : NL (P3 α β γ) := ⟨fun _ _ h => nomatch h⟩
instance : NL (P4 α β γ δ) := ⟨fun _ _ h => nomatch h⟩
instance : NL (P5 α β γ δ ε) := ⟨fun _ _ h => nomatch h⟩
instance [NL α] : NL (Option α) := ⟨fun x ds h => by cases x with | none => exact nomatch h | some x => exact NL.ne x ds h⟩
theorem den [NL α] {fp : Fp} {M : Mem} {d : D} {x : α} (h : DenF fp M d (Enc.enc x)) : d = Enc.enc x := by
  rcases h with h | ⟨k, ds, _, h, _⟩
  · exact h
  · exact absurd h (NL.ne x ds)
theorem EV.p [NL α] {g : E → Option α} {f : Ef} (h : EV g f) : EP g f := fun e ρ M fp R C v q => by
  obtain ⟨r, h1, h2⟩ := h e ρ M fp R C v q
  exact ⟨r, h1, den h2⟩
/-! ### names and constants -/
omit [EnvR E] in
@[simp] def tV {i : Nat} (ln : Lens E (Option α) i) : E → Option α := fun e => ln.get e
theorem t_var {i : Nat} (ln : Lens E (Option α) i) [LOk ln] : EP (tV ln) (cVar i) := fun e ρ M fp R C v q => by
  obtain ⟨f1, h1, _⟩ := LOk.ok (ln := ln) e ρ M fp R
  have h2 := h1.1 v q
  exact ⟨.val (Enc.enc v), by rw [cVar_ap, h2]; rfl, rfl⟩
omit [EnvR E] in
@[simp] def tL {i : Nat} (ln : Lens E (Ob (LS α)) i) : E → Option (List α) := fun e => (ln.get e).v.map (·.l)
theorem t_loc {i : Nat} (ln : Lens E (Ob (LS α)) i) [LOk ln] : EV (tL ln) (cVar i) := fun e ρ M fp R C v q => by
  obtain ⟨f1, h1, h2, _⟩ := LOk.ok (ln := ln) e ρ M fp R
  unfold tL at q
  cases hv : (ln.get e).v with
  | none => rw [hv] at q; cases q
  | some s =>
    rw [hv] at q; cases q
    obtain ⟨k, h3, h4⟩ := ob_some h1 hv
    obtain ⟨h4, h5⟩ := ls_get h4
    exact ⟨.val (.loc k), by rw [cVar_ap, h3]; rfl, .inr ⟨k, _, rfl, rfl, h4, h2 k ((h5 k).mpr rfl)⟩⟩
omit [EnvR E] in
@[simp] def tK (v : α) : E → Option α := fun _ => some v
theorem t_val {v : α} {d : D} (h : Enc.enc v = d) : EP (E := E) (tK v) (cVal d) := fun e ρ M fp R C w q => by
  cases q; exact ⟨.val d, rfl, h.symm⟩
/-! ### coercions -/
omit [EnvR E] in
@[simp] def tSome (g : E → Option α) : E → Option (Option α) := fun e => (g e).map some
theorem EP.some {g : E → Option α} {f : Ef} (h : EP g f) : EP (tSome g) f := fun e ρ M fp R C v q => by
  unfold tSome at q
  cases hg : g e with
  | none => rw [hg] at q; cases q
  | some x => rw [hg] at q; cases q; exact h e ρ M fp R C x hg
/-! ### operators -/
def OpV (o : Bop) (t : α → β → Option γ) : Prop := ∀ a b c M fp d1 d2, DenF fp M d1 (Enc.enc a) → DenF fp M d2 (Enc.enc b) → t a b = some c → ∃ r, o d1 d2 M = some r ∧ r.d = Enc.enc c
def OpN (o : Bop) (t : α → β → Option γ) : Prop := ∀ a b c M fp d1 d2, DenF fp M d1 (Enc.enc a) → DenF fp M d2 (Enc.enc b) → t a b = some c → ∃ ds, o d1 d2 M = some (.new ds) ∧ Enc.enc c = .lst ds
omit [EnvR E] in
@[simp] def tB (t : α → β → Option γ) (ga : E → Option α) (gb : E → Option β) : E → Option γ := fun e => (ga e).bind fun a => (gb e).bind fun b => t a b
theorem t_bin {o : Bop} {t : α → β → Option γ} {ga : E → Option α} {gb : E → Option β} {fa fb : Ef} (ho : OpV o t) (ha : EV ga fa) (hb : EV gb fb) : EP (tB t ga gb) (cBin o fa fb) := fun e ρ M fp R C v q => by
  unfold tB at q
  cases h1 : ga e with
  | none => rw [h1] at q; cases q
  | some a =>
    cases h2 : gb e with
    | none => rw [h1, h2] at q; cases q
    | some b =>
      rw [h1, h2] at q
      obtain ⟨r1, e1, k1⟩ := ha e ρ M fp R C a h1
      obtain ⟨r2, e2, k2⟩ := hb e ρ M fp R C b h2
      obtain ⟨r, e3, k3⟩ := ho a b v M fp _ _ k1 k2 q
      exact ⟨r, by simp [cBin, e1, e2, e3], k3⟩
theorem t_binN {o : Bop} {t : α → β → Option γ} {ga : E → Option α} {gb : E → Option β} {fa fb : Ef} (ho : OpN o t) (ha : EV ga fa) (hb : EV gb fb) : EN (tB t ga gb) (cBin o fa fb) := fun e ρ M fp R C v q => by
  unfold tB at q
  cases h1 : ga e with
  | none => rw [h1] at q; cases q
  | some a =>
    cases h2 : gb e with
    | none => rw [h1, h2] at q; cases q
    | some b =>
      rw [h1, h2] at q
      obtain ⟨r1, e1, k1⟩ := ha e ρ M fp R C a h1
      obtain ⟨r2, e2, k2⟩ := hb e ρ M fp R C b h2
      obtain ⟨r, e3, k3⟩ := ho a b v M fp _ _ k1 k2 q
      exact ⟨r, by simp [cBin, e1, e2, e3], k3⟩
theorem OpV.of [NL α] [NL β] {o : Bop} {t : α → β → Option γ} (h : ∀ a b c M, t a b = some c → ∃ r, o (Enc.enc a) (Enc.enc b) M = some r ∧ r.d = Enc.enc c) : OpV o t := fun a b c M fp d1 d2 h1 h2 q => by
  rw [den h1, den h2]; exact h a b c M q
@[simp] def addI (a b : Int) : Option Int := some (a + b)
@[simp] def subI (a b : Int) : Option Int := some (a - b)
@[simp] def mulI (a b : Int) : Option Int := if bMul a b = true then some (a * b) else none
@[simp] def divI (a b : Int) : Option Int := if bDiv a b = true then some (a / b) else none
@[simp] def modI (a b : Int) : Option Int := if bMod a b = true then some (a % b) else none
@[simp] def powI (a b : Int) : Option Int := if bPow a b = true then some (a ^ b.toNat) else none
@[simp] def ltI (a b : Int) : Option Bool := some (decide (a < b))
@[simp] def leI (a b : Int) : Option Bool := some (decide (a ≤ b))
@[simp] def gtI (a b : Int) : Option Bool := some (decide (b < a))
@[simp] def geI (a b : Int) : Option Bool := some (decide (b ≤ a))
theorem o_add : OpV oAdd addI := .of fun a b c M q => by cases q; exact ⟨_, rfl, rfl⟩
theorem o_sub : OpV oSub subI := .of fun a b c M q => by cases q; exact ⟨_, rfl, rfl⟩
theorem o_mul : OpV oMulA mulI := .of fun a b c M q => by
  unfold mulI at q; split at q
  · rename_i h; cases q
    exact ⟨_, (oMulA_int (i := a) (j := b) (M := M)).trans (if_pos h), rfl⟩
  · cases q
theorem oic {C : Int → Int → Bool} {g : Int → Int → Int} : OpV (oIc C fun i j => .int (g i j)) (fun a b => if C a b = true then some (g a b) else none) := .of fun a b c M q => by
  split at q
  · rename_i h; cases q; exact ⟨.val (.int (g a b)), if_pos h, rfl⟩
  · cases q
theorem o_div : OpV oDiv divI := oic
theorem o_mod : OpV oMod modI := oic
theorem o_pow : OpV oPow powI := oic
theorem o_lt : OpV oLt ltI := .of fun a b c M q => by cases q; exact ⟨_, rfl, rfl⟩
theorem o_le : OpV oLe leI := .of fun a b c M q => by cases q; exact ⟨_, rfl, rfl⟩
theorem o_gt : OpV oGt gtI := .of fun a b c M q => by cases q; exact ⟨_, rfl, rfl⟩
theorem o_ge : OpV oGe geI := .of fun a b c M q => by cases q; exact ⟨_, rfl, rfl⟩
end
/-! ### equality -/
class EncEq (α : Type) [DecidableEq α] [Enc α] where
  okE : α → Bool
  lv : Nat
  pl : ∀ x, okE x = true → plS lv (Enc.enc x) = true
  dq : ∀ x y : α, deq (Enc.enc x) (Enc.enc y) = decide (x = y)
class NN (α : Type) [Enc α] : Prop where
  nn : ∀ x : α, isNon (Enc.enc x) = false
theorem plS_up : ∀ {n m : Nat} {d : D}, n ≤ m → plS n d = true → plS m d = true
  | 0, _, d, _, h => by simp [plS] at h
  | n + 1, 0, d, hn, _ => by omega
  | n + 1, m + 1, d, hn, h => by
    cases d with
    | tup ds =>
      rw [plS_tup] at h ⊢
      exact List.all_eq_true.mpr fun x hx => plS_up (by omega) (List.all_eq_true.mp h x hx)
    | lst ds =>
      rw [plS_lst] at h ⊢
      exact List.all_eq_true.mpr fun x hx => plS_up (by omega) (List.all_eq_true.mp h x hx)
    | non => rfl
    | bl b => rfl
    | int i => rfl
    | str x => exact h
    | scr x => simp [plS] at h
    | loc x => simp [plS] at h
section
variable {α β γ δ ε : Type} [DecidableEq α] [DecidableEq β] [DecidableEq γ] [DecidableEq δ] [DecidableEq ε] [Enc α] [Enc β] [Enc γ] [Enc δ] [Enc ε] [EncEq α] [EncEq β] [EncEq γ] [EncEq δ] [EncEq ε]
instance : NN Int := ⟨fun _ => rfl⟩
instance : NN Bool := ⟨fun _ => rfl⟩
instance : NN Str := ⟨fun _ => rfl⟩
instance {α : Type} [Enc α] : NN (List α) := ⟨fun _ => rfl⟩
instance {α : Type} [Enc α] : NN (Tu α) := ⟨fun _ => rfl⟩
instance {α β : Type} [Enc α] [Enc β] : NN (α × β) := ⟨fun _ => rfl⟩
instance {α β γ : Type} [Enc α] [Enc β] [Enc γ] : NN (P3 α β γ) := ⟨fun _ => rfl⟩
instance {α β γ δ : Type} [Enc α] [Enc β] [Enc γ] [Enc δ] : NN (P4 α β γ δ) := ⟨fun _ => rfl⟩
instance {α β γ δ ε : Type} [Enc α] [Enc β] [Enc γ] [Enc δ] [Enc ε] : NN (P5 α β γ δ ε) := ⟨fun _ => rfl⟩
instance : EncEq Int := ⟨fun _ => true, 1, fun _ _ => rfl, fun x y => deq_int x y⟩
instance : EncEq Bool := ⟨fun _ => true, 1, fun _ _ => rfl, fun x y => deq_bl x y⟩
instance : EncEq Str := ⟨fun x => PyData.strOk x, 1, fun _ h => h, fun x y => deq_str x y⟩
instance : EncEq Unit := ⟨fun _ => true, 1, fun _ _ => rfl, fun x y => by simp [Enc.enc]⟩
theorem pl_all {xs : List α} (h : xs.all EncEq.okE = true) : (xs.map Enc.enc).all (plS (EncEq.lv α)) = true := by
  rw [List.all_map]
  exact List.all_eq_true.mpr fun x hx => EncEq.pl x (List.all_eq_true.mp h x hx)
instance : EncEq (List α) := ⟨fun xs => xs.all EncEq.okE, EncEq.lv α + 1, fun xs h => by
  show plS _ (.lst _) = true
  rw [plS_lst]; exact pl_all h, fun x y => by
  show deq (.lst _) (.lst _) = _
  rw [deq_lst]; exact deqs_map EncEq.dq x y⟩
instance : EncEq (Tu α) := ⟨fun xs => xs.l.all EncEq.okE, EncEq.lv α + 1, fun xs h => by
  show plS _ (.tup _) = true
  rw [plS_tup]; exact pl_all h, fun x y => by
  show deq (.tup _) (.tup _) = _
  rw [deq_tup, deqs_map EncEq.dq x.l y.l]
  cases x; cases y; simp⟩
instance : EncEq (α × β) := ⟨fun p => EncEq.okE p.1 && EncEq.okE p.2, max (EncEq.lv α) (EncEq.lv β) + 1, fun p h => by
  rw [Bool.and_eq_true] at h
  show plS _ (.tup _) = true
  rw [plS_tup]
  simp [plS_up (Nat.le_max_left _ _) (EncEq.pl p.1 h.1), plS_up (Nat.le_max_right _ _) (EncEq.pl p.2 h.2)], fun x y => by
  show deq (.tup _) (.tup _) = _
  obtain ⟨a, b⟩ := x; obtain ⟨a', b'⟩ := y
  simp [EncEq.dq]⟩
instance : EncEq (P3 α β γ) := ⟨fun p => EncEq.okE p.a && (EncEq.okE p.b && EncEq.okE p.c), max (EncEq.lv α) (max (EncEq.lv β) (EncEq.lv γ)) + 1, fun p h => by
  simp only [Bool.and_eq_true] at h
  show plS _ (.tup _) = true
  rw [plS_tup]
  simp [plS_up (m := max (EncEq.lv α) (max (EncEq.lv β) (EncEq.lv γ))) (by omega) (EncEq.pl p.a h.1), plS_up (m := max (EncEq.lv α) (max (EncEq.lv β) (EncEq.lv γ))) (by omega) (EncEq.pl p.b h.2.1), plS_up (m := max (EncEq.lv α) (max (EncEq.lv β) (EncEq.lv γ))) (by omega) (EncEq.pl p.c h.2.2)], fun x y => by
  show deq (.tup _) (.tup _) = _
  obtain ⟨a, b, c⟩ := x; obtain ⟨a', b', c'⟩ := y
  simp [EncEq.dq]⟩
instance : EncEq (P4 α β γ δ) := ⟨fun p => EncEq.okE p.a && (EncEq.okE p.b && (EncEq.okE p.c && EncEq.okE p.d)), max (EncEq.lv α) (max (EncEq.lv β) (max (EncEq.lv γ) (EncEq.lv δ))) + 1, fun p h => by
  simp only [Bool.and_eq_true] at h
  show plS _ (.tup _) = true
  rw [plS_tup]
  have le : ∀ {m : Nat}, EncEq.lv α ≤ m → EncEq.lv β ≤ m → EncEq.lv γ ≤ m → EncEq.lv δ ≤ m → [Enc.enc p.a, Enc.enc p.b, Enc.enc p.c, Enc.enc p.d].all (plS m) = true := fun h1 h2 h3 h4 => by
    simp [plS_up h1 (EncEq.pl p.a h.1), plS_up h2 (EncEq.pl p.b h.2.1), plS_up h3 (EncEq.pl p.c h.2.2.1), plS_up h4 (EncEq.pl p.d h.2.2.2)]
  exact le (by omega) (by omega) (by omega) (by omega), fun x y => by
  show deq (.tup _) (.tup _) = _
  obtain ⟨a, b, c, d⟩ := x; obtain ⟨a', b', c', d'⟩ := y
  simp [EncEq.dq]⟩
instance : EncEq (P5 α β γ δ ε) := ⟨fun p => EncEq.okE p.a && (EncEq.okE p.b && (EncEq.okE p.c && (EncEq.okE p.d && EncEq.okE p.e))), max (EncEq.lv α) (max (EncEq.lv β) (max (EncEq.lv γ) (max (EncEq.lv δ) (EncEq.lv ε)))) + 1, fun p h => by
  simp only [Bool.and_eq_true] at h
  show plS _ (.tup _) = true
  rw [plS_tup]
  have le : ∀ {m : Nat}, EncEq.lv α ≤ m → EncEq.lv β ≤ m → EncEq.lv γ ≤ m → EncEq.lv δ ≤ m → EncEq.lv ε ≤ m → [Enc.enc p.a, Enc.enc p.b, Enc.enc p.c, Enc.enc p.d, Enc.enc p.e].all (plS m) = true := fun h1 h2 h3 h4 h5 => by
    simp [plS_up h1 (EncEq.pl p.a h.1), plS_up h2 (EncEq.pl p.b h.2.1), plS_up h3 (EncEq.pl p.c h.2.2.1), plS_up h4 (EncEq.pl p.d h.2.2.2.1), plS_up h5 (EncEq.pl p.e h.2.2.2.2)]
  exact le (by omega) (by omega) (by omega) (by omega) (by omega), fun x y => by
  show deq (.tup _) (.tup _) = _
  obtain ⟨a, b, c, d, e⟩ := x; obtain ⟨a', b', c', d', e'⟩ := y
  simp [EncEq.dq]⟩
theorem deq_nonL {d : D} (h : isNon d = false) : deq .non d = false := by cases d <;> first | (cases h; done) | simp [deq]
theorem deq_nonR {d : D} (h : isNon d = false) : deq d .non = false := by cases d <;> first | (cases h; done) | simp [deq]
instance [NN α] : EncEq (Option α) := ⟨fun o => match o with | some x => EncEq.okE x | none => true, EncEq.lv α + 1, fun o h => by
  cases o with
  | none => rfl
  | some x => exact plS_up (Nat.le_succ _) (EncEq.pl x h), fun x y => by
  cases x with
  | none => cases y with
    | none => simp [Enc.enc]
    | some y => rw [show (Enc.enc (none : Option α)) = D.non from rfl, show (Enc.enc (some y)) = Enc.enc y from rfl, deq_nonL (NN.nn y)]; simp
  | some x => cases y with
    | none => rw [show (Enc.enc (none : Option α)) = D.non from rfl, show (Enc.enc (some x)) = Enc.enc x from rfl, deq_nonR (NN.nn x)]; simp
    | some y => rw [show (Enc.enc (some y)) = Enc.enc y from rfl, show (Enc.enc (some x)) = Enc.enc x from rfl, EncEq.dq]; simp⟩
@[simp] def eqT (a b : α) : Option Bool := if (EncEq.okE a && EncEq.okE b) = true then some (decide (a = b)) else none
@[simp] def neT (a b : α) : Option Bool := if (EncEq.okE a && EncEq.okE b) = true then some (!decide (a = b)) else none
theorem eqB_T {a b : α} {M : Mem} {fp : Fp} {d1 d2 : D} (hl : EncEq.lv α ≤ 64) (h1 : DenF fp M d1 (Enc.enc a)) (h2 : DenF fp M d2 (Enc.enc b)) (h : (EncEq.okE a && EncEq.okE b) = true) : eqB M d1 d2 = some (decide (a = b)) := by
  rw [Bool.and_eq_true] at h
  have key : eqB M (Enc.enc a) (Enc.enc b) = some (decide (a = b)) := by
    rw [eqB_deq hl hl (EncEq.pl a h.1) (EncEq.pl b h.2), EncEq.dq]
  have left : eqB M d1 (Enc.enc b) = some (decide (a = b)) := by
    rcases h1 with h1 | ⟨k, ds, h1, h3, h4, _⟩
    · rw [h1]; exact key
    · rw [h1, eqB_locL h4, ← h3]; exact key
  rcases h2 with h2 | ⟨k, ds, h2, h3, h4, _⟩
  · rw [h2]; exact left
  · rw [h2, eqB_locR h4, ← h3]; exact left
theorem o_eq (hl : EncEq.lv α ≤ 64) : OpV oEq (eqT (α := α)) := fun a b c M fp d1 d2 h1 h2 q => by
  unfold eqT at q
  split at q
  · rename_i h; cases q
    exact ⟨_, by unfold oEq; rw [eqB_T hl h1 h2 h]; rfl, rfl⟩
  · cases q
theorem o_ne (hl : EncEq.lv α ≤ 64) : OpV oNe (neT (α := α)) := fun a b c M fp d1 d2 h1 h2 q => by
  unfold neT at q
  split at q
  · rename_i h; cases q
    exact ⟨_, by unfold oNe; rw [eqB_T hl h1 h2 h]; rfl, rfl⟩
  · cases q
end
section
variable {E : Type} [EnvR E] {α β γ δ ε σ : Type} [Enc α] [Enc β] [Enc γ] [Enc δ] [Enc ε] [Enc σ]
/-! ### is None -/
theorem isn [NN α] {fp : Fp} {M : Mem} {d : D} {o : Option α} (h : DenF fp M d (Enc.enc o)) : isNon d = o.isNone := by
  rcases h with h | ⟨k, ds, h, h2, _⟩
  · rw [h]
    cases o with
    | none => rfl
    | some x => exact NN.nn x
  · rw [h]
    cases o with
    | none => exact nomatch h2
    | some x => rfl
/-! ### sequences -/
class Sq (σ : Type) [Enc σ] (α : outParam Type) [Enc α] where
  toL : σ → List α
  ok : ∀ M x, asS M (Enc.enc x) = some ((toL x).map Enc.enc)
instance : Sq (List α) α := ⟨id, fun M x => rfl⟩
instance : Sq (Tu α) α := ⟨Tu.l, fun M x => rfl⟩
instance : Sq Scr Int := ⟨Scr.l, fun M x => rfl⟩
theorem sq_den [Sq σ α] {fp : Fp} {M : Mem} {d : D} {x : σ} (h : DenF fp M d (Enc.enc x)) : asS M d = some ((Sq.toL x).map Enc.enc) := by
  rcases h with h | ⟨k, ds, h, h2, h3, _⟩
  · rw [h]; exact Sq.ok M x
  · have := Sq.ok M x
    rw [h2] at this
    rw [h, asS_loc h3]; exact this
theorem oIx_of {M : Mem} {d : D} {ds : List D} {i : Int} (h : asS M d = some ds) : oIx d (.int i) M = (L2.atI ds i).bind fun x => some (.val x) := by
  cases d <;> first | (unfold oIx; simp only; rw [h]; rfl) | (simp [asS, asL] at h)
@[simp] def tIx [Sq σ α] (x : σ) (i : Int) : Option α := L2.atI (Sq.toL x) i
theorem o_ix [Sq σ α] : OpV oIx (tIx (σ := σ) (α := α)) := fun a b c M fp d1 d2 h1 h2 q => by
  rw [den h2, show (Enc.enc b) = D.int b from rfl, oIx_of (sq_den h1), at_map]
  unfold tIx at q
  rw [q]; exact ⟨_, rfl, rfl⟩
@[simp] def lenT [Sq σ α] (x : σ) : Option Int := some ((Sq.toL x).length : Int)
omit [EnvR E] in
@[simp] def t1 (t : α → Option β) (g : E → Option α) : E → Option β := fun e => (g e).bind t
theorem oLen_of {M : Mem} {d : D} {ds : List D} (h : asS M d = some ds) : oLen [d] M = some (.val (.int ds.length)) := by
  cases d <;> first | (unfold oLen; simp only; rw [h]; rfl) | (simp [asS, asL] at h)
def Op1 (o : Cop) (t : α → Option β) : Prop := ∀ a c M fp d, DenF fp M d (Enc.enc a) → t a = some c → ∃ r, o [d] M = some r ∧ r.d = Enc.enc c
def Op1N (o : Cop) (t : α → Option β) : Prop := ∀ a c M fp d, DenF fp M d (Enc.enc a) → t a = some c → ∃ ds, o [d] M = some (.new ds) ∧ Enc.enc c = .lst ds
theorem t_cb1 {o : Cop} {t : α → Option β} {g : E → Option α} {f : Ef} (ho : Op1 o t) (h : EV g f) : EP (t1 t g) (cCB o (aCons f aNil)) := fun e ρ M fp R C v q => by
  unfold t1 at q
  cases hg : g e with
  | none => rw [hg] at q; cases q
  | some a =>
    rw [hg] at q
    obtain ⟨r, h1, h2⟩ := h e ρ M fp R C a hg
    obtain ⟨r2, h3, h4⟩ := ho a v M fp _ h2 q
    exact ⟨r2, by simp [cCB, aCons, aNil, h1, h3], h4⟩
theorem t_cb1N {o : Cop} {t : α → Option β} {g : E → Option α} {f : Ef} (ho : Op1N o t) (h : EV g f) : EN (t1 t g) (cCB o (aCons f aNil)) := fun e ρ M fp R C v q => by
  unfold t1 at q
  cases hg : g e with
  | none => rw [hg] at q; cases q
  | some a =>
    rw [hg] at q
    obtain ⟨r, h1, h2⟩ := h e ρ M fp R C a hg
    obtain ⟨r2, h3, h4⟩ := ho a v M fp _ h2 q
    exact ⟨r2, by simp [cCB, aCons, aNil, h1, h3], h4⟩
theorem o_len [Sq σ α] : Op1 oLen (lenT (σ := σ) (α := α)) := fun a c M fp d h q => by
  cases q; rw [oLen_of (sq_den h), List.length_map]; exact ⟨_, rfl, rfl⟩
@[simp] def tupT [Sq σ α] (x : σ) : Option (Tu α) := some ⟨Sq.toL x⟩
theorem o_tup [Sq σ α] : Op1 oTuple (tupT (σ := σ) (α := α)) := fun a c M fp d h q => by
  cases q; exact ⟨.val (.tup ((Sq.toL a).map Enc.enc)), by simp [sq_den h], rfl⟩
theorem Op1.of [NL α] {o : Cop} {t : α → Option β} (h : ∀ a c M, t a = some c → ∃ r, o [Enc.enc a] M = some r ∧ r.d = Enc.enc c) : Op1 o t := fun a c M fp d h1 q => by rw [den h1]; exact h a c M q
@[simp] def intI (a : Int) : Option Int := some a
theorem o_intI : Op1 oInt intI := .of fun a c M q => by cases q; exact ⟨_, rfl, rfl⟩
/-- an operation of one argument by what it gives of the value itself -/
def viaI (o : Cop) (x : D) : Option Int := match o [x] [] with
  | some (.val (.int i)) => some i
  | _ => none
theorem viaI_ok {o : Cop} {x : D} {i : Int} (h : viaI o x = some i) : o [x] [] = some (.val (.int i)) := by
  unfold viaI at h; split at h
  · rename_i h2; cases h; exact h2
  · cases h
def intS (s : Str) : Option Int := viaI oIntS (.str s)
def ordS (s : Str) : Option Int := viaI oOrd (.str s)
theorem o_intS : Op1 oIntS intS := .of fun a c M q => ⟨_, viaI_ok q, rfl⟩
theorem o_ordS : Op1 oOrd ordS := .of fun a c M q => ⟨_, viaI_ok q, rfl⟩
@[simp] def strI (a : Int) : Option Str := if a.natAbs.log2 < 1920 then some (toString a) else none
theorem o_str : Op1 oStr strI := .of fun a c M q => by
  unfold strI at q; split at q
  · rename_i h; cases q; exact ⟨.val (.str (toString a)), if_pos h, rfl⟩
  · cases q
@[simp] def srtT (a : List Int) : Option (List Int) := some (isort a)
theorem asL_den {fp : Fp} {M : Mem} {d : D} {x : List α} (h : DenF fp M d (Enc.enc x)) : asL M d = some (x.map Enc.enc) := by
  rcases h with h | ⟨k, ds, h, h2, h3, _⟩
  · rw [h]; rfl
  · cases h2; rw [h, asL_loc', h3]; rfl
theorem asW_den {fp : Fp} {M : Mem} {d : D} {x : List α} (h : DenF fp M d (Enc.enc x)) : asW M d = some (x.map Enc.enc) := by
  rcases h with h | ⟨k, ds, h, h2, h3, _⟩
  · rw [h]; rfl
  · cases h2; rw [h]; unfold asW; simp only; rw [h3]
theorem o_srt : Op1N oSorted srtT := fun a c M fp d h q => by
  cases q
  refine ⟨(isort a).map .int, ?_, rfl⟩
  rw [oSorted_ap, asL_den h, bnd_some]
  exact srt1_ints
/-! ### + and * of sequences -/
@[simp] def catL (a b : List α) : Option (List α) := if a.length + b.length ≤ 16777216 then some (a ++ b) else none
theorem oAdd_W {d e : D} {M : Mem} {xs ys : List D} (h : asW M d = some xs) (h2 : asW M e = some ys) : oAdd d e M = if xs.length + ys.length ≤ sizeLine then some (.new (xs ++ ys)) else none := by
  cases d <;> cases e <;> first | (unfold oAdd; simp only; rw [h, h2]) | (simp [asW] at h h2)
theorem o_catL : OpN oAdd (catL (α := α)) := fun a b c M fp d1 d2 h1 h2 q => by
  unfold catL at q
  split at q
  · rename_i h; cases q
    refine ⟨(a ++ b).map Enc.enc, ?_, rfl⟩
    rw [oAdd_W (asW_den h1) (asW_den h2), if_pos (by simpa [sizeLine] using h), List.map_append]
  · cases q
end
end TL

/-! T3: the typed reading of expressions: slices, displays, tests, calls, comprehensions -/
namespace TL
open PySem PySem.Spec PyProof.Rows L2 CI
section
variable {E : Type} [EnvR E] {α β γ δ ε σ : Type} [Enc α] [Enc β] [Enc γ] [Enc δ] [Enc ε] [Enc σ]
/-! ### slices -/
omit [EnvR E] in
@[simp] def vNone : E → Option (Option Int) := fun _ => some none
omit [EnvR E] in
@[simp] def vSome (g : E → Option Int) : E → Option (Option Int) := fun e => (g e).map some
theorem v_none : OV (E := E) vNone sNone := fun e ρ M fp R C v q => by cases q; rfl
theorem v_some {g : E → Option Int} {f : Ef} (h : EV g f) : OV (vSome g) (sSome f) := fun e ρ M fp R C v q => by
  unfold vSome at q
  cases hg : g e with
  | none => rw [hg] at q; cases q
  | some a =>
    rw [hg] at q; cases q
    obtain ⟨r, h1, h2⟩ := h.p e ρ M fp R C a hg
    simp [sSome, h1, h2, Enc.enc]
omit [EnvR E] in
@[simp] def tSl (ga : E → Option (List α)) (gl gh : E → Option (Option Int)) : E → Option (List α) := fun e => (ga e).bind fun a => (gl e).bind fun l => (gh e).map fun h => cutL a l h
omit [EnvR E] in
@[simp] def tSlT (ga : E → Option (Tu α)) (gl gh : E → Option (Option Int)) : E → Option (Tu α) := fun e => (ga e).bind fun a => (gl e).bind fun l => (gh e).map fun h => ⟨cutL a.l l h⟩
theorem oSl_L {M : Mem} {d : D} {ds : List D} {lo hi : Option Int} (h : asL M d = some ds) : oSl lo hi d M = some (.new (cutD ds lo hi)) := by
  cases d <;> first | (unfold oSl; simp only; rw [h]; rfl) | (simp [asL] at h)
theorem t_sl {ga : E → Option (List α)} {gl gh : E → Option (Option Int)} {f : Ef} {l h : Of} (ha : EV ga f) (hl : OV gl l) (hh : OV gh h) : EN (tSl ga gl gh) (cSl f l h) := fun e ρ M fp R C v q => by
  unfold tSl at q
  cases h1 : ga e with
  | none => rw [h1] at q; cases q
  | some a =>
    cases h2 : gl e with
    | none => rw [h1, h2] at q; cases q
    | some lo =>
      cases h3 : gh e with
      | none => rw [h1, h2, h3] at q; cases q
      | some hi =>
        rw [h1, h2, h3] at q; cases q
        obtain ⟨r1, e1, k1⟩ := ha e ρ M fp R C a h1
        exact ⟨(cutL a lo hi).map Enc.enc, by simp [cSl, e1, hl e ρ M fp R C lo h2, hh e ρ M fp R C hi h3, oSl_L (asL_den k1), cutD_map], rfl⟩
theorem t_slT {ga : E → Option (Tu α)} {gl gh : E → Option (Option Int)} {f : Ef} {l h : Of} (ha : EV ga f) (hl : OV gl l) (hh : OV gh h) : EP (tSlT ga gl gh) (cSl f l h) := fun e ρ M fp R C v q => by
  unfold tSlT at q
  cases h1 : ga e with
  | none => rw [h1] at q; cases q
  | some a =>
    cases h2 : gl e with
    | none => rw [h1, h2] at q; cases q
    | some lo =>
      cases h3 : gh e with
      | none => rw [h1, h2, h3] at q; cases q
      | some hi =>
        rw [h1, h2, h3] at q; cases q
        obtain ⟨r1, e1, k1⟩ := ha.p e ρ M fp R C a h1
        exact ⟨.val (.tup ((cutL a.l lo hi).map Enc.enc)), by simp [cSl, e1, hl e ρ M fp R C lo h2, hh e ρ M fp R C hi h3, k1, Enc.enc, cutD_map], rfl⟩
/-! ### in -/
class Fla (α : Type) [DecidableEq α] [Enc α] : Prop where
  f : ∀ x : α, fl (Enc.enc x) = true
  eq : ∀ x y : α, eqF (Enc.enc x) (Enc.enc y) = decide (x = y)
instance : Fla Int := ⟨fun _ => rfl, fun x y => by show (x == y) = _; by_cases h : x = y <;> simp [h]⟩
instance : Fla Str := ⟨fun _ => rfl, fun x y => by show (x == y) = _; by_cases h : x = y <;> simp [h]⟩
instance : Fla (Option Int) := ⟨fun x => by cases x <;> rfl, fun x y => by
  cases x with
  | none => cases y with
    | none => rfl
    | some y => rfl
  | some x => cases y with
    | none => rfl
    | some y => show (x == y) = _; by_cases h : x = y <;> simp [h]⟩
@[simp] def inT [DecidableEq α] [Sq σ α] (x : α) (xs : σ) : Option Bool := some (decide (x ∈ Sq.toL xs))
theorem inD_T [DecidableEq α] [Fla α] (x : α) : ∀ xs : List α, inD (Enc.enc x) (xs.map Enc.enc) = decide (x ∈ xs)
  | [] => by simp [inD]
  | y :: xs => by
    have := inD_T x xs
    unfold inD at this ⊢
    rw [List.map_cons, List.any_cons, this, Fla.eq]
    by_cases h : y = x
    · subst h; simp
    · have h2 : ¬ x = y := fun z => h z.symm
      simp [h, h2]
theorem allfl_T [DecidableEq α] [Fla α] (xs : List α) : (xs.map Enc.enc).all fl = true := by
  rw [List.all_map]; exact List.all_eq_true.mpr fun x _ => Fla.f x
theorem den_fl [DecidableEq α] [Fla α] {fp : Fp} {M : Mem} {d : D} {x : α} (h : DenF fp M d (Enc.enc x)) : d = Enc.enc x := by
  rcases h with h | ⟨k, ds, _, h, _⟩
  · exact h
  · have := Fla.f x; rw [h] at this; cases this
theorem o_in [DecidableEq α] [Fla α] [Sq σ α] : OpV (oIn false) (inT (α := α) (σ := σ)) := fun a b c M fp d1 d2 h1 h2 q => by
  cases q
  refine ⟨.val (.bl _), ?_, rfl⟩
  rw [den_fl h1]
  unfold oIn
  rw [sq_den h2]
  simp only [Option.bind_some]
  rw [if_pos ⟨Fla.f a, allfl_T _⟩, inD_T]; rfl
/-! ### arguments and displays -/
class Args (A : Type) where
  encs : A → List D
instance : Args Unit := ⟨fun _ => []⟩
instance {A : Type} [Args A] : Args (α × A) := ⟨fun p => Enc.enc p.1 :: Args.encs p.2⟩
def AP {A : Type} [Args A] (g : E → Option A) (f : Af) : Prop := ∀ e ρ M fp, EnvR.rel e ρ M fp → Cl M → ∀ v, g e = some v → f ρ M = some (Args.encs v, M)
omit [EnvR E] in
@[simp] def pNil : E → Option Unit := fun _ => some ()
omit [EnvR E] in
@[simp] def pCons {A : Type} (g : E → Option α) (gs : E → Option A) : E → Option (α × A) := fun e => (g e).bind fun a => (gs e).map fun r => (a, r)
theorem p_nil : AP (E := E) pNil aNil := fun e ρ M fp R C v q => by cases q; rfl
theorem p_cons {A : Type} [Args A] {g : E → Option α} {gs : E → Option A} {f : Ef} {fs : Af} (h1 : EP g f) (h2 : AP gs fs) : AP (pCons g gs) (aCons f fs) := fun e ρ M fp R C v q => by
  unfold pCons at q
  cases hg : g e with
  | none => rw [hg] at q; cases q
  | some a =>
    cases hr : gs e with
    | none => rw [hg, hr] at q; cases q
    | some rr =>
      rw [hg, hr] at q; cases q
      obtain ⟨r, k1, k2⟩ := h1 e ρ M fp R C a hg
      simp [aCons, k1, k2, h2 e ρ M fp R C rr hr, Args.encs]
def AL (g : E → Option (List α)) (f : Af) : Prop := ∀ e ρ M fp, EnvR.rel e ρ M fp → Cl M → ∀ v, g e = some v → f ρ M = some (v.map Enc.enc, M)
omit [EnvR E] in
@[simp] def lNil : E → Option (List α) := fun _ => some []
omit [EnvR E] in
@[simp] def lCons (g : E → Option α) (gs : E → Option (List α)) : E → Option (List α) := fun e => (g e).bind fun a => (gs e).map fun r => a :: r
theorem l_nil : AL (E := E) (α := α) lNil aNil := fun e ρ M fp R C v q => by cases q; rfl
theorem l_cons {g : E → Option α} {gs : E → Option (List α)} {f : Ef} {fs : Af} (h1 : EP g f) (h2 : AL gs fs) : AL (lCons g gs) (aCons f fs) := fun e ρ M fp R C v q => by
  unfold lCons at q
  cases hg : g e with
  | none => rw [hg] at q; cases q
  | some a =>
    cases hr : gs e with
    | none => rw [hg, hr] at q; cases q
    | some rr =>
      rw [hg, hr] at q; cases q
      obtain ⟨r, k1, k2⟩ := h1 e ρ M fp R C a hg
      simp [aCons, k1, k2, h2 e ρ M fp R C rr hr]
omit [EnvR E] in
@[simp] def tLst (g : E → Option (List α)) : E → Option (List α) := fun e => (g e).bind fun xs => if xs.length ≤ 16777216 then some xs else none
omit [EnvR E] in
@[simp] def tTup (g : E → Option (List α)) : E → Option (Tu α) := fun e => (g e).bind fun xs => if xs.length ≤ 16777216 then some ⟨xs⟩ else none
theorem t_lst {g : E → Option (List α)} {f : Af} (h : AL g f) : EN (tLst g) (cLst f) := fun e ρ M fp R C v q => by
  unfold tLst at q
  cases hg : g e with
  | none => rw [hg] at q; cases q
  | some xs =>
    rw [hg] at q; simp only [Option.bind_some] at q
    split at q
    · rename_i hl; cases q
      exact ⟨_, by simp [cLst, h e ρ M fp R C _ hg, sizeLine, hl], rfl⟩
    · cases q
theorem t_tup {g : E → Option (List α)} {f : Af} (h : AL g f) : EP (tTup g) (cTup f) := fun e ρ M fp R C v q => by
  unfold tTup at q
  cases hg : g e with
  | none => rw [hg] at q; cases q
  | some xs =>
    rw [hg] at q; simp only [Option.bind_some] at q
    split at q
    · rename_i hl; cases q
      exact ⟨_, by simp [cTup, h e ρ M fp R C _ hg, sizeLine, hl]; rfl, rfl⟩
    · cases q
/-! ### tests -/
theorem p_B {g : E → Option Bool} {f : Ef} (h : EV g f) : TP g (toB f) := fun e ρ M fp R C b q => by
  obtain ⟨r, k1, k2⟩ := h.p e ρ M fp R C b q
  simp [toB, k1, k2, Enc.enc]
class Tr (α : Type) [Enc α] where
  tr : α → Bool
  ok : ∀ x M d fp, DenF fp M d (Enc.enc x) → trD M d = some (tr x)
instance : Tr Int := ⟨fun x => x != 0, fun x M d fp h => by rw [den h]; rfl⟩
instance : Tr Bool := ⟨id, fun x M d fp h => by rw [den h]; rfl⟩
instance : Tr Unit := ⟨fun _ => false, fun x M d fp h => by rw [den h]; rfl⟩
theorem isE_map {xs : List α} {f : α → D} : (xs.map f).isEmpty = xs.isEmpty := by cases xs <;> rfl
instance : Tr (List α) := ⟨fun x => !x.isEmpty, fun x M d fp h => by
  have := sq_den h
  rcases h with h | ⟨k, ds, h, h2, h3, _⟩
  · rw [h]; show some (!(List.map _ _).isEmpty) = _; rw [isE_map]
  · cases h2; rw [h, trD_loc, h3]; show some (!(List.map _ _).isEmpty) = _; rw [isE_map]⟩
instance : Tr (Tu α) := ⟨fun x => !x.l.isEmpty, fun x M d fp h => by rw [den h]; show some (!(List.map _ _).isEmpty) = _; rw [isE_map]⟩
omit [EnvR E] in
@[simp] def tTr [Tr α] (g : E → Option α) : E → Option Bool := fun e => (g e).map Tr.tr
theorem p_Tr [Tr α] {g : E → Option α} {f : Ef} (h : EV g f) : TP (tTr g) (toTr f) := fun e ρ M fp R C b q => by
  unfold tTr at q
  cases hg : g e with
  | none => rw [hg] at q; cases q
  | some a =>
    rw [hg] at q; cases q
    obtain ⟨r, k1, k2⟩ := h e ρ M fp R C a hg
    simp [toTr, k1, Tr.ok a M _ fp k2]
omit [EnvR E] in
@[simp] def tAnd (ga gb : E → Option Bool) : E → Option Bool := fun e => (ga e).bind fun b => if b = true then gb e else some false
omit [EnvR E] in
@[simp] def tOr (ga gb : E → Option Bool) : E → Option Bool := fun e => (ga e).bind fun b => if b = true then some true else gb e
omit [EnvR E] in
@[simp] def tNot (ga : E → Option Bool) : E → Option Bool := fun e => (ga e).map fun b => !b
theorem p_and {ga gb : E → Option Bool} {a b : Tf} (ha : TP ga a) (hb : TP gb b) : TP (tAnd ga gb) (kAnd a b) := fun e ρ M fp R C v q => by
  unfold tAnd at q
  cases hg : ga e with
  | none => rw [hg] at q; cases q
  | some x =>
    rw [hg] at q
    cases x with
    | true => simp [kAnd, ha e ρ M fp R C _ hg, hb e ρ M fp R C v (by simpa using q)]
    | false => simp at q; subst q; simp [kAnd, ha e ρ M fp R C _ hg]
theorem p_or {ga gb : E → Option Bool} {a b : Tf} (ha : TP ga a) (hb : TP gb b) : TP (tOr ga gb) (kOr a b) := fun e ρ M fp R C v q => by
  unfold tOr at q
  cases hg : ga e with
  | none => rw [hg] at q; cases q
  | some x =>
    rw [hg] at q
    cases x with
    | false => simp [kOr, ha e ρ M fp R C _ hg, hb e ρ M fp R C v (by simpa using q)]
    | true => simp at q; subst q; simp [kOr, ha e ρ M fp R C _ hg]
theorem p_not {ga : E → Option Bool} {a : Tf} (ha : TP ga a) : TP (tNot ga) (kNot a) := fun e ρ M fp R C v q => by
  unfold tNot at q
  cases hg : ga e with
  | none => rw [hg] at q; cases q
  | some x => rw [hg] at q; cases q; simp [kNot, ha e ρ M fp R C _ hg]
theorem t_and {ga gb : E → Option Bool} {a b : Ef} (ha : EV ga a) (hb : EV gb b) : EP (tAnd ga gb) (cAnd a b) := fun e ρ M fp R C v q => by
  unfold tAnd at q
  cases hg : ga e with
  | none => rw [hg] at q; cases q
  | some x =>
    rw [hg] at q
    obtain ⟨r, k1, k2⟩ := ha.p e ρ M fp R C x hg
    cases x with
    | true =>
      obtain ⟨r2, k3, k4⟩ := hb.p e ρ M fp R C v (by simpa using q)
      exact ⟨r2, by simp [cAnd, k1, k2, k3, Enc.enc], k4⟩
    | false => simp at q; subst q; exact ⟨.val (.bl false), by simp [cAnd, k1, k2, Enc.enc], rfl⟩
omit [EnvR E] in
@[simp] def tIf (gt : E → Option Bool) (ga gb : E → Option α) : E → Option α := fun e => (gt e).bind fun b => if b = true then ga e else gb e
theorem t_if {gt : E → Option Bool} {ga gb : E → Option α} {t : Tf} {a b : Ef} (ht : TP gt t) (ha : EP ga a) (hb : EP gb b) : EP (tIf gt ga gb) (cIf t a b) := fun e ρ M fp R C v q => by
  unfold tIf at q
  cases hg : gt e with
  | none => rw [hg] at q; cases q
  | some x =>
    rw [hg] at q
    have k := ht e ρ M fp R C x hg
    cases x with
    | true => obtain ⟨r, k1, k2⟩ := ha e ρ M fp R C v (by simpa using q); exact ⟨r, by simp [cIf, k, k1], k2⟩
    | false => obtain ⟨r, k1, k2⟩ := hb e ρ M fp R C v (by simpa using q); exact ⟨r, by simp [cIf, k, k1], k2⟩
omit [EnvR E] in
@[simp] def tCh (t : α → β → Option Bool) (t' : β → γ → Option Bool) (ga : E → Option α) (gb : E → Option β) (gc : E → Option γ) : E → Option Bool := fun e =>
  (ga e).bind fun a => (gb e).bind fun b => (t a b).bind fun x => if x = true then (gc e).bind fun c => t' b c else some false
theorem t_ch {o o' : Bop} {t : α → β → Option Bool} {t' : β → γ → Option Bool} {ga : E → Option α} {gb : E → Option β} {gc : E → Option γ} {a b c : Ef} (ho : OpV o t) (ho' : OpV o' t') (ha : EV ga a) (hb : EV gb b) (hc : EV gc c)
    (hv : ∀ d1 d2 M r, o d1 d2 M = some r → ∃ d, r = .val d) : EP (tCh t t' ga gb gc) (cChain o o' a b c) := fun e ρ M fp R C v q => by
  unfold tCh at q
  cases h1 : ga e with
  | none => rw [h1] at q; cases q
  | some x =>
    cases h2 : gb e with
    | none => rw [h1, h2] at q; cases q
    | some y =>
      rw [h1, h2] at q
      simp only [Option.bind_some] at q
      obtain ⟨r1, k1, k2⟩ := ha e ρ M fp R C x h1
      obtain ⟨r2, k3, k4⟩ := hb e ρ M fp R C y h2
      cases h3 : t x y with
      | none => rw [h3] at q; cases q
      | some z =>
        rw [h3] at q
        simp only [Option.bind_some] at q
        obtain ⟨r3, k5, k6⟩ := ho x y z M fp _ _ k2 k4 h3
        obtain ⟨d3, rfl⟩ := hv _ _ _ _ k5
        have k6 : d3 = .bl z := k6
        subst k6
        cases z with
        | false => simp at q; subst q; exact ⟨.val (.bl false), by simp [k1, k3, k5], rfl⟩
        | true =>
          simp only [if_true] at q
          cases h4 : gc e with
          | none => rw [h4] at q; cases q
          | some w =>
            rw [h4] at q
            simp only [Option.bind_some] at q
            obtain ⟨r4, k7, k8⟩ := hc e ρ M fp R C w h4
            obtain ⟨r5, k9, k10⟩ := ho' y w v M fp _ _ k4 k8 q
            exact ⟨r5, by simp [k1, k3, k5, k7, k9], k10⟩
end
end TL

/-! T4: the typed reading of calls, iterables, comprehensions -/
namespace TL
open PySem PySem.Spec PyProof.Rows L2 CI
mutual
theorem nl_mono {n m : Nat} (h : n ≤ m) : ∀ {d : D}, nl n d = true → nl m d = true
  | .loc k, q => by rw [nl_loc] at q ⊢; simp at q ⊢; omega
  | .tup ds, q => by rw [nl_tup] at q ⊢; exact nls_mono h q
  | .lst ds, q => by rw [nl_lst] at q ⊢; exact nls_mono h q
  | .non, _ => rfl
  | .bl _, _ => rfl
  | .int _, _ => rfl
  | .str _, _ => rfl
  | .scr _, _ => rfl
theorem nls_mono {n m : Nat} (h : n ≤ m) : ∀ {ds : List D}, nls n ds = true → nls m ds = true
  | [], _ => rfl
  | d :: ds, q => by
    rw [nls_cons, Bool.and_eq_true] at q ⊢
    exact ⟨nl_mono h q.1, nls_mono h q.2⟩
end
theorem nlF_mono {n m : Nat} (h : n ≤ m) : ∀ {fs : List (Str × D)}, nlF n fs = true → nlF m fs = true
  | [], _ => rfl
  | (f, d) :: ds, q => by
    rw [nlF_cons, Bool.and_eq_true] at q ⊢
    exact ⟨nl_mono h q.1, nlF_mono h q.2⟩
theorem nlK_mono {n m : Nat} (h : n ≤ m) : ∀ {fs : List (Key × D)}, nlK n fs = true → nlK m fs = true
  | [], _ => rfl
  | (f, d) :: ds, q => by
    rw [nlK_cons, Bool.and_eq_true] at q ⊢
    exact ⟨nl_mono h q.1, nlK_mono h q.2⟩
theorem nlO_mono {n m : Nat} (h : n ≤ m) : ∀ {o : O}, nlO n o = true → nlO m o = true
  | .lst ds, q => nls_mono h q
  | .ins c fs, q => nlF_mono h q
  | .dct fs, q => nlK_mono h q
theorem cl_nil : Cl [] := fun j o h => by simp at h
theorem cl_push {M : Mem} {o : O} (C : Cl M) (h : nlO M.length o = true) : Cl (M ++ [o]) := fun j x q => by
  rw [List.length_append]
  rcases Nat.lt_or_ge j M.length with z | z
  · rw [List.getElem?_append_left z] at q
    exact nlO_mono (by simp) (C j x q)
  · rw [List.getElem?_append_right z] at q
    cases y : j - M.length with
    | zero => rw [y] at q; simp at q; subst q; exact nlO_mono (by simp) h
    | succ i => rw [y] at q; simp at q
theorem cl_set {M : Mem} {o : O} {k : Nat} (C : Cl M) (h : nlO M.length o = true) : Cl (M.set k o) := fun j x q => by
  rw [List.length_set]
  by_cases z : k = j
  · subst z
    rw [List.getElem?_set_self'] at q
    cases y : M[k]? with
    | none => rw [y] at q; simp at q
    | some u => rw [y] at q; simp at q; subst q; exact h
  · rw [List.getElem?_set_ne z] at q; exact C j x q
section
variable {E : Type} [EnvR E] {α β γ δ ε σ : Type} [Enc α] [Enc β] [Enc γ] [Enc δ] [Enc ε] [Enc σ] {A : Type} [Args A]
/-! ### calls -/
def FnT (F : Fn) (T : A → Option β) : Prop := ∀ a b, T a = some b → ∀ M, Cl M → ∃ r, F (Args.encs a) M = some (r, M) ∧ r.d = Enc.enc b
def FnN (F : Fn) (T : A → Option β) : Prop := ∀ a b, T a = some b → ∀ M, Cl M → ∃ ds, F (Args.encs a) M = some (.new ds, M) ∧ Enc.enc b = .lst ds
theorem FnN.t {F : Fn} {T : A → Option β} (h : FnN F T) : FnT F T := fun a b q M C => by
  obtain ⟨ds, h1, h2⟩ := h a b q M C
  exact ⟨_, h1, h2.symm⟩
omit [EnvR E] in
@[simp] def tCall (T : A → Option β) (g : E → Option A) : E → Option β := fun e => (g e).bind T
theorem t_call {F : Fn} {T : A → Option β} {g : E → Option A} {f : Af} (h : FnT F T) (ha : AP g f) : EP (tCall T g) (cCall F f) := fun e ρ M fp R C v q => by
  unfold tCall at q
  cases hg : g e with
  | none => rw [hg] at q; cases q
  | some a =>
    rw [hg] at q
    obtain ⟨r, h1, h2⟩ := h a v q M C
    exact ⟨r, by simp [cCall, ha e ρ M fp R C a hg, h1], h2⟩
theorem t_callN {F : Fn} {T : A → Option β} {g : E → Option A} {f : Af} (h : FnN F T) (ha : AP g f) : EN (tCall T g) (cCall F f) := fun e ρ M fp R C v q => by
  unfold tCall at q
  cases hg : g e with
  | none => rw [hg] at q; cases q
  | some a =>
    rw [hg] at q
    obtain ⟨r, h1, h2⟩ := h a v q M C
    exact ⟨r, by simp [cCall, ha e ρ M fp R C a hg, h1], h2⟩
class FlatE (α : Type) [Enc α] : Prop where
  f : ∀ x : α, flat (Enc.enc x) = true
theorem flats_map [FlatE α] (xs : List α) : flats (xs.map Enc.enc) = true := by
  induction xs with
  | nil => rfl
  | cons x xs ih => rw [List.map_cons, flats, FlatE.f x, ih]; rfl
instance : FlatE Int := ⟨fun _ => rfl⟩
instance : FlatE Bool := ⟨fun _ => rfl⟩
instance : FlatE Str := ⟨fun _ => rfl⟩
instance : FlatE Unit := ⟨fun _ => rfl⟩
instance [FlatE α] : FlatE (Tu α) := ⟨fun x => by show flat (.tup _) = true; rw [flat]; exact flats_map x.l⟩
instance [FlatE α] [FlatE β] : FlatE (α × β) := ⟨fun x => by show flat (.tup [_, _]) = true; simp [flat, flats, FlatE.f]⟩
instance [FlatE α] [FlatE β] [FlatE γ] : FlatE (P3 α β γ) := ⟨fun x => by show flat (.tup [_, _, _]) = true; simp [flat, flats, FlatE.f]⟩
instance [FlatE α] [FlatE β] [FlatE γ] [FlatE δ] : FlatE (P4 α β γ δ) := ⟨fun x => by show flat (.tup [_, _, _, _]) = true; simp [flat, flats, FlatE.f]⟩
instance [FlatE α] : FlatE (Option α) := ⟨fun x => by cases x with | none => rfl | some x => exact FlatE.f x⟩
/-! ### iterables -/
def IV (g : E → Option (List α)) (it : If) : Prop := ∀ e ρ M fp, EnvR.rel e ρ M fp → Cl M → ∀ xs, g e = some xs → ∃ gk, it ρ M = some (xs.map Enc.enc, gk, M) ∧ ∀ k, gk = some k → M[k]? = some (.lst (xs.map Enc.enc)) ∧ fp k
def IP (g : E → Option (List α)) (it : If) : Prop := ∀ e ρ M fp, EnvR.rel e ρ M fp → Cl M → ∀ xs, g e = some xs → it ρ M = some (xs.map Enc.enc, none, M)
theorem IP.v {g : E → Option (List α)} {it : If} (h : IP g it) : IV g it := fun e ρ M fp R C xs q => ⟨none, h e ρ M fp R C xs q, fun k z => nomatch z⟩
omit [EnvR E] in
@[simp] def iL [Sq σ α] (g : E → Option σ) : E → Option (List α) := fun e => (g e).map Sq.toL
theorem gk_enc (x : α) : gkOf (Enc.enc x) = none := by
  have := Enc.nle 0 x
  cases hx : Enc.enc x with
  | loc k => rw [hx, nl_loc] at this; simp at this
  | _ => rfl
theorem i_seq [Sq σ α] {g : E → Option σ} {f : Ef} (h : EP g f) : IP (iL g) (iSeq f) := fun e ρ M fp R C xs q => by
  unfold iL at q
  cases hg : g e with
  | none => rw [hg] at q; cases q
  | some a =>
    rw [hg] at q; cases q
    obtain ⟨r, k1, k2⟩ := h e ρ M fp R C a hg
    simp [iSeq, k1, k2, Sq.ok, gk_enc]
def rgT (lo : Int) (n : Nat) : List Int := (List.range n).map fun (i : Nat) => lo + i
theorem rgT_D {lo : Int} {n : Nat} : rgD lo n = (rgT lo n).map Enc.enc := by unfold rgD rgT; rw [List.map_map]; rfl
omit [EnvR E] in
@[simp] def iR1 (g : E → Option Int) : E → Option (List Int) := fun e => (g e).bind fun j => if rgB j = true then some (rgT 0 j.toNat) else none
theorem i_rg1 {g : E → Option Int} {f : Ef} (h : EV g f) : IP (iR1 g) (iRg1 f) := fun e ρ M fp R C xs q => by
  unfold iR1 at q
  cases hg : g e with
  | none => rw [hg] at q; cases q
  | some a =>
    rw [hg] at q
    obtain ⟨r, k1, k2⟩ := h.p e ρ M fp R C a hg
    simp only [Option.bind_some] at q
    split at q
    · rename_i hb; cases q
      have k2 : r.d = .int a := k2
      unfold iRg1
      rw [k1]
      simp only [Option.bind_some]
      rw [k2]
      simp only
      rw [if_pos hb, rgT_D]
    · cases q
def enT (xs : List α) : List (Int × α) := xs.zipIdx.map fun p => (((p.2 : Nat) : Int), p.1)
omit [EnvR E] in
@[simp] def iEn [Sq σ α] (g : E → Option σ) : E → Option (List (Int × α)) := fun e => (g e).map fun x => enT (Sq.toL x)
theorem i_en [Sq σ α] {g : E → Option σ} {f : Ef} (h : EP g f) : IP (iEn g) (iEnT f) := fun e ρ M fp R C xs q => by
  unfold iEn at q
  cases hg : g e with
  | none => rw [hg] at q; cases q
  | some a =>
    rw [hg] at q; cases q
    obtain ⟨r, k1, k2⟩ := h e ρ M fp R C a hg
    have k3 : iEnT f ρ M = iEnT1 (r, M) := by rw [iEnT_ap, k1]; rfl
    have k4 : asS M r.d = some ((Sq.toL a).map Enc.enc) := by rw [k2]; exact Sq.ok M a
    have k5 : iEnT1 (r, M) = some (enD ((Sq.toL a).map Enc.enc), none, M) := by
      have nl0 := Enc.nle 0 a
      rw [← k2] at nl0
      unfold iEnT1
      simp only
      cases hd : r.d with
      | tup ds => rw [hd] at k4; cases k4; rfl
      | lst ds => rw [hd] at k4; cases k4; rfl
      | scr ns => rw [hd] at k4; simp [asS, asL] at k4; simp [k4]
      | loc k => rw [hd, nl_loc] at nl0; simp at nl0
      | _ => rw [hd] at k4; simp [asS, asL] at k4
    rw [k3, k5, enD_map]
    unfold enT
    rw [List.map_map]
    rfl
def chS (x : Str) : List Str := x.cps.toList.map fun c => ⟨#[c]⟩
omit [EnvR E] in
@[simp] def iCh (g : E → Option Str) : E → Option (List Str) := fun e => (g e).map chS
theorem i_st {g : E → Option Str} {f : Ef} (h : EV g f) : IP (iCh g) (iSt f) := fun e ρ M fp R C xs q => by
  unfold iCh at q
  cases hg : g e with
  | none => rw [hg] at q; cases q
  | some a =>
    rw [hg] at q; cases q
    obtain ⟨r, k1, k2⟩ := h.p e ρ M fp R C a hg
    have k2 : r.d = .str a := k2
    unfold iSt
    rw [k1]
    simp only [Option.bind_some]
    rw [k2]
    simp only [chS, chD, List.map_map]
    rfl
omit [EnvR E] in
@[simp] def tInR (neg : Bool) (ga gb gc : E → Option Int) : E → Option Bool := fun e => (ga e).bind fun i => (gb e).bind fun lo => (gc e).map fun hi => if neg then !decide (lo ≤ i ∧ i < hi) else decide (lo ≤ i ∧ i < hi)
theorem t_inR {neg : Bool} {ga gb gc : E → Option Int} {fa fb fc : Ef} (ha : EV ga fa) (hb : EV gb fb) (hc : EV gc fc) : EP (tInR neg ga gb gc) (cInR neg fa fb fc) := fun e ρ M fp R C v q => by
  unfold tInR at q
  cases h1 : ga e with
  | none => rw [h1] at q; cases q
  | some a =>
    cases h2 : gb e with
    | none => rw [h1, h2] at q; cases q
    | some b =>
      cases h3 : gc e with
      | none => rw [h1, h2, h3] at q; cases q
      | some c =>
        rw [h1, h2, h3] at q; cases q
        obtain ⟨r, k1, k2⟩ := ha.p e ρ M fp R C a h1
        obtain ⟨r2, k3, k4⟩ := hb.p e ρ M fp R C b h2
        obtain ⟨r3, k5, k6⟩ := hc.p e ρ M fp R C c h3
        have k2 : r.d = .int a := k2
        have k4 : r2.d = .int b := k4
        have k6 : r3.d = .int c := k6
        refine ⟨.val (.bl _), ?_, rfl⟩
        unfold cInR
        rw [k1]
        simp only [Option.bind_some]
        rw [k3]
        simp only [Option.bind_some]
        rw [k5]
        simp only [Option.bind_some]
        rw [k2, k4, k6]
/-! ### targets -/
def GP (p : α → E → Option E) (g : Gf) : Prop := ∀ x e ρ M fp, EnvR.rel e ρ M fp → ∀ e', p x e = some e' → ∃ ρ' fp', g (Enc.enc x) ρ M = some (ρ', M) ∧ EnvR.rel e' ρ' M fp' ∧ ∀ j, fp' j → fp j
theorem lens_val {i : Nat} (ln : Lens E (Option α) i) [LOk ln] {e : E} {ρ : Slots} {M : Mem} {fp : Fp} (R : EnvR.rel e ρ M fp) (v : α) : ∃ fp', EnvR.rel (ln.set e (some v)) (ρ.set i (some (Enc.enc v))) M fp' ∧ ∀ j, fp' j → fp j := by
  obtain ⟨f1, h1, h2, h3⟩ := LOk.ok (ln := ln) e ρ M fp R
  obtain ⟨fp', h4, h5⟩ := h3 (some v) (some (Enc.enc v)) M (fun _ => False) rel_val (fun _ _ _ => rfl) (fun _ q => q.elim)
  exact ⟨fp', h4, fun j q => (h5 j q).elim (·.1) False.elim⟩
omit [EnvR E] in
@[simp] def pNm {i : Nat} (ln : Lens E (Option α) i) : α → E → Option E := fun x e => some (ln.set e (some x))
theorem g_nm {i : Nat} (ln : Lens E (Option α) i) [LOk ln] : GP (pNm ln) (gNm i) := fun x e ρ M fp R e' q => by
  cases q
  obtain ⟨fp', h1, h2⟩ := lens_val ln R x
  exact ⟨_, fp', rfl, h1, h2⟩
omit [EnvR E] in
@[simp] def pPr (p1 : α → E → Option E) (p2 : β → E → Option E) : α × β → E → Option E := fun x e => (p1 x.1 e).bind fun e1 => p2 x.2 e1
theorem g_pr {p1 : α → E → Option E} {p2 : β → E → Option E} {g1 g2 : Gf} (h1 : GP p1 g1) (h2 : GP p2 g2) : GP (pPr p1 p2) (gTp 2 (gsCons g1 (gsCons g2 gsNil))) := fun x e ρ M fp R e' q => by
  unfold pPr at q
  cases q1 : p1 x.1 e with
  | none => rw [q1] at q; cases q
  | some e1 =>
    rw [q1] at q
    obtain ⟨ρ1, f1, k1, k2, k3⟩ := h1 x.1 e ρ M fp R e1 q1
    obtain ⟨ρ2, f2, k4, k5, k6⟩ := h2 x.2 e1 ρ1 M f1 k2 e' q
    exact ⟨ρ2, f2, by show gTp 2 _ (.tup [_, _]) ρ M = _; simp [gTp, gsCons, gsNil, k1, k4], k5, fun j z => k3 j (k6 j z)⟩
/-! ### comprehensions -/
def WP (w : E → E) (vs : List Nat) : Prop := ∀ e ρ M fp, EnvR.rel e ρ M fp → ∃ fp', EnvR.rel (w e) (wipeD ρ vs) M fp' ∧ ∀ j, fp' j → fp j
omit [EnvR E] in
@[simp] def wNil : E → E := id
omit [EnvR E] in
@[simp] def wCons {α : Type} {i : Nat} (ln : Lens E (Option α) i) (w : E → E) : E → E := fun e => ln.set (w e) none
theorem w_nil : WP (E := E) wNil [] := fun e ρ M fp R => ⟨fp, R, fun _ q => q⟩
theorem w_cons {i : Nat} {vs : List Nat} (ln : Lens E (Option α) i) [LOk ln] {w : E → E} (h : WP w vs) : WP (wCons ln w) (i :: vs) := fun e ρ M fp R => by
  obtain ⟨f0, h1, h2⟩ := h e ρ M fp R
  obtain ⟨f1, k1, k2, k3⟩ := LOk.ok (ln := ln) (w e) (wipeD ρ vs) M f0 h1
  obtain ⟨fp', h4, h5⟩ := k3 none none M (fun _ => False) (SlotR.emp_rel (τ := Option α) _ _) (fun _ _ _ => rfl) (fun _ q => q.elim)
  exact ⟨fp', h4, fun j q => (h5 j q).elim (fun z => h2 j z.1) False.elim⟩
def filtM (f : α → Option (Option β)) : List α → Option (List β)
  | [] => some []
  | x :: xs => (f x).bind fun o => (filtM f xs).map fun r => match o with
    | some y => y :: r
    | none => r
omit [EnvR E] in
@[simp] def tElt (asg : α → E → Option E) (tt : E → Option Bool) (te : E → Option β) (e : E) (x : α) : Option (Option β) := (asg x e).bind fun e' => (tt e').bind fun b => if b = true then (te e').map some else some none
omit [EnvR E] in
@[simp] def tC (gi : E → Option (List α)) (w : E → E) (asg : α → E → Option E) (tt : E → Option Bool) (te : E → Option β) : E → Option (List β) := fun e => (gi e).bind fun xs => if xs.length ≤ 16777216 then filtM (tElt asg tt te (w e)) xs else none
omit [EnvR E] in
@[simp] def tYes : E → Option Bool := fun _ => some true
theorem p_yes : TP (E := E) tYes tYesF := fun e ρ M fp R C b q => by cases q; rfl
theorem lcF_T {asg : α → E → Option E} {tt : E → Option Bool} {te : E → Option β} {g : Gf} {t : Tf} {f : Ef} (hg : GP asg g) (ht : TP tt t) (hf : EP te f) {e : E} {ρ : Slots} {M : Mem} {fp : Fp} (R : EnvR.rel e ρ M fp) (C : Cl M) {gk : Option Nat} {ds0 : List D} (hgd : ∀ x : O, guard gk ds0 (M ++ [x])) :
    ∀ (xs : List α) (acc ys : List β), acc.length + xs.length ≤ 16777216 → filtM (tElt asg tt te e) xs = some ys → lcF g t f ρ M.length gk ds0 (xs.map Enc.enc) (M ++ [.lst (acc.map Enc.enc)]) = some (M ++ [.lst ((acc ++ ys).map Enc.enc)])
  | [], acc, ys, _, h => by cases h; simp [lcF]
  | x :: xs, acc, ys, hl, h => by
    unfold filtM at h
    cases q : tElt asg tt te e x with
    | none => rw [q] at h; cases h
    | some o =>
      rw [q] at h
      simp only [Option.bind_some] at h
      cases q2 : filtM (tElt asg tt te e) xs with
      | none => rw [q2] at h; cases h
      | some r =>
        rw [q2] at h
        simp only [Option.map_some, Option.some.injEq] at h
        unfold tElt at q
        have C1 : Cl (M ++ [.lst (acc.map Enc.enc)]) := cl_push C (nls_enc _ acc)
        have R1 : EnvR.rel e ρ (M ++ [.lst (acc.map Enc.enc)]) fp := EnvR.frame R fun j z => List.getElem?_append_left (EnvR.bnd R j z)
        cases q3 : asg x e with
        | none => rw [q3] at q; cases q
        | some e1 =>
          rw [q3] at q; simp only [Option.bind_some] at q
          obtain ⟨ρ1, f1, k1, k2, k3⟩ := hg x e ρ _ fp R1 e1 q3
          cases q4 : tt e1 with
          | none => rw [q4] at q; cases q
          | some b =>
            rw [q4] at q; simp only [Option.bind_some] at q
            have k4 := ht e1 ρ1 _ f1 k2 C1 b q4
            rw [List.map_cons]
            unfold lcF
            rw [k1]
            simp only [Option.bind_some]
            rw [k4]
            simp only [Option.bind_some]
            cases b with
            | false =>
              simp at q
              subst q
              subst h
              rw [if_neg (by simp), if_pos (hgd _)]
              exact lcF_T hg ht hf R C hgd xs acc r (by simp at hl ⊢; omega) q2
            | true =>
              simp only [if_true] at q ⊢
              cases q5 : te e1 with
              | none => rw [q5] at q; cases q
              | some y =>
                rw [q5] at q
                cases q
                subst h
                obtain ⟨z, k5, k6⟩ := hf e1 ρ1 _ f1 k2 C1 y q5
                rw [k5]
                simp only [Option.bind_some]
                rw [get_end]
                simp only [List.length_map]
                have hz : acc.length < sizeLine := by rw [line_lt]; simp at hl; omega
                rw [if_pos hz, set_end, if_pos (hgd _), k6]
                have := lcF_T hg ht hf R C hgd xs (acc ++ [y]) r (by simp at hl ⊢; omega) q2
                rw [List.map_append] at this
                simp only [List.map_cons, List.map_nil] at this
                rw [this]
                simp
theorem t_lc {gi : E → Option (List α)} {w : E → E} {vs : List Nat} {asg : α → E → Option E} {tt : E → Option Bool} {te : E → Option β} {it : If} {g : Gf} {t : Tf} {f : Ef} (hi : IV gi it) (hw : WP w vs) (hg : GP asg g) (ht : TP tt t) (hf : EP te f) :
    EN (tC gi w asg tt te) (cLc it vs g t f) := fun e ρ M fp R C v q => by
  unfold tC at q
  cases q1 : gi e with
  | none => rw [q1] at q; cases q
  | some xs =>
    rw [q1] at q; simp only [Option.bind_some] at q
    split at q
    · rename_i hl
      obtain ⟨gk, k1, k2⟩ := hi e ρ M fp R C xs q1
      obtain ⟨fw, k3, k4⟩ := hw e ρ M fp R
      have gd : guard gk (xs.map Enc.enc) M := fun k z => (k2 k z).1
      have := lcF_T hg ht hf k3 C (guard_app gd) xs [] v (by simpa using hl) q
      simp only [List.map_nil, List.nil_append] at this
      refine ⟨v.map Enc.enc, ?_, rfl⟩
      unfold cLc
      rw [k1]
      simp only [Option.bind_some]
      rw [this]
      simp only [Option.bind_some]
      rw [get_end]
      simp only
      rw [if_pos]
      · simp
      · exact ⟨by simp, .inl (by simp), nls_enc _ v⟩
    · cases q
end
end TL

/-! T5: the typed reading of statements and defs -/
namespace TL
open PySem PySem.Spec PyProof.Rows L2 CI
inductive Fw (β E : Type) where
  | nx (e : E) | bk (e : E) | ct (e : E) | rt (b : β)
/-- how a def hands back: a value, a new list, a tuple with new lists in it -/
inductive RM where
  | v | n | r
  deriving DecidableEq
/-- what a def hands back, by a relation that grows with the places of its own -/
structure RTy (β : Type) where
  R : β → Rz → Mem → Fp → Prop
  mono : ∀ {b r M fp fp1}, (∀ j, fp1 j → fp j) → R b r M fp1 → R b r M fp
section
variable {E : Type} [EnvR E] {α β γ δ ε σ : Type} [Enc α] [Enc γ] [Enc δ] [Enc ε] [Enc σ] {A : Type} [Args A] {fr : RM} {RT : RTy β}
def RelQ (n : Nat) (fp : Fp) (e : E) (ρ : Slots) (M : Mem) : Prop := ∃ fp', EnvR.rel e ρ M fp' ∧ ∀ j, fp' j → fp j ∨ n ≤ j
def RetR [Enc β] (fr : RM) (b : β) (r : Rz) (M : Mem) (fp : Fp) : Prop := (fr ≠ .n ∧ r.d = Enc.enc b) ∨ (∃ ds, r = .new ds ∧ Enc.enc b = .lst ds) ∨ (∃ k ds, r = .val (.loc k) ∧ M[k]? = some (.lst ds) ∧ Enc.enc b = .lst ds ∧ fp k) ∨ (fr = .r ∧ ∃ ds, r = .val (.tup ds) ∧ ∀ n, (∀ k, fp k → n ≤ k) → resD n M (.tup ds) = some (Enc.enc b))
def Out (RT : RTy β) (n : Nat) (fp : Fp) : Fw β E → Fl → Slots → Mem → Prop
  | .nx e, fl, ρ, M => fl = .nx ∧ RelQ n fp e ρ M
  | .bk e, fl, ρ, M => fl = .bk ∧ RelQ n fp e ρ M
  | .ct e, fl, ρ, M => fl = .ct ∧ RelQ n fp e ρ M
  | .rt b, fl, ρ, M => ∃ r, fl = .rt r ∧ RT.R b r M fun j => fp j ∨ n ≤ j
def SP (RT : RTy β) (g : E → Option (Fw β E)) (f : Sf) : Prop := ∀ e ρ M fp, EnvR.rel e ρ M fp → Cl M → ∀ o, g e = some o → ∃ fl ρ' M', f ρ M = some (fl, ρ', M') ∧ Frm M fp M' ∧ Cl M' ∧ Out RT M.length fp o fl ρ' M'
theorem RelQ.mono {n n1 : Nat} {fp fp1 : Fp} {e : E} {ρ : Slots} {M : Mem} (hf : ∀ j, fp1 j → fp j ∨ n ≤ j) (hn : n ≤ n1) (h : RelQ n1 fp1 e ρ M) : RelQ n fp e ρ M := by
  obtain ⟨fp', h1, h2⟩ := h
  exact ⟨fp', h1, fun j q => (h2 j q).elim (hf j) fun z => .inr (by omega)⟩
theorem RetR.mono [Enc β] {b : β} {r : Rz} {M : Mem} {fp fp1 : Fp} (hf : ∀ j, fp1 j → fp j) (h : RetR fr b r M fp1) : RetR fr b r M fp := by
  rcases h with h | h | ⟨k, ds, h1, h2, h3, h4⟩ | ⟨h0, ds, h1, h2⟩
  · exact .inl h
  · exact .inr (.inl h)
  · exact .inr (.inr (.inl ⟨k, ds, h1, h2, h3, hf k h4⟩))
  · exact .inr (.inr (.inr ⟨h0, ds, h1, fun n q => h2 n fun k z => q k (hf k z)⟩))
abbrev rt [Enc β] (fr : RM) : RTy β := ⟨RetR fr, RetR.mono⟩
theorem Out.mono {n n1 : Nat} {fp fp1 : Fp} (hf : ∀ j, fp1 j → fp j ∨ n ≤ j) (hn : n ≤ n1) : ∀ {o : Fw β E} {fl : Fl} {ρ : Slots} {M : Mem}, Out RT n1 fp1 o fl ρ M → Out RT n fp o fl ρ M
  | .nx _, _, _, _, h => ⟨h.1, h.2.mono hf hn⟩
  | .bk _, _, _, _, h => ⟨h.1, h.2.mono hf hn⟩
  | .ct _, _, _, _, h => ⟨h.1, h.2.mono hf hn⟩
  | .rt _, _, _, _, ⟨r, h1, h2⟩ => ⟨r, h1, RT.mono (fun j z => z.elim (hf j) fun z => .inr (by omega)) h2⟩
/-! ### plain statements -/
omit [EnvR E] in
@[simp] def tNil : E → Option (Fw β E) := fun e => some (.nx e)
theorem s_nil : SP (E := E) (β := β) RT tNil sNil := fun e ρ M fp R C o q => by
  cases q; exact ⟨_, _, _, rfl, .refl, C, rfl, fp, R, fun _ z => .inl z⟩
omit [EnvR E] in
@[simp] def tSeq1 (g2 : E → Option (Fw β E)) : Fw β E → Option (Fw β E)
  | .nx e => g2 e
  | .bk e => some (.bk e)
  | .ct e => some (.ct e)
  | .rt b => some (.rt b)
omit [EnvR E] in
@[simp] def tSeq (g1 g2 : E → Option (Fw β E)) : E → Option (Fw β E) := fun e => (g1 e).bind (tSeq1 g2)
theorem s_cons {g1 g2 : E → Option (Fw β E)} {f1 f2 : Sf} (h1 : SP RT g1 f1) (h2 : SP RT g2 f2) : SP RT (tSeq g1 g2) (sCons f1 f2) := fun e ρ M fp R C o q => by
  unfold tSeq at q
  cases q1 : g1 e with
  | none => rw [q1] at q; cases q
  | some o1 =>
    rw [q1] at q; simp only [Option.bind_some] at q
    obtain ⟨fl, ρ1, M1, k1, k2, k3, k4⟩ := h1 e ρ M fp R C o1 q1
    unfold sCons
    rw [k1]; simp only [Option.bind_some]
    cases o1 with
    | nx e1 =>
      obtain ⟨rfl, fp1, k5, k6⟩ := k4
      obtain ⟨fl2, ρ2, M2, l1, l2, l3, l4⟩ := h2 e1 ρ1 M1 fp1 k5 k3 o q
      exact ⟨fl2, ρ2, M2, l1, k2.trans k6 l2, l3, l4.mono k6 k2.1⟩
    | bk e1 => cases q; obtain ⟨rfl, k4⟩ := k4; exact ⟨_, _, _, rfl, k2, k3, rfl, k4⟩
    | ct e1 => cases q; obtain ⟨rfl, k4⟩ := k4; exact ⟨_, _, _, rfl, k2, k3, rfl, k4⟩
    | rt b => cases q; obtain ⟨r, rfl, k4⟩ := k4; exact ⟨_, _, _, rfl, k2, k3, r, rfl, k4⟩
omit [EnvR E] in
@[simp] def tSet {i : Nat} (ln : Lens E (Option α) i) (g : E → Option α) : E → Option (Fw β E) := fun e => (g e).map fun v => .nx (ln.set e (some v))
theorem s_set {i : Nat} (ln : Lens E (Option α) i) [LOk ln] {g : E → Option α} {f : Ef} (h : EP g f) : SP (β := β) RT (tSet ln g) (sSet i f) := fun e ρ M fp R C o q => by
  unfold tSet at q
  cases q1 : g e with
  | none => rw [q1] at q; cases q
  | some v =>
    rw [q1] at q; cases q
    obtain ⟨r, k1, k2⟩ := h e ρ M fp R C v q1
    obtain ⟨fp', k3, k4⟩ := lens_val ln R v
    exact ⟨_, _, _, by simp [sSet, k1, k2], .refl, C, rfl, fp', k3, fun j z => .inl (k4 j z)⟩
omit [EnvR E] in
@[simp] def tSetL {i : Nat} (ln : Lens E (Ob (LS α)) i) (g : E → Option (List α)) : E → Option (Fw β E) := fun e => (g e).map fun v => .nx (ln.set e ⟨some ⟨v⟩⟩)
theorem s_setL {i : Nat} (ln : Lens E (Ob (LS α)) i) [LOk ln] {g : E → Option (List α)} {f : Ef} (h : EN g f) : SP (β := β) RT (tSetL ln g) (sSetM i f) := fun e ρ M fp R C o q => by
  unfold tSetL at q
  cases q1 : g e with
  | none => rw [q1] at q; cases q
  | some v =>
    rw [q1] at q; cases q
    obtain ⟨ds, k1, k2⟩ := h e ρ M fp R C v q1
    have k2 : D.lst (v.map Enc.enc) = .lst ds := k2
    cases k2
    obtain ⟨f1, h1, h2, h3⟩ := LOk.ok (ln := ln) e ρ M fp R
    obtain ⟨fp', h4, h5⟩ := h3 ⟨some ⟨v⟩⟩ (some (.loc M.length)) (M ++ [.lst (v.map Enc.enc)]) (fun j => j = M.length) (ob_mk rfl ⟨get_end, fun _ => Iff.rfl⟩)
      (fun j z _ => List.getElem?_append_left (EnvR.bnd R j z)) (fun j z => .inr (by omega))
    refine ⟨.nx, ρ.set i (some (.loc M.length)), M ++ [.lst (v.map Enc.enc)], by simp [sSetM, k1], ⟨by simp, fun j z _ => List.getElem?_append_left z⟩, cl_push C (show nlO M.length (.lst (v.map Enc.enc)) = true from nls_enc _ v), rfl, fp', h4, fun j z => ?_⟩
    rcases h5 j z with z | z
    · exact .inl z.1
    · exact .inr (by omega)
/-- a list of a name of its own is changed in its place -/
theorem ls_upd {i : Nat} (ln : Lens E (Ob (LS α)) i) [LOk ln] {e : E} {ρ : Slots} {M : Mem} {fp : Fp} (R : EnvR.rel e ρ M fp) (C : Cl M) {s : LS α} (hv : (ln.get e).v = some s) : ∃ k, slot ρ i = some (.loc k) ∧ M[k]? = some (.lst (s.l.map Enc.enc)) ∧ fp k ∧
    ∀ xs : List α, (∃ fp', EnvR.rel (ln.set e ⟨some ⟨xs⟩⟩) ρ (M.set k (.lst (xs.map Enc.enc))) fp' ∧ ∀ j, fp' j → fp j) ∧ Frm M fp (M.set k (.lst (xs.map Enc.enc))) ∧ Cl (M.set k (.lst (xs.map Enc.enc))) := by
  obtain ⟨f1, h1, h2, h3⟩ := LOk.ok (ln := ln) e ρ M fp R
  obtain ⟨k, k1, k2⟩ := ob_some h1 hv
  obtain ⟨k3, k4⟩ := ls_get k2
  have hk := lt_of_get k3
  refine ⟨k, k1, k3, h2 k ((k4 k).mpr rfl), fun xs => ⟨?_, ⟨by simp, fun j _ z => List.getElem?_set_ne (fun y => z (by rw [← y]; exact h2 k ((k4 k).mpr rfl)))⟩, cl_set C (nls_enc _ xs)⟩⟩
  obtain ⟨fp', h4, h5⟩ := h3 ⟨some ⟨xs⟩⟩ (some (.loc k)) (M.set k (.lst (xs.map Enc.enc))) (fun j => j = k) (ob_mk rfl ⟨by rw [List.getElem?_set_self hk], fun _ => Iff.rfl⟩)
    (fun j _ z => List.getElem?_set_ne (fun y => z ((k4 j).mpr y.symm))) (fun j z => .inl ((k4 j).mpr z))
  have e1 : ρ.set i (some (.loc k)) = ρ := by
    have := slot_some k1
    exact List.ext_getElem? fun j => by
      by_cases y : i = j
      · subst y; rw [List.getElem?_set_self (List.getElem?_eq_some_iff.mp this).1, this]
      · rw [List.getElem?_set_ne y]
  rw [e1] at h4
  refine ⟨fp', h4, fun j z => ?_⟩
  rcases h5 j z with z | z
  · exact z.1
  · rw [z]; exact h2 k ((k4 k).mpr rfl)
theorem cBM_of {T : String} {o : Mop} {f : Ef} {g : Af} {ρ : Slots} {M : Mem} {k : Nat} (h1 : f ρ M = some (.val (.loc k), M)) (h2 : tyOf M (.loc k) = some T) : cBM T o f g ρ M = (g ρ M).bind fun q => o (.loc k) q.1 q.2 := by
  unfold cBM; rw [h1]; simp only [Option.bind_some]; exact if_pos h2
omit [EnvR E] in
@[simp] def tApp {i : Nat} (ln : Lens E (Ob (LS α)) i) (g : E → Option α) : E → Option (Fw β E) := fun e => (ln.get e).v.bind fun s => (g e).bind fun v => if s.l.length < 16777216 then some (.nx (ln.set e ⟨some ⟨s.l ++ [v]⟩⟩)) else none
theorem s_app {i : Nat} (ln : Lens E (Ob (LS α)) i) [LOk ln] {g : E → Option α} {f : Ef} (h : EP g f) : SP (β := β) RT (tApp ln g) (sExpr (cBM "list" oAppend (cVar i) (aCons f aNil))) := fun e ρ M fp R C o q => by
  unfold tApp at q
  cases hv : (ln.get e).v with
  | none => rw [hv] at q; cases q
  | some s =>
    rw [hv] at q; simp only [Option.bind_some] at q
    cases q1 : g e with
    | none => rw [q1] at q; cases q
    | some v =>
      rw [q1] at q; simp only [Option.bind_some] at q
      split at q
      · rename_i hl; cases q
        obtain ⟨k, k1, k2, k3, k4⟩ := ls_upd ln R C hv
        obtain ⟨⟨fp', k5, k6⟩, k7, k8⟩ := k4 (s.l ++ [v])
        obtain ⟨r, k9, k10⟩ := h e ρ M fp R C v q1
        refine ⟨.nx, ρ, M.set k (.lst ((s.l ++ [v]).map Enc.enc)), ?_, k7, k8, rfl, fp', k5, fun j z => .inl (k6 j z)⟩
        have hap : oAppend (.loc k) [Enc.enc v] M = some (.val .non, M.set k (.lst (s.l.map Enc.enc ++ [Enc.enc v]))) := oAppend_loc k2 (by simpa using hl)
        unfold sExpr
        rw [cBM_of (by rw [cVar_ap, k1]; rfl) (tyOf_loc k2)]
        simp only [aCons, aNil, k9, Option.bind_some, k10, hap]
        simp
      · cases q
omit [EnvR E] in
@[simp] def tAsg (p : α → E → Option E) (g : E → Option α) : E → Option (Fw β E) := fun e => (g e).bind fun v => (p v e).map .nx
omit [EnvR E] in
@[simp] def tIfS (gt : E → Option Bool) (g1 g2 : E → Option (Fw β E)) : E → Option (Fw β E) := fun e => (gt e).bind fun b => if b = true then g1 e else g2 e
theorem s_if {gt : E → Option Bool} {g1 g2 : E → Option (Fw β E)} {t : Tf} {f1 f2 : Sf} (ht : TP gt t) (h1 : SP RT g1 f1) (h2 : SP RT g2 f2) : SP RT (tIfS gt g1 g2) (sIf t f1 f2) := fun e ρ M fp R C o q => by
  unfold tIfS at q
  cases q1 : gt e with
  | none => rw [q1] at q; cases q
  | some b =>
    rw [q1] at q; simp only [Option.bind_some] at q
    have k := ht e ρ M fp R C b q1
    unfold sIf
    rw [k]; simp only [Option.bind_some]
    cases b with
    | true => exact h1 e ρ M fp R C o (by simpa using q)
    | false => exact h2 e ρ M fp R C o (by simpa using q)
omit [EnvR E] in
@[simp] def tRet (g : E → Option β) : E → Option (Fw β E) := fun e => (g e).map .rt
theorem s_ret [Enc β] {g : E → Option β} {f : Ef} (h : EP g f) (hm : fr ≠ .n := by decide) : SP (rt fr) (tRet g) (sRet f) := fun e ρ M fp R C o q => by
  unfold tRet at q
  cases q1 : g e with
  | none => rw [q1] at q; cases q
  | some v =>
    rw [q1] at q; cases q
    obtain ⟨r, k1, k2⟩ := h e ρ M fp R C v q1
    exact ⟨.rt r, ρ, M, by simp [sRet, k1], .refl, C, r, rfl, .inl ⟨hm, k2⟩⟩
theorem s_retN [Enc β] {g : E → Option β} {f : Ef} (h : EN g f) : SP (rt fr) (tRet g) (sRet f) := fun e ρ M fp R C o q => by
  unfold tRet at q
  cases q1 : g e with
  | none => rw [q1] at q; cases q
  | some v =>
    rw [q1] at q; cases q
    obtain ⟨ds, k1, k2⟩ := h e ρ M fp R C v q1
    exact ⟨.rt (.new ds), ρ, M, by simp [sRet, k1], .refl, C, _, rfl, .inr (.inl ⟨ds, rfl, k2⟩)⟩
theorem s_retL {i : Nat} (ln : Lens E (Ob (LS α)) i) [LOk ln] : SP (rt fr) (tRet (tL ln)) (sRet (cVar i)) := fun e ρ M fp R C o q => by
  unfold tRet tL at q
  cases hv : (ln.get e).v with
  | none => rw [hv] at q; cases q
  | some s =>
    rw [hv] at q; cases q
    obtain ⟨k, k1, k2, k3, k4⟩ := ls_upd ln R C hv
    exact ⟨.rt (.val (.loc k)), ρ, M, by simp [sRet, k1], .refl, C, _, rfl, .inr (.inr (.inl ⟨k, _, rfl, k2, rfl, .inl k3⟩))⟩
theorem resD_enc (n : Nat) (M : Mem) : (∀ d, nl 0 d = true → resD n M d = some d) ∧ ∀ ds, nls 0 ds = true → resDs n M ds = some ds := by
  have key : ∀ (k : Nat), (∀ d, sizeOf d < k → nl 0 d = true → resD n M d = some d) ∧ ∀ ds : List D, sizeOf ds < k → nls 0 ds = true → resDs n M ds = some ds := by
    intro k
    induction k with
    | zero => exact ⟨fun d h => by omega, fun ds h => by omega⟩
    | succ k ih =>
      refine ⟨fun d hk h => ?_, fun ds hk h => ?_⟩
      · cases d with
        | loc j => rw [nl_loc] at h; simp at h
        | tup ds => rw [nl_tup] at h; rw [resD, ih.2 ds (by simp at hk; omega) h]; rfl
        | lst ds => rw [nl_lst] at h; rw [resD, if_pos (nls_mono (Nat.zero_le _) h)]
        | _ => rw [resD]
      · cases ds with
        | nil => rw [resDs]
        | cons d ds =>
          rw [nls_cons, Bool.and_eq_true] at h
          simp at hk
          rw [resDs, ih.1 d (by omega) h.1, Option.bind_some, ih.2 ds (by omega) h.2]; rfl
  exact ⟨fun d h => (key (sizeOf d + 1)).1 d (by omega) h, fun ds h => (key (sizeOf ds + 1)).2 ds (by omega) h⟩
/-! ### loops -/
theorem tidy_T {kl : List Bool} {e : E} {ρ : Slots} {M Me : Mem} {fp fpe : Fp} (C : Cl M) (Ce : Cl Me) (F : Frm M fp Me) (R : EnvR.rel e ρ Me fpe) (hf : ∀ j, fpe j → fp j ∨ M.length ≤ j) :
    ∃ M3, tidy kl M ρ Me = (keepD kl ρ, M3) ∧ Cl M3 ∧ Frm M fp M3 ∧ RelQ M.length fp (EnvR.keep kl e) (keepD kl ρ) M3 ∧ ∀ (k : Nat) (o : O), k < M.length → Me[k]? = some o → M3[k]? = some o := by
  obtain ⟨f3, k1, k2⟩ := EnvR.keep_rel kl R
  unfold tidy
  split
  · rename_i h
    refine ⟨Me.take M.length, rfl, ?_, ?_, ?_, ?_⟩
    · intro j o q
      have hj := lt_of_get q
      rw [List.length_take] at hj ⊢
      have e1 : min M.length Me.length = M.length := Nat.min_eq_left F.1
      rw [e1] at hj ⊢
      rw [List.getElem?_take_of_lt hj] at q
      rcases h.1.2 j o hj q with z | z
      · exact C j o z
      · exact z
    · refine ⟨by rw [List.length_take]; have := F.1; omega, fun j z y => ?_⟩
      rw [List.getElem?_take_of_lt z]
      exact F.2 j z y
    · have tr : ∀ j, f3 j → j < M.length := EnvR.trim k1 h.2 fun j o z q => by
        rcases h.1.2 j o z q with y | y
        · exact C j o y
        · exact y
      exact ⟨f3, EnvR.frame k1 fun j z => List.getElem?_take_of_lt (tr j z), fun j z => hf j (k2 j z)⟩
    · intro k o z q
      rw [List.getElem?_take_of_lt z]; exact q
  · exact ⟨Me, rfl, Ce, F, ⟨f3, k1, fun j z => hf j (k2 j z)⟩, fun _ _ _ q => q⟩
omit [EnvR E] in
def forT1 (kp : E → E) (asg : α → E → Option E) (body : E → Option (Fw β E)) (rec_ : E → Option (Fw β E)) : Fw β E → Option (Fw β E)
  | .nx e => rec_ (kp e)
  | .ct e => rec_ (kp e)
  | .bk e => some (.nx e)
  | .rt b => some (.rt b)
omit [EnvR E] in
def forT (kp : E → E) (asg : α → E → Option E) (body : E → Option (Fw β E)) : List α → E → Option (Fw β E)
  | [], e => some (.nx e)
  | x :: xs, e => (asg x e).bind fun e1 => (body e1).bind (forT1 kp asg body (forT kp asg body xs))
theorem for_T {kl : List Bool} {asg : α → E → Option E} {body : E → Option (Fw β E)} {g : Gf} {f : Sf} {ds0 : List D} (hg : GP asg g) (hb : SP RT body f) : ∀ (xs : List α) (e : E) (ρ : Slots) (M : Mem) (fp : Fp), EnvR.rel e ρ M fp → Cl M → ∀ o, forT (EnvR.keep kl) asg body xs e = some o →
    ∃ fl ρ' M', loopF (stpK kl none ds0 g f) (xs.map Enc.enc) ρ M = some (fl, ρ', M') ∧ Frm M fp M' ∧ Cl M' ∧ Out RT M.length fp o fl ρ' M'
  | [], e, ρ, M, fp, R, C, o, q => by
    cases q
    exact ⟨.nx, ρ, M, rfl, .refl, C, rfl, fp, R, fun _ z => .inl z⟩
  | x :: xs, e, ρ, M, fp, R, C, o, q => by
    unfold forT at q
    cases q1 : asg x e with
    | none => rw [q1] at q; cases q
    | some e1 =>
      rw [q1] at q; simp only [Option.bind_some] at q
      obtain ⟨ρ1, f1, k1, k2, k3⟩ := hg x e ρ M fp R e1 q1
      cases q2 : body e1 with
      | none => rw [q2] at q; cases q
      | some o1 =>
        rw [q2] at q; simp only [Option.bind_some] at q
        obtain ⟨fl, ρ2, M2, k4, k5, k6, k7⟩ := hb e1 ρ1 M f1 k2 C o1 q2
        have F2 : Frm M fp M2 := ⟨k5.1, fun j z y => k5.2 j z fun w => y (k3 j w)⟩
        have go : ∀ {e2 : E}, RelQ M.length f1 e2 ρ2 M2 → (fl = .nx ∨ fl = .ct) → forT (EnvR.keep kl) asg body xs (EnvR.keep kl e2) = some o →
            ∃ fl' ρ' M', loopF (stpK kl none ds0 g f) ((x :: xs).map Enc.enc) ρ M = some (fl', ρ', M') ∧ Frm M fp M' ∧ Cl M' ∧ Out RT M.length fp o fl' ρ' M' := by
          intro e2 r2 hfl hq
          obtain ⟨fp2, r3, r4⟩ := r2
          obtain ⟨M3, t1, t2, t3, ⟨f3, t4, t5⟩, _⟩ := tidy_T (kl := kl) C k6 F2 r3 fun j z => (r4 j z).elim (fun y => .inl (k3 j y)) .inr
          obtain ⟨fl', ρ', M', l1, l2, l3, l4⟩ := for_T (ds0 := ds0) hg hb xs _ _ M3 f3 t4 t2 o hq
          refine ⟨fl', ρ', M', ?_, t3.trans t5 l2, l3, l4.mono t5 t3.1⟩
          rw [List.map_cons, loopF_cons, stpK_ap, k1, bnd_some, stpK1_ap, k4, bnd_some]
          rcases hfl with rfl | rfl
          · rw [stpOut_nx, t1, bnd_some, loopF1_nx, l1]
          · rw [stpOut_ct, t1, bnd_some, loopF1_ct, l1]
        cases o1 with
        | nx e2 => exact go k7.2 (.inl k7.1) q
        | ct e2 => exact go k7.2 (.inr k7.1) q
        | bk e2 =>
          cases q
          obtain ⟨rfl, fp2, r3, r4⟩ := k7
          refine ⟨.nx, ρ2, M2, ?_, F2, k6, rfl, fp2, r3, fun j z => (r4 j z).elim (fun y => .inl (k3 j y)) .inr⟩
          rw [List.map_cons, loopF_cons, stpK_ap, k1, bnd_some, stpK1_ap, k4, bnd_some, stpOut_bk, bnd_some, loopF1_bk]
        | rt b =>
          cases q
          obtain ⟨r, rfl, r2⟩ := k7
          refine ⟨.rt r, [], M2, ?_, F2, k6, r, rfl, RT.mono (fun j z => z.elim (fun y => .inl (k3 j y)) .inr) r2⟩
          rw [List.map_cons, loopF_cons, stpK_ap, k1, bnd_some, stpK1_ap, k4, bnd_some, stpOut_rt, bnd_some, loopF1_rt]
omit [EnvR E] in
@[simp] def tFor (kp : E → E) (gi : E → Option (List α)) (asg : α → E → Option E) (body : E → Option (Fw β E)) : E → Option (Fw β E) := fun e => (gi e).bind fun xs => forT kp asg body xs (kp e)
theorem s_for {kp : E → E} {kl : List Bool} {gi : E → Option (List α)} {asg : α → E → Option E} {body : E → Option (Fw β E)} {it : If} {g : Gf} {f : Sf} (hi : IP gi it) (hg : GP asg g) (hb : SP RT body f) [KOk kl kp] : SP RT (tFor kp gi asg body) (sForK kl it g f) := fun e ρ M fp R C o q => by
  have ek : kp = EnvR.keep kl := funext fun e => (KOk.eq (kl := kl) e).symm
  subst ek
  unfold tFor at q
  cases q1 : gi e with
  | none => rw [q1] at q; cases q
  | some xs =>
    rw [q1] at q; simp only [Option.bind_some] at q
    have k1 := hi e ρ M fp R C xs q1
    obtain ⟨f2, k2, k3⟩ := EnvR.keep_rel kl R
    obtain ⟨fl, ρ', M', l1, l2, l3, l4⟩ := for_T (ds0 := xs.map Enc.enc) hg hb xs _ _ M f2 k2 C o q
    refine ⟨fl, ρ', M', ?_, ⟨l2.1, fun j z y => l2.2 j z fun w => y (k3 j w)⟩, l3, l4.mono (fun j z => .inl (k3 j z)) (Nat.le_refl _)⟩
    unfold sForK
    rw [k1]
    exact l1
end
end TL

/-! T6: the typed reading of loops over own lists, while, defs; reckoning with them -/
namespace TL
open PySem PySem.Spec PyProof.Rows L2 CI
section
variable {E : Type} [EnvR E] {α β γ δ ε σ : Type} [Enc α] [Enc γ] [Enc δ] [Enc ε] [Enc σ] {A : Type} [Args A] {fr : RM} {RT : RTy β}
/-! ### while -/
/-! ### defs -/
omit [EnvR E] in
@[simp] def fnE (nx : Option β) : Fw β E → Option β
  | .rt b => some b
  | .nx _ => nx
  | _ => none
omit [EnvR E] in
@[simp] def fnT (init : A → E) (nx : Option β) (body : E → Option (Fw β E)) : A → Option β := fun a => (body (init a)).bind (fnE nx)
theorem frm_app {M M' : Mem} (F : Frm M (fun _ => False) M') : ∃ G, M' = M ++ G := by
  refine ⟨M'.drop M.length, ?_⟩
  conv => lhs; rw [← List.take_append_drop M.length M']
  congr 1
  apply List.ext_getElem?
  intro j
  by_cases h : j < M.length
  · rw [List.getElem?_take_of_lt h]; exact F.2 j h id
  · rw [List.getElem?_eq_none (by rw [List.length_take]; omega), List.getElem?_eq_none (by omega)]
theorem fin_T [Enc β] {b : β} {r : Rz} {M M' : Mem} (F : Frm M (fun _ => False) M') (h : RetR fr b r M' fun j => False ∨ M.length ≤ j) : (fr ≠ .n ∧ ∃ r', finR M r M' = (r', M) ∧ r'.d = Enc.enc b ∧ (fr = .v → finK M r M' = (r', M))) ∨ ∃ ds, finR M r M' = (.new ds, M) ∧ finK M r M' = (.new ds, M) ∧ Enc.enc b = .lst ds := by
  obtain ⟨G, rfl⟩ := frm_app F
  have n := Enc.nle M.length b
  rcases h with ⟨h0, h⟩ | ⟨ds, rfl, h⟩ | ⟨k, ds, rfl, h1, h2, h3⟩ | ⟨h0, ds, rfl, h1⟩
  · left
    refine ⟨h0, ?_⟩
    have n0 := Enc.nle 0 b
    rw [← h] at n n0
    cases r with
    | val d =>
      have fk : finK M (.val d) (M ++ G) = (.val d, M) := finK_appV n
      refine ⟨.val d, ?_, h, fun _ => fk⟩
      unfold finR
      split
      · rename_i ds e
        cases e
        rw [if_pos trimOk_app, (resD_enc _ _).1 (.tup ds) n0]
        simp
      · exact fk
    | new ds =>
      have fk : finK M (.new ds) (M ++ G) = (.new ds, M) := finK_appN (by simpa using n)
      exact ⟨.new ds, fk, h, fun _ => fk⟩
  · right
    rw [h] at n
    have fk : finK M (.new ds) (M ++ G) = (.new ds, M) := finK_appN (by simpa using n)
    exact ⟨ds, fk, fk, h⟩
  · right
    rw [h2] at n
    have h3 : M.length ≤ k := h3.elim False.elim id
    obtain ⟨j, rfl⟩ : ∃ j, k = M.length + j := ⟨k - M.length, by omega⟩
    rw [get_appj] at h1
    have fk := finK_appL (M := M) h1 (by simpa using n)
    exact ⟨ds, fk, fk, h2⟩
  · left
    refine ⟨by rw [h0]; decide, .val (Enc.enc b), ?_, rfl, fun z => by rw [h0] at z; cases z⟩
    unfold finR
    simp only
    rw [if_pos trimOk_app, h1 M.length fun k z => z.elim False.elim id]
    simp
theorem rnOut {np ns : Nat} {body : Sf} {ds : List D} {M : Mem} : mkFnR np ns body ds M = if ds.length = np then (match body (ds.map some ++ List.replicate (ns - ds.length) none) M with
  | some (.rt r, _, Me) => some (finR M r Me)
  | some (.nx, _, Me) => some (finR M (.val .non) Me)
  | _ => none) else none := rfl
theorem knOut {np ns : Nat} {body : Sf} {ds : List D} {M : Mem} : mkFnK np ns body ds M = if ds.length = np then (match body (ds.map some ++ List.replicate (ns - ds.length) none) M with
  | some (.rt r, _, Me) => some (finK M r Me)
  | some (.nx, _, Me) => some (finK M (.val .non) Me)
  | _ => none) else none := rfl
theorem fn_run [Enc β] {np ns : Nat} {init : A → E} {nx : Option β} {body : E → Option (Fw β E)} {f : Sf} (hi : ∀ a M, EnvR.rel (init a) ((Args.encs a).map some ++ List.replicate (ns - (Args.encs a).length) none) M fun _ => False) (hl : ∀ a : A, (Args.encs a).length = np)
    (hb : SP (rt fr) body f) (hn : ∀ b, nx = some b → fr ≠ .n ∧ Enc.enc b = .non) {a : A} {b : β} (q : fnT init nx body a = some b) {M : Mem} (C : Cl M) :
    (fr ≠ .n ∧ ∃ r', mkFnR np ns f (Args.encs a) M = some (r', M) ∧ r'.d = Enc.enc b ∧ (fr = .v → mkFnK np ns f (Args.encs a) M = some (r', M))) ∨ ∃ ds, mkFnR np ns f (Args.encs a) M = some (.new ds, M) ∧ mkFnK np ns f (Args.encs a) M = some (.new ds, M) ∧ Enc.enc b = .lst ds := by
  unfold fnT at q
  cases q1 : body (init a) with
  | none => rw [q1] at q; cases q
  | some o =>
    rw [q1] at q; simp only [Option.bind_some] at q
    obtain ⟨fl, ρ', M', k1, k2, k3, k4⟩ := hb (init a) _ M _ (hi a M) C o q1
    rw [rnOut, knOut, if_pos (hl a), if_pos (hl a), k1]
    cases o with
    | rt b' =>
      cases q
      obtain ⟨r, rfl, k5⟩ := k4
      simp only
      rcases fin_T k2 k5 with ⟨h0, r', h1, h2, h3⟩ | ⟨ds, h1, h2, h3⟩
      · exact .inl ⟨h0, r', by rw [h1], h2, fun z => by rw [h3 z]⟩
      · exact .inr ⟨ds, by rw [h1], by rw [h2], h3⟩
    | nx e' =>
      obtain ⟨rfl, _⟩ := k4
      simp only
      obtain ⟨h0, h1⟩ := hn b q
      rcases fin_T (fr := fr) (b := b) (r := .val .non) k2 (.inl ⟨h0, h1.symm⟩) with ⟨h0, r', h1, h2, h3⟩ | ⟨ds, h1, h2, h3⟩
      · exact .inl ⟨h0, r', by rw [h1], h2, fun z => by rw [h3 z]⟩
      · exact .inr ⟨ds, by rw [h1], by rw [h2], h3⟩
    | bk e' => cases q
    | ct e' => cases q
theorem fn_T [Enc β] {np ns : Nat} {init : A → E} {nx : Option β} {body : E → Option (Fw β E)} {f : Sf} (hi : ∀ a M, EnvR.rel (init a) ((Args.encs a).map some ++ List.replicate (ns - (Args.encs a).length) none) M fun _ => False) (hl : ∀ a : A, (Args.encs a).length = np)
    (hb : SP (rt .v) body f) (hn : ∀ b, nx = some b → Enc.enc b = .non) : FnT (mkFnK np ns f) (fnT init nx body) := fun a b q M C => by
  rcases fn_run hi hl hb (fun b z => ⟨by decide, hn b z⟩) q C with ⟨_, r, h1, h2, h3⟩ | ⟨ds, h1, h2, h3⟩
  · exact ⟨r, h3 rfl, h2⟩
  · exact ⟨_, h2, h3.symm⟩
theorem fn_N [Enc β] {np ns : Nat} {init : A → E} {body : E → Option (Fw β E)} {f : Sf} (hi : ∀ a M, EnvR.rel (init a) ((Args.encs a).map some ++ List.replicate (ns - (Args.encs a).length) none) M fun _ => False) (hl : ∀ a : A, (Args.encs a).length = np)
    (hb : SP (rt .n) body f) : FnN (mkFnK np ns f) (fnT init none body) := fun a b q M C => by
  rcases fn_run hi hl hb (fun b z => by cases z) q C with ⟨h, _⟩ | ⟨ds, h1, h2, h3⟩
  · exact absurd rfl h
  · exact ⟨ds, h2, h3⟩
/-! ### reckoning -/
/-- a loop by an invariant -/
theorem forT_inv {kp : E → E} {asg : α → E → Option E} {body : E → Option (Fw β E)} (I : List α → E → Prop)
    (hs : ∀ x xs e, I (x :: xs) e → ∃ e1, asg x e = some e1 ∧ ∃ e2, (body e1 = some (.nx e2) ∨ body e1 = some (.ct e2)) ∧ I xs (kp e2)) :
    ∀ xs e, I xs e → ∃ e', forT kp asg body xs e = some (.nx e') ∧ I [] e'
  | [], e, h => ⟨e, rfl, h⟩
  | x :: xs, e, h => by
    obtain ⟨e1, h1, e2, h2, h3⟩ := hs x xs e h
    unfold forT
    rw [h1]; simp only [Option.bind_some]
    obtain ⟨e', h4, h5⟩ := forT_inv I hs xs _ h3
    rcases h2 with h2 | h2 <;> (rw [h2]; simp only [Option.bind_some, forT1]; exact ⟨e', h4, h5⟩)
theorem filtM_map {f : α → Option (Option β)} {h : α → β} : ∀ {xs : List α}, (∀ x ∈ xs, f x = some (some (h x))) → filtM f xs = some (xs.map h)
  | [], _ => rfl
  | x :: xs, q => by
    unfold filtM
    rw [q x List.mem_cons_self, filtM_map fun y hy => q y (List.mem_cons_of_mem _ hy)]; rfl
theorem filtM_filter {f : α → Option (Option β)} {p : α → Bool} {h : α → β} : ∀ {xs : List α}, (∀ x ∈ xs, f x = some (if p x = true then some (h x) else none)) → filtM f xs = some ((xs.filter p).map h)
  | [], _ => rfl
  | x :: xs, q => by
    unfold filtM
    rw [q x List.mem_cons_self, filtM_filter fun y hy => q y (List.mem_cons_of_mem _ hy)]
    by_cases z : p x = true <;> simp [z]
end
end TL

/-! T7: the typed reading of dicts, count, join, signs of words -/
namespace TL
open PySem PySem.Spec PyProof.Rows L2 CI
section
variable {E : Type} [EnvR E] {α β γ κ σ : Type} [Enc α] [Enc γ] [Enc κ] [Enc σ] {RT : RTy β}
/-! ### dicts -/
class KeyE (κ : Type) [Enc κ] where
  key : κ → Key
  ok : ∀ k : κ, keyD (Enc.enc k) = some (key k)
  inj : ∀ a b : κ, key a = key b → a = b
instance : KeyE Int := ⟨Sum.inl, fun _ => rfl, fun _ _ h => Sum.inl.inj h⟩
instance : KeyE Str := ⟨Sum.inr, fun _ => rfl, fun _ _ h => Sum.inr.inj h⟩
variable [DecidableEq κ] [KeyE κ] [NL κ]
def tblD (t : List (κ × α)) : List (Key × D) := t.map fun p => (KeyE.key p.1, Enc.enc p.2)
@[simp] def lkT (t : List (κ × α)) (k : κ) : Option α := (t.find? fun p => decide (p.1 = k)).map (·.2)
theorem lk_tbl {k : κ} : ∀ t : List (κ × α), lkD (tblD t) (KeyE.key k) = (lkT t k).map Enc.enc
  | [] => rfl
  | p :: t => by
    have := lk_tbl (k := k) t
    unfold tblD at this ⊢
    rw [List.map_cons, lkD_cons, this]
    unfold lkT
    rw [List.find?_cons]
    by_cases h : p.1 = k
    · rw [if_pos (by rw [h]), h]; simp
    · rw [if_neg (fun z => h (KeyE.inj _ _ z)), decide_eq_false h]
omit [EnvR E] in
@[simp] def tGIx (t : List (κ × α)) (g : E → Option κ) : E → Option α := fun e => (g e).bind (lkT t)
omit [EnvR E] in
@[simp] def tGIn (neg : Bool) (t : List (κ × α)) (g : E → Option κ) : E → Option Bool := fun e => (g e).map fun k => neg != (lkT t k).isSome
theorem t_gix {t : List (κ × α)} {kvs : List (Key × D)} {g : E → Option κ} {f : Ef} (hk : kvs = tblD t) (h : EV g f) : EP (tGIx t g) (cGIx kvs f) := fun e ρ M fp R C v q => by
  unfold tGIx at q
  cases h1 : g e with
  | none => rw [h1] at q; cases q
  | some k =>
    rw [h1] at q; simp only [Option.bind_some] at q
    obtain ⟨r, e1, k1⟩ := h.p e ρ M fp R C k h1
    refine ⟨.val (Enc.enc v), ?_, rfl⟩
    unfold cGIx
    rw [e1]; simp only [Option.bind_some]
    rw [k1, KeyE.ok]; simp only [Option.bind_some]
    rw [hk, lk_tbl, q]; rfl
theorem t_gin {neg : Bool} {t : List (κ × α)} {kvs : List (Key × D)} {g : E → Option κ} {f : Ef} (hk : kvs = tblD t) (h : EV g f) : EP (tGIn neg t g) (cGIn neg kvs f) := fun e ρ M fp R C v q => by
  unfold tGIn at q
  cases h1 : g e with
  | none => rw [h1] at q; cases q
  | some k =>
    rw [h1] at q; cases q
    obtain ⟨r, e1, k1⟩ := h.p e ρ M fp R C k h1
    refine ⟨.val (.bl (neg != (lkT t k).isSome)), ?_, rfl⟩
    unfold cGIn
    rw [e1]; simp only [Option.bind_some]
    rw [k1, KeyE.ok]; simp only [Option.bind_some]
    rw [hk, lk_tbl, Option.isSome_map]
/-- a dict of a name of its own -/
structure DS (κ α : Type) where
  l : List (κ × α)
instance : Rep (DS κ α) where
  rep M k s fp := M[k]? = some (.dct (tblD s.l)) ∧ ∀ j, fp j ↔ j = k
  frame h hf := ⟨by rw [hf _ ((h.2 _).mpr rfl)]; exact h.1, h.2⟩
  bnd h j hj := by rw [(h.2 j).mp hj]; exact lt_of_get h.1
  self h := (h.2 _).mpr rfl
  trim h hk _ j hj := by rw [(h.2 j).mp hj]; exact hk
def putT (t : List (κ × α)) (k : κ) (v : α) : List (κ × α) := if (t.any fun p => decide (p.1 = k)) = true then t.map (fun p => if p.1 = k then (p.1, v) else p) else t ++ [(k, v)]
theorem put_tbl {k : κ} {v : α} (t : List (κ × α)) : putKD (tblD t) (KeyE.key k) (Enc.enc v) = tblD (putT t k v) := by
  have any : ((tblD t).any fun p => decide (p.1 = KeyE.key k)) = t.any fun p => decide (p.1 = k) := by
    unfold tblD
    rw [List.any_map]
    congr 1
    funext p
    by_cases h : p.1 = k
    · simp [h]
    · have : ¬ KeyE.key p.1 = KeyE.key k := fun z => h (KeyE.inj _ _ z)
      simp [h, this]
  unfold putKD putT
  rw [any]
  split
  · unfold tblD
    rw [List.map_map, List.map_map]
    apply List.map_congr_left
    intro p _
    by_cases h : p.1 = k
    · simp [h]
    · have : ¬ KeyE.key p.1 = KeyE.key k := fun z => h (KeyE.inj _ _ z)
      simp [h, this]
  · unfold tblD; simp
def mergeT (t more : List (κ × α)) : List (κ × α) := more.foldl (fun acc p => putT acc p.1 p.2) t
theorem merge_tbl : ∀ (more t : List (κ × α)), mergeKD (tblD t) (tblD more) = tblD (mergeT t more)
  | [], _ => rfl
  | p :: more, t => by
    show mergeKD (putKD (tblD t) (KeyE.key p.1) (Enc.enc p.2)) (tblD more) = tblD (mergeT (putT t p.1 p.2) more)
    rw [put_tbl, merge_tbl more]
/-- the pairs of a display -/
def DP (g : E → Option (List (κ × α))) (f : Pf) : Prop := ∀ e ρ M fp, EnvR.rel e ρ M fp → Cl M → ∀ v, g e = some v → f ρ M = some (tblD v, M)
omit [EnvR E] in
@[simp] def dNil : E → Option (List (κ × α)) := fun _ => some []
omit [EnvR E] in
@[simp] def dCons (gk : E → Option κ) (gv : E → Option α) (r : E → Option (List (κ × α))) : E → Option (List (κ × α)) := fun e => (gk e).bind fun k => (gv e).bind fun v => (r e).map fun ps => (k, v) :: ps
theorem dp_nil : DP (E := E) (κ := κ) (α := α) dNil pNilF := fun e ρ M fp R C v q => by cases q; rfl
theorem dp_cons {gk : E → Option κ} {gv : E → Option α} {r : E → Option (List (κ × α))} {fk fv : Ef} {fr : Pf} (hk : EP gk fk) (hv : EP gv fv) (hr : DP r fr) : DP (dCons gk gv r) (pConsF fk fv fr) := fun e ρ M fp R C v q => by
  unfold dCons at q
  cases h1 : gk e with
  | none => rw [h1] at q; cases q
  | some k =>
    cases h2 : gv e with
    | none => rw [h1, h2] at q; cases q
    | some x =>
      cases h3 : r e with
      | none => rw [h1, h2, h3] at q; cases q
      | some ps =>
        rw [h1, h2, h3] at q; cases q
        obtain ⟨r1, e1, k1⟩ := hk e ρ M fp R C k h1
        obtain ⟨r2, e2, k2⟩ := hv e ρ M fp R C x h2
        have e3 := hr e ρ M fp R C ps h3
        simp [pConsF, e1, e2, e3, k1, k2, KeyE.ok, tblD]
theorem disp_T {g : E → Option (List (κ × α))} {f : Pf} (h : DP g f) {e : E} {ρ : Slots} {M : Mem} {fp : Fp} (R : EnvR.rel e ρ M fp) (C : Cl M) {ps : List (κ × α)} (q : g e = some ps) (hl : ps.length ≤ 15) :
    cDisp f ρ M = some (.val (.loc M.length), M ++ [.dct (tblD (mergeT [] ps))]) := by
  have R1 : EnvR.rel e ρ (M ++ [O.dct []]) fp := EnvR.frame R fun j z => List.getElem?_append_left (EnvR.bnd R j z)
  have k1 := h e ρ _ fp R1 (cl_push C rfl) ps q
  unfold cDisp
  rw [k1]; simp only [Option.bind_some]
  rw [get_end]
  simp only
  rw [if_pos (by unfold tblD; rw [List.length_map]; exact hl)]
  have : mergeKD [] (tblD ps) = tblD (mergeT [] ps) := merge_tbl ps []
  rw [this, set_end]
/-! assigned, asked, changed -/
theorem nlK_tbl (n : Nat) (t : List (κ × α)) : nlK n (tblD t) = true := by
  unfold tblD
  induction t with
  | nil => rfl
  | cons p t ih => rw [List.map_cons, nlK_cons, Enc.nle]; exact ih
omit [EnvR E] in
@[simp] def tSetD {i : Nat} (ln : Lens E (Ob (DS κ α)) i) (g : E → Option (List (κ × α))) : E → Option (Fw β E) := fun e => (g e).bind fun ps => if ps.length ≤ 15 then some (.nx (ln.set e ⟨some ⟨mergeT [] ps⟩⟩)) else none
theorem ds_new {i : Nat} (ln : Lens E (Ob (DS κ α)) i) [LOk ln] {e : E} {ρ : Slots} {M : Mem} {fp : Fp} (R : EnvR.rel e ρ M fp) (C : Cl M) (t : List (κ × α)) : Frm M fp (M ++ [.dct (tblD t)]) ∧ Cl (M ++ [.dct (tblD t)]) ∧ RelQ M.length fp (ln.set e ⟨some ⟨t⟩⟩) (ρ.set i (some (.loc M.length))) (M ++ [.dct (tblD t)]) := by
  obtain ⟨f1, h1, h2, h3⟩ := LOk.ok (ln := ln) e ρ M fp R
  obtain ⟨fp', h4, h5⟩ := h3 ⟨some ⟨t⟩⟩ (some (.loc M.length)) (M ++ [.dct (tblD t)]) (fun j => j = M.length) (ob_mk rfl ⟨get_end, fun _ => Iff.rfl⟩)
    (fun j z _ => List.getElem?_append_left (EnvR.bnd R j z)) (fun j z => .inr (by omega))
  refine ⟨⟨by simp, fun j z _ => List.getElem?_append_left z⟩, cl_push C (nlK_tbl _ t), fp', h4, fun j z => ?_⟩
  rcases h5 j z with z | z
  · exact .inl z.1
  · exact .inr (by omega)
theorem s_setD {i : Nat} (ln : Lens E (Ob (DS κ α)) i) [LOk ln] {g : E → Option (List (κ × α))} {f : Pf} (h : DP g f) : SP (β := β) RT (tSetD ln g) (sSet i (cDisp f)) := fun e ρ M fp R C o q => by
  unfold tSetD at q
  cases q1 : g e with
  | none => rw [q1] at q; cases q
  | some ps =>
    rw [q1] at q; simp only [Option.bind_some] at q
    split at q
    · rename_i hl
      cases q
      have k1 := disp_T h R C q1 hl
      obtain ⟨k2, k3, k4⟩ := ds_new ln R C (mergeT [] ps)
      exact ⟨.nx, ρ.set i (some (.loc M.length)), M ++ [.dct (tblD (mergeT [] ps))], by unfold sSet; rw [k1]; rfl, k2, k3, rfl, k4⟩
    · cases q
omit [EnvR E] in
@[simp] def tSetD0 {i : Nat} (ln : Lens E (Ob (DS κ α)) i) : E → Option (Fw β E) := fun e => some (.nx (ln.set e ⟨some ⟨[]⟩⟩))
theorem s_setD0 {i : Nat} (ln : Lens E (Ob (DS κ α)) i) [LOk ln] : SP (β := β) RT (tSetD0 ln) (sSet i cDNew) := fun e ρ M fp R C o q => by
  cases q
  obtain ⟨k2, k3, k4⟩ := ds_new ln R C []
  exact ⟨.nx, ρ.set i (some (.loc M.length)), M ++ [.dct (tblD [])], rfl, k2, k3, rfl, k4⟩
theorem ds_at {i : Nat} (ln : Lens E (Ob (DS κ α)) i) [LOk ln] {e : E} {ρ : Slots} {M : Mem} {fp : Fp} (R : EnvR.rel e ρ M fp) {s : DS κ α} (hv : (ln.get e).v = some s) : ∃ k, slot ρ i = some (.loc k) ∧ M[k]? = some (.dct (tblD s.l)) := by
  obtain ⟨f1, h1, _⟩ := LOk.ok (ln := ln) e ρ M fp R
  obtain ⟨k, k1, k2⟩ := ob_some h1 hv
  exact ⟨k, k1, (show M[k]? = some (.dct (tblD s.l)) ∧ _ from k2).1⟩
omit [EnvR E] in
@[simp] def tDGet {i : Nat} (ln : Lens E (Ob (DS κ α)) i) (g : E → Option κ) : E → Option α := fun e => (ln.get e).v.bind fun s => (g e).bind (lkT s.l)
theorem t_dget {i : Nat} (ln : Lens E (Ob (DS κ α)) i) [LOk ln] {g : E → Option κ} {f : Ef} (h : EV g f) : EP (tDGet ln g) (cDGet (cVar i) f) := fun e ρ M fp R C v q => by
  unfold tDGet at q
  cases hv : (ln.get e).v with
  | none => rw [hv] at q; cases q
  | some s =>
    rw [hv] at q; simp only [Option.bind_some] at q
    cases q1 : g e with
    | none => rw [q1] at q; cases q
    | some k =>
      rw [q1] at q; simp only [Option.bind_some] at q
      obtain ⟨n, k1, k2⟩ := ds_at ln R hv
      obtain ⟨r, k3, k4⟩ := h.p e ρ M fp R C k q1
      refine ⟨.val (Enc.enc v), ?_, rfl⟩
      unfold cDGet
      rw [cVar_ap, k1, bnd_some, var1_ap]; simp only [Option.bind_some, Rz_d_val]
      rw [k3]; simp only [Option.bind_some]
      have : dctAt M (.loc n) = some (tblD s.l) := by show (match M[n]? with | some (.dct kvs) => some kvs | _ => none) = _; rw [k2]
      rw [this]; simp only [Option.bind_some]
      rw [k4, KeyE.ok]; simp only [Option.bind_some]
      rw [lk_tbl, q]; rfl
omit [EnvR E] in
@[simp] def tDIn {i : Nat} (neg : Bool) (ln : Lens E (Ob (DS κ α)) i) (g : E → Option κ) : E → Option Bool := fun e => (ln.get e).v.bind fun s => (g e).map fun k => neg != (lkT s.l k).isSome
theorem t_din {i : Nat} {neg : Bool} (ln : Lens E (Ob (DS κ α)) i) [LOk ln] {g : E → Option κ} {f : Ef} (h : EV g f) : EP (tDIn neg ln g) (cDIn neg f (cVar i)) := fun e ρ M fp R C v q => by
  unfold tDIn at q
  cases hv : (ln.get e).v with
  | none => rw [hv] at q; cases q
  | some s =>
    rw [hv] at q; simp only [Option.bind_some] at q
    cases q1 : g e with
    | none => rw [q1] at q; cases q
    | some k =>
      rw [q1] at q; cases q
      obtain ⟨n, k1, k2⟩ := ds_at ln R hv
      obtain ⟨r, k3, k4⟩ := h.p e ρ M fp R C k q1
      refine ⟨.val (.bl (neg != (lkT s.l k).isSome)), ?_, rfl⟩
      unfold cDIn
      rw [k3]; simp only [Option.bind_some]
      rw [cVar_ap, k1, bnd_some, var1_ap]; simp only [Option.bind_some, Rz_d_val]
      have : dctAt M (.loc n) = some (tblD s.l) := by show (match M[n]? with | some (.dct kvs) => some kvs | _ => none) = _; rw [k2]
      rw [this]; simp only [Option.bind_some]
      rw [k4, KeyE.ok]; simp only [Option.bind_some]
      rw [lk_tbl, Option.isSome_map]
omit [EnvR E] in
@[simp] def tDPut {i : Nat} (ln : Lens E (Ob (DS κ α)) i) (gk : E → Option κ) (gv : E → Option α) : E → Option (Fw β E) := fun e => (gv e).bind fun v => (ln.get e).v.bind fun s => (gk e).bind fun k => if s.l.length < 16777216 then some (.nx (ln.set e ⟨some ⟨putT s.l k v⟩⟩)) else none
theorem s_dput {i : Nat} (ln : Lens E (Ob (DS κ α)) i) [LOk ln] {gk : E → Option κ} {gv : E → Option α} {fk fv : Ef} (hk : EV gk fk) (hv : EP gv fv) : SP (β := β) RT (tDPut ln gk gv) (sDSet (cVar i) fk fv) := fun e ρ M fp R C o q => by
  unfold tDPut at q
  cases q0 : gv e with
  | none => rw [q0] at q; cases q
  | some v =>
    rw [q0] at q; simp only [Option.bind_some] at q
    cases hs : (ln.get e).v with
    | none => rw [hs] at q; cases q
    | some s =>
      rw [hs] at q; simp only [Option.bind_some] at q
      cases q1 : gk e with
      | none => rw [q1] at q; cases q
      | some k =>
        rw [q1] at q; simp only [Option.bind_some] at q
        split at q
        · rename_i hl
          cases q
          obtain ⟨f1, h1, h2, h3⟩ := LOk.ok (ln := ln) e ρ M fp R
          obtain ⟨n, k1, k2⟩ := ob_some h1 hs
          obtain ⟨k5, k6⟩ := (show M[n]? = some (.dct (tblD s.l)) ∧ ∀ j, f1 j ↔ j = n from k2)
          have hn := lt_of_get k5
          obtain ⟨r0, l1, l2⟩ := hv e ρ M fp R C v q0
          obtain ⟨r, k3, k4⟩ := hk.p e ρ M fp R C k q1
          obtain ⟨fp', h4, h5⟩ := h3 ⟨some ⟨putT s.l k v⟩⟩ (some (.loc n)) (M.set n (.dct (tblD (putT s.l k v)))) (fun j => j = n) (ob_mk rfl ⟨by rw [List.getElem?_set_self hn], fun _ => Iff.rfl⟩)
            (fun j _ z => List.getElem?_set_ne (fun y => z ((k6 j).mpr y.symm))) (fun j z => .inl ((k6 j).mpr z))
          have e1 : ρ.set i (some (.loc n)) = ρ := by
            have := slot_some k1
            exact List.ext_getElem? fun j => by
              by_cases y : i = j
              · subst y; rw [List.getElem?_set_self (List.getElem?_eq_some_iff.mp this).1, this]
              · rw [List.getElem?_set_ne y]
          rw [e1] at h4
          refine ⟨.nx, ρ, M.set n (.dct (tblD (putT s.l k v))), ?_, ⟨by simp, fun j _ z => List.getElem?_set_ne (fun y => z (by rw [← y]; exact h2 n ((k6 n).mpr rfl)))⟩, cl_set C (nlK_tbl _ _), rfl, fp', h4, fun j z => ?_⟩
          · unfold sDSet
            rw [l1]; simp only [Option.bind_some]
            rw [cVar_ap, k1, bnd_some, var1_ap]; simp only [Option.bind_some, Rz_d_val]
            rw [k3]; simp only [Option.bind_some]
            have : dctAt M (.loc n) = some (tblD s.l) := by show (match M[n]? with | some (.dct kvs) => some kvs | _ => none) = _; rw [k5]
            rw [this]; simp only [Option.bind_some]
            rw [k4, KeyE.ok]; simp only [Option.bind_some]
            rw [if_pos (by rw [line_lt]; unfold tblD; rw [List.length_map]; exact hl), l2, put_tbl]
          · rcases h5 j z with z | z
            · exact .inl z.1
            · exact .inl (by rw [z]; exact h2 n ((k6 n).mpr rfl))
        · cases q
end
end TL

/-! T8: the rest of the typed reading; reckoning -/
namespace TL
open PySem PySem.Spec PyProof.Rows L2 CI
theorem hv_oI {g : Int → Int → D} : ∀ (d1 d2 : D) (M : Mem) (r : Rz), oI g d1 d2 M = some r → ∃ d, r = .val d := fun d1 d2 M r h => by
  unfold oI at h
  split at h
  · cases h; exact ⟨_, rfl⟩
  · cases h
theorem hv_le : ∀ (d1 d2 : D) (M : Mem) (r : Rz), oLe d1 d2 M = some r → ∃ d, r = .val d := hv_oI
section
variable {E : Type} [EnvR E] {α β γ κ σ τ : Type} [Enc α] [Enc β] [Enc γ] {i : Nat}
omit [EnvR E] in
@[simp] theorem get_hd {e : τ × E} : (Lens.hd : Lens (τ × E) τ 0).get e = e.1 := rfl
omit [EnvR E] in
@[simp] theorem set_hd {e : τ × E} {t : τ} : (Lens.hd : Lens (τ × E) τ 0).set e t = (t, e.2) := rfl
omit [EnvR E] in
@[simp] theorem get_tl {υ : Type} {l : Lens E τ i} {e : υ × E} : (Lens.tl l : Lens (υ × E) τ (i + 1)).get e = l.get e.2 := rfl
omit [EnvR E] in
@[simp] theorem set_tl {υ : Type} {l : Lens E τ i} {e : υ × E} {t : τ} : (Lens.tl l : Lens (υ × E) τ (i + 1)).set e t = (e.1, l.set e.2 t) := rfl
@[simp] theorem toL_l {xs : List α} : Sq.toL xs = xs := rfl
@[simp] theorem toL_t {xs : Tu α} : Sq.toL xs = xs.l := rfl
@[simp] theorem toL_s {xs : Scr} : Sq.toL xs = xs.l := rfl
@[simp] theorem tr_int {x : Int} : Tr.tr x = (x != 0) := rfl
@[simp] theorem tr_bl {x : Bool} : Tr.tr x = x := rfl
@[simp] theorem tr_l {x : List α} : Tr.tr x = !x.isEmpty := rfl
@[simp] theorem tr_t {x : Tu α} : Tr.tr x = !x.l.isEmpty := rfl
@[simp] theorem okE_int {x : Int} : EncEq.okE x = true := rfl
@[simp] theorem okE_bl {x : Bool} : EncEq.okE x = true := rfl
theorem okE_lit (s : String) : EncEq.okE (Str.ofString s) = true := strOk_lit s
@[simp] theorem okE_l [DecidableEq α] [EncEq α] {x : List α} : EncEq.okE x = x.all EncEq.okE := rfl
@[simp] theorem okE_t [DecidableEq α] [EncEq α] {x : Tu α} : EncEq.okE x = x.l.all EncEq.okE := rfl
@[simp] theorem okE_p [DecidableEq α] [EncEq α] [DecidableEq β] [EncEq β] {x : α × β} : EncEq.okE x = (EncEq.okE x.1 && EncEq.okE x.2) := rfl
@[simp] theorem all_okI {xs : List Int} : xs.all EncEq.okE = true := by simp
omit [EnvR E] in
@[simp] theorem forT_nil {kp : E → E} {asg : α → E → Option E} {body : E → Option (Fw β E)} {e : E} : forT kp asg body [] e = some (.nx e) := rfl
omit [EnvR E] in
@[simp] theorem forT1_nx {kp : E → E} {asg : α → E → Option E} {body : E → Option (Fw β E)} {r : E → Option (Fw β E)} {e : E} : forT1 kp asg body r (.nx e) = r (kp e) := rfl
omit [EnvR E] in
@[simp] theorem forT1_ct {kp : E → E} {asg : α → E → Option E} {body : E → Option (Fw β E)} {r : E → Option (Fw β E)} {e : E} : forT1 kp asg body r (.ct e) = r (kp e) := rfl
omit [EnvR E] in
@[simp] theorem forT1_rt {kp : E → E} {asg : α → E → Option E} {body : E → Option (Fw β E)} {r : E → Option (Fw β E)} {b : β} : forT1 kp asg body r (.rt b) = some (.rt b) := rfl
end
/-! names that hold values of two types by turns -/
section
variable {E : Type} [EnvR E] {α β : Type} [Enc α] [Enc β] {i : Nat}
instance : Enc (α ⊕ β) := ⟨fun x => match x with | .inl a => Enc.enc a | .inr b => Enc.enc b, fun n x => by cases x <;> simp [Enc.nle]⟩
end
/-- the end: a law whose typed reading is true -/
theorem law_of {F : Fn} {T : Scr × Unit → Option Bool} (h : FnT F T) (t : ∀ ns : List Int, ns.length ≤ 63 → T (⟨ns⟩, ()) = some true) : ∀ ns : List Int, ns.length ≤ 63 → ∃ M, F [.scr ns] [] = some (.val (.bl true), M) := fun ns hn => by
  obtain ⟨r, h1, h2⟩ := h _ _ (t ns hn) [] cl_nil
  have h1 : F [.scr ns] [] = some (r, []) := h1
  have h2 : r.d = .bl true := h2
  cases r with
  | val d => have h2 : d = .bl true := h2; subst h2; exact ⟨[], h1⟩
  | new ds => cases h2
end TL

/-! T9: objects with attributes, holders of objects, places -/
namespace TL
open PySem PySem.Spec PyProof.Rows L2 CI
/-! ### objects with attributes -/
structure Ins (C : Str) (ns : List Str) (E : Type) where
  e : E
def flds (ns : List Str) (fs : List (Str × D)) : Slots := ns.map fun n => fs.lookup n
theorem nlF_lookup {m : Nat} {n : Str} {d : D} : ∀ {fs : List (Str × D)}, nlF m fs = true → fs.lookup n = some d → nl m d = true
  | [], _, q => by simp at q
  | (g, x) :: r, h, q => by
    rw [nlF_cons, Bool.and_eq_true] at h
    rw [List.lookup_cons] at q
    split at q
    · cases q; exact h.1
    · exact nlF_lookup h.2 q
theorem flds_nl {m : Nat} {fs : List (Str × D)} (h : nlF m fs = true) : ∀ {ns : List Str}, nlS m (flds ns fs) = true
  | [] => rfl
  | n :: ns => by
    have ih := flds_nl h (ns := ns)
    unfold flds at ih ⊢
    rw [List.map_cons]
    cases e : fs.lookup n with
    | none => rw [nlS_none]; exact ih
    | some d => rw [nlS_some, nlF_lookup h e, ih]; rfl
def InsR {E : Type} [EnvR E] (C : Str) (ns : List Str) (M : Mem) (k : Nat) (e : E) (fp : Fp) : Prop :=
  ∃ fs f', M[k]? = some (.ins C fs) ∧ (fs.map (·.1)).Nodup ∧ (∀ p ∈ fs, p.1 ∈ ns) ∧ EnvR.rel e (flds ns fs) M f' ∧ ¬ f' k ∧ ∀ j, fp j ↔ j = k ∨ f' j
instance {C : Str} {ns : List Str} {E : Type} [EnvR E] : Rep (Ins C ns E) where
  rep M k s fp := InsR C ns M k s.e fp
  frame {M M' k s fp} h hf := by
    obtain ⟨fs, f', h1, h2, h3, h4, h5, h6⟩ := h
    exact ⟨fs, f', by rw [hf k ((h6 k).mpr (.inl rfl))]; exact h1, h2, h3, EnvR.frame h4 fun j q => hf j ((h6 j).mpr (.inr q)), h5, h6⟩
  bnd {M k s fp} h j hj := by
    obtain ⟨fs, f', h1, h2, h3, h4, h5, h6⟩ := h
    rcases (h6 j).mp hj with q | q
    · rw [q]; exact lt_of_get h1
    · exact EnvR.bnd h4 j q
  self {M k s fp} h := by
    obtain ⟨fs, f', h1, h2, h3, h4, h5, h6⟩ := h
    exact (h6 k).mpr (.inl rfl)
  trim {M k s fp n} h hk hM j hj := by
    obtain ⟨fs, f', h1, h2, h3, h4, h5, h6⟩ := h
    rcases (h6 j).mp hj with q | q
    · rw [q]; exact hk
    · exact EnvR.trim h4 (flds_nl (by have := hM k _ hk h1; rwa [nlO_ins] at this)) hM j q
theorem ins_get {C : Str} {ns : List Str} {E : Type} [EnvR E] {M : Mem} {k : Nat} {s : Ins C ns E} {fp : Fp} (h : Rep.rep M k s fp) : InsR C ns M k s.e fp := h
/-! ### names of objects -/
inductive Oj (σ : Type) where
  | no | own (s : σ) | at_ (k : Nat) (s : σ) | hole (k : Nat)
def OjR {σ : Type} [Rep σ] : Oj σ → Option D → Mem → Fp → Prop
  | .no, _, _, fp => ∀ j, ¬ fp j
  | .own s, d, M, fp => ∃ k, d = some (.loc k) ∧ Rep.rep M k s fp
  | .at_ k s, d, M, fp => d = some (.loc k) ∧ Rep.rep M k s fp
  | .hole k, d, _, fp => d = some (.loc k) ∧ ∀ j, ¬ fp j
instance {σ : Type} [Rep σ] : SlotR (Oj σ) where
  rel := OjR
  frame {t d M M' fp} h hf := by
    cases t with
    | no => exact h
    | own s => obtain ⟨k, h1, h2⟩ := h; exact ⟨k, h1, Rep.frame h2 hf⟩
    | at_ k s => exact ⟨h.1, Rep.frame h.2 hf⟩
    | hole k => exact h
  bnd {t d M fp} h j hj := by
    cases t with
    | no => exact absurd hj (h j)
    | own s => obtain ⟨k, h1, h2⟩ := h; exact Rep.bnd h2 j hj
    | at_ k s => exact Rep.bnd h.2 j hj
    | hole k => exact absurd hj (h.2 j)
  emp := .no
  emp_rel d M := fun _ h => h
  trim {t d M fp n} h hd hM j hj := by
    cases t with
    | no => exact absurd hj (h j)
    | own s =>
      obtain ⟨k, h1, h2⟩ := h
      have := hd _ h1
      rw [nl_loc] at this
      exact Rep.trim h2 (of_decide_eq_true this) hM j hj
    | at_ k s =>
      have := hd _ h.1
      rw [nl_loc] at this
      exact Rep.trim h.2 (of_decide_eq_true this) hM j hj
    | hole k => exact absurd hj (h.2 j)
instance {σ E : Type} [Rep σ] [EnvR E] {kl : List Bool} {k : E → E} [h : KOk kl k] : KOk (false :: kl) (kpF Oj.no k : Oj σ × E → Oj σ × E) := ⟨fun e => by
  show ((Oj.no : Oj σ), EnvR.keep kl e.2) = _
  rw [KOk.eq (kl := kl) (kp := k)]; rfl⟩
theorem rel_ojn {σ : Type} [Rep σ] {d : Option D} {M : Mem} : SlotR.rel (Oj.no : Oj σ) d M fun _ => False := SlotR.emp_rel (τ := Oj σ) d M
/-- a slot that may hold an object -/
class Hd (τ : Type) (σ : outParam Type) where
  get : τ → Option σ
  clr : τ → τ
  put : τ → σ → τ
  cut : Nat → τ → τ
  hol : τ → Option Nat
  own : σ → τ
class HdOk (τ : Type) (σ : outParam Type) [SlotR τ] [Rep σ] [Hd τ σ] : Prop where
  ok : ∀ {t : τ} {d M fp} {s : σ}, SlotR.rel t d M fp → Hd.get t = some s → ∃ k, d = some (.loc k) ∧ Rep.rep M k s fp ∧ SlotR.rel (Hd.clr t) d M (fun _ => False) ∧ SlotR.rel (Hd.cut k t) d M (fun _ => False)
  ins : ∀ {t : τ} {d M f0 fp k} {s : σ}, SlotR.rel t d M f0 → d = some (.loc k) → Rep.rep M k s fp → SlotR.rel (Hd.put t s) d M fp
  own : ∀ {d M fp k} {s : σ}, d = some (.loc k) → Rep.rep M k s fp → SlotR.rel (Hd.own s : τ) d M fp
  hole : ∀ {t : τ} {d M f0 k}, SlotR.rel t d M f0 → Hd.hol t = some k → d = some (.loc k)
  gp : ∀ (t : τ) (s : σ), Hd.get (Hd.put t s) = some s
instance {σ : Type} [Rep σ] : Hd (Ob σ) σ where
  get t := t.v
  clr _ := ⟨none⟩
  put _ s := ⟨some s⟩
  cut _ _ := ⟨none⟩
  hol _ := none
  own s := ⟨some s⟩
instance {σ : Type} [Rep σ] : HdOk (Ob σ) σ where
  ok h e := by
    obtain ⟨k, h1, h2⟩ := ob_some h e
    exact ⟨k, h1, h2, rel_obn, rel_obn⟩
  ins _ h1 h2 := ob_mk h1 h2
  own h1 h2 := ob_mk h1 h2
  hole _ e := nomatch e
  gp _ _ := rfl
def Oj.get {σ : Type} : Oj σ → Option σ
  | .own s => some s
  | .at_ _ s => some s
  | _ => none
def Oj.clr {σ : Type} : Oj σ → Oj σ
  | .own _ => .no
  | .at_ k _ => .hole k
  | t => t
def Oj.put {σ : Type} : Oj σ → σ → Oj σ
  | .hole k, s => .at_ k s
  | .at_ k _, s => .at_ k s
  | _, s => .own s
def Oj.hol {σ : Type} : Oj σ → Option Nat
  | .hole k => some k
  | _ => none
@[simp] theorem oj_g1 {σ : Type} {s : σ} : (Oj.own s).get = some s := rfl
@[simp] theorem oj_g2 {σ : Type} {k : Nat} {s : σ} : (Oj.at_ k s).get = some s := rfl
@[simp] theorem oj_g3 {σ : Type} : (Oj.no : Oj σ).get = none := rfl
@[simp] theorem oj_g4 {σ : Type} {k : Nat} : (Oj.hole k : Oj σ).get = none := rfl
@[simp] theorem oj_c1 {σ : Type} {s : σ} : (Oj.own s).clr = .no := rfl
@[simp] theorem oj_c2 {σ : Type} {k : Nat} {s : σ} : (Oj.at_ k s).clr = .hole k := rfl
@[simp] theorem oj_p1 {σ : Type} {k : Nat} {s : σ} : (Oj.hole k).put s = .at_ k s := rfl
@[simp] theorem oj_p2 {σ : Type} {k : Nat} {s s' : σ} : (Oj.at_ k s').put s = .at_ k s := rfl
@[simp] theorem oj_p3 {σ : Type} {s : σ} : (Oj.no).put s = .own s := rfl
@[simp] theorem oj_p4 {σ : Type} {s s' : σ} : (Oj.own s').put s = .own s := rfl
@[simp] theorem oj_h1 {σ : Type} {k : Nat} : (Oj.hole k : Oj σ).hol = some k := rfl
instance {σ : Type} [Rep σ] : Hd (Oj σ) σ where
  get := Oj.get
  clr := Oj.clr
  put := Oj.put
  cut k _ := .hole k
  hol := Oj.hol
  own := .own
instance {σ : Type} [Rep σ] : HdOk (Oj σ) σ where
  ok {t d M fp s} h e := by
    cases t with
    | no => cases e
    | own s' => cases e; obtain ⟨k, h1, h2⟩ := h; exact ⟨k, h1, h2, rel_ojn, ⟨h1, fun _ z => z⟩⟩
    | at_ k s' => cases e; exact ⟨k, h.1, h.2, ⟨h.1, fun _ z => z⟩, ⟨h.1, fun _ z => z⟩⟩
    | hole k => cases e
  ins {t d M f0 fp k s} h h1 h2 := by
    cases t with
    | no => exact ⟨k, h1, h2⟩
    | own s' => exact ⟨k, h1, h2⟩
    | at_ k' s' =>
      have e := h.1
      rw [h1] at e
      cases e
      exact ⟨h1, h2⟩
    | hole k' =>
      have e := h.1
      rw [h1] at e
      cases e
      exact ⟨h1, h2⟩
  own h1 h2 := ⟨_, h1, h2⟩
  hole {t d M f0 k} h e := by
    cases t with
    | hole k' => cases e; exact h.1
    | _ => cases e
  gp t s := by cases t <;> rfl
/-! ### places -/
structure Pl (E σ : Type) where
  get : E → Option σ
  clr : E → E
  put : E → σ → E
  pre : E → Bool
  cut : Nat → E → E
  hol : E → Option Nat
  fill : E → σ → E
section
variable {E : Type} [EnvR E]
structure POk {σ : Type} [Rep σ] (p : Pl E σ) (f : Ef) : Prop where
  get : ∀ {e ρ M fp s}, EnvR.rel e ρ M fp → p.get e = some s → ∃ k f1, f ρ M = some (.val (.loc k), M) ∧ Rep.rep M k s f1 ∧ (∀ j, f1 j → fp j) ∧ (∃ f0, EnvR.rel (p.clr e) ρ M f0 ∧ ∀ j, f0 j → fp j ∧ ¬ f1 j) ∧ ∃ f0, EnvR.rel (p.cut k e) ρ M f0 ∧ ∀ j, f0 j → fp j ∧ ¬ f1 j
  stb : ∀ {e ρ M fp M' k}, EnvR.rel e ρ M fp → p.pre e = true → f ρ M = some (.val (.loc k), M) → (∀ j, fp j → M'[j]? = M[j]?) → f ρ M' = some (.val (.loc k), M')
  put : ∀ {e ρ M fp f1 k s}, EnvR.rel e ρ M fp → p.pre e = true → f ρ M = some (.val (.loc k), M) → Rep.rep M k s f1 → (∀ j, f1 j → ¬ fp j) → ∃ fp', EnvR.rel (p.put e s) ρ M fp' ∧ ∀ j, fp' j → fp j ∨ f1 j
  fill : ∀ {e ρ M fp f1 k s}, EnvR.rel e ρ M fp → p.hol e = some k → Rep.rep M k s f1 → (∀ j, f1 j → ¬ fp j) → ∃ fp', EnvR.rel (p.fill e s) ρ M fp' ∧ ∀ j, fp' j → fp j ∨ f1 j
  pg : ∀ e s, p.pre e = true → p.get (p.put e s) = some s
  pc : ∀ e s, p.get e = some s → p.pre (p.clr e) = true
abbrev pVar {τ σ : Type} [Hd τ σ] {i : Nat} (ln : Lens E τ i) : Pl E σ where
  get e := Hd.get (ln.get e)
  clr e := ln.set e (Hd.clr (ln.get e))
  put e s := ln.set e (Hd.put (ln.get e) s)
  pre _ := true
  cut k e := ln.set e (Hd.cut k (ln.get e))
  hol e := Hd.hol (ln.get e)
  fill e s := ln.set e (Hd.own s)
abbrev pFld {C : Str} {ns : List Str} {F τ σ : Type} {i : Nat} [Hd τ σ] (q : Pl E (Ins C ns F)) (l : Lens F τ i) : Pl E σ where
  get e := (q.get e).bind fun s => Hd.get (l.get s.e)
  clr e := (q.get e).elim e fun s => q.put (q.clr e) ⟨l.set s.e (Hd.clr (l.get s.e))⟩
  put e v := (q.get e).elim e fun s => q.put (q.clr e) ⟨l.set s.e (Hd.put (l.get s.e) v)⟩
  pre e := (q.get e).isSome
  cut k e := (q.get e).elim e fun s => q.put (q.clr e) ⟨l.set s.e (Hd.cut k (l.get s.e))⟩
  hol e := (q.get e).bind fun s => Hd.hol (l.get s.e)
  fill e v := (q.get e).elim e fun s => q.put (q.clr e) ⟨l.set s.e (Hd.own v)⟩
end
end TL

/-! T10: expressions with effects -/
namespace TL
open PySem PySem.Spec PyProof.Rows L2 CI
/-! ### ways of handing back -/
theorem bx {τ γ : Type} {a : Option τ} {b : τ → Option γ} {c : γ} (h : (a.bind b) = some c) : ∃ x, a = some x ∧ b x = some c := by
  cases a with
  | none => cases h
  | some x => exact ⟨x, rfl, h⟩
theorem mx {τ γ : Type} {a : Option τ} {b : τ → γ} {c : γ} (h : (a.map b) = some c) : ∃ x, a = some x ∧ b x = c := by
  cases a with
  | none => cases h
  | some x => cases h; exact ⟨x, rfl, rfl⟩
section
variable {α σ : Type} [Enc α] [Rep σ]
def rV : RTy α := ⟨fun b r _ _ => r.d = Enc.enc b, fun _ h => h⟩
def rD : RTy α := ⟨fun b r M fp => DenF fp M r.d (Enc.enc b), fun hf h => h.imp id fun ⟨k, ds, h1, h2, h3, h4⟩ => ⟨k, ds, h1, h2, h3, hf k h4⟩⟩
/-- a list that nobody else holds -/
def rO : RTy (List α) := ⟨fun b r M fp => r = .new (b.map Enc.enc) ∨ ∃ k, r = .val (.loc k) ∧ M[k]? = some (.lst (b.map Enc.enc)) ∧ fp k, fun hf h => h.imp id fun ⟨k, h1, h2, h3⟩ => ⟨k, h1, h2, hf k h3⟩⟩
def rN : RTy (List α) := ⟨fun b r _ _ => r = .new (b.map Enc.enc), fun _ h => h⟩
def rJ : RTy σ := ⟨fun b r M fp => ∃ k f', r = .val (.loc k) ∧ Rep.rep M k b f' ∧ ∀ j, f' j → fp j, fun hf ⟨k, f', h1, h2, h3⟩ => ⟨k, f', h1, h2, fun j z => hf j (h3 j z)⟩⟩
end
section
variable {E : Type} [EnvR E] {α β γ δ σ τ : Type} [Enc α] [Enc β] [Enc γ] [Enc δ]
def EX (RT : RTy τ) (g : E → Option (τ × E)) (f : Ef) : Prop := ∀ e ρ M fp, EnvR.rel e ρ M fp → Cl M → ∀ v e', g e = some (v, e') → ∃ r M' f1 f2, f ρ M = some (r, M') ∧ Frm M fp M' ∧ Cl M' ∧ EnvR.rel e' ρ M' f1 ∧ RT.R v r M' f2 ∧ (∀ j, f1 j → ¬ f2 j) ∧ ∀ j, f1 j ∨ f2 j → fp j ∨ M.length ≤ j
/-- the last operand: it may lie within the environment -/
def EY (g : E → Option (α × E)) (f : Ef) : Prop := ∀ e ρ M fp, EnvR.rel e ρ M fp → Cl M → ∀ v e', g e = some (v, e') → ∃ r M' f1 f2, f ρ M = some (r, M') ∧ Frm M fp M' ∧ Cl M' ∧ EnvR.rel e' ρ M' f1 ∧ DenF f2 M' r.d (Enc.enc v) ∧ (∀ j, f1 j → fp j ∨ M.length ≤ j) ∧ ∀ j, f2 j → j < M'.length
def TX (g : E → Option (Bool × E)) (t : Tf) : Prop := ∀ e ρ M fp, EnvR.rel e ρ M fp → Cl M → ∀ b e', g e = some (b, e') → ∃ M' f1, t ρ M = some (b, M') ∧ Frm M fp M' ∧ Cl M' ∧ EnvR.rel e' ρ M' f1 ∧ ∀ j, f1 j → fp j ∨ M.length ≤ j
omit [EnvR E] in
@[simp] def tX (g : E → Option τ) : E → Option (τ × E) := fun e => (g e).map fun v => (v, e)
theorem EP.x {g : E → Option α} {f : Ef} (h : EP g f) : EX rV (tX g) f := fun e ρ M fp R C v e' q => by
  obtain ⟨x, q1, q2⟩ := mx q; cases q2
  obtain ⟨r, h1, h2⟩ := h e ρ M fp R C _ q1
  exact ⟨r, M, fp, fun _ => False, h1, .refl, C, R, h2, fun _ _ z => z, fun j z => z.elim .inl False.elim⟩
theorem EX.no {g : E → Option (List α × E)} {f : Ef} (h : EX rN g f) : EX rO g f := fun e ρ M fp R C v e' q => by
  obtain ⟨r, M', f1, f2, h1, h2, h3, h4, h5, h6, h7⟩ := h e ρ M fp R C v e' q
  exact ⟨r, M', f1, f2, h1, h2, h3, h4, .inl h5, h6, h7⟩
theorem EX.od {g : E → Option (List α × E)} {f : Ef} (h : EX rO g f) : EX rD g f := fun e ρ M fp R C v e' q => by
  obtain ⟨r, M', f1, f2, h1, h2, h3, h4, h5, h6, h7⟩ := h e ρ M fp R C v e' q
  refine ⟨r, M', f1, f2, h1, h2, h3, h4, ?_, h6, h7⟩
  rcases h5 with h5 | ⟨k, h5, h8, h9⟩
  · exact .inl (by rw [h5]; rfl)
  · exact .inr ⟨k, _, by rw [h5]; rfl, rfl, h8, h9⟩
theorem EX.y {g : E → Option (α × E)} {f : Ef} (h : EX rD g f) : EY g f := fun e ρ M fp R C v e' q => by
  obtain ⟨r, M', f1, f2, h1, h2, h3, h4, h5, h6, h7⟩ := h e ρ M fp R C v e' q
  refine ⟨r, M', f1, fun j => f2 j ∧ j < M'.length, h1, h2, h3, h4, ?_, fun j z => h7 j (.inl z), fun j z => z.2⟩
  exact h5.imp id fun ⟨k, ds, a, b, c, d⟩ => ⟨k, ds, a, b, c, d, lt_of_get c⟩
theorem EV.y {g : E → Option α} {f : Ef} (h : EV g f) : EY (tX g) f := fun e ρ M fp R C v e' q => by
  obtain ⟨x, q1, q2⟩ := mx q; cases q2
  obtain ⟨r, h1, h2⟩ := h e ρ M fp R C _ q1
  exact ⟨r, M, fp, fp, h1, .refl, C, R, h2, fun j z => .inl z, fun j z => EnvR.bnd R j z⟩
omit [EnvR E] in
@[simp] def x1 (t : α → Option β) (g : E → Option (α × E)) : E → Option (β × E) := fun e => (g e).bind fun a => (t a.1).map fun c => (c, a.2)
/-! ### slices -/
/-! ### tests -/
theorem TP.x {g : E → Option Bool} {t : Tf} (h : TP g t) : TX (tX g) t := fun e ρ M fp R C b e' q => by
  obtain ⟨x, q1, q2⟩ := mx q; cases q2
  exact ⟨M, fp, h e ρ M fp R C b q1, .refl, C, R, fun j z => .inl z⟩
theorem TX.go {ga gb : E → Option (Bool × E)} {ta tb : Tf} (ha : TX ga ta) (hb : TX gb tb) {e e1 e' : E} {ρ : Slots} {M : Mem} {fp : Fp} {a b : Bool} (R : EnvR.rel e ρ M fp) (C : Cl M) (q1 : ga e = some (a, e1)) (q2 : gb e1 = some (b, e')) :
    ∃ M1 M2 f1, ta ρ M = some (a, M1) ∧ tb ρ M1 = some (b, M2) ∧ Frm M fp M2 ∧ Cl M2 ∧ EnvR.rel e' ρ M2 f1 ∧ ∀ j, f1 j → fp j ∨ M.length ≤ j := by
  obtain ⟨M1, f1, h1, h2, h3, h4, h5⟩ := ha e ρ M fp R C a e1 q1
  obtain ⟨M2, f2, k1, k2, k3, k4, k5⟩ := hb e1 ρ M1 f1 h4 h3 b e' q2
  exact ⟨M1, M2, f2, h1, k1, h2.trans h5 k2, k3, k4, fun j z => (k5 j z).elim (h5 j) fun y => .inr (Nat.le_trans h2.1 y)⟩
/-! ### and, or, not as values; one or the other -/
/-! ### tuples -/
def AX {A : Type} [Args A] (g : E → Option (A × E)) (f : Af) : Prop := ∀ e ρ M fp, EnvR.rel e ρ M fp → Cl M → ∀ v e', g e = some (v, e') → ∃ M' f1, f ρ M = some (Args.encs v, M') ∧ Frm M fp M' ∧ Cl M' ∧ EnvR.rel e' ρ M' f1 ∧ ∀ j, f1 j → fp j ∨ M.length ≤ j
theorem AP.x {A : Type} [Args A] {g : E → Option A} {f : Af} (h : AP g f) : AX (tX g) f := fun e ρ M fp R C v e' q => by
  obtain ⟨x, q1, q2⟩ := mx q; cases q2
  exact ⟨M, fp, h e ρ M fp R C v q1, .refl, C, R, fun j z => .inl z⟩
end
end TL

/-! T11: objects handed to defs, methods, new objects, lists at places -/
namespace TL
open PySem PySem.Spec PyProof.Rows L2 CI
structure Wo (σ : Type) where
  s : σ
/-- arguments, and the objects among them afterwards -/
class ArgO (A : Type) (S : outParam Type) where
  arg : A → List D → Mem → Fp → Prop
  st : S → List D → Mem → Fp → Prop
class ArgOk (A : Type) (S : outParam Type) [ArgO A S] : Prop where
  frame : ∀ {a : A} {ds M M' fa}, ArgO.arg a ds M fa → (∀ j, fa j → M'[j]? = M[j]?) → ArgO.arg a ds M' fa
  bnd : ∀ {a : A} {ds M fa}, ArgO.arg a ds M fa → ∀ j, fa j → j < M.length
instance : ArgO Unit Unit := ⟨fun _ ds _ fa => ds = [] ∧ ∀ j, ¬ fa j, fun _ ds _ fs => ds = [] ∧ ∀ j, ¬ fs j⟩
instance : ArgOk Unit Unit := ⟨fun h _ => h, fun h j hj => absurd hj (h.2 j)⟩
section
variable {α σ A S : Type} [Enc α] [Rep σ] [ArgO A S]
instance : ArgO (α × A) S := ⟨fun a ds M fa => ∃ ds', ds = Enc.enc a.1 :: ds' ∧ ArgO.arg a.2 ds' M fa, fun s ds M fs => ∃ d ds', ds = d :: ds' ∧ ArgO.st A s ds' M fs⟩
instance [ArgOk A S] : ArgOk (α × A) S := ⟨fun ⟨ds', h1, h2⟩ hf => ⟨ds', h1, ArgOk.frame h2 hf⟩, fun ⟨ds', h1, h2⟩ => ArgOk.bnd h2⟩
instance : ArgO (Wo σ × A) (σ × S) := ⟨fun a ds M fa => ∃ k ds' f1 f2, ds = .loc k :: ds' ∧ Rep.rep M k a.1.s f1 ∧ ArgO.arg a.2 ds' M f2 ∧ (∀ j, f1 j → ¬ f2 j) ∧ ∀ j, fa j ↔ f1 j ∨ f2 j,
  fun s ds M fs => ∃ k ds' f1 f2, ds = .loc k :: ds' ∧ Rep.rep M k s.1 f1 ∧ ArgO.st A s.2 ds' M f2 ∧ (∀ j, f1 j → ¬ f2 j) ∧ ∀ j, fs j ↔ f1 j ∨ f2 j⟩
instance [ArgOk A S] : ArgOk (Wo σ × A) (σ × S) := ⟨fun ⟨k, ds', f1, f2, h1, h2, h3, h4, h5⟩ hf => ⟨k, ds', f1, f2, h1, Rep.frame h2 fun j z => hf j ((h5 j).mpr (.inl z)), ArgOk.frame h3 fun j z => hf j ((h5 j).mpr (.inr z)), h4, h5⟩,
  fun ⟨k, ds', f1, f2, h1, h2, h3, h4, h5⟩ j z => ((h5 j).mp z).elim (Rep.bnd h2 j) (ArgOk.bnd h3 j)⟩
end
section
variable {E : Type} [EnvR E] {α β γ δ σ τ : Type} [Enc α] [Enc β] [Enc γ] [Enc δ] [Rep σ] {A S : Type} [ArgO A S]
def AO (g : E → Option (A × E)) (up : E → S → Option E) (f : Af) : Prop := ∀ e ρ M fp, EnvR.rel e ρ M fp → Cl M → ∀ a e1, g e = some (a, e1) → ∃ ds M1 f1 fa, f ρ M = some (ds, M1) ∧ Frm M fp M1 ∧ Cl M1 ∧ EnvR.rel e1 ρ M1 f1 ∧ ArgO.arg a ds M1 fa ∧ (∀ j, f1 j → ¬ fa j) ∧ (∀ j, f1 j ∨ fa j → fp j ∨ M.length ≤ j) ∧
  ∀ M2 s fs e2, (∀ j, f1 j → M2[j]? = M1[j]?) → ArgO.st A s ds M2 fs → (∀ j, fs j → ¬ f1 j) → up e1 s = some e2 → ∃ f2, EnvR.rel e2 ρ M2 f2 ∧ ∀ j, f2 j → f1 j ∨ fs j
def AQ (g : E → E → Option (A × E)) (up : E → S → Option E) (f : Af) : Prop := ∀ e0 fp0 e ρ M fp, EnvR.rel e0 ρ M fp0 → EnvR.rel e ρ M fp → Cl M → ∀ a e1, g e0 e = some (a, e1) → ∃ ds f1 fa, f ρ M = some (ds, M) ∧ EnvR.rel e1 ρ M f1 ∧ ArgO.arg a ds M fa ∧ (∀ j, f1 j → ¬ fa j) ∧ (∀ j, f1 j ∨ fa j → fp j) ∧
  ∀ M2 s fs e2, (∀ j, f1 j → M2[j]? = M[j]?) → ArgO.st A s ds M2 fs → (∀ j, fs j → ¬ f1 j) → up e1 s = some e2 → ∃ f2, EnvR.rel e2 ρ M2 f2 ∧ ∀ j, f2 j → f1 j ∨ fs j
omit [EnvR E] in
@[simp] def qq (g : E → E → Option (A × E)) : E → Option (A × E) := fun e => g e e
theorem AQ.o {g : E → E → Option (A × E)} {up : E → S → Option E} {f : Af} (h : AQ g up f) : AO (qq g) up f := fun e ρ M fp R C a e1 q => by
  obtain ⟨ds, f1, fa, h1, h2, h3, h4, h5, h6⟩ := h e fp e ρ M fp R R C a e1 q
  exact ⟨ds, M, f1, fa, h1, .refl, C, h2, h3, h4, fun j z => .inl (h5 j z), h6⟩
/-! ### calls -/
/-! ### a def of values, with arguments that have effects -/
/-! ### lists at places -/
end
end TL

/-! T12: statements with effects, defs with objects -/
namespace TL
open PySem PySem.Spec PyProof.Rows L2 CI
section
variable {E : Type} [EnvR E] {α β γ δ σ τ υ : Type} [Enc α] [Enc γ] [Enc δ] [Rep σ] {A S : Type} [ArgO A S] {RT : RTy β} {RX : RTy τ}
/-- handing back along with the environment -/
def rE (RX : RTy τ) : RTy (τ × E) := ⟨fun b r M fp => ∃ ρ' f1 f2, EnvR.rel b.2 ρ' M f1 ∧ RX.R b.1 r M f2 ∧ (∀ j, f1 j → ¬ f2 j) ∧ ∀ j, f1 j ∨ f2 j → fp j, fun hf ⟨ρ', f1, f2, h1, h2, h3, h4⟩ => ⟨ρ', f1, f2, h1, h2, h3, fun j z => hf j (h4 j z)⟩⟩
/-! ### targets with effects -/
def GX (p : α → E → Option E) (g : Gf) : Prop := ∀ x e ρ M fp, EnvR.rel e ρ M fp → Cl M → ∀ e', p x e = some e' → ∃ ρ' M' fp', g (Enc.enc x) ρ M = some (ρ', M') ∧ Frm M fp M' ∧ Cl M' ∧ EnvR.rel e' ρ' M' fp' ∧ ∀ j, fp' j → fp j ∨ M.length ≤ j
theorem GP.x {p : α → E → Option E} {g : Gf} (h : GP p g) : GX p g := fun x e ρ M fp R C e' q => by
  obtain ⟨ρ', fp', h1, h2, h3⟩ := h x e ρ M fp R e' q
  exact ⟨ρ', M, fp', h1, .refl, C, h2, fun j z => .inl (h3 j z)⟩
/-! ### attributes -/
/-! ### an element of a list at a place -/
/-! ### tests, return -/
/-! ### a second name of an object -/
def bkE {i : Nat} (p : Pl E σ) (ln : Lens E (Oj σ) i) (k : Nat) (e : E) : E := match ln.get e with
  | .at_ k' s => if k' = k ∧ p.hol (ln.set e .no) = some k then p.fill (ln.set e .no) s else e
  | _ => e
def bkF {i : Nat} (p : Pl E σ) (ln : Lens E (Oj σ) i) (k : Nat) : Fw (τ × E) E → Fw (τ × E) E
  | .nx e => .nx (bkE p ln k e)
  | .bk e => .bk (bkE p ln k e)
  | .ct e => .ct (bkE p ln k e)
  | .rt b => .rt (b.1, bkE p ln k b.2)
end
end TL

/-! T13: loops over lists at places, defs with objects -/
namespace TL
open PySem PySem.Spec PyProof.Rows L2 CI
section
variable {E : Type} [EnvR E] {α β γ δ σ τ υ : Type} [Enc α] [Enc γ] [Enc δ] [Rep σ] {RT : RTy β} {RX : RTy τ}
/-! ### a loop over a list that stays as it is -/
omit [EnvR E] in
/-- the list that was walked is put back -/
def bkP (p : Pl E σ) (k : Nat) (s : σ) (e : E) : E := if p.hol e = some k then p.fill e s else e
omit [EnvR E] in
def bkG (p : Pl E σ) (k : Nat) (s : σ) : Fw (τ × E) E → Fw (τ × E) E
  | .nx e => .nx (bkP p k s e)
  | .bk e => .bk (bkP p k s e)
  | .ct e => .ct (bkP p k s e)
  | .rt b => .rt (b.1, bkP p k s b.2)
end
/-! ### defs -/
class ArgSt (A : Type) (S : outParam Type) [ArgO A S] : Prop where
  stf : ∀ {s : S} {ds M M' fs}, ArgO.st A s ds M fs → (∀ j, fs j → M'[j]? = M[j]?) → ArgO.st A s ds M' fs
  stt : ∀ {s : S} {ds M fs} {n : Nat}, ArgO.st A s ds M fs → (∀ d ∈ ds, nl n d = true) → (∀ (j : Nat) (o : O), j < n → M[j]? = some o → nlO n o = true) → ∀ j, fs j → j < n
  nle : ∀ {a : A} {ds M fa}, ArgO.arg a ds M fa → ∀ d ∈ ds, nl M.length d = true
instance : ArgSt Unit Unit := ⟨fun h _ => h, fun h _ _ j z => absurd z (h.2 j), fun h d z => by rw [h.1] at z; cases z⟩
section
variable {α σ A S : Type} [Enc α] [Rep σ] [ArgO A S]
instance [ArgSt A S] : ArgSt (α × A) S := ⟨fun ⟨d, ds', h1, h2⟩ hf => ⟨d, ds', h1, ArgSt.stf h2 hf⟩, fun ⟨d, ds', h1, h2⟩ hd hM => ArgSt.stt h2 (fun x z => hd x (by rw [h1]; exact List.mem_cons_of_mem _ z)) hM,
  fun ⟨ds', h1, h2⟩ d z => by
    rw [h1] at z
    rcases List.mem_cons.mp z with z | z
    · rw [z]; exact Enc.nle _ _
    · exact ArgSt.nle h2 d z⟩
instance [ArgSt A S] : ArgSt (Wo σ × A) (σ × S) := ⟨fun ⟨k, ds', f1, f2, h1, h2, h3, h4, h5⟩ hf => ⟨k, ds', f1, f2, h1, Rep.frame h2 fun j z => hf j ((h5 j).mpr (.inl z)), ArgSt.stf h3 fun j z => hf j ((h5 j).mpr (.inr z)), h4, h5⟩,
  fun ⟨k, ds', f1, f2, h1, h2, h3, h4, h5⟩ hd hM j z => by
    rcases (h5 j).mp z with y | y
    · have := hd (.loc k) (by rw [h1]; exact List.mem_cons_self)
      rw [nl_loc] at this
      exact Rep.trim h2 (of_decide_eq_true this) hM j y
    · exact ArgSt.stt h3 (fun x z => hd x (by rw [h1]; exact List.mem_cons_of_mem _ z)) hM j y,
  fun ⟨k, ds', f1, f2, h1, h2, h3, h4, h5⟩ d z => by
    rw [h1] at z
    rcases List.mem_cons.mp z with z | z
    · rw [z, nl_loc]; exact decide_eq_true (Rep.bnd h2 k (Rep.self h2))
    · exact ArgSt.nle h3 d z⟩
end
class NLs (σ : Type) [Rep σ] : Prop where
  no : ∀ {M k fp ds} {s : σ}, Rep.rep M k s fp → M[k]? ≠ some (.lst ds)
instance {C : Str} {ns : List Str} {F : Type} [EnvR F] : NLs (Ins C ns F) := ⟨fun h q => by
  obtain ⟨fs, f', h1, _⟩ := ins_get h
  rw [h1] at q; cases q⟩
section
variable {E : Type} [EnvR E] {τ : Type} {RX : RTy τ} {A S : Type} [ArgO A S]
omit [EnvR E] in
def fnXE (fin : E → Option S) (nx : Option τ) : Fw (τ × E) E → Option (τ × S)
  | .rt b => (fin b.2).map fun s => (b.1, s)
  | .nx e => nx.bind fun b => (fin e).map fun s => (b, s)
  | _ => none
end
/-- a def without objects among its arguments: as if it had no effects -/
class ArgV (A : Type) [Args A] [ArgO A Unit] : Prop where
  v : ∀ (a : A) M, ArgO.arg a (Args.encs a) M fun _ => False
instance : ArgV Unit := ⟨fun _ _ => ⟨rfl, fun _ z => z⟩⟩
instance {α A : Type} [Enc α] [Args A] [ArgO A Unit] [ArgV A] : ArgV (α × A) := ⟨fun a M => ⟨_, rfl, ArgV.v a.2 M⟩⟩
section
variable {E : Type} [EnvR E] {A : Type} [Args A] [ArgO A Unit] [ArgV A]
end
/-! ### beginnings and ends -/
section
variable {E : Type} [EnvR E] {α σ A S : Type} [Enc α] [Rep σ] [ArgO A S]
omit [EnvR E] [Rep σ] [ArgO A S] in
def finO (k : Nat) (o : Oj σ) (c : Option S) : Option (σ × S) := match o with
  | .at_ k' s => if k' = k then c.map fun r => (s, r) else none
  | _ => none
end
/-! ### reckoning -/
section
variable {E τ σ S : Type}
@[simp] theorem fnXE_rt {fin : E → Option S} {nx : Option τ} {b : τ × E} : fnXE fin nx (.rt b) = (fin b.2).map fun s => (b.1, s) := rfl
@[simp] theorem fnXE_nx {fin : E → Option S} {nx : Option τ} {e : E} : fnXE fin nx (.nx e) = nx.bind fun b => (fin e).map fun s => (b, s) := rfl
@[simp] theorem finO_at {k : Nat} {s : σ} {c : Option S} : finO k (.at_ k s) c = c.map fun r => (s, r) := by unfold finO; simp
end
end TL

/-! T14: small matters -/
namespace TL
open PySem PySem.Spec PyProof.Rows L2 CI
section
variable {E : Type} [EnvR E] {α β γ : Type} [Enc α] [Enc β] [Enc γ]
end
end TL

/-! T15: least and greatest, ranges with a step, dicts with written text keys -/
namespace TL
open PySem PySem.Spec PyProof.Rows L2 CI
section
variable {E : Type} [EnvR E] {α β γ : Type} [Enc α] [Enc β] [Enc γ]
/-! ### dicts with written text keys -/
structure Rc (ks : List Str) (A : Type) where
  a : A
def rcKV (ks : List Str) (ds : List D) : List (Key × D) := List.zipWith (fun k d => (Sum.inr k, d)) ks ds
instance {ks : List Str} {A : Type} [Args A] : Rep (Rc ks A) where
  rep M k s fp := M[k]? = some (.dct (rcKV ks (Args.encs s.a))) ∧ ∀ j, fp j ↔ j = k
  frame h hf := ⟨by rw [hf _ ((h.2 _).mpr rfl)]; exact h.1, h.2⟩
  bnd h j hj := by rw [(h.2 j).mp hj]; exact lt_of_get h.1
  self h := (h.2 _).mpr rfl
  trim h hk _ j hj := by rw [(h.2 j).mp hj]; exact hk
theorem rc_get {ks : List Str} {A : Type} [Args A] {M : Mem} {k : Nat} {s : Rc ks A} {fp : Fp} (h : Rep.rep M k s fp) : M[k]? = some (.dct (rcKV ks (Args.encs s.a))) ∧ ∀ j, fp j ↔ j = k := h
instance {ks : List Str} {A : Type} [Args A] : NLs (Rc ks A) := ⟨fun h q => by
  have := (rc_get h).1
  rw [this] at q; cases q⟩
class ArgsNl (A : Type) [Args A] : Prop where
  nl : ∀ n (a : A), nls n (Args.encs a) = true
instance : ArgsNl Unit := ⟨fun _ _ => rfl⟩
instance {A : Type} [Args A] [ArgsNl A] : ArgsNl (α × A) := ⟨fun n a => by
  show nls n (Enc.enc a.1 :: Args.encs a.2) = true
  rw [nls_cons, Enc.nle, ArgsNl.nl]; rfl⟩
end
end TL
namespace TL
open PySem PySem.Spec PyProof.Rows L2 CI
end TL

/-! T16: reckoning with places -/
namespace TL
open PySem PySem.Spec PyProof.Rows L2 CI
section
variable {E : Type} {σ τ : Type} [Rep σ]
@[simp] theorem hd_getO {t : Oj σ} : Hd.get t = t.get := rfl
@[simp] theorem hd_clrO {t : Oj σ} : Hd.clr t = t.clr := rfl
@[simp] theorem hd_putO {t : Oj σ} {s : σ} : Hd.put t s = t.put s := rfl
@[simp] theorem hd_cutO {t : Oj σ} {k : Nat} : Hd.cut k t = (.hole k : Oj σ) := rfl
@[simp] theorem hd_holO {t : Oj σ} : Hd.hol t = t.hol := rfl
@[simp] theorem hd_ownO {s : σ} : (Hd.own s : Oj σ) = .own s := rfl
@[simp] theorem hd_getB {t : Ob σ} : Hd.get t = t.v := rfl
@[simp] theorem hd_clrB {t : Ob σ} : Hd.clr t = (⟨none⟩ : Ob σ) := rfl
@[simp] theorem hd_putB {t : Ob σ} {s : σ} : Hd.put t s = (⟨some s⟩ : Ob σ) := rfl
@[simp] theorem hd_ownB {s : σ} : (Hd.own s : Ob σ) = ⟨some s⟩ := rfl
end
section
variable {E σ τ F : Type} [Hd τ σ] {i : Nat} {C : Str} {ns : List Str}
@[simp] theorem pv_get {ln : Lens E τ i} {e : E} : (pVar ln).get e = Hd.get (ln.get e) := rfl
@[simp] theorem pv_clr {ln : Lens E τ i} {e : E} : (pVar ln).clr e = ln.set e (Hd.clr (ln.get e)) := rfl
@[simp] theorem pv_put {ln : Lens E τ i} {e : E} {s : σ} : (pVar ln).put e s = ln.set e (Hd.put (ln.get e) s) := rfl
@[simp] theorem pv_pre {ln : Lens E τ i} {e : E} : (pVar ln).pre e = true := rfl
@[simp] theorem pv_cut {ln : Lens E τ i} {e : E} {k : Nat} : (pVar ln).cut k e = ln.set e (Hd.cut k (ln.get e)) := rfl
@[simp] theorem pv_hol {ln : Lens E τ i} {e : E} : (pVar ln).hol e = Hd.hol (ln.get e) := rfl
@[simp] theorem pv_fill {ln : Lens E τ i} {e : E} {s : σ} : (pVar ln).fill e s = ln.set e (Hd.own s) := rfl
@[simp] theorem pf_get {q : Pl E (Ins C ns F)} {l : Lens F τ i} {e : E} : (pFld q l).get e = (q.get e).bind fun s => Hd.get (l.get s.e) := rfl
@[simp] theorem pf_pre {q : Pl E (Ins C ns F)} {l : Lens F τ i} {e : E} : (pFld q l).pre e = (q.get e).isSome := rfl
@[simp] theorem pf_hol {q : Pl E (Ins C ns F)} {l : Lens F τ i} {e : E} : (pFld q l).hol e = (q.get e).bind fun s => Hd.hol (l.get s.e) := rfl
@[simp] theorem pf_clr {q : Pl E (Ins C ns F)} {l : Lens F τ i} {e : E} : (pFld q l).clr e = (q.get e).elim e (fun s => q.put (q.clr e) ⟨l.set s.e (Hd.clr (l.get s.e))⟩) := rfl
@[simp] theorem pf_put {q : Pl E (Ins C ns F)} {l : Lens F τ i} {e : E} {v : σ} : (pFld q l).put e v = (q.get e).elim e (fun s => q.put (q.clr e) ⟨l.set s.e (Hd.put (l.get s.e) v)⟩) := rfl
@[simp] theorem pf_cut {q : Pl E (Ins C ns F)} {l : Lens F τ i} {e : E} {k : Nat} : (pFld q l).cut k e = (q.get e).elim e (fun s => q.put (q.clr e) ⟨l.set s.e (Hd.cut k (l.get s.e))⟩) := rfl
@[simp] theorem pf_fill {q : Pl E (Ins C ns F)} {l : Lens F τ i} {e : E} {v : σ} : (pFld q l).fill e v = (q.get e).elim e (fun s => q.put (q.clr e) ⟨l.set s.e (Hd.own v)⟩) := rfl
end
section
variable {E τ β : Type} {i : Nat} {σ : Type}
@[simp] theorem bkF_nx {p : Pl E σ} {ln : Lens E (Oj σ) i} {k : Nat} {e : E} : bkF (τ := τ) p ln k (.nx e) = .nx (bkE p ln k e) := rfl
@[simp] theorem bkF_rt {p : Pl E σ} {ln : Lens E (Oj σ) i} {k : Nat} {b : τ × E} : bkF p ln k (.rt b) = .rt (b.1, bkE p ln k b.2) := rfl
@[simp] theorem bkG_nx {p : Pl E σ} {k : Nat} {s : σ} {e : E} : bkG (τ := τ) p k s (.nx e) = .nx (bkP p k s e) := rfl
@[simp] theorem bkG_rt {p : Pl E σ} {k : Nat} {s : σ} {b : τ × E} : bkG p k s (.rt b) = .rt (b.1, bkP p k s b.2) := rfl
end
end TL
namespace TL
section
variable {E τ : Type} [EnvR E] [SlotR τ] {i : Nat}
@[simp] theorem lens_gs {ln : Lens E τ i} [LOk ln] {e : E} {t : τ} : ln.get (ln.set e t) = t := LOk.gs e t
@[simp] theorem lens_ss {ln : Lens E τ i} [LOk ln] {e : E} {t t' : τ} : ln.set (ln.set e t) t' = ln.set e t' := LOk.ss e t t'
end
end TL

/-! T17: in of a tuple of tuples -/
namespace TL
open PySem PySem.Spec PyProof.Rows L2 CI
section
variable {α : Type} [DecidableEq α] [Enc α] [EncEq α]
end
end TL

/-! T18: three comparisons in a chain -/
namespace TL
open PySem PySem.Spec PyProof.Rows L2 CI
section
variable {E : Type} [EnvR E] {α β γ δ : Type} [Enc α] [Enc β] [Enc γ] [Enc δ]
end
end TL

/-! T19: a loop over the list that an effect gives -/
namespace TL
open PySem PySem.Spec PyProof.Rows L2 CI
section
variable {E : Type} [EnvR E] {α β : Type} [Enc α] {RT : RTy β}
end
end TL

/-! T20: == of records -/
namespace TL
open PySem PySem.Spec PyProof.Rows L2 CI
section
variable {E : Type} [EnvR E] {α β σ τ : Type} [Enc α] [Rep σ]
omit [EnvR E] [Enc α] [Rep σ]
end
end TL

/-! T21: tuple displays that begin with a written name, as values of types given by hand -/
namespace TL
open PySem PySem.Spec PyProof.Rows L2 CI
section
variable {E : Type} [EnvR E] {δ : Type} [Enc δ]
end
end TL

/-! T22: names that hold None or an object -/
namespace TL
open PySem PySem.Spec PyProof.Rows L2 CI
inductive On (σ : Type) where
  | non | oj (o : Oj σ)
def OnR {σ : Type} [Rep σ] : On σ → Option D → Mem → Fp → Prop
  | .non, d, _, fp => d = some .non ∧ ∀ j, ¬ fp j
  | .oj o, d, M, fp => SlotR.rel o d M fp
instance {σ : Type} [Rep σ] : SlotR (On σ) where
  rel := OnR
  frame {t d M M' fp} h hf := by
    cases t with
    | non => exact h
    | oj o => exact SlotR.frame (τ := Oj σ) h hf
  bnd {t d M fp} h j hj := by
    cases t with
    | non => exact absurd hj (h.2 j)
    | oj o => exact SlotR.bnd (τ := Oj σ) h j hj
  emp := .oj .no
  emp_rel d M := SlotR.emp_rel (τ := Oj σ) d M
  trim {t d M fp n} h hd hM j hj := by
    cases t with
    | non => exact absurd hj (h.2 j)
    | oj o => exact SlotR.trim (τ := Oj σ) h hd hM j hj
instance {σ E : Type} [Rep σ] [EnvR E] {kl : List Bool} {k : E → E} [h : KOk kl k] : KOk (false :: kl) (kpF (On.oj Oj.no) k : On σ × E → On σ × E) := ⟨fun e => by
  show ((On.oj Oj.no : On σ), EnvR.keep kl e.2) = _
  rw [KOk.eq (kl := kl) (kp := k)]; rfl⟩
instance {σ : Type} [Rep σ] : Hd (On σ) σ where
  get
    | .non => none
    | .oj o => o.get
  clr
    | .non => .non
    | .oj o => .oj o.clr
  put
    | .non, s => .oj (.own s)
    | .oj o, s => .oj (o.put s)
  cut k _ := .oj (.hole k)
  hol
    | .non => none
    | .oj o => o.hol
  own s := .oj (.own s)
instance {σ : Type} [Rep σ] : HdOk (On σ) σ where
  ok {t d M fp s} h e := by
    cases t with
    | non => cases e
    | oj o => exact HdOk.ok (τ := Oj σ) h e
  ins {t d M f0 fp k s} h h1 h2 := by
    cases t with
    | non => exact ⟨k, h1, h2⟩
    | oj o => exact HdOk.ins (τ := Oj σ) h h1 h2
  own h1 h2 := ⟨_, h1, h2⟩
  hole {t d M f0 k} h e := by
    cases t with
    | non => cases e
    | oj o => exact HdOk.hole (τ := Oj σ) h e
  gp t s := by
    cases t with
    | non => rfl
    | oj o => exact HdOk.gp (τ := Oj σ) o s
section
variable {σ : Type} [Rep σ]
@[simp] theorem on_g1 {o : Oj σ} : Hd.get (On.oj o) = o.get := rfl
@[simp] theorem on_g0 : Hd.get (On.non : On σ) = none := rfl
@[simp] theorem on_c1 {o : Oj σ} : Hd.clr (On.oj o) = .oj o.clr := rfl
@[simp] theorem on_p1 {o : Oj σ} {s : σ} : Hd.put (On.oj o) s = .oj (o.put s) := rfl
@[simp] theorem on_o1 {s : σ} : (Hd.own s : On σ) = .oj (.own s) := rfl
@[simp] theorem on_h1 {o : Oj σ} : Hd.hol (On.oj o) = o.hol := rfl
@[simp] theorem on_k1 {t : On σ} {k : Nat} : Hd.cut k t = .oj (.hole k) := rfl
end
section
variable {E : Type} [EnvR E] {β σ : Type} [Rep σ] {RT : RTy β}
/-- is None -/
def On.isn {σ : Type} : On σ → Option Bool
  | .non => some true
  | .oj .no => none
  | .oj _ => some false
@[simp] theorem isn_non : (On.non : On σ).isn = some true := rfl
@[simp] theorem isn_own {s : σ} : (On.oj (.own s)).isn = some false := rfl
@[simp] theorem isn_at {k : Nat} {s : σ} : (On.oj (.at_ k s)).isn = some false := rfl
end
end TL

/-! T23: defs with objects that give a new list; the rest of a tuple of written length -/
namespace TL
open PySem PySem.Spec PyProof.Rows L2 CI
section
variable {E : Type} [EnvR E] {α β : Type} [Enc α] [Enc β]
end
end TL

/-! T24: a comprehension over what an effect gives -/
namespace TL
open PySem PySem.Spec PyProof.Rows L2 CI
section
variable {E : Type} [EnvR E] {α β σ : Type} [Enc α] [Enc β] [Enc σ]
end
end TL

/-! T25: a method of a new object; the head of a written tuple -/
namespace TL
open PySem PySem.Spec PyProof.Rows L2 CI
section
variable {E : Type} [EnvR E] {α β τ σ S : Type} [Enc α] [Enc β] [Rep σ]
end
end TL

/-! T26: a method whose arguments look at the object themselves -/
namespace TL
open PySem PySem.Spec PyProof.Rows L2 CI
section
variable {E : Type} [EnvR E] {σ : Type} [Rep σ] {A : Type} [ArgO A Unit]
end
end TL

/-! T27: tuples of five taken apart -/
namespace TL
open PySem PySem.Spec PyProof.Rows L2 CI
section
variable {E : Type} [EnvR E] {α β γ δ ε : Type} [Enc α] [Enc β] [Enc γ] [Enc δ] [Enc ε]
end
end TL

/-! T28: loops over enumerate of an own list -/
namespace TL
open PySem PySem.Spec PyProof.Rows L2 CI
section
variable {E : Type} [EnvR E] {α β γ δ σ τ υ : Type} [Enc α] [Enc γ] [Enc δ] [Rep σ] {RT : RTy β} {RX : RTy τ}
end
end TL

/-! T29: own lists that methods give -/
namespace TL
open PySem PySem.Spec PyProof.Rows L2 CI
section
variable {E : Type} [EnvR E] {α : Type} [Enc α]
end
end TL

/-! T30: a part stored as one that may be None; the last part of a tuple -/
namespace TL
open PySem PySem.Spec PyProof.Rows L2 CI
section
variable {E : Type} [EnvR E] {α β : Type} [Enc α] [Enc β]
end
end TL

/-! T31: a list that a method gives, handed to a def: a value or a place, the def read both ways -/
namespace TL
open PySem PySem.Spec PyProof.Rows L2 CI
section
variable {E : Type} [EnvR E] {α β τ : Type} [Enc α] [Enc β]
open Classical in
noncomputable def xCallO (T1 : α × List β × Unit → Option (τ × Unit)) (T2 : α × Wo (LS β) × Unit → Option (τ × (LS β × Unit))) (g0 : E → Option (α × E)) (g : E → Option (List β × E)) : E → Option (τ × E) := fun e => (g0 e).bind fun a => (g a.2).bind fun l => (T1 (a.1, l.1, ())).bind fun b1 => (T2 (a.1, ⟨⟨l.1⟩⟩, ())).bind fun b2 => if b1.1 = b2.1 then some (b1.1, l.2) else none
end
end TL

/-! T32: comprehensions over a list that a method gives; the head of a tuple that a method gives -/
namespace TL
open PySem PySem.Spec PyProof.Rows L2 CI
section
variable {E : Type} [EnvR E] {α β : Type} [Enc α] [Enc β]
end
end TL

/-! T33: loops over an own list that was handed in: it stays at its place -/
namespace TL
open PySem PySem.Spec PyProof.Rows L2 CI
section
variable {E : Type} [EnvR E] {α β τ σ : Type} [Enc α] {RX : RTy τ}
def Oj.loc {σ : Type} : Oj σ → Option Nat
  | .at_ k _ => some k
  | _ => none
end
end TL

/-! T34: exceptions in the typed reading -/
namespace TL
open PySem PySem.Spec PyProof.Rows L2 CI
/-- what a def that may raise hands back: a value, or the exception c with its field f -/
inductive XR (ε τ : Type) where
  | ok (v : τ) | er (c f : Str) (x : ε)
class EncF (ε : Type) [Enc ε] : Prop where
  flat : ∀ x : ε, ∃ v, CI.flatV (Enc.enc x) = some v
instance : EncF Str := ⟨fun x => ⟨_, rfl⟩⟩
instance : EncF Int := ⟨fun x => ⟨_, rfl⟩⟩
class NoX {τ : Type} (RX : RTy τ) : Prop where
  no : ∀ b r M fp, RX.R b r M fp → asX r.d = none
class NoD (α : Type) [Enc α] : Prop where
  no : ∀ v : α, asX (Enc.enc v) = none
instance : NoD Int := ⟨fun _ => rfl⟩
instance : NoD Bool := ⟨fun _ => rfl⟩
instance : NoD Unit := ⟨fun _ => rfl⟩
instance : NoD Str := ⟨fun _ => rfl⟩
instance {α : Type} [Enc α] : NoD (List α) := ⟨fun _ => rfl⟩
theorem asX_len {ds : List D} (h : ds.length ≠ 4) : asX (.tup ds) = none := by
  unfold asX
  split
  · rename_i e; cases e; exact absurd rfl h
  · rename_i e; cases e; exact absurd rfl h
  · rfl
theorem asX_hd {d : D} {ds : List D} (h : ∀ t, d ≠ .str t) : asX (.tup (d :: ds)) = none := by
  unfold asX
  split
  · rename_i e; cases e; exact absurd rfl (h _)
  · rename_i e; cases e; exact absurd rfl (h _)
  · rfl
class NoS (α : Type) [Enc α] : Prop where
  no : ∀ (v : α) (t : Str), Enc.enc v ≠ .str t
instance : NoS Int := ⟨fun _ _ h => nomatch h⟩
instance : NoS Bool := ⟨fun _ _ h => nomatch h⟩
instance : NoS Unit := ⟨fun _ _ h => nomatch h⟩
instance {α : Type} [Enc α] : NoS (List α) := ⟨fun _ _ h => nomatch h⟩
instance {α : Type} [Enc α] : NoS (Tu α) := ⟨fun _ _ h => nomatch h⟩
instance {α β : Type} [Enc α] [Enc β] : NoS (α × β) := ⟨fun _ _ h => nomatch h⟩
instance {α β γ : Type} [Enc α] [Enc β] [Enc γ] : NoS (P3 α β γ) := ⟨fun _ _ h => nomatch h⟩
instance {α β γ δ : Type} [Enc α] [Enc β] [Enc γ] [Enc δ] : NoS (P4 α β γ δ) := ⟨fun _ _ h => nomatch h⟩
instance {α : Type} [Enc α] [NoS α] : NoS (Option α) := ⟨fun v t h => by
  cases v with
  | none => cases h
  | some v => exact NoS.no v t h⟩
instance {α β : Type} [Enc α] [Enc β] : NoD (α × β) := ⟨fun v => asX_len (by simp)⟩
instance {α β γ : Type} [Enc α] [Enc β] [Enc γ] : NoD (P3 α β γ) := ⟨fun v => asX_len (by simp)⟩
instance {α β γ δ : Type} [Enc α] [Enc β] [Enc γ] [Enc δ] [NoS α] : NoD (P4 α β γ δ) := ⟨fun v => asX_hd fun t => NoS.no v.a t⟩
instance {α β γ δ ε : Type} [Enc α] [Enc β] [Enc γ] [Enc δ] [Enc ε] : NoD (P5 α β γ δ ε) := ⟨fun v => asX_len (by simp)⟩
instance {α β γ δ ε : Type} [Enc α] [Enc β] [Enc γ] [Enc δ] [Enc ε] : NoS (P5 α β γ δ ε) := ⟨fun _ _ h => nomatch h⟩
instance {α : Type} [Enc α] [NoS α] : NoD (Tu α) := ⟨fun ⟨l⟩ => by
  cases l with
  | nil => exact asX_len (by simp)
  | cons x l => exact asX_hd fun t => NoS.no x t⟩
instance {α : Type} [Enc α] [NoD α] : NoD (Option α) := ⟨fun v => by
  cases v with
  | none => rfl
  | some v => exact NoD.no v⟩
instance {α : Type} [Enc α] [NoD α] : NoX (rV (α := α)) := ⟨fun b r M fp h => by
  have h : r.d = Enc.enc b := h
  rw [h]; exact NoD.no b⟩
instance {α : Type} [Enc α] : NoX (rO (α := α)) := ⟨fun b r M fp h => by
  rcases h with rfl | ⟨k, rfl, _⟩ <;> rfl⟩
instance {α : Type} [Enc α] : NoX (rN (α := α)) := ⟨fun b r M fp h => by
  have h : r = .new (b.map Enc.enc) := h
  rw [h]; rfl⟩
instance {σ : Type} [Rep σ] : NoX (rJ (σ := σ)) := ⟨fun b r M fp ⟨k, f', h, _⟩ => by rw [h]; rfl⟩
section
variable {ε τ : Type} [Enc ε]
def rXs (RX : RTy τ) : RTy (XR ε τ) := ⟨fun b r M fp => match b with
  | .ok v => RX.R v r M fp ∧ asX r.d = none
  | .er c f x => r = .val (mkX c f (Enc.enc x)), fun {b r M fp fp1} hf h => by
    cases b with
    | ok v => exact ⟨RX.mono hf h.1, h.2⟩
    | er c f x => exact h⟩
end
section
variable {E : Type} [EnvR E] {ε τ υ α σ : Type} [Enc ε] [EncF ε] [Enc α] {RX : RTy τ}
omit [EnvR E] [Enc ε] [EncF ε] in
@[simp] def okF : Fw (τ × E) E → Fw (XR ε τ × E) E
  | .nx e => .nx e
  | .bk e => .bk e
  | .ct e => .ct e
  | .rt b => .rt (.ok b.1, b.2)
omit [EnvR E] [Enc ε] [EncF ε] in
/-- a statement that raises nothing, among those that may -/
@[simp] def tG (g : E → Option (Fw (τ × E) E)) : E → Option (Fw (XR ε τ × E) E) := fun e => (g e).map okF
def OutT (RX : RTy τ) (n : Nat) (fp : Fp) : Fw (XR ε τ × E) E → Fl → Slots → Mem → Prop
  | .nx e, fl, ρ, M => fl = .nx ∧ RelQ n fp e ρ M
  | .bk e, fl, ρ, M => fl = .bk ∧ RelQ n fp e ρ M
  | .ct e, fl, ρ, M => fl = .ct ∧ RelQ n fp e ρ M
  | .rt (.ok v, e), fl, ρ, M => ∃ r, fl = .rt r ∧ (rE (rXs (ε := ε) RX)).R (.ok v, e) r M fun j => fp j ∨ n ≤ j
  | .rt (.er c f x, e), fl, ρ, M => fl = .rt (.val (mkX c f (Enc.enc x))) ∧ RelQ n fp e ρ M
/-- the body of a try: where something is raised the slots are known -/
def SPT (RX : RTy τ) (g : E → Option (Fw (XR ε τ × E) E)) (f : Sf) : Prop := ∀ e ρ M fp, EnvR.rel e ρ M fp → Cl M → ∀ o, g e = some o → ∃ fl ρ' M', f ρ M = some (fl, ρ', M') ∧ Frm M fp M' ∧ Cl M' ∧ OutT RX M.length fp o fl ρ' M'
theorem SPT.sp {g : E → Option (Fw (XR ε τ × E) E)} {f : Sf} (h : SPT RX g f) : SP (rE (rXs (ε := ε) RX)) g f := fun e ρ M fp R C o q => by
  obtain ⟨fl, ρ', M', k1, k2, k3, k4⟩ := h e ρ M fp R C o q
  refine ⟨fl, ρ', M', k1, k2, k3, ?_⟩
  cases o with
  | nx e1 => exact k4
  | bk e1 => exact k4
  | ct e1 => exact k4
  | rt b =>
    obtain ⟨b, e1⟩ := b
    cases b with
    | ok v => exact k4
    | er c f x =>
      obtain ⟨rfl, f1, h1, h2⟩ := k4
      exact ⟨_, rfl, ρ', f1, fun _ => False, h1, rfl, fun _ _ z => z, fun j z => z.elim (h2 j) False.elim⟩
end
end TL

/-! T35: boxes: dicts with text keys whose parts change -/
namespace TL
open PySem PySem.Spec PyProof.Rows L2 CI
structure Bx (ns : List Str) (E : Type) where
  e : E
def bxKV (fs : List (Str × D)) : List (Key × D) := fs.map fun p => (Sum.inr p.1, p.2)
theorem bx_nl {n : Nat} : ∀ {fs : List (Str × D)}, nlK n (bxKV fs) = nlF n fs
  | [] => rfl
  | (g, x) :: r => by
    show (nl n x && nlK n (bxKV r)) = nlF n ((g, x) :: r)
    rw [nlF_cons, bx_nl]
def BxR {E : Type} [EnvR E] (ns : List Str) (M : Mem) (k : Nat) (e : E) (fp : Fp) : Prop :=
  ∃ fs f', M[k]? = some (.dct (bxKV fs)) ∧ (fs.map (·.1)).Nodup ∧ (∀ p ∈ fs, p.1 ∈ ns) ∧ EnvR.rel e (flds ns fs) M f' ∧ ¬ f' k ∧ ∀ j, fp j ↔ j = k ∨ f' j
instance {ns : List Str} {E : Type} [EnvR E] : Rep (Bx ns E) where
  rep M k s fp := BxR ns M k s.e fp
  frame {M M' k s fp} h hf := by
    obtain ⟨fs, f', h1, h2, h3, h4, h5, h6⟩ := h
    exact ⟨fs, f', by rw [hf k ((h6 k).mpr (.inl rfl))]; exact h1, h2, h3, EnvR.frame h4 fun j q => hf j ((h6 j).mpr (.inr q)), h5, h6⟩
  bnd {M k s fp} h j hj := by
    obtain ⟨fs, f', h1, h2, h3, h4, h5, h6⟩ := h
    rcases (h6 j).mp hj with q | q
    · rw [q]; exact lt_of_get h1
    · exact EnvR.bnd h4 j q
  self {M k s fp} h := by
    obtain ⟨fs, f', h1, h2, h3, h4, h5, h6⟩ := h
    exact (h6 k).mpr (.inl rfl)
  trim {M k s fp n} h hk hM j hj := by
    obtain ⟨fs, f', h1, h2, h3, h4, h5, h6⟩ := h
    rcases (h6 j).mp hj with q | q
    · rw [q]; exact hk
    · exact EnvR.trim h4 (flds_nl (by have := hM k _ hk h1; rwa [nlO_dct, bx_nl] at this)) hM j q
theorem bx_get {ns : List Str} {E : Type} [EnvR E] {M : Mem} {k : Nat} {s : Bx ns E} {fp : Fp} (h : Rep.rep M k s fp) : BxR ns M k s.e fp := h
instance {ns : List Str} {F : Type} [EnvR F] : NLs (Bx ns F) := ⟨fun h q => by
  obtain ⟨fs, f', h1, _⟩ := bx_get h
  rw [h1] at q; cases q⟩
section
variable {E : Type} [EnvR E]
end
section
variable {E : Type} [EnvR E] {α β γ δ σ τ υ : Type} [Enc α] [Enc γ] [Enc δ] [Rep σ] {RT : RTy β} {RX : RTy τ}
/-! ### displays of boxes -/
end
end TL

/-! T36: the result of a call that may raise, appended; try without a name; dicts in boxes; boxes with objects -/
namespace TL
open PySem PySem.Spec PyProof.Rows L2 CI
section
variable {E : Type} [EnvR E] {ε τ υ α σ : Type} [Enc ε] [EncF ε] [Enc α] {RX : RTy τ}
end
section
variable {E : Type} [EnvR E] {α : Type} [Enc α]
end
/-! ### dicts at places -/
section
variable {E : Type} [EnvR E] {κ α β : Type} [DecidableEq κ] [Enc κ] [NL κ] [KeyE κ] [Enc α] {RT : RTy β}
theorem dct_at {M : Mem} {n : Nat} {s : List (κ × α)} (h : M[n]? = some (.dct (tblD s))) : dctAt M (.loc n) = some (tblD s) := by show (match M[n]? with | some (.dct kvs) => some kvs | _ => none) = _; rw [h]
end
/-! ### boxes with objects in them -/
section
variable {E : Type} [EnvR E] {α σ : Type} [Enc α] [Rep σ]
end
end TL

/-! T37: `[d[x] for x in d if d[x] > 0]` -/
namespace TL
open PySem PySem.Spec PyProof.Rows L2 CI
section
variable {E κ : Type} [EnvR E] [Enc κ] [DecidableEq κ] [NL κ] [KeyE κ]

omit [EnvR E] [Enc κ] [NL κ] [KeyE κ] in
def posT (all : List (κ × Int)) : List (κ × Int) → Option (List Int)
  | [] => some []
  | p :: r => (lkT all p.1).bind fun n => (posT all r).map fun ys => if 0 < n then n :: ys else ys
def tDPos {i : Nat} (ln : Lens E (Ob (DS κ Int)) i) : E → Option (List Int) := fun e => (ln.get e).v.bind fun s => if s.l.length < sizeLine then posT s.l s.l else none
theorem posK_tbl (all : List (κ × Int)) : ∀ (t : List (κ × Int)) (ys : List Int), posT all t = some ys → posK (tblD all) (tblD t) = some ys
  | [], ys, h => by cases h; rfl
  | p :: r, ys, h => by
    unfold posT at h
    obtain ⟨n, h1, h⟩ := bx h
    obtain ⟨zs, h2, h⟩ := mx h
    show posK (tblD all) ((KeyE.key p.1, Enc.enc p.2) :: tblD r) = some ys
    unfold posK
    rw [lk_tbl, h1]
    show (posK (tblD all) (tblD r)).map _ = _
    rw [posK_tbl all r zs h2]
    exact congrArg some h
theorem t_dpos {i : Nat} (ln : Lens E (Ob (DS κ Int)) i) [LOk ln] : EN (tDPos ln) (cDPos i) := fun e ρ M fp R C v q => by
  unfold tDPos at q
  obtain ⟨s, hv, q⟩ := bx q
  split at q
  · rename_i hl
    obtain ⟨n, k1, k2⟩ := ds_at ln R hv
    refine ⟨v.map D.int, ?_, rfl⟩
    unfold cDPos
    rw [k1]; simp only [Option.bind_some]
    rw [dct_at k2]; simp only [Option.bind_some]
    rw [if_pos (by unfold tblD; rw [List.length_map]; exact hl), posK_tbl _ _ _ q]
    rfl
  · cases q
end
end TL

namespace K00
open PySem PySem.Spec PyProof.Rows L2 CI
noncomputable def L_z6_1 : Sf :=
    (sIf (toB (cBin oGt (cVar 3) (cInt (0))))
    (sCons (sExpr (cBM "list" oAppend (cVar 2) (aCons (cBin oMod (cCB oInt (aCons (cVar 3) aNil)) (cInt (1000))) aNil)))
    (sSet 3 (cBin oDiv (cVar 3) (cInt (1000)))))
    sNil)
noncomputable def L_z6_2 : Sf :=
    (sCons (sSet 4 (cBin oMod (cCB oInt (aCons (cBin oAdd (cBin oAdd (cBin oMulA (cVar 4) (cInt (48271))) (cBin oMulA (cVar 5) (cInt (69621)))) (cInt (7))) aNil)) (cInt (2147483647))))
    (sIf (toB (cBin oLt (cCB oLen (aCons (cVar 2) aNil)) (cVar 1)))
    (sExpr (cBM "list" oAppend (cVar 2) (aCons (cBin oMod (cCB oInt (aCons (cBin oMod (cCB oInt (aCons (cBin oAdd (cBin oMulA (cVar 4) (cInt (69621))) (cInt (5))) aNil)) (cInt (2147483629))) aNil)) (cInt (1000))) aNil)))
    sNil))
noncomputable def B_z6 : Sf :=
    (sCons (sSetM 2 (cLst aNil))
    (sCons (sSet 3 (cCB oInt (aCons (cVar 0) aNil)))
    (sCons (sIf (toB (cBin oGe (cVar 3) (cBin oPow (cInt (10)) (cInt (18)))))
    (sForK [true, true, true, true, false, false] (iRg1 (cVar 1)) (gNm 5) L_z6_1)
    sNil)
    (sCons (sSet 4 (cBin oMod (cCB oInt (aCons (cBin oAdd (cBin oMulA (cCB oInt (aCons (cVar 0) aNil)) (cInt (48271))) (cInt (11))) aNil)) (cInt (2147483647))))
    (sCons (sForK [false, true, true, false, true, false] (iRg1 (cVar 1)) (gNm 5) L_z6_2)
    (sRet (cVar 2)))))))
noncomputable def F_z6 : Fn := mkFnK 2 6 B_z6
noncomputable def B_z3 : Sf :=
    (sCons (sSet 1 (cCall F_z6 (aCons (cVar 0) (aCons (cInt (2)) aNil))))
    (sCons (sIf (toB (cBin oEq (cBin oMod (cBin oIx (cVar 1) (cInt (0))) (cInt (3))) (cInt (0))))
    (sRet (cBin oIx (cLst (aCons (cInt (0)) (aCons (cInt (1)) (aCons (cInt (4)) (aCons (cInt (7)) (aCons (cInt (22)) (aCons (cInt (24)) (aCons (cInt (27)) (aCons (cInt (39)) (aCons (cInt (49)) (aCons (cInt (2)) aNil))))))))))) (cBin oMod (cBin oIx (cVar 1) (cInt (1))) (cInt (10)))))
    sNil)
    (sRet (cBin oMod (cBin oIx (cVar 1) (cInt (1))) (cInt (60))))))
noncomputable def F_z3 : Fn := mkFnK 1 2 B_z3
noncomputable def B_z0 : Sf :=
    (sCons (sIf (toB (cBin oEq (cVar 0) (cInt (1))))
    (sRet (cStr "bold"))
    sNil)
    (sCons (sIf (toB (cBin oEq (cVar 0) (cInt (4))))
    (sRet (cStr "underlined"))
    sNil)
    (sCons (sIf (toB (cBin oEq (cVar 0) (cInt (7))))
    (sRet (cStr "inverse"))
    sNil)
    (sCons (sIf (toB (cChain oLe oLe (cInt (30)) (cVar 0) (cInt (37))))
    (sRet (cStr "foreground"))
    sNil)
    (sCons (sIf (toB (cChain oLe oLe (cInt (40)) (cVar 0) (cInt (47))))
    (sRet (cStr "background"))
    sNil)
    (sRet (cStr "")))))))
noncomputable def F_z0 : Fn := mkFnK 1 1 B_z0
noncomputable def Q_z2_1 : Ef :=
    (cLc (iSeq (cVar 0)) [2] (gNm 2) (toB (cBin oNe (cCall F_z0 (aCons (cVar 2) aNil)) (cVar 1))) (cVar 2))
noncomputable def B_z2 : Sf :=
    (sRet Q_z2_1)
noncomputable def F_z2 : Fn := mkFnK 2 3 B_z2
noncomputable def B_z12 : Sf :=
    (sCons (sIf (toB (cBin oEq (cVar 1) (cInt (0))))
    (sRet (cTup aNil))
    sNil)
    (sCons (sSet 2 (cCall F_z0 (aCons (cVar 1) aNil)))
    (sCons (sIf (toB (cBin oNe (cVar 2) (cStr "")))
    (sRet (cCB oTuple (aCons (cCB oSorted (aCons (cBin oAdd (cCall F_z2 (aCons (cVar 0) (aCons (cVar 2) aNil))) (cLst (aCons (cVar 1) aNil))) aNil)) aNil)))
    sNil)
    (sCons (sIf (toB (cGIn false [(Sum.inl (22), (.str "bold")), (Sum.inl (24), (.str "underlined")), (Sum.inl (27), (.str "inverse")), (Sum.inl (39), (.str "foreground")), (Sum.inl (49), (.str "background"))] (cVar 1)))
    (sRet (cCB oTuple (aCons (cCall F_z2 (aCons (cVar 0) (aCons (cGIx [(Sum.inl (22), (.str "bold")), (Sum.inl (24), (.str "underlined")), (Sum.inl (27), (.str "inverse")), (Sum.inl (39), (.str "foreground")), (Sum.inl (49), (.str "background"))] (cVar 1)) aNil))) aNil)))
    sNil)
    (sRet (cVar 0))))))
noncomputable def F_z12 : Fn := mkFnK 2 3 B_z12
noncomputable def B_z8 : Sf :=
    (sCons (sIf (toB (cBin (oIn false) (cVar 0) (cTup (aCons (cInt (1)) (aCons (cInt (4)) (aCons (cInt (7)) aNil))))))
    (sRet (cBin oIx (cLst (aCons (cStr "") (aCons (cStr "bold") (aCons (cStr "") (aCons (cStr "") (aCons (cStr "underlined") (aCons (cStr "") (aCons (cStr "") (aCons (cStr "inverse") aNil))))))))) (cVar 0)))
    sNil)
    (sCons (sIf (toB (cInR false (cVar 0) (cInt (30)) (cInt (38))))
    (sRet (cStr "foreground"))
    sNil)
    (sRet (cIf (toB (cInR false (cVar 0) (cInt (40)) (cInt (48)))) (cStr "background") (cStr "")))))
noncomputable def F_z8 : Fn := mkFnK 1 1 B_z8
noncomputable def Q_z4_1 : Ef :=
    (cLc (iSt (cCB oStr (aCons (cCB oInt (aCons (cVar 0) aNil)) aNil))) [1] (gNm 1) tYesF (cBin oAdd (cInt (48)) (cCB oIntS (aCons (cVar 1) aNil))))
noncomputable def B_z4 : Sf :=
    (sRet Q_z4_1)
noncomputable def F_z4 : Fn := mkFnK 1 2 B_z4
noncomputable def L_z11_1 : Sf :=
    (sSet 0 (cCall F_z12 (aCons (cVar 0) (aCons (cVar 2) aNil))))
noncomputable def B_z11 : Sf :=
    (sCons (sForK [true, false, false] (iSeq (cVar 1)) (gNm 2) L_z11_1)
    (sRet (cVar 0)))
noncomputable def F_z11 : Fn := mkFnK 2 3 B_z11
noncomputable def Q_z10_1 : Ef :=
    (cLc (iSt (cCB oStr (aCons (cVar 0) aNil))) [1] (gNm 1) tYesF (cCB oOrd (aCons (cVar 1) aNil)))
noncomputable def B_z10 : Sf :=
    (sRet Q_z10_1)
noncomputable def F_z10 : Fn := mkFnK 1 2 B_z10
noncomputable def L_z5_1 : Sf :=
    (sSet 1 (cBin oAdd (cBin oAdd (cVar 1) (cLst (aCons (cInt (59)) aNil))) (cCall F_z10 (aCons (cVar 2) aNil))))
noncomputable def B_z5 : Sf :=
    (sCons (sSet 1 (cCall F_z10 (aCons (cInt (0)) aNil)))
    (sCons (sForK [false, true, false] (iSeq (cVar 0)) (gNm 2) L_z5_1)
    (sRet (cVar 1))))
noncomputable def F_z5 : Fn := mkFnK 1 3 B_z5
noncomputable def L_z9_1 : Sf :=
    (sCons (sSet 4 (cCall F_z0 (aCons (cVar 3) aNil)))
    (sCons (sIf (kOr (toB (cBin oEq (cVar 4) (cStr ""))) (kOr (toB (cBin (oIn false) (cVar 4) (cVar 1))) (toB (cBin oLe (cVar 3) (cVar 2)))))
    (sRet (cBl false))
    sNil)
    (sCons (sExpr (cBM "list" oAppend (cVar 1) (aCons (cVar 4) aNil)))
    (sSet 2 (cVar 3)))))
noncomputable def B_z9 : Sf :=
    (sCons (sSetM 1 (cLst aNil))
    (sCons (sSet 2 (cInt (0)))
    (sCons (sForK [false, true, true, false, false] (iSeq (cVar 0)) (gNm 3) L_z9_1)
    (sRet (cBl true)))))
noncomputable def F_z9 : Fn := mkFnK 1 5 B_z9
noncomputable def Q_z1_1 : Ef :=
    (cLc (iSeq (cSl (cVar 0) sNone (sSome (cVar 1)))) [4] (gNm 4) tYesF (cCall F_z8 (aCons (cVar 4) aNil)))
noncomputable def L_z1_1 : Sf :=
    (sCons (sSet 3 Q_z1_1)
    (sIf (kOr (toB (cBin oEq (cCall F_z8 (aCons (cVar 2) aNil)) (cStr ""))) (kOr (toB (cBin (oIn false) (cCall F_z8 (aCons (cVar 2) aNil)) (cVar 3))) (kAnd (toB (cBin oGt (cVar 1) (cInt (0)))) (toB (cBin oGe (cBin oIx (cVar 0) (cBin oSub (cVar 1) (cInt (1)))) (cVar 2))))))
    (sRet (cBl false))
    sNil))
noncomputable def B_z1 : Sf :=
    (sCons (sForK [true, false, false, false, false] (iEnT (cVar 0)) (gTp 2 (gsCons (gNm 1) (gsCons (gNm 2) gsNil))) L_z1_1)
    (sRet (cBl true)))
noncomputable def F_z1 : Fn := mkFnK 1 5 B_z1
noncomputable def Q_law_1 : Ef :=
    (cLc (iSeq (cVar 0)) [8] (gNm 8) tYesF (cCall F_z3 (aCons (cVar 8) aNil)))
noncomputable def L_law_1 : Sf :=
    (sCons (sSet 3 (cCall F_z12 (aCons (cVar 3) (aCons (cVar 5) aNil))))
    (sCons (sIf (toB (cBin oNe (cCall F_z0 (aCons (cVar 5) aNil)) (cCall F_z8 (aCons (cVar 5) aNil))))
    (sRet (cBl false))
    sNil)
    (sCons (sIf (toB (cBin oEq (cVar 5) (cInt (0))))
    (sSetM 2 cDNew)
    (sIf (toB (cDIn false (cVar 5) (cVar 1)))
    (sDSet (cVar 2) (cDGet (cVar 1) (cVar 5)) (cInt (0)))
    (sIf (toB (cBin oNe (cCall F_z8 (aCons (cVar 5) aNil)) (cStr "")))
    (sDSet (cVar 2) (cCall F_z8 (aCons (cVar 5) aNil)) (cVar 5))
    sNil)))
    (sIf (kOr (toB (cBin oNe (cVar 3) (cCB oTuple (aCons (cCB oSorted (aCons (cDPos 2) aNil)) aNil)))) (kNot (toTr (cCall F_z9 (aCons (cVar 3) aNil)))))
    (sRet (cBl false))
    sNil))))
noncomputable def L_law_2 : Sf :=
    (sSet 6 (cBin oAdd (cBin oAdd (cVar 6) (cLst (aCons (cInt (59)) aNil))) (cCall F_z4 (aCons (cVar 5) aNil))))
noncomputable def B_law : Sf :=
    (sCons (sSet 1 (cDisp (pConsF (cInt (22)) (cStr "bold") (pConsF (cInt (24)) (cStr "underlined") (pConsF (cInt (27)) (cStr "inverse") (pConsF (cInt (39)) (cStr "foreground") (pConsF (cInt (49)) (cStr "background") pNilF)))))))
    (sCons (sSetM 2 cDNew)
    (sCons (sSet 3 (cTup aNil))
    (sCons (sSet 4 Q_law_1)
    (sCons (sForK [false, true, true, true, true, false, false, false, false, false] (iSeq (cVar 4)) (gNm 5) L_law_1)
    (sCons (sSet 6 (cLst (aCons (cInt (48)) aNil)))
    (sCons (sForK [false, false, false, true, true, false, true, false, false, false] (iSeq (cVar 3)) (gNm 5) L_law_2)
    (sCons (sIf (kOr (toB (cBin oNe (cCall F_z11 (aCons (cTup aNil) (aCons (cVar 4) aNil))) (cVar 3))) (toB (cBin oNe (cCall F_z5 (aCons (cVar 3) aNil)) (cVar 6))))
    (sRet (cBl false))
    sNil)
    (sCons (sSet 7 (cCB oTuple (aCons (cSl (cVar 4) sNone (sSome (cInt (4)))) aNil)))
    (sRet (cAnd (cBin oEq (cCall F_z9 (aCons (cVar 7) aNil)) (cCall F_z1 (aCons (cVar 7) aNil))) (cBin oEq (cCall F_z11 (aCons (cVar 3) (aCons (cTup aNil) aNil))) (cVar 3)))))))))))))
noncomputable def F_law : Fn := mkFnK 1 10 B_law
end K00
set_option synthInstance.maxHeartbeats 0
set_option synthInstance.maxSize 100000
namespace K00
open PySem PySem.Spec PyProof.Rows L2 CI TL
abbrev E_z6 : Type := Option Int × Option Int × Ob (LS Int) × Option Int × Option Int × Option Int × Unit
abbrev n_z6_0 : Lens E_z6 (Option Int) 0 := Lens.hd
abbrev n_z6_1 : Lens E_z6 (Option Int) 1 := (Lens.tl Lens.hd)
abbrev n_z6_2 : Lens E_z6 (Ob (LS Int)) 2 := (Lens.tl (Lens.tl Lens.hd))
abbrev n_z6_3 : Lens E_z6 (Option Int) 3 := (Lens.tl (Lens.tl (Lens.tl Lens.hd)))
abbrev n_z6_4 : Lens E_z6 (Option Int) 4 := (Lens.tl (Lens.tl (Lens.tl (Lens.tl Lens.hd))))
abbrev n_z6_5 : Lens E_z6 (Option Int) 5 := (Lens.tl (Lens.tl (Lens.tl (Lens.tl (Lens.tl Lens.hd)))))
abbrev k_z6_1 : E_z6 → E_z6 := (kpT (kpT (kpT (kpT (kpF none (kpF none kpU))))))
abbrev k_z6_2 : E_z6 → E_z6 := (kpF none (kpT (kpT (kpF none (kpT (kpF none kpU))))))
noncomputable def tL_z6_1 : E_z6 → Option (Fw (List Int) E_z6) :=
    (tIfS (tB gtI (tV n_z6_3) (tK (0 : Int)))
    (tSeq (tApp n_z6_2 (tB modI (t1 intI (tV n_z6_3)) (tK (1000 : Int))))
    (tSet n_z6_3 (tB divI (tV n_z6_3) (tK (1000 : Int)))))
    tNil)
theorem oL_z6_1 : SP (β := (List Int)) (rt .n) tL_z6_1 L_z6_1 := by unfold tL_z6_1 L_z6_1; exact (s_if (p_B ((t_bin o_gt ((t_var n_z6_3)).v ((t_val (v := (0 : Int)) rfl)).v)).v)
    (s_cons (s_app n_z6_2 (t_bin o_mod ((t_cb1 o_intI ((t_var n_z6_3)).v)).v ((t_val (v := (1000 : Int)) rfl)).v))
    (s_set n_z6_3 (t_bin o_div ((t_var n_z6_3)).v ((t_val (v := (1000 : Int)) rfl)).v)))
    s_nil)
noncomputable def tL_z6_2 : E_z6 → Option (Fw (List Int) E_z6) :=
    (tSeq (tSet n_z6_4 (tB modI (t1 intI (tB addI (tB addI (tB mulI (tV n_z6_4) (tK (48271 : Int))) (tB mulI (tV n_z6_5) (tK (69621 : Int)))) (tK (7 : Int)))) (tK (2147483647 : Int))))
    (tIfS (tB ltI (t1 lenT (tL n_z6_2)) (tV n_z6_1))
    (tApp n_z6_2 (tB modI (t1 intI (tB modI (t1 intI (tB addI (tB mulI (tV n_z6_4) (tK (69621 : Int))) (tK (5 : Int)))) (tK (2147483629 : Int)))) (tK (1000 : Int))))
    tNil))
theorem oL_z6_2 : SP (β := (List Int)) (rt .n) tL_z6_2 L_z6_2 := by unfold tL_z6_2 L_z6_2; exact (s_cons (s_set n_z6_4 (t_bin o_mod ((t_cb1 o_intI ((t_bin o_add ((t_bin o_add ((t_bin o_mul ((t_var n_z6_4)).v ((t_val (v := (48271 : Int)) rfl)).v)).v ((t_bin o_mul ((t_var n_z6_5)).v ((t_val (v := (69621 : Int)) rfl)).v)).v)).v ((t_val (v := (7 : Int)) rfl)).v)).v)).v ((t_val (v := (2147483647 : Int)) rfl)).v))
    (s_if (p_B ((t_bin o_lt ((t_cb1 o_len (t_loc n_z6_2))).v ((t_var n_z6_1)).v)).v)
    (s_app n_z6_2 (t_bin o_mod ((t_cb1 o_intI ((t_bin o_mod ((t_cb1 o_intI ((t_bin o_add ((t_bin o_mul ((t_var n_z6_4)).v ((t_val (v := (69621 : Int)) rfl)).v)).v ((t_val (v := (5 : Int)) rfl)).v)).v)).v ((t_val (v := (2147483629 : Int)) rfl)).v)).v)).v ((t_val (v := (1000 : Int)) rfl)).v))
    s_nil))
noncomputable def tB_z6 : E_z6 → Option (Fw (List Int) E_z6) :=
    (tSeq (tSetL n_z6_2 (tLst (lNil (α := Int))))
    (tSeq (tSet n_z6_3 (t1 intI (tV n_z6_0)))
    (tSeq (tIfS (tB geI (tV n_z6_3) (tB powI (tK (10 : Int)) (tK (18 : Int))))
    (tFor k_z6_1 (iR1 (tV n_z6_1)) (pNm n_z6_5) tL_z6_1)
    tNil)
    (tSeq (tSet n_z6_4 (tB modI (t1 intI (tB addI (tB mulI (t1 intI (tV n_z6_0)) (tK (48271 : Int))) (tK (11 : Int)))) (tK (2147483647 : Int))))
    (tSeq (tFor k_z6_2 (iR1 (tV n_z6_1)) (pNm n_z6_5) tL_z6_2)
    (tRet (tL n_z6_2)))))))
noncomputable def T_z6 : Int × Int × Unit → Option (List Int) := fnT (E := E_z6) (fun a => (some a.1, some a.2.1, ⟨none⟩, none, none, none, ())) none tB_z6
theorem tok_z6 : FnN F_z6 T_z6 := fn_N (fun a M => (rel_cons rel_val (rel_cons rel_val (rel_cons rel_obn (rel_cons rel_none (rel_cons rel_none (rel_cons rel_none rel_nil))))))) (fun _ => rfl) (by unfold tB_z6 B_z6; exact (s_cons (s_setL n_z6_2 (t_lst (l_nil (α := Int))))
    (s_cons (s_set n_z6_3 (t_cb1 o_intI ((t_var n_z6_0)).v))
    (s_cons (s_if (p_B ((t_bin o_ge ((t_var n_z6_3)).v ((t_bin o_pow ((t_val (v := (10 : Int)) rfl)).v ((t_val (v := (18 : Int)) rfl)).v)).v)).v)
    (s_for (i_rg1 ((t_var n_z6_1)).v) (g_nm n_z6_5) oL_z6_1)
    s_nil)
    (s_cons (s_set n_z6_4 (t_bin o_mod ((t_cb1 o_intI ((t_bin o_add ((t_bin o_mul ((t_cb1 o_intI ((t_var n_z6_0)).v)).v ((t_val (v := (48271 : Int)) rfl)).v)).v ((t_val (v := (11 : Int)) rfl)).v)).v)).v ((t_val (v := (2147483647 : Int)) rfl)).v))
    (s_cons (s_for (i_rg1 ((t_var n_z6_1)).v) (g_nm n_z6_5) oL_z6_2)
    (s_retL n_z6_2)))))))
abbrev E_z3 : Type := Option Int × Option (List Int) × Unit
abbrev n_z3_0 : Lens E_z3 (Option Int) 0 := Lens.hd
abbrev n_z3_1 : Lens E_z3 (Option (List Int)) 1 := (Lens.tl Lens.hd)
noncomputable def tB_z3 : E_z3 → Option (Fw Int E_z3) :=
    (tSeq (tSet n_z3_1 (tCall T_z6 (pCons (tV n_z3_0) (pCons (tK (2 : Int)) pNil))))
    (tSeq (tIfS (tB eqT (tB modI (tB tIx (tV n_z3_1) (tK (0 : Int))) (tK (3 : Int))) (tK (0 : Int)))
    (tRet (tB tIx (tLst (lCons (tK (0 : Int)) (lCons (tK (1 : Int)) (lCons (tK (4 : Int)) (lCons (tK (7 : Int)) (lCons (tK (22 : Int)) (lCons (tK (24 : Int)) (lCons (tK (27 : Int)) (lCons (tK (39 : Int)) (lCons (tK (49 : Int)) (lCons (tK (2 : Int)) lNil))))))))))) (tB modI (tB tIx (tV n_z3_1) (tK (1 : Int))) (tK (10 : Int)))))
    tNil)
    (tRet (tB modI (tB tIx (tV n_z3_1) (tK (1 : Int))) (tK (60 : Int))))))
noncomputable def T_z3 : Int × Unit → Option Int := fnT (E := E_z3) (fun a => (some a.1, none, ())) none tB_z3
theorem tok_z3 : FnT F_z3 T_z3 := fn_T (fun a M => (rel_cons rel_val (rel_cons rel_none rel_nil))) (fun _ => rfl) (by unfold tB_z3 B_z3; exact (s_cons (s_set n_z3_1 ((t_callN tok_z6 (p_cons (t_var n_z3_0) (p_cons (t_val (v := (2 : Int)) rfl) p_nil)))).p)
    (s_cons (s_if (p_B ((t_bin (o_eq (by decide)) ((t_bin o_mod ((t_bin o_ix ((t_var n_z3_1)).v ((t_val (v := (0 : Int)) rfl)).v)).v ((t_val (v := (3 : Int)) rfl)).v)).v ((t_val (v := (0 : Int)) rfl)).v)).v)
    (s_ret (t_bin o_ix ((t_lst (l_cons (t_val (v := (0 : Int)) rfl) (l_cons (t_val (v := (1 : Int)) rfl) (l_cons (t_val (v := (4 : Int)) rfl) (l_cons (t_val (v := (7 : Int)) rfl) (l_cons (t_val (v := (22 : Int)) rfl) (l_cons (t_val (v := (24 : Int)) rfl) (l_cons (t_val (v := (27 : Int)) rfl) (l_cons (t_val (v := (39 : Int)) rfl) (l_cons (t_val (v := (49 : Int)) rfl) (l_cons (t_val (v := (2 : Int)) rfl) l_nil)))))))))))).v ((t_bin o_mod ((t_bin o_ix ((t_var n_z3_1)).v ((t_val (v := (1 : Int)) rfl)).v)).v ((t_val (v := (10 : Int)) rfl)).v)).v))
    s_nil)
    (s_ret (t_bin o_mod ((t_bin o_ix ((t_var n_z3_1)).v ((t_val (v := (1 : Int)) rfl)).v)).v ((t_val (v := (60 : Int)) rfl)).v))))) (fun b h => by cases h)
abbrev E_z0 : Type := Option Int × Unit
abbrev n_z0_0 : Lens E_z0 (Option Int) 0 := Lens.hd
noncomputable def tB_z0 : E_z0 → Option (Fw Str E_z0) :=
    (tSeq (tIfS (tB eqT (tV n_z0_0) (tK (1 : Int)))
    (tRet (tK ("bold" : Str)))
    tNil)
    (tSeq (tIfS (tB eqT (tV n_z0_0) (tK (4 : Int)))
    (tRet (tK ("underlined" : Str)))
    tNil)
    (tSeq (tIfS (tB eqT (tV n_z0_0) (tK (7 : Int)))
    (tRet (tK ("inverse" : Str)))
    tNil)
    (tSeq (tIfS (tCh leI leI (tK (30 : Int)) (tV n_z0_0) (tK (37 : Int)))
    (tRet (tK ("foreground" : Str)))
    tNil)
    (tSeq (tIfS (tCh leI leI (tK (40 : Int)) (tV n_z0_0) (tK (47 : Int)))
    (tRet (tK ("background" : Str)))
    tNil)
    (tRet (tK ("" : Str))))))))
noncomputable def T_z0 : Int × Unit → Option Str := fnT (E := E_z0) (fun a => (some a.1, ())) none tB_z0
theorem tok_z0 : FnT F_z0 T_z0 := fn_T (fun a M => (rel_cons rel_val rel_nil)) (fun _ => rfl) (by unfold tB_z0 B_z0; exact (s_cons (s_if (p_B ((t_bin (o_eq (by decide)) ((t_var n_z0_0)).v ((t_val (v := (1 : Int)) rfl)).v)).v)
    (s_ret (t_val (v := ("bold" : Str)) rfl))
    s_nil)
    (s_cons (s_if (p_B ((t_bin (o_eq (by decide)) ((t_var n_z0_0)).v ((t_val (v := (4 : Int)) rfl)).v)).v)
    (s_ret (t_val (v := ("underlined" : Str)) rfl))
    s_nil)
    (s_cons (s_if (p_B ((t_bin (o_eq (by decide)) ((t_var n_z0_0)).v ((t_val (v := (7 : Int)) rfl)).v)).v)
    (s_ret (t_val (v := ("inverse" : Str)) rfl))
    s_nil)
    (s_cons (s_if (p_B ((t_ch o_le o_le ((t_val (v := (30 : Int)) rfl)).v ((t_var n_z0_0)).v ((t_val (v := (37 : Int)) rfl)).v hv_le)).v)
    (s_ret (t_val (v := ("foreground" : Str)) rfl))
    s_nil)
    (s_cons (s_if (p_B ((t_ch o_le o_le ((t_val (v := (40 : Int)) rfl)).v ((t_var n_z0_0)).v ((t_val (v := (47 : Int)) rfl)).v hv_le)).v)
    (s_ret (t_val (v := ("background" : Str)) rfl))
    s_nil)
    (s_ret (t_val (v := ("" : Str)) rfl)))))))) (fun b h => by cases h)
abbrev E_z2 : Type := Option (Tu Int) × Option Str × Option Int × Unit
abbrev n_z2_0 : Lens E_z2 (Option (Tu Int)) 0 := Lens.hd
abbrev n_z2_1 : Lens E_z2 (Option Str) 1 := (Lens.tl Lens.hd)
abbrev n_z2_2 : Lens E_z2 (Option Int) 2 := (Lens.tl (Lens.tl Lens.hd))
noncomputable def tQ_z2_1 : E_z2 → Option (List Int) :=
    (tC (iL (tV n_z2_0)) (wCons n_z2_2 wNil) (pNm n_z2_2) (tB neT (tCall T_z0 (pCons (tV n_z2_2) pNil)) (tV n_z2_1)) (tV n_z2_2))
theorem oQ_z2_1 : EN tQ_z2_1 Q_z2_1 := by unfold tQ_z2_1 Q_z2_1; exact (t_lc ((i_seq (t_var n_z2_0))).v (w_cons n_z2_2 w_nil) (g_nm n_z2_2) (p_B ((t_bin (o_ne (by decide)) ((t_call tok_z0 (p_cons (t_var n_z2_2) p_nil))).v ((t_var n_z2_1)).v)).v) (t_var n_z2_2))
noncomputable def tB_z2 : E_z2 → Option (Fw (List Int) E_z2) :=
    (tRet tQ_z2_1)
noncomputable def T_z2 : (Tu Int) × Str × Unit → Option (List Int) := fnT (E := E_z2) (fun a => (some a.1, some a.2.1, none, ())) none tB_z2
theorem tok_z2 : FnN F_z2 T_z2 := fn_N (fun a M => (rel_cons rel_val (rel_cons rel_val (rel_cons rel_none rel_nil)))) (fun _ => rfl) (by unfold tB_z2 B_z2; exact (s_retN oQ_z2_1))
abbrev E_z12 : Type := Option (Tu Int) × Option Int × Option Str × Unit
abbrev n_z12_0 : Lens E_z12 (Option (Tu Int)) 0 := Lens.hd
abbrev n_z12_1 : Lens E_z12 (Option Int) 1 := (Lens.tl Lens.hd)
abbrev n_z12_2 : Lens E_z12 (Option Str) 2 := (Lens.tl (Lens.tl Lens.hd))
noncomputable def tB_z12 : E_z12 → Option (Fw (Tu Int) E_z12) :=
    (tSeq (tIfS (tB eqT (tV n_z12_1) (tK (0 : Int)))
    (tRet (tTup (lNil (α := Int))))
    tNil)
    (tSeq (tSet n_z12_2 (tCall T_z0 (pCons (tV n_z12_1) pNil)))
    (tSeq (tIfS (tB neT (tV n_z12_2) (tK ("" : Str)))
    (tRet (t1 tupT (t1 srtT (tB catL (tCall T_z2 (pCons (tV n_z12_0) (pCons (tV n_z12_2) pNil))) (tLst (lCons (tV n_z12_1) lNil))))))
    tNil)
    (tSeq (tIfS (tGIn false ([((22 : Int), ("bold" : Str)), ((24 : Int), ("underlined" : Str)), ((27 : Int), ("inverse" : Str)), ((39 : Int), ("foreground" : Str)), ((49 : Int), ("background" : Str))] : List (Int × Str)) (tV n_z12_1))
    (tRet (t1 tupT (tCall T_z2 (pCons (tV n_z12_0) (pCons (tGIx ([((22 : Int), ("bold" : Str)), ((24 : Int), ("underlined" : Str)), ((27 : Int), ("inverse" : Str)), ((39 : Int), ("foreground" : Str)), ((49 : Int), ("background" : Str))] : List (Int × Str)) (tV n_z12_1)) pNil)))))
    tNil)
    (tRet (tV n_z12_0))))))
noncomputable def T_z12 : (Tu Int) × Int × Unit → Option (Tu Int) := fnT (E := E_z12) (fun a => (some a.1, some a.2.1, none, ())) none tB_z12
theorem tok_z12 : FnT F_z12 T_z12 := fn_T (fun a M => (rel_cons rel_val (rel_cons rel_val (rel_cons rel_none rel_nil)))) (fun _ => rfl) (by unfold tB_z12 B_z12; exact (s_cons (s_if (p_B ((t_bin (o_eq (by decide)) ((t_var n_z12_1)).v ((t_val (v := (0 : Int)) rfl)).v)).v)
    (s_ret (t_tup (l_nil (α := Int))))
    s_nil)
    (s_cons (s_set n_z12_2 (t_call tok_z0 (p_cons (t_var n_z12_1) p_nil)))
    (s_cons (s_if (p_B ((t_bin (o_ne (by decide)) ((t_var n_z12_2)).v ((t_val (v := ("" : Str)) rfl)).v)).v)
    (s_ret (t_cb1 o_tup ((t_cb1N o_srt ((t_binN o_catL ((t_callN tok_z2 (p_cons (t_var n_z12_0) (p_cons (t_var n_z12_2) p_nil)))).v ((t_lst (l_cons (t_var n_z12_1) l_nil))).v)).v)).v))
    s_nil)
    (s_cons (s_if (p_B ((t_gin rfl ((t_var n_z12_1)).v)).v)
    (s_ret (t_cb1 o_tup ((t_callN tok_z2 (p_cons (t_var n_z12_0) (p_cons (t_gix rfl ((t_var n_z12_1)).v) p_nil)))).v))
    s_nil)
    (s_ret (t_var n_z12_0))))))) (fun b h => by cases h)
abbrev E_z8 : Type := Option Int × Unit
abbrev n_z8_0 : Lens E_z8 (Option Int) 0 := Lens.hd
noncomputable def tB_z8 : E_z8 → Option (Fw Str E_z8) :=
    (tSeq (tIfS (tB inT (tV n_z8_0) (tTup (lCons (tK (1 : Int)) (lCons (tK (4 : Int)) (lCons (tK (7 : Int)) lNil)))))
    (tRet (tB tIx (tLst (lCons (tK ("" : Str)) (lCons (tK ("bold" : Str)) (lCons (tK ("" : Str)) (lCons (tK ("" : Str)) (lCons (tK ("underlined" : Str)) (lCons (tK ("" : Str)) (lCons (tK ("" : Str)) (lCons (tK ("inverse" : Str)) lNil))))))))) (tV n_z8_0)))
    tNil)
    (tSeq (tIfS (tInR false (tV n_z8_0) (tK (30 : Int)) (tK (38 : Int)))
    (tRet (tK ("foreground" : Str)))
    tNil)
    (tRet (tIf (tInR false (tV n_z8_0) (tK (40 : Int)) (tK (48 : Int))) (tK ("background" : Str)) (tK ("" : Str))))))
noncomputable def T_z8 : Int × Unit → Option Str := fnT (E := E_z8) (fun a => (some a.1, ())) none tB_z8
theorem tok_z8 : FnT F_z8 T_z8 := fn_T (fun a M => (rel_cons rel_val rel_nil)) (fun _ => rfl) (by unfold tB_z8 B_z8; exact (s_cons (s_if (p_B ((t_bin o_in ((t_var n_z8_0)).v ((t_tup (l_cons (t_val (v := (1 : Int)) rfl) (l_cons (t_val (v := (4 : Int)) rfl) (l_cons (t_val (v := (7 : Int)) rfl) l_nil))))).v)).v)
    (s_ret (t_bin o_ix ((t_lst (l_cons (t_val (v := ("" : Str)) rfl) (l_cons (t_val (v := ("bold" : Str)) rfl) (l_cons (t_val (v := ("" : Str)) rfl) (l_cons (t_val (v := ("" : Str)) rfl) (l_cons (t_val (v := ("underlined" : Str)) rfl) (l_cons (t_val (v := ("" : Str)) rfl) (l_cons (t_val (v := ("" : Str)) rfl) (l_cons (t_val (v := ("inverse" : Str)) rfl) l_nil)))))))))).v ((t_var n_z8_0)).v))
    s_nil)
    (s_cons (s_if (p_B ((t_inR ((t_var n_z8_0)).v ((t_val (v := (30 : Int)) rfl)).v ((t_val (v := (38 : Int)) rfl)).v)).v)
    (s_ret (t_val (v := ("foreground" : Str)) rfl))
    s_nil)
    (s_ret (t_if (p_B ((t_inR ((t_var n_z8_0)).v ((t_val (v := (40 : Int)) rfl)).v ((t_val (v := (48 : Int)) rfl)).v)).v) (t_val (v := ("background" : Str)) rfl) (t_val (v := ("" : Str)) rfl)))))) (fun b h => by cases h)
abbrev E_z4 : Type := Option Int × Option Str × Unit
abbrev n_z4_0 : Lens E_z4 (Option Int) 0 := Lens.hd
abbrev n_z4_1 : Lens E_z4 (Option Str) 1 := (Lens.tl Lens.hd)
noncomputable def tQ_z4_1 : E_z4 → Option (List Int) :=
    (tC (iCh (t1 strI (t1 intI (tV n_z4_0)))) (wCons n_z4_1 wNil) (pNm n_z4_1) tYes (tB addI (tK (48 : Int)) (t1 intS (tV n_z4_1))))
theorem oQ_z4_1 : EN tQ_z4_1 Q_z4_1 := by unfold tQ_z4_1 Q_z4_1; exact (t_lc ((i_st ((t_cb1 o_str ((t_cb1 o_intI ((t_var n_z4_0)).v)).v)).v)).v (w_cons n_z4_1 w_nil) (g_nm n_z4_1) p_yes (t_bin o_add ((t_val (v := (48 : Int)) rfl)).v ((t_cb1 o_intS ((t_var n_z4_1)).v)).v))
noncomputable def tB_z4 : E_z4 → Option (Fw (List Int) E_z4) :=
    (tRet tQ_z4_1)
noncomputable def T_z4 : Int × Unit → Option (List Int) := fnT (E := E_z4) (fun a => (some a.1, none, ())) none tB_z4
theorem tok_z4 : FnN F_z4 T_z4 := fn_N (fun a M => (rel_cons rel_val (rel_cons rel_none rel_nil))) (fun _ => rfl) (by unfold tB_z4 B_z4; exact (s_retN oQ_z4_1))
abbrev E_z11 : Type := Option (Tu Int) × Option (List Int) × Option Int × Unit
abbrev n_z11_0 : Lens E_z11 (Option (Tu Int)) 0 := Lens.hd
abbrev n_z11_1 : Lens E_z11 (Option (List Int)) 1 := (Lens.tl Lens.hd)
abbrev n_z11_2 : Lens E_z11 (Option Int) 2 := (Lens.tl (Lens.tl Lens.hd))
abbrev k_z11_1 : E_z11 → E_z11 := (kpT (kpF none (kpF none kpU)))
noncomputable def tL_z11_1 : E_z11 → Option (Fw (Tu Int) E_z11) :=
    (tSet n_z11_0 (tCall T_z12 (pCons (tV n_z11_0) (pCons (tV n_z11_2) pNil))))
theorem oL_z11_1 : SP (β := (Tu Int)) (rt .v) tL_z11_1 L_z11_1 := by unfold tL_z11_1 L_z11_1; exact (s_set n_z11_0 (t_call tok_z12 (p_cons (t_var n_z11_0) (p_cons (t_var n_z11_2) p_nil))))
noncomputable def tB_z11 : E_z11 → Option (Fw (Tu Int) E_z11) :=
    (tSeq (tFor k_z11_1 (iL (tV n_z11_1)) (pNm n_z11_2) tL_z11_1)
    (tRet (tV n_z11_0)))
noncomputable def T_z11 : (Tu Int) × (List Int) × Unit → Option (Tu Int) := fnT (E := E_z11) (fun a => (some a.1, some a.2.1, none, ())) none tB_z11
theorem tok_z11 : FnT F_z11 T_z11 := fn_T (fun a M => (rel_cons rel_val (rel_cons rel_val (rel_cons rel_none rel_nil)))) (fun _ => rfl) (by unfold tB_z11 B_z11; exact (s_cons (s_for (i_seq (t_var n_z11_1)) (g_nm n_z11_2) oL_z11_1)
    (s_ret (t_var n_z11_0)))) (fun b h => by cases h)
abbrev E_z11_v1 : Type := Option (Tu Int) × Option (Tu Int) × Option Int × Unit
abbrev n_z11_v1_0 : Lens E_z11_v1 (Option (Tu Int)) 0 := Lens.hd
abbrev n_z11_v1_1 : Lens E_z11_v1 (Option (Tu Int)) 1 := (Lens.tl Lens.hd)
abbrev n_z11_v1_2 : Lens E_z11_v1 (Option Int) 2 := (Lens.tl (Lens.tl Lens.hd))
abbrev k_z11_v1_1 : E_z11_v1 → E_z11_v1 := (kpT (kpF none (kpF none kpU)))
noncomputable def tL_z11_1_v1 : E_z11_v1 → Option (Fw (Tu Int) E_z11_v1) :=
    (tSet n_z11_v1_0 (tCall T_z12 (pCons (tV n_z11_v1_0) (pCons (tV n_z11_v1_2) pNil))))
theorem oL_z11_1_v1 : SP (β := (Tu Int)) (rt .v) tL_z11_1_v1 L_z11_1 := by unfold tL_z11_1_v1 L_z11_1; exact (s_set n_z11_v1_0 (t_call tok_z12 (p_cons (t_var n_z11_v1_0) (p_cons (t_var n_z11_v1_2) p_nil))))
noncomputable def tB_z11_v1 : E_z11_v1 → Option (Fw (Tu Int) E_z11_v1) :=
    (tSeq (tFor k_z11_v1_1 (iL (tV n_z11_v1_1)) (pNm n_z11_v1_2) tL_z11_1_v1)
    (tRet (tV n_z11_v1_0)))
noncomputable def T_z11_v1 : (Tu Int) × (Tu Int) × Unit → Option (Tu Int) := fnT (E := E_z11_v1) (fun a => (some a.1, some a.2.1, none, ())) none tB_z11_v1
theorem tok_z11_v1 : FnT F_z11 T_z11_v1 := fn_T (fun a M => (rel_cons rel_val (rel_cons rel_val (rel_cons rel_none rel_nil)))) (fun _ => rfl) (by unfold tB_z11_v1 B_z11; exact (s_cons (s_for (i_seq (t_var n_z11_v1_1)) (g_nm n_z11_v1_2) oL_z11_1_v1)
    (s_ret (t_var n_z11_v1_0)))) (fun b h => by cases h)
abbrev E_z10 : Type := Option Int × Option Str × Unit
abbrev n_z10_0 : Lens E_z10 (Option Int) 0 := Lens.hd
abbrev n_z10_1 : Lens E_z10 (Option Str) 1 := (Lens.tl Lens.hd)
noncomputable def tQ_z10_1 : E_z10 → Option (List Int) :=
    (tC (iCh (t1 strI (tV n_z10_0))) (wCons n_z10_1 wNil) (pNm n_z10_1) tYes (t1 ordS (tV n_z10_1)))
theorem oQ_z10_1 : EN tQ_z10_1 Q_z10_1 := by unfold tQ_z10_1 Q_z10_1; exact (t_lc ((i_st ((t_cb1 o_str ((t_var n_z10_0)).v)).v)).v (w_cons n_z10_1 w_nil) (g_nm n_z10_1) p_yes (t_cb1 o_ordS ((t_var n_z10_1)).v))
noncomputable def tB_z10 : E_z10 → Option (Fw (List Int) E_z10) :=
    (tRet tQ_z10_1)
noncomputable def T_z10 : Int × Unit → Option (List Int) := fnT (E := E_z10) (fun a => (some a.1, none, ())) none tB_z10
theorem tok_z10 : FnN F_z10 T_z10 := fn_N (fun a M => (rel_cons rel_val (rel_cons rel_none rel_nil))) (fun _ => rfl) (by unfold tB_z10 B_z10; exact (s_retN oQ_z10_1))
abbrev E_z5 : Type := Option (Tu Int) × Option (List Int) × Option Int × Unit
abbrev n_z5_0 : Lens E_z5 (Option (Tu Int)) 0 := Lens.hd
abbrev n_z5_1 : Lens E_z5 (Option (List Int)) 1 := (Lens.tl Lens.hd)
abbrev n_z5_2 : Lens E_z5 (Option Int) 2 := (Lens.tl (Lens.tl Lens.hd))
abbrev k_z5_1 : E_z5 → E_z5 := (kpF none (kpT (kpF none kpU)))
noncomputable def tL_z5_1 : E_z5 → Option (Fw (List Int) E_z5) :=
    (tSet n_z5_1 (tB catL (tB catL (tV n_z5_1) (tLst (lCons (tK (59 : Int)) lNil))) (tCall T_z10 (pCons (tV n_z5_2) pNil))))
theorem oL_z5_1 : SP (β := (List Int)) (rt .v) tL_z5_1 L_z5_1 := by unfold tL_z5_1 L_z5_1; exact (s_set n_z5_1 ((t_binN o_catL ((t_binN o_catL ((t_var n_z5_1)).v ((t_lst (l_cons (t_val (v := (59 : Int)) rfl) l_nil))).v)).v ((t_callN tok_z10 (p_cons (t_var n_z5_2) p_nil))).v)).p)
noncomputable def tB_z5 : E_z5 → Option (Fw (List Int) E_z5) :=
    (tSeq (tSet n_z5_1 (tCall T_z10 (pCons (tK (0 : Int)) pNil)))
    (tSeq (tFor k_z5_1 (iL (tV n_z5_0)) (pNm n_z5_2) tL_z5_1)
    (tRet (tV n_z5_1))))
noncomputable def T_z5 : (Tu Int) × Unit → Option (List Int) := fnT (E := E_z5) (fun a => (some a.1, none, none, ())) none tB_z5
theorem tok_z5 : FnT F_z5 T_z5 := fn_T (fun a M => (rel_cons rel_val (rel_cons rel_none (rel_cons rel_none rel_nil)))) (fun _ => rfl) (by unfold tB_z5 B_z5; exact (s_cons (s_set n_z5_1 ((t_callN tok_z10 (p_cons (t_val (v := (0 : Int)) rfl) p_nil))).p)
    (s_cons (s_for (i_seq (t_var n_z5_0)) (g_nm n_z5_2) oL_z5_1)
    (s_ret (t_var n_z5_1))))) (fun b h => by cases h)
abbrev E_z9 : Type := Option (Tu Int) × Ob (LS Str) × Option Int × Option Int × Option Str × Unit
abbrev n_z9_0 : Lens E_z9 (Option (Tu Int)) 0 := Lens.hd
abbrev n_z9_1 : Lens E_z9 (Ob (LS Str)) 1 := (Lens.tl Lens.hd)
abbrev n_z9_2 : Lens E_z9 (Option Int) 2 := (Lens.tl (Lens.tl Lens.hd))
abbrev n_z9_3 : Lens E_z9 (Option Int) 3 := (Lens.tl (Lens.tl (Lens.tl Lens.hd)))
abbrev n_z9_4 : Lens E_z9 (Option Str) 4 := (Lens.tl (Lens.tl (Lens.tl (Lens.tl Lens.hd))))
abbrev k_z9_1 : E_z9 → E_z9 := (kpF none (kpT (kpT (kpF none (kpF none kpU)))))
noncomputable def tL_z9_1 : E_z9 → Option (Fw Bool E_z9) :=
    (tSeq (tSet n_z9_4 (tCall T_z0 (pCons (tV n_z9_3) pNil)))
    (tSeq (tIfS (tOr (tB eqT (tV n_z9_4) (tK ("" : Str))) (tOr (tB inT (tV n_z9_4) (tL n_z9_1)) (tB leI (tV n_z9_3) (tV n_z9_2))))
    (tRet (tK false))
    tNil)
    (tSeq (tApp n_z9_1 (tV n_z9_4))
    (tSet n_z9_2 (tV n_z9_3)))))
theorem oL_z9_1 : SP (β := Bool) (rt .v) tL_z9_1 L_z9_1 := by unfold tL_z9_1 L_z9_1; exact (s_cons (s_set n_z9_4 (t_call tok_z0 (p_cons (t_var n_z9_3) p_nil)))
    (s_cons (s_if (p_or (p_B ((t_bin (o_eq (by decide)) ((t_var n_z9_4)).v ((t_val (v := ("" : Str)) rfl)).v)).v) (p_or (p_B ((t_bin o_in ((t_var n_z9_4)).v (t_loc n_z9_1))).v) (p_B ((t_bin o_le ((t_var n_z9_3)).v ((t_var n_z9_2)).v)).v)))
    (s_ret (t_val (v := false) rfl))
    s_nil)
    (s_cons (s_app n_z9_1 (t_var n_z9_4))
    (s_set n_z9_2 (t_var n_z9_3)))))
noncomputable def tB_z9 : E_z9 → Option (Fw Bool E_z9) :=
    (tSeq (tSetL n_z9_1 (tLst (lNil (α := Str))))
    (tSeq (tSet n_z9_2 (tK (0 : Int)))
    (tSeq (tFor k_z9_1 (iL (tV n_z9_0)) (pNm n_z9_3) tL_z9_1)
    (tRet (tK true)))))
noncomputable def T_z9 : (Tu Int) × Unit → Option Bool := fnT (E := E_z9) (fun a => (some a.1, ⟨none⟩, none, none, none, ())) none tB_z9
theorem tok_z9 : FnT F_z9 T_z9 := fn_T (fun a M => (rel_cons rel_val (rel_cons rel_obn (rel_cons rel_none (rel_cons rel_none (rel_cons rel_none rel_nil)))))) (fun _ => rfl) (by unfold tB_z9 B_z9; exact (s_cons (s_setL n_z9_1 (t_lst (l_nil (α := Str))))
    (s_cons (s_set n_z9_2 (t_val (v := (0 : Int)) rfl))
    (s_cons (s_for (i_seq (t_var n_z9_0)) (g_nm n_z9_3) oL_z9_1)
    (s_ret (t_val (v := true) rfl)))))) (fun b h => by cases h)
abbrev E_z1 : Type := Option (Tu Int) × Option Int × Option Int × Option (List Str) × Option Int × Unit
abbrev n_z1_0 : Lens E_z1 (Option (Tu Int)) 0 := Lens.hd
abbrev n_z1_1 : Lens E_z1 (Option Int) 1 := (Lens.tl Lens.hd)
abbrev n_z1_2 : Lens E_z1 (Option Int) 2 := (Lens.tl (Lens.tl Lens.hd))
abbrev n_z1_3 : Lens E_z1 (Option (List Str)) 3 := (Lens.tl (Lens.tl (Lens.tl Lens.hd)))
abbrev n_z1_4 : Lens E_z1 (Option Int) 4 := (Lens.tl (Lens.tl (Lens.tl (Lens.tl Lens.hd))))
abbrev k_z1_1 : E_z1 → E_z1 := (kpT (kpF none (kpF none (kpF none (kpF none kpU)))))
noncomputable def tQ_z1_1 : E_z1 → Option (List Str) :=
    (tC (iL (tSlT (tV n_z1_0) vNone (vSome (tV n_z1_1)))) (wCons n_z1_4 wNil) (pNm n_z1_4) tYes (tCall T_z8 (pCons (tV n_z1_4) pNil)))
theorem oQ_z1_1 : EN tQ_z1_1 Q_z1_1 := by unfold tQ_z1_1 Q_z1_1; exact (t_lc ((i_seq (t_slT ((t_var n_z1_0)).v v_none (v_some ((t_var n_z1_1)).v)))).v (w_cons n_z1_4 w_nil) (g_nm n_z1_4) p_yes (t_call tok_z8 (p_cons (t_var n_z1_4) p_nil)))
noncomputable def tL_z1_1 : E_z1 → Option (Fw Bool E_z1) :=
    (tSeq (tSet n_z1_3 tQ_z1_1)
    (tIfS (tOr (tB eqT (tCall T_z8 (pCons (tV n_z1_2) pNil)) (tK ("" : Str))) (tOr (tB inT (tCall T_z8 (pCons (tV n_z1_2) pNil)) (tV n_z1_3)) (tAnd (tB gtI (tV n_z1_1) (tK (0 : Int))) (tB geI (tB tIx (tV n_z1_0) (tB subI (tV n_z1_1) (tK (1 : Int)))) (tV n_z1_2)))))
    (tRet (tK false))
    tNil))
theorem oL_z1_1 : SP (β := Bool) (rt .v) tL_z1_1 L_z1_1 := by unfold tL_z1_1 L_z1_1; exact (s_cons (s_set n_z1_3 (oQ_z1_1).p)
    (s_if (p_or (p_B ((t_bin (o_eq (by decide)) ((t_call tok_z8 (p_cons (t_var n_z1_2) p_nil))).v ((t_val (v := ("" : Str)) rfl)).v)).v) (p_or (p_B ((t_bin o_in ((t_call tok_z8 (p_cons (t_var n_z1_2) p_nil))).v ((t_var n_z1_3)).v)).v) (p_and (p_B ((t_bin o_gt ((t_var n_z1_1)).v ((t_val (v := (0 : Int)) rfl)).v)).v) (p_B ((t_bin o_ge ((t_bin o_ix ((t_var n_z1_0)).v ((t_bin o_sub ((t_var n_z1_1)).v ((t_val (v := (1 : Int)) rfl)).v)).v)).v ((t_var n_z1_2)).v)).v))))
    (s_ret (t_val (v := false) rfl))
    s_nil))
noncomputable def tB_z1 : E_z1 → Option (Fw Bool E_z1) :=
    (tSeq (tFor k_z1_1 (iEn (tV n_z1_0)) (pPr (pNm n_z1_1) (pNm n_z1_2)) tL_z1_1)
    (tRet (tK true)))
noncomputable def T_z1 : (Tu Int) × Unit → Option Bool := fnT (E := E_z1) (fun a => (some a.1, none, none, none, none, ())) none tB_z1
theorem tok_z1 : FnT F_z1 T_z1 := fn_T (fun a M => (rel_cons rel_val (rel_cons rel_none (rel_cons rel_none (rel_cons rel_none (rel_cons rel_none rel_nil)))))) (fun _ => rfl) (by unfold tB_z1 B_z1; exact (s_cons (s_for (i_en (t_var n_z1_0)) (g_pr (g_nm n_z1_1) (g_nm n_z1_2)) oL_z1_1)
    (s_ret (t_val (v := true) rfl)))) (fun b h => by cases h)
abbrev E_law : Type := Option Scr × Ob (DS Int Str) × Ob (DS Str Int) × Option (Tu Int) × Option (List Int) × Option Int × Option (List Int) × Option (Tu Int) × Option Int × Option Int × Unit
abbrev n_law_0 : Lens E_law (Option Scr) 0 := Lens.hd
abbrev n_law_1 : Lens E_law (Ob (DS Int Str)) 1 := (Lens.tl Lens.hd)
abbrev n_law_2 : Lens E_law (Ob (DS Str Int)) 2 := (Lens.tl (Lens.tl Lens.hd))
abbrev n_law_3 : Lens E_law (Option (Tu Int)) 3 := (Lens.tl (Lens.tl (Lens.tl Lens.hd)))
abbrev n_law_4 : Lens E_law (Option (List Int)) 4 := (Lens.tl (Lens.tl (Lens.tl (Lens.tl Lens.hd))))
abbrev n_law_5 : Lens E_law (Option Int) 5 := (Lens.tl (Lens.tl (Lens.tl (Lens.tl (Lens.tl Lens.hd)))))
abbrev n_law_6 : Lens E_law (Option (List Int)) 6 := (Lens.tl (Lens.tl (Lens.tl (Lens.tl (Lens.tl (Lens.tl Lens.hd))))))
abbrev n_law_7 : Lens E_law (Option (Tu Int)) 7 := (Lens.tl (Lens.tl (Lens.tl (Lens.tl (Lens.tl (Lens.tl (Lens.tl Lens.hd)))))))
abbrev n_law_8 : Lens E_law (Option Int) 8 := (Lens.tl (Lens.tl (Lens.tl (Lens.tl (Lens.tl (Lens.tl (Lens.tl (Lens.tl Lens.hd))))))))
abbrev k_law_1 : E_law → E_law := (kpF none (kpT (kpT (kpT (kpT (kpF none (kpF none (kpF none (kpF none (kpF none kpU))))))))))
abbrev k_law_2 : E_law → E_law := (kpF none (kpF ⟨none⟩ (kpF ⟨none⟩ (kpT (kpT (kpF none (kpT (kpF none (kpF none (kpF none kpU))))))))))
noncomputable def tQ_law_1 : E_law → Option (List Int) :=
    (tC (iL (tV n_law_0)) (wCons n_law_8 wNil) (pNm n_law_8) tYes (tCall T_z3 (pCons (tV n_law_8) pNil)))
theorem oQ_law_1 : EN tQ_law_1 Q_law_1 := by unfold tQ_law_1 Q_law_1; exact (t_lc ((i_seq (t_var n_law_0))).v (w_cons n_law_8 w_nil) (g_nm n_law_8) p_yes (t_call tok_z3 (p_cons (t_var n_law_8) p_nil)))
noncomputable def tL_law_1 : E_law → Option (Fw Bool E_law) :=
    (tSeq (tSet n_law_3 (tCall T_z12 (pCons (tV n_law_3) (pCons (tV n_law_5) pNil))))
    (tSeq (tIfS (tB neT (tCall T_z0 (pCons (tV n_law_5) pNil)) (tCall T_z8 (pCons (tV n_law_5) pNil)))
    (tRet (tK false))
    tNil)
    (tSeq (tIfS (tB eqT (tV n_law_5) (tK (0 : Int)))
    (tSetD0 n_law_2)
    (tIfS (tDIn false n_law_1 (tV n_law_5))
    (tDPut n_law_2 (tDGet n_law_1 (tV n_law_5)) (tK (0 : Int)))
    (tIfS (tB neT (tCall T_z8 (pCons (tV n_law_5) pNil)) (tK ("" : Str)))
    (tDPut n_law_2 (tCall T_z8 (pCons (tV n_law_5) pNil)) (tV n_law_5))
    tNil)))
    (tIfS (tOr (tB neT (tV n_law_3) (t1 tupT (t1 srtT (tDPos n_law_2)))) (tNot (tTr (tCall T_z9 (pCons (tV n_law_3) pNil)))))
    (tRet (tK false))
    tNil))))
theorem oL_law_1 : SP (β := Bool) (rt .v) tL_law_1 L_law_1 := by unfold tL_law_1 L_law_1; exact (s_cons (s_set n_law_3 (t_call tok_z12 (p_cons (t_var n_law_3) (p_cons (t_var n_law_5) p_nil))))
    (s_cons (s_if (p_B ((t_bin (o_ne (by decide)) ((t_call tok_z0 (p_cons (t_var n_law_5) p_nil))).v ((t_call tok_z8 (p_cons (t_var n_law_5) p_nil))).v)).v)
    (s_ret (t_val (v := false) rfl))
    s_nil)
    (s_cons (s_if (p_B ((t_bin (o_eq (by decide)) ((t_var n_law_5)).v ((t_val (v := (0 : Int)) rfl)).v)).v)
    (s_setD0 n_law_2)
    (s_if (p_B ((t_din n_law_1 ((t_var n_law_5)).v)).v)
    (s_dput n_law_2 ((t_dget n_law_1 ((t_var n_law_5)).v)).v (t_val (v := (0 : Int)) rfl))
    (s_if (p_B ((t_bin (o_ne (by decide)) ((t_call tok_z8 (p_cons (t_var n_law_5) p_nil))).v ((t_val (v := ("" : Str)) rfl)).v)).v)
    (s_dput n_law_2 ((t_call tok_z8 (p_cons (t_var n_law_5) p_nil))).v (t_var n_law_5))
    s_nil)))
    (s_if (p_or (p_B ((t_bin (o_ne (by decide)) ((t_var n_law_3)).v ((t_cb1 o_tup ((t_cb1N o_srt ((t_dpos n_law_2)).v)).v)).v)).v) (p_not (p_Tr ((t_call tok_z9 (p_cons (t_var n_law_3) p_nil))).v)))
    (s_ret (t_val (v := false) rfl))
    s_nil))))
noncomputable def tL_law_2 : E_law → Option (Fw Bool E_law) :=
    (tSet n_law_6 (tB catL (tB catL (tV n_law_6) (tLst (lCons (tK (59 : Int)) lNil))) (tCall T_z4 (pCons (tV n_law_5) pNil))))
theorem oL_law_2 : SP (β := Bool) (rt .v) tL_law_2 L_law_2 := by unfold tL_law_2 L_law_2; exact (s_set n_law_6 ((t_binN o_catL ((t_binN o_catL ((t_var n_law_6)).v ((t_lst (l_cons (t_val (v := (59 : Int)) rfl) l_nil))).v)).v ((t_callN tok_z4 (p_cons (t_var n_law_5) p_nil))).v)).p)
noncomputable def tR_law__9 : E_law → Option (Fw Bool E_law) :=
    (tRet (tAnd (tB eqT (tCall T_z9 (pCons (tV n_law_7) pNil)) (tCall T_z1 (pCons (tV n_law_7) pNil))) (tB eqT (tCall T_z11_v1 (pCons (tV n_law_3) (pCons (tTup (lNil (α := Int))) pNil))) (tV n_law_3))))
noncomputable def tR_law__8 : E_law → Option (Fw Bool E_law) :=
    (tSeq (tSet n_law_7 (t1 tupT (tSl (tV n_law_4) vNone (vSome (tK (4 : Int))))))
    tR_law__9)
noncomputable def tR_law__7 : E_law → Option (Fw Bool E_law) :=
    (tSeq (tIfS (tOr (tB neT (tCall T_z11 (pCons (tTup (lNil (α := Int))) (pCons (tV n_law_4) pNil))) (tV n_law_3)) (tB neT (tCall T_z5 (pCons (tV n_law_3) pNil)) (tV n_law_6)))
    (tRet (tK false))
    tNil)
    tR_law__8)
noncomputable def tR_law__6 : E_law → Option (Fw Bool E_law) :=
    (tSeq (tFor k_law_2 (iL (tV n_law_3)) (pNm n_law_5) tL_law_2)
    tR_law__7)
noncomputable def tR_law__5 : E_law → Option (Fw Bool E_law) :=
    (tSeq (tSet n_law_6 (tLst (lCons (tK (48 : Int)) lNil)))
    tR_law__6)
noncomputable def tR_law__4 : E_law → Option (Fw Bool E_law) :=
    (tSeq (tFor k_law_1 (iL (tV n_law_4)) (pNm n_law_5) tL_law_1)
    tR_law__5)
noncomputable def tR_law__3 : E_law → Option (Fw Bool E_law) :=
    (tSeq (tSet n_law_4 tQ_law_1)
    tR_law__4)
noncomputable def tR_law__2 : E_law → Option (Fw Bool E_law) :=
    (tSeq (tSet n_law_3 (tTup (lNil (α := Int))))
    tR_law__3)
noncomputable def tR_law__1 : E_law → Option (Fw Bool E_law) :=
    (tSeq (tSetD0 n_law_2)
    tR_law__2)
noncomputable def tB_law : E_law → Option (Fw Bool E_law) :=
    (tSeq (tSetD n_law_1 (dCons (tK (22 : Int)) (tK ("bold" : Str)) (dCons (tK (24 : Int)) (tK ("underlined" : Str)) (dCons (tK (27 : Int)) (tK ("inverse" : Str)) (dCons (tK (39 : Int)) (tK ("foreground" : Str)) (dCons (tK (49 : Int)) (tK ("background" : Str)) dNil))))))
    tR_law__1)
noncomputable def T_law : Scr × Unit → Option Bool := fnT (E := E_law) (fun a => (some a.1, ⟨none⟩, ⟨none⟩, none, none, none, none, none, none, none, ())) none tB_law
theorem tok_law : FnT F_law T_law := fn_T (fun a M => (rel_cons rel_val (rel_cons rel_obn (rel_cons rel_obn (rel_cons rel_none (rel_cons rel_none (rel_cons rel_none (rel_cons rel_none (rel_cons rel_none (rel_cons rel_none (rel_cons rel_none rel_nil))))))))))) (fun _ => rfl) (by unfold tB_law tR_law__1 tR_law__2 tR_law__3 tR_law__4 tR_law__5 tR_law__6 tR_law__7 tR_law__8 tR_law__9 B_law; exact (s_cons (s_setD n_law_1 (dp_cons (t_val (v := (22 : Int)) rfl) (t_val (v := ("bold" : Str)) rfl) (dp_cons (t_val (v := (24 : Int)) rfl) (t_val (v := ("underlined" : Str)) rfl) (dp_cons (t_val (v := (27 : Int)) rfl) (t_val (v := ("inverse" : Str)) rfl) (dp_cons (t_val (v := (39 : Int)) rfl) (t_val (v := ("foreground" : Str)) rfl) (dp_cons (t_val (v := (49 : Int)) rfl) (t_val (v := ("background" : Str)) rfl) dp_nil))))))
    (s_cons (s_setD0 n_law_2)
    (s_cons (s_set n_law_3 (t_tup (l_nil (α := Int))))
    (s_cons (s_set n_law_4 (oQ_law_1).p)
    (s_cons (s_for (i_seq (t_var n_law_4)) (g_nm n_law_5) oL_law_1)
    (s_cons (s_set n_law_6 ((t_lst (l_cons (t_val (v := (48 : Int)) rfl) l_nil))).p)
    (s_cons (s_for (i_seq (t_var n_law_3)) (g_nm n_law_5) oL_law_2)
    (s_cons (s_if (p_or (p_B ((t_bin (o_ne (by decide)) ((t_call tok_z11 (p_cons (t_tup (l_nil (α := Int))) (p_cons (t_var n_law_4) p_nil)))).v ((t_var n_law_3)).v)).v) (p_B ((t_bin (o_ne (by decide)) ((t_call tok_z5 (p_cons (t_var n_law_3) p_nil))).v ((t_var n_law_6)).v)).v))
    (s_ret (t_val (v := false) rfl))
    s_nil)
    (s_cons (s_set n_law_7 (t_cb1 o_tup ((t_sl ((t_var n_law_4)).v v_none (v_some ((t_val (v := (4 : Int)) rfl)).v))).v))
    (s_ret (t_and ((t_bin (o_eq (by decide)) ((t_call tok_z9 (p_cons (t_var n_law_7) p_nil))).v ((t_call tok_z1 (p_cons (t_var n_law_7) p_nil))).v)).v ((t_bin (o_eq (by decide)) ((t_call tok_z11_v1 (p_cons (t_var n_law_3) (p_cons (t_tup (l_nil (α := Int))) p_nil)))).v ((t_var n_law_3)).v)).v)))))))))))) (fun b h => by cases h)
end K00
namespace K00
open PySem PySem.Spec PyProof.Rows L2 CI TL
/-! draws: so many numbers from 0 to 999 -/
def Dr (n : Nat) (ds : List Int) : Prop := ds.length = n ∧ ∀ d ∈ ds, 0 ≤ d ∧ d < 1000
theorem sm_c {j : Int} (h : sm64 j = true) (i : Int) : bMul i j = true := by unfold bMul; rw [h]; simp
theorem draws_ok (c many : Int) (h0 : 0 ≤ many) (h : many ≤ 100000) : ∃ ds, T_z6 (c, many, ()) = some ds ∧ Dr many.toNat ds := by
  have m1 : ∀ i : Int, bMul i 48271 = true := sm_c (by decide)
  have m2 : ∀ i : Int, bMul i 69621 = true := sm_c (by decide)
  have d1 : bDiv 0 1000 = true := by decide
  have d2 : ∀ i : Int, bDiv i 1000 = true := fun i => d1
  have o1 : ∀ i : Int, bMod i 1000 = true := fun i => rfl
  have o2 : ∀ i : Int, bMod i 2147483647 = true := fun i => rfl
  have o3 : ∀ i : Int, bMod i 2147483629 = true := fun i => rfl
  have p1 : bPow 10 18 = true := by decide
  have r1 : rgB many = true := by unfold rgB; simp; omega
  have g1 : (rgT 0 many.toNat).length = many.toNat := by unfold rgT; simp
  have rng : ∀ (rows : List Int) (x : Int), (∀ d ∈ rows, 0 ≤ d ∧ d < 1000) → ∀ d ∈ rows ++ [x % 1000], 0 ≤ d ∧ d < 1000 := fun rows x hr d hd => by
    rcases List.mem_append.mp hd with q | q
    · exact hr d q
    · rw [List.mem_singleton.mp q]; omega
  have loop1 : ∀ rest : Int, ∃ rows rest', forT k_z6_1 (pNm n_z6_5) tL_z6_1 (rgT 0 many.toNat) (some c, some many, ⟨some ⟨[]⟩⟩, some rest, none, none, ()) =
      some (.nx (some c, some many, ⟨some ⟨rows⟩⟩, some rest', none, none, ())) ∧ rows.length ≤ many.toNat ∧ ∀ d ∈ rows, 0 ≤ d ∧ d < 1000 := fun rest => by
    obtain ⟨e', h1, rows, rest', rfl, h2, h3⟩ := forT_inv (kp := k_z6_1) (asg := pNm n_z6_5) (body := tL_z6_1)
      (fun xs e => ∃ rows rest, e = (some c, some many, ⟨some ⟨rows⟩⟩, some rest, none, none, ()) ∧ rows.length + xs.length ≤ many.toNat ∧ ∀ d ∈ rows, 0 ≤ d ∧ d < 1000)
      (fun x xs e ⟨rows, rest, he, hl, hr⟩ => by
        subst he
        simp only [List.length_cons] at hl
        have hz : rows.length < 16777216 := by omega
        refine ⟨_, rfl, ?_⟩
        by_cases q : 0 < rest
        · refine ⟨_, .inl (by simp [tL_z6_1, q, hz, o1, d2]; rfl), rows ++ [rest % 1000], rest / 1000, rfl, by simp; omega, rng rows rest hr⟩
        · refine ⟨_, .inl (by simp [tL_z6_1, q]; rfl), rows, rest, rfl, by omega, hr⟩)
      (rgT 0 many.toNat) _ ⟨[], rest, rfl, by rw [g1]; simp, fun d hd => nomatch hd⟩
    exact ⟨rows, rest', h1, by simpa using h2, h3⟩
  have loop2 : ∀ (rows : List Int) (st : Int), rows.length ≤ many.toNat → (∀ d ∈ rows, 0 ≤ d ∧ d < 1000) → ∃ rows' st', forT k_z6_2 (pNm n_z6_5) tL_z6_2 (rgT 0 many.toNat) (none, some many, ⟨some ⟨rows⟩⟩, none, some st, none, ()) =
      some (.nx (none, some many, ⟨some ⟨rows'⟩⟩, none, some st', none, ())) ∧ Dr many.toNat rows' := fun rows st hl0 hr0 => by
    obtain ⟨e', h1, rows', st', rfl, h2, h3, h4⟩ := forT_inv (kp := k_z6_2) (asg := pNm n_z6_5) (body := tL_z6_2)
      (fun xs e => ∃ rows st, e = (none, some many, ⟨some ⟨rows⟩⟩, none, some st, none, ()) ∧ rows.length ≤ many.toNat ∧ many.toNat ≤ rows.length + xs.length ∧ ∀ d ∈ rows, 0 ≤ d ∧ d < 1000)
      (fun x xs e ⟨rows, st, he, hl, hm, hr⟩ => by
        subst he
        simp only [List.length_cons] at hm
        have hz : rows.length < 16777216 := by omega
        refine ⟨_, rfl, ?_⟩
        by_cases q : (rows.length : Int) < many
        · exact ⟨_, .inl (by simp [tL_z6_2, q, hz, o1, o2, o3, m1, m2]; rfl), rows ++ [_], _, rfl, by simp; omega, by simp; omega, rng rows _ hr⟩
        · exact ⟨_, .inl (by simp [tL_z6_2, q, o2, m1, m2]; rfl), rows, _, rfl, by omega, by omega, hr⟩)
      (rgT 0 many.toNat) _ ⟨rows, st, rfl, hl0, by rw [g1]; omega, hr0⟩
    exact ⟨rows', st', h1, by simp at h3; omega, h4⟩
  by_cases q : (10 : Int) ^ 18 ≤ c
  · obtain ⟨rows, rest', k1, k2, k3⟩ := loop1 c
    obtain ⟨rows', st', k4, k5⟩ := loop2 rows ((c * 48271 + 11) % 2147483647) k2 k3
    refine ⟨rows', ?_, k5⟩
    simp only [T_z6, tB_z6, fnT]
    have q2 : (1000000000000000000 : Int) ≤ c := by simpa using q
    simp [p1, q2, r1, k1, m1, o2, k4]
  · obtain ⟨rows', st', k4, k5⟩ := loop2 [] ((c * 48271 + 11) % 2147483647) (by simp) (fun d hd => nomatch hd)
    refine ⟨rows', ?_, k5⟩
    simp only [T_z6, tB_z6, fnT]
    have q2 : ¬ (1000000000000000000 : Int) ≤ c := by simpa using q
    simp [p1, q2, r1, m1, o2, k4]

theorem at_n {α : Type} (l : List α) (n : Nat) (h : n < l.length) : L2.atI l (n : Int) = some l[n] := by
  rw [at_nat (by omega)]
  simp [h]
theorem sl_hi {α : Type} (l : List α) (n : Int) (h : 0 ≤ n) : cutL l none (some n) = l.take n.toNat := cutL_hi h
theorem at_mem {α : Type} (l : List α) (i : Int) (h0 : 0 ≤ i) (h : i < l.length) : ∃ c, L2.atI l i = some c ∧ c ∈ l := by
  refine ⟨l[i.toNat]'(by omega), ?_, List.getElem_mem _⟩
  unfold L2.atI L2.ixN
  rw [if_pos h0, if_pos h, Option.bind_some]
  exact List.getElem?_eq_getElem _
theorem pmod_b (a k : Int) (h : 0 < k) : 0 ≤ a % k ∧ a % k < k := ⟨Int.emod_nonneg _ (by omega), Int.emod_lt_of_pos _ h⟩
def Asc (S : List Int) : Prop := S.Pairwise (· < ·)
theorem asc_filter {S : List Int} (h : Asc S) (p : Int → Bool) : Asc (S.filter p) := List.Pairwise.filter p h
theorem asc_of {S : List Int} (h : S.Pairwise (· ≤ ·)) (hn : S.Nodup) : Asc S := by
  have : S.Pairwise (fun a b => a ≤ b ∧ a ≠ b) := List.pairwise_and_iff.mpr ⟨h, hn⟩
  exact this.imp fun ⟨a, b⟩ => by omega
theorem asc_nd {S : List Int} (h : Asc S) : S.Nodup := h.imp fun h => by omega
theorem asc_len : ∀ (S : List Int) (a b : Int), Asc S → (∀ s ∈ S, a ≤ s ∧ s < b) → S.length ≤ (b - a).toNat
  | [], _, _, _, _ => Nat.zero_le _
  | x :: S, a, b, h, hb => by
    have h1 := List.pairwise_cons.mp h
    have h2 := hb x List.mem_cons_self
    have := asc_len S (x + 1) b h1.2 fun s hs => ⟨by have := h1.1 s hs; omega, (hb s (List.mem_cons_of_mem _ hs)).2⟩
    simp only [List.length_cons]
    omega
def knd (n : Int) : Str := if n = 1 then "bold" else if n = 4 then "underlined" else if n = 7 then "inverse" else if 30 ≤ n ∧ n ≤ 37 then "foreground" else if 40 ≤ n ∧ n ≤ 47 then "background" else ""
theorem knd_eq (n : Int) : T_z0 (n, ()) = some (knd n) := by
  unfold T_z0 fnT tB_z0 knd
  by_cases h1 : n = 1
  · simp -implicitDefEqProofs [h1]
  by_cases h4 : n = 4
  · simp -implicitDefEqProofs [h4]
  by_cases h7 : n = 7
  · simp -implicitDefEqProofs [h7]
  by_cases a : 30 ≤ n
  · by_cases b : n ≤ 37
    · simp -implicitDefEqProofs [h1, h4, h7, a, b]
    · by_cases c : 40 ≤ n
      · by_cases d : n ≤ 47 <;> simp -implicitDefEqProofs [h1, h4, h7, a, b, c, d]
      · simp -implicitDefEqProofs [h1, h4, h7, a, b, c]
  · have c : ¬ 40 ≤ n := by omega
    simp -implicitDefEqProofs [h1, h4, h7, a, c]
theorem knd_ok (n : Int) : EncEq.okE (knd n) = true := by
  unfold knd
  repeat' split
  all_goals exact okE_lit _
theorem knd_b {n : Int} (h : knd n ≠ "") : 1 ≤ n ∧ n < 48 := by
  unfold knd at h
  repeat' split at h
  all_goals first | omega | exact absurd rfl h
theorem wo_eq (l : List Int) (k : Str) (hk : EncEq.okE k = true) (hl : l.length ≤ 1000) : T_z2 (⟨l⟩, k, ()) = some (l.filter fun n => decide (knd n ≠ k)) := by
  have l1 : l.length ≤ 16777216 := by omega
  have key : ∀ e : E_z2, e.2.1 = some k → filtM (tElt (pNm n_z2_2) (tB neT (tCall T_z0 (pCons (tV n_z2_2) pNil)) (tV n_z2_1)) (tV n_z2_2) e) l = some (l.filter fun n => decide (knd n ≠ k)) := fun e he => by
    refine (filtM_filter (p := fun n => decide (knd n ≠ k)) (h := id) fun x _ => ?_).trans (by rw [List.map_id])
    have k1 := knd_eq x
    have k2 := knd_ok x
    by_cases q : knd x = k
    · rw [q] at k1
      simp -implicitDefEqProofs [he, k1, q, hk]
    · simp -implicitDefEqProofs [he, k1, k2, q, hk]
  unfold T_z2 fnT tB_z2 tQ_z2_1
  simp -implicitDefEqProofs [l1, key, -tElt]
structure StS (st : Tu Int) : Prop where
  asc : Asc st.l
  nk : ∀ n ∈ st.l, knd n ≠ ""
  pw : st.l.Pairwise fun a b => knd a ≠ knd b
theorem StS.len {st : Tu Int} (h : StS st) : st.l.length ≤ 47 := asc_len _ 1 48 h.asc fun s hs => knd_b (h.nk s hs)
theorem StS.nil : StS ⟨[]⟩ := ⟨List.Pairwise.nil, (fun n hn => by simp at hn), List.Pairwise.nil⟩
theorem StS.filter {st : Tu Int} (h : StS st) (p : Int → Bool) : StS ⟨st.l.filter p⟩ := ⟨asc_filter h.asc p, fun n hn => h.nk n (List.mem_filter.mp hn).1, List.Pairwise.filter p h.pw⟩
theorem StS.add {st : Tu Int} (h : StS st) (n : Int) (hn : knd n ≠ "") : StS ⟨isort ((st.l.filter fun x => decide (knd x ≠ knd n)) ++ [n])⟩ := by
  have f := h.filter fun x => decide (knd x ≠ knd n)
  have hm : ∀ x ∈ st.l.filter fun x => decide (knd x ≠ knd n), knd x ≠ knd n := fun x hx => of_decide_eq_true (List.mem_filter.mp hx).2
  have f2 : Asc (st.l.filter fun x => decide (knd x ≠ knd n)) := f.asc
  have f3 : (st.l.filter fun x => decide (knd x ≠ knd n)).Pairwise fun a b => knd a ≠ knd b := f.pw
  have f4 : ∀ x ∈ st.l.filter fun x => decide (knd x ≠ knd n), knd x ≠ "" := f.nk
  generalize st.l.filter (fun x => decide (knd x ≠ knd n)) = F at *
  have pr := isort_perm (F ++ [n])
  have nd : (F ++ [n]).Nodup := by
    rw [List.nodup_append]
    refine ⟨asc_nd f2, by simp, fun x hx y hy => ?_⟩
    simp at hy
    intro z
    rw [z, hy] at hx
    exact hm n hx rfl
  refine ⟨asc_of (isort_pw _) (pr.nodup_iff.mpr nd), fun x hx => ?_, ?_⟩
  · rcases List.mem_append.mp (pr.mem_iff.mp hx) with z | z
    · exact f4 x z
    · simp at z; rw [z]; exact hn
  · refine (List.Perm.pairwise_iff (fun {a b} (h : knd a ≠ knd b) => h.symm) pr).mpr ?_
    refine List.pairwise_append.mpr ⟨f3, by simp, fun x hx y hy => ?_⟩
    simp at hy
    rw [hy]
    exact hm x hx
theorem ist_loop : ∀ (xs : List Int) (ks : List Str) (bf : Int), (∀ x ∈ xs, knd x ≠ "" ∧ bf < x ∧ knd x ∉ ks) → Asc xs → xs.Pairwise (fun a b => knd a ≠ knd b) → ks.length + xs.length ≤ 1000 →
    ∃ ks' bf', forT k_z9_1 (pNm n_z9_3) tL_z9_1 xs ((none, ⟨some ⟨ks⟩⟩, some bf, none, none, ()) : E_z9) = some (.nx (none, ⟨some ⟨ks'⟩⟩, some bf', none, none, ()))
  | [], ks, bf, _, _, _, _ => ⟨ks, bf, rfl⟩
  | x :: xs, ks, bf, h, ha, hp, hl => by
    obtain ⟨h1, h2, h3⟩ := h x List.mem_cons_self
    have ha' := List.pairwise_cons.mp ha
    have hp' := List.pairwise_cons.mp hp
    simp only [List.length_cons] at hl
    obtain ⟨ks', bf', e⟩ := ist_loop xs (ks ++ [knd x]) x (fun y hy => ⟨(h y (List.mem_cons_of_mem _ hy)).1, ha'.1 y hy, fun z => by
      rcases List.mem_append.mp z with z | z
      · exact (h y (List.mem_cons_of_mem _ hy)).2.2 z
      · simp at z; exact hp'.1 y hy z.symm⟩) ha'.2 hp'.2 (by rw [List.length_append]; simp; omega)
    refine ⟨ks', bf', ?_⟩
    have k1 := knd_eq x
    have k2 := knd_ok x
    have b1 : ks.length < 16777216 := by omega
    have n1 : ¬ x ≤ bf := by omega
    have st : tL_z9_1 ((none, ⟨some ⟨ks⟩⟩, some bf, some x, none, ()) : E_z9) = some (.nx (none, ⟨some ⟨ks ++ [knd x]⟩⟩, some x, some x, some (knd x), ())) := by
      unfold tL_z9_1
      simp -implicitDefEqProofs [k1, k2, h1, h3, n1, b1, okE_lit]
    unfold forT
    rw [show pNm n_z9_3 x ((none, ⟨some ⟨ks⟩⟩, some bf, none, none, ()) : E_z9) = some (none, ⟨some ⟨ks⟩⟩, some bf, some x, none, ()) from rfl]
    simp only [Option.bind_some]
    rw [st]
    simp only [Option.bind_some, forT1]
    exact e
theorem is_style_ok {st : Tu Int} (h : StS st) : T_z9 (st, ()) = some true := by
  obtain ⟨ks, bf, e⟩ := ist_loop st.l [] 0 (fun x hx => ⟨h.nk x hx, by have := knd_b (h.nk x hx); omega, by simp⟩) h.asc h.pw (by have := h.len; simp; omega)
  unfold T_z9 fnT tB_z9
  simp -implicitDefEqProofs [e]

/-! what a style becomes, exactly -/
def rmk (n : Int) : Str := if n = 22 then "bold" else if n = 24 then "underlined" else if n = 27 then "inverse" else if n = 39 then "foreground" else if n = 49 then "background" else ""
def sty (l : List Int) (n : Int) : List Int := if n = 0 then [] else if knd n ≠ "" then isort ((l.filter fun x => decide (knd x ≠ knd n)) ++ [n]) else if rmk n ≠ "" then l.filter (fun x => decide (knd x ≠ rmk n)) else l
theorem styled_eq {l : List Int} (h : StS ⟨l⟩) (n : Int) : T_z12 (⟨l⟩, n, ()) = some ⟨sty l n⟩ ∧ StS ⟨sty l n⟩ := by
  have hl : l.length ≤ 47 := h.len
  have k1 := knd_eq n
  have k2 := knd_ok n
  unfold sty
  by_cases z : n = 0
  · rw [if_pos z]
    exact ⟨by unfold T_z12 fnT tB_z12; simp -implicitDefEqProofs [z], .nil⟩
  rw [if_neg z]
  by_cases q : knd n = ""
  · rw [if_neg (fun h => h q)]
    rw [q] at k1
    have w := fun k : Str => fun hk => wo_eq l k hk (by omega)
    by_cases r : n = 22 ∨ n = 24 ∨ n = 27 ∨ n = 39 ∨ n = 49
    · have g := fun k : Str => fun hk : EncEq.okE k = true => h.filter fun x => decide (knd x ≠ k)
      rcases r with rfl | rfl | rfl | rfl | rfl
      · exact ⟨by unfold T_z12 fnT tB_z12; simp -implicitDefEqProofs +decide [k1, lkT, w "bold" (okE_lit _), okE_lit, rmk], g "bold" (okE_lit _)⟩
      · exact ⟨by unfold T_z12 fnT tB_z12; simp -implicitDefEqProofs +decide [k1, lkT, w "underlined" (okE_lit _), okE_lit, rmk], g "underlined" (okE_lit _)⟩
      · exact ⟨by unfold T_z12 fnT tB_z12; simp -implicitDefEqProofs +decide [k1, lkT, w "inverse" (okE_lit _), okE_lit, rmk], g "inverse" (okE_lit _)⟩
      · exact ⟨by unfold T_z12 fnT tB_z12; simp -implicitDefEqProofs +decide [k1, lkT, w "foreground" (okE_lit _), okE_lit, rmk], g "foreground" (okE_lit _)⟩
      · exact ⟨by unfold T_z12 fnT tB_z12; simp -implicitDefEqProofs +decide [k1, lkT, w "background" (okE_lit _), okE_lit, rmk], g "background" (okE_lit _)⟩
    · have e : rmk n = "" := by
        unfold rmk
        rw [if_neg (by omega), if_neg (by omega), if_neg (by omega), if_neg (by omega), if_neg (by omega)]
      rw [if_neg (fun h => h e)]
      have r1 : ¬ (22 : Int) = n := fun y => r (by omega)
      have r2 : ¬ (24 : Int) = n := fun y => r (by omega)
      have r3 : ¬ (27 : Int) = n := fun y => r (by omega)
      have r4 : ¬ (39 : Int) = n := fun y => r (by omega)
      have r5 : ¬ (49 : Int) = n := fun y => r (by omega)
      exact ⟨by unfold T_z12 fnT tB_z12; simp -implicitDefEqProofs [k1, z, lkT, okE_lit, r1, r2, r3, r4, r5], h⟩
  · rw [if_pos q]
    have w := wo_eq l (knd n) k2 (by omega)
    have fl : (l.filter fun x => decide (knd x ≠ knd n)).length ≤ 47 := Nat.le_trans (List.length_filter_le _ _) hl
    refine ⟨?_, h.add n q⟩
    unfold T_z12 fnT tB_z12
    generalize knd n = k at *
    generalize l.filter (fun x => decide (knd x ≠ k)) = F at *
    have b1 : F.length ≤ 16777215 := by omega
    simp -implicitDefEqProofs [z, k1, k2, q, okE_lit, w, b1]
theorem turn_loop : ∀ (xs : List Int) (l : List Int), StS ⟨l⟩ → forT k_z11_1 (pNm n_z11_2) tL_z11_1 xs ((some ⟨l⟩, none, none, ()) : E_z11) = some (.nx (some ⟨xs.foldl sty l⟩, none, none, ()))
  | [], l, h => rfl
  | x :: xs, l, h => by
    obtain ⟨e1, h1⟩ := styled_eq h x
    unfold forT
    have e3 : tL_z11_1 ((some ⟨l⟩, none, some x, ()) : E_z11) = some (.nx (some ⟨sty l x⟩, none, some x, ())) := by
      unfold tL_z11_1
      simp -implicitDefEqProofs [e1]
    rw [show pNm n_z11_2 x ((some ⟨l⟩, none, none, ()) : E_z11) = some (some ⟨l⟩, none, some x, ()) from rfl]
    simp only [Option.bind_some]
    rw [e3]
    simp only [Option.bind_some, forT1]
    exact turn_loop xs _ h1
theorem turned_eq (ns : List Int) (hl : ns.length ≤ 1000) : T_z11 (⟨[]⟩, ns, ()) = some ⟨ns.foldl sty []⟩ := by
  have e := turn_loop ns [] .nil
  unfold T_z11 fnT tB_z11
  simp -implicitDefEqProofs [e]
theorem turned_nil (l : List Int) : T_z11_v1 (⟨l⟩, ⟨[]⟩, ()) = some ⟨l⟩ := by
  unfold T_z11_v1 fnT tB_z11_v1
  simp -implicitDefEqProofs [forT]
/-! enumerations -/
theorem enT_mem {α : Type} (d : α) {l : List α} {p : Int × α} (h : p ∈ enT l) : ∃ k : Nat, k < l.length ∧ p = ((k : Int), l.getD k d) := by
  unfold enT at h
  obtain ⟨q, hq, rfl⟩ := List.mem_map.mp h
  have hm := List.mem_zipIdx hq
  refine ⟨q.2, by omega, ?_⟩
  have e : l.getD q.2 d = q.1 := by
    rw [List.getD_eq_getElem?_getD, List.getElem?_eq_getElem (by omega)]
    exact hm.2.2.symm
  rw [e]
theorem lknd_eq (n : Int) : T_z8 (n, ()) = some (knd n) := by
  unfold T_z8 fnT tB_z8 knd
  by_cases h1 : n = 1
  · subst h1; rfl
  by_cases h4 : n = 4
  · subst h4; rfl
  by_cases h7 : n = 7
  · subst h7; rfl
  by_cases a : 30 ≤ n
  · by_cases b : n < 38
    · have b' : n ≤ 37 := by omega
      simp -implicitDefEqProofs [h1, h4, h7, a, b, b']
    · have b' : ¬ n ≤ 37 := by omega
      by_cases c : 40 ≤ n
      · by_cases d : n < 48
        · have d' : n ≤ 47 := by omega
          simp -implicitDefEqProofs [h1, h4, h7, a, b, b', c, d, d']
        · have d' : ¬ n ≤ 47 := by omega
          simp -implicitDefEqProofs [h1, h4, h7, a, b, b', c, d, d']
      · simp -implicitDefEqProofs [h1, h4, h7, a, b, b', c]
  · have c : ¬ 40 ≤ n := by omega
    simp -implicitDefEqProofs [h1, h4, h7, a, c]
theorem lnum_ok (c : Int) : ∃ m, T_z3 (c, ()) = some m ∧ 0 ≤ m ∧ m < 60 := by
  obtain ⟨ds, q1, q2, q3⟩ := draws_ok c 2 (by decide) (by decide)
  have q2 : ds.length = 2 := q2
  obtain ⟨d0, d1, rfl⟩ : ∃ d0 d1, ds = [d0, d1] := by
    match ds, q2 with
    | [a, b], _ => exact ⟨a, b, rfl⟩
  have i0 : L2.atI [d0, d1] (0 : Int) = some d0 := rfl
  have i1 : L2.atI [d0, d1] (1 : Int) = some d1 := rfl
  have p10 := pmod_b d1 10 (by decide)
  have p60 := pmod_b d1 60 (by decide)
  by_cases z : d0 % 3 = 0
  · have key : ∀ m : Int, 0 ≤ m → m < 10 → ∃ v, L2.atI [(0 : Int), 1, 4, 7, 22, 24, 27, 39, 49, 2] m = some v ∧ 0 ≤ v ∧ v < 60 := fun m h1 h2 => by
      rcases (by omega : m = 0 ∨ m = 1 ∨ m = 2 ∨ m = 3 ∨ m = 4 ∨ m = 5 ∨ m = 6 ∨ m = 7 ∨ m = 8 ∨ m = 9) with r | r | r | r | r | r | r | r | r | r <;> subst r <;> exact ⟨_, rfl, by decide, by decide⟩
    obtain ⟨v, hv, h1, h2⟩ := key _ p10.1 p10.2
    refine ⟨v, ?_, h1, h2⟩
    unfold T_z3 fnT tB_z3
    simp -implicitDefEqProofs [q1, i0, i1, z, hv]
  · refine ⟨d1 % 60, ?_, p60.1, p60.2⟩
    unfold T_z3 fnT tB_z3
    simp -implicitDefEqProofs [q1, i0, i1, z]
/-! is_style of any numbers -/
def isb : List Str → Int → List Int → Bool
  | _, _, [] => true
  | ks, bf, x :: xs => if knd x = "" ∨ knd x ∈ ks ∨ x ≤ bf then false else isb (ks ++ [knd x]) x xs
theorem isb_loop : ∀ (xs : List Int) (ks : List Str) (bf : Int), ks.length + xs.length ≤ 1000 →
    (isb ks bf xs = true → ∃ e, forT k_z9_1 (pNm n_z9_3) tL_z9_1 xs ((none, ⟨some ⟨ks⟩⟩, some bf, none, none, ()) : E_z9) = some (.nx e)) ∧
    (isb ks bf xs = false → forT k_z9_1 (pNm n_z9_3) tL_z9_1 xs ((none, ⟨some ⟨ks⟩⟩, some bf, none, none, ()) : E_z9) = some (.rt false))
  | [], ks, bf, _ => ⟨fun _ => ⟨_, rfl⟩, fun h => nomatch h⟩
  | x :: xs, ks, bf, hl => by
    simp only [List.length_cons] at hl
    have k1 := knd_eq x
    have k2 := knd_ok x
    have b1 : ks.length < 16777216 := by omega
    unfold isb forT
    rw [show pNm n_z9_3 x ((none, ⟨some ⟨ks⟩⟩, some bf, none, none, ()) : E_z9) = some (none, ⟨some ⟨ks⟩⟩, some bf, some x, none, ()) from rfl]
    simp only [Option.bind_some]
    by_cases c : knd x = "" ∨ knd x ∈ ks ∨ x ≤ bf
    · rw [if_pos c]
      have st : tL_z9_1 ((none, ⟨some ⟨ks⟩⟩, some bf, some x, none, ()) : E_z9) = some (.rt false) := by
        unfold tL_z9_1
        by_cases c1 : knd x = ""
        · rw [c1] at k1
          simp -implicitDefEqProofs [k1, okE_lit]
        · by_cases c2 : knd x ∈ ks
          · simp -implicitDefEqProofs [k1, k2, c1, c2, okE_lit]
          · have c3 : x ≤ bf := (c.resolve_left c1).resolve_left c2
            simp -implicitDefEqProofs [k1, k2, c1, c2, c3, okE_lit]
      rw [st]
      exact ⟨fun h => (nomatch h), fun _ => rfl⟩
    · rw [if_neg c]
      have c1 : ¬ knd x = "" := fun h => c (.inl h)
      have c2 : ¬ knd x ∈ ks := fun h => c (.inr (.inl h))
      have c3 : ¬ x ≤ bf := fun h => c (.inr (.inr h))
      have st : tL_z9_1 ((none, ⟨some ⟨ks⟩⟩, some bf, some x, none, ()) : E_z9) = some (.nx (none, ⟨some ⟨ks ++ [knd x]⟩⟩, some x, some x, some (knd x), ())) := by
        unfold tL_z9_1
        simp -implicitDefEqProofs [k1, k2, c1, c2, c3, b1, okE_lit]
      rw [st]
      simp only [Option.bind_some, forT1]
      exact isb_loop xs (ks ++ [knd x]) x (by rw [List.length_append, List.length_singleton]; omega)
theorem ist_eq (l : List Int) (hl : l.length ≤ 900) : T_z9 (⟨l⟩, ()) = some (isb [] 0 l) := by
  obtain ⟨h1, h2⟩ := isb_loop l [] 0 (by simp; omega)
  unfold T_z9 fnT tB_z9
  cases q : isb [] 0 l with
  | true =>
    obtain ⟨e, he⟩ := h1 q
    simp -implicitDefEqProofs [he]
  | false =>
    have he := h2 q
    simp -implicitDefEqProofs [he]
/-- the law's own reading -/
def bad (all : List Int) (p : Int × Int) : Bool := decide (knd p.2 = "") || decide (knd p.2 ∈ (all.take p.1.toNat).map knd) || (decide (0 < p.1) && match L2.atI all (p.1 - 1) with
  | some w => decide (p.2 ≤ w)
  | none => false)
def lsb (all : List Int) : List (Int × Int) → Bool
  | [] => true
  | p :: ps => if bad all p = true then false else lsb all ps
theorem bad_eq (l : List Int) (k : Nat) (x : Int) : bad l ((k : Int), x) = (decide (knd x = "") || decide (knd x ∈ (l.take k).map knd) || (decide ((0 : Int) < k) && match L2.atI l ((k : Int) - 1) with
  | some w => decide (x ≤ w)
  | none => false)) := rfl
theorem lq_eq (l : List Int) (k : Nat) (hl : l.length ≤ 1000) (hk : k ≤ l.length) (e : E_z1) (h0 : e.1 = some ⟨l⟩) (h1 : e.2.1 = some (k : Int)) : tQ_z1_1 e = some ((l.take k).map knd) := by
  have cut : cutL l none (some (k : Int)) = l.take k := by
    have := sl_hi l (k : Int) (by omega)
    rw [this]; simp
  have l1 : (l.take k).length ≤ 16777216 := by rw [List.length_take]; omega
  have key : ∀ e1 : E_z1, filtM (tElt (pNm n_z1_4) tYes (tCall T_z8 (pCons (tV n_z1_4) pNil)) e1) (l.take k) = some ((l.take k).map knd) := fun e1 =>
    filtM_map (h := knd) fun x _ => by simp -implicitDefEqProofs [lknd_eq x]
  unfold tQ_z1_1
  generalize l.take k = T at *
  simp -implicitDefEqProofs [-tElt, h0, h1, cut, l1, key]
theorem lsb_loop (l : List Int) (hl : l.length ≤ 900) : ∀ (ps : List (Int × Int)), (∀ p ∈ ps, ∃ k : Nat, k < l.length ∧ p.1 = (k : Int)) →
    (lsb l ps = true → ∃ e, forT k_z1_1 (pPr (pNm n_z1_1) (pNm n_z1_2)) tL_z1_1 ps ((some ⟨l⟩, none, none, none, none, ()) : E_z1) = some (.nx e)) ∧
    (lsb l ps = false → forT k_z1_1 (pPr (pNm n_z1_1) (pNm n_z1_2)) tL_z1_1 ps ((some ⟨l⟩, none, none, none, none, ()) : E_z1) = some (.rt false))
  | [], _ => ⟨fun _ => ⟨_, rfl⟩, fun h => nomatch h⟩
  | (i, x) :: ps, hp => by
    obtain ⟨k, hk, rfl⟩ : ∃ k : Nat, k < l.length ∧ i = (k : Int) := hp (i, x) List.mem_cons_self
    have k1 := lknd_eq x
    have k2 := knd_ok x
    have q := lq_eq l k (by omega) (by omega) ((some ⟨l⟩, some (k : Int), some x, none, none, ()) : E_z1) rfl rfl
    have be := bad_eq l k x
    unfold lsb forT
    rw [show pPr (pNm n_z1_1) (pNm n_z1_2) ((k : Int), x) ((some ⟨l⟩, none, none, none, none, ()) : E_z1) = some (some ⟨l⟩, some (k : Int), some x, none, none, ()) from rfl]
    simp only [Option.bind_some]
    generalize (l.take k).map knd = ks at q be
    by_cases c1 : knd x = ""
    · rw [if_pos (show bad l ((k : Int), x) = true by rw [be, decide_eq_true c1]; simp)]
      have st : tL_z1_1 ((some ⟨l⟩, some (k : Int), some x, none, none, ()) : E_z1) = some (.rt false) := by
        rw [c1] at k1
        unfold tL_z1_1
        simp -implicitDefEqProofs [q, k1, okE_lit]
      rw [st]
      exact ⟨fun h => (nomatch h), fun _ => rfl⟩
    by_cases c2 : knd x ∈ ks
    · rw [if_pos (show bad l ((k : Int), x) = true by rw [be, decide_eq_true c2]; simp)]
      have st : tL_z1_1 ((some ⟨l⟩, some (k : Int), some x, none, none, ()) : E_z1) = some (.rt false) := by
        unfold tL_z1_1
        simp -implicitDefEqProofs [q, k1, k2, c1, c2, okE_lit]
      rw [st]
      exact ⟨fun h => (nomatch h), fun _ => rfl⟩
    by_cases c3 : 0 < k
    · obtain ⟨w, hw⟩ : ∃ w, L2.atI l ((k : Int) - 1) = some w := by
        obtain ⟨w, hw, -⟩ := at_mem l ((k : Int) - 1) (by omega) (by omega)
        exact ⟨w, hw⟩
      have c3' : (0 : Int) < (k : Int) := by omega
      by_cases c4 : x ≤ w
      · rw [if_pos (show bad l ((k : Int), x) = true by rw [be, hw, decide_eq_true c3']; simp [c4])]
        have st : tL_z1_1 ((some ⟨l⟩, some (k : Int), some x, none, none, ()) : E_z1) = some (.rt false) := by
          unfold tL_z1_1
          simp -implicitDefEqProofs [q, k1, k2, c1, c2, c3, c3', hw, c4, okE_lit]
        rw [st]
        exact ⟨fun h => (nomatch h), fun _ => rfl⟩
      · rw [if_neg (show ¬ bad l ((k : Int), x) = true by rw [be, hw]; simp [c1, c2, c4])]
        have st : tL_z1_1 ((some ⟨l⟩, some (k : Int), some x, none, none, ()) : E_z1) = some (.nx (some ⟨l⟩, some (k : Int), some x, some ks, none, ())) := by
          unfold tL_z1_1
          simp -implicitDefEqProofs [q, k1, k2, c1, c2, c3, c3', hw, c4, okE_lit]
        rw [st]
        simp only [Option.bind_some, forT1]
        exact lsb_loop l hl ps fun p hp' => hp p (List.mem_cons_of_mem _ hp')
    · have k0 : k = 0 := by omega
      subst k0
      rw [if_neg (show ¬ bad l (((0 : Nat) : Int), x) = true by rw [be]; simp [c1, c2])]
      have st : tL_z1_1 ((some ⟨l⟩, some ((0 : Nat) : Int), some x, none, none, ()) : E_z1) = some (.nx (some ⟨l⟩, some ((0 : Nat) : Int), some x, some ks, none, ())) := by
        have q : tQ_z1_1 (some { l := l }, some 0, some x, none, none, ()) = some ks := q
        unfold tL_z1_1
        simp -implicitDefEqProofs [q, k1, k2, c1, c2, okE_lit]
      rw [st]
      simp only [Option.bind_some, forT1]
      exact lsb_loop l hl ps fun p hp' => hp p (List.mem_cons_of_mem _ hp')
theorem lsb_isb (l : List Int) : ∀ (xs pre : List Int) (bf : Int), l = pre ++ xs → (∀ w, L2.atI l ((pre.length : Int) - 1) = some w → 0 < pre.length → bf = w) → (pre = [] → bf = 0) →
    lsb l (xs.zipIdx pre.length |>.map fun p => ((p.2 : Int), p.1)) = isb (pre.map knd) bf xs
  | [], pre, bf, _, _, _ => rfl
  | x :: xs, pre, bf, h, hb, h0 => by
    rw [List.zipIdx_cons, List.map_cons]
    unfold lsb isb
    have ht : l.take pre.length = pre := by rw [h]; simp
    have cond : bad l ((pre.length : Int), x) = true ↔ (knd x = "" ∨ knd x ∈ pre.map knd ∨ x ≤ bf) := by
      rw [bad_eq, ht]
      by_cases c1 : knd x = ""
      · simp [c1]
      by_cases c2 : knd x ∈ pre.map knd
      · rw [decide_eq_true c2]
        exact ⟨fun _ => .inr (.inl c2), fun _ => by simp⟩
      have hx := knd_b c1
      rw [decide_eq_false c1, decide_eq_false c2]
      simp only [Bool.false_or]
      by_cases z : pre = []
      · have q : ¬ x ≤ bf := by rw [h0 z]; omega
        subst z
        exact ⟨fun y => (nomatch y), fun y => absurd ((y.resolve_left c1).resolve_left c2) q⟩
      · have zl : 0 < pre.length := List.length_pos_iff.mpr z
        obtain ⟨w, hw, -⟩ := at_mem l ((pre.length : Int) - 1) (by omega) (by rw [h, List.length_append]; omega)
        have zl' : (0 : Int) < (pre.length : Int) := by omega
        rw [hw, decide_eq_true zl', hb w hw zl]
        simp only [Bool.true_and, decide_eq_true_eq]
        exact ⟨fun y => .inr (.inr y), fun y => (y.resolve_left c1).resolve_left c2⟩
    by_cases c : knd x = "" ∨ knd x ∈ pre.map knd ∨ x ≤ bf
    · rw [if_pos (cond.mpr c), if_pos c]
    · rw [if_neg (fun z => c (cond.mp z)), if_neg c]
      have e := lsb_isb l xs (pre ++ [x]) x (by rw [h]; simp) (fun w hw _ => by
        have : L2.atI l (((pre ++ [x]).length : Nat) - 1 : Int) = some x := by
          have e2 : (((pre ++ [x]).length : Nat) - 1 : Int) = (pre.length : Int) := by rw [List.length_append, List.length_singleton]; omega
          rw [e2, at_n l pre.length (by rw [h]; simp)]
          congr 1
          simp [h]
        rw [this] at hw; cases hw; rfl) (fun z => absurd z (by simp))
      rw [List.length_append, List.length_singleton, List.map_append] at e
      exact e
theorem lis_eq (l : List Int) (hl : l.length ≤ 900) : T_z1 (⟨l⟩, ()) = some (isb [] 0 l) := by
  have l1 : l.length ≤ 16777216 := by omega
  have e : lsb l (enT l) = isb [] 0 l := lsb_isb l l [] 0 rfl (fun _ _ h => absurd h (by decide)) fun _ => rfl
  obtain ⟨h1, h2⟩ := lsb_loop l hl (enT l) fun p hp => by
    obtain ⟨k, hk, e⟩ := enT_mem 0 hp
    exact ⟨k, hk, by rw [e]⟩
  rw [e] at h1 h2
  unfold T_z1 fnT tB_z1
  cases q : isb [] 0 l with
  | true =>
    obtain ⟨e, he⟩ := h1 q
    simp -implicitDefEqProofs [he, l1]
  | false =>
    have he := h2 q
    simp -implicitDefEqProofs [he, l1]

/-! the digits of a number, as signs -/
def dgT (m : Nat) : List Int := (digs m).map fun d => ((48 + d : Nat) : Int)
theorem ord_one (c : Nat) : ordS ⟨#[c]⟩ = some (c : Int) := rfl
theorem chS_num (m : Nat) : chS (Str.ofString (toString ((m : Nat) : Int))) = (digs m).map fun d => (⟨#[48 + d]⟩ : Str) := by
  have h := chD_num m
  have e : chD (Str.ofString (toString ((m : Nat) : Int))) = (chS (Str.ofString (toString ((m : Nat) : Int)))).map D.str := by unfold chD chS; rw [List.map_map]; rfl
  rw [e] at h
  have e2 : ((digs m).map fun d => D.str ⟨#[48 + d]⟩) = ((digs m).map fun d => (⟨#[48 + d]⟩ : Str)).map D.str := by rw [List.map_map]; rfl
  rw [e2] at h
  exact List.map_inj_right (fun a b z => D.str.inj z) |>.mp h
theorem log_ok {m : Nat} (h : m < 2 ^ 1000) : (((m : Nat) : Int)).natAbs.log2 < 1920 := by
  show m.log2 < 1920
  by_cases z : m = 0
  · rw [z]; decide
  · exact (Nat.log2_lt z).mpr (Nat.lt_trans h (by decide +kernel))
theorem digs_rec (m : Nat) : digs m = if m < 10 then [m] else digs (m / 10) ++ [m % 10] := by
  unfold digs
  by_cases h : m < 10
  · rw [if_pos h, Nat.toDigits_of_lt_base h, List.map_cons, List.map_nil, dig_nat m h]; simp
  · rw [if_neg h, Nat.toDigits_of_base_le (by decide) (by omega), List.map_append, List.map_cons, List.map_nil, dig_nat _ (by omega)]; simp
theorem digs_len (m : Nat) : ∀ k, 0 < k → m < 10 ^ k → (digs m).length ≤ k
  | 0, h, _ => by omega
  | 1, _, h => by rw [digs_rec, if_pos (by omega)]; simp
  | k + 2, _, h => by
    rw [digs_rec]
    split
    · simp
    · have := digs_len (m / 10) (k + 1) (by omega) (by rw [Nat.pow_succ] at h; omega)
      rw [List.length_append]; simp; omega
theorem dig_eq (m : Nat) (h : m < 2 ^ 1000) (hl : (digs m).length ≤ 16777216) : T_z10 ((m : Int), ()) = some (dgT m) := by
  have lg := log_ok h
  obtain ⟨S, hS⟩ : ∃ S : Str, S = Str.ofString (toString ((m : Nat) : Int)) := ⟨_, rfl⟩
  have si : strI (m : Int) = some S := by rw [hS]; unfold strI; rw [if_pos lg]
  have cs : chS S = (digs m).map fun d => (⟨#[48 + d]⟩ : Str) := by rw [hS]; exact chS_num m
  have e : filtM (tElt (pNm n_z10_1) tYes (t1 ordS (tV n_z10_1)) ((some (m : Int), none, ()) : E_z10)) (chS S) = some (dgT m) := by
    rw [cs]
    have : ∀ ds : List Nat, filtM (tElt (pNm n_z10_1) tYes (t1 ordS (tV n_z10_1)) ((some (m : Int), none, ()) : E_z10)) (ds.map fun d => (⟨#[48 + d]⟩ : Str)) = some (ds.map fun d => ((48 + d : Nat) : Int)) := fun ds => by
      induction ds with
      | nil => rfl
      | cons d ds ih => rw [List.map_cons]; unfold filtM; rw [ih]; simp [ord_one]
    exact this _
  have l2 : (chS S).length ≤ 16777216 := by rw [cs, List.length_map]; exact hl
  simp only [T_z10, tB_z10, tQ_z10_1, fnT]
  simp [-strI, si, l2]
  rw [e]; rfl

theorem digs_lt : ∀ (k m : Nat), m ≤ k → ∀ d ∈ digs m, d < 10
  | 0, m, h, d, hd => by
    have : m = 0 := by omega
    subst this
    rw [digs_rec, if_pos (by decide)] at hd
    rw [List.mem_singleton.mp hd]; decide
  | k + 1, m, h, d, hd => by
    rw [digs_rec] at hd
    split at hd
    · rw [List.mem_singleton.mp hd]; omega
    · rcases List.mem_append.mp hd with q | q
      · exact digs_lt k (m / 10) (by omega) d q
      · rw [List.mem_singleton.mp q]; omega
theorem intS_dig (d : Nat) (h : d < 10) : intS ⟨#[48 + d]⟩ = some (d : Int) := by
  rcases (by omega : d = 0 ∨ d = 1 ∨ d = 2 ∨ d = 3 ∨ d = 4 ∨ d = 5 ∨ d = 6 ∨ d = 7 ∨ d = 8 ∨ d = 9) with r | r | r | r | r | r | r | r | r | r <;> subst r <;> decide +kernel
theorem ldig_eq (m : Nat) (h : m < 2 ^ 1000) (hl : (digs m).length ≤ 16777216) : T_z4 ((m : Int), ()) = some (dgT m) := by
  have lg := log_ok h
  obtain ⟨S, hS⟩ : ∃ S : Str, S = Str.ofString (toString ((m : Nat) : Int)) := ⟨_, rfl⟩
  have si : strI (m : Int) = some S := by rw [hS]; unfold strI; rw [if_pos lg]
  have cs : chS S = (digs m).map fun d => (⟨#[48 + d]⟩ : Str) := by rw [hS]; exact chS_num m
  have e : ∀ e1 : E_z4, filtM (tElt (pNm n_z4_1) tYes (TL.tB addI (tK (48 : Int)) (t1 intS (tV n_z4_1))) e1) (chS S) = some (dgT m) := fun e1 => by
    rw [cs]
    have : ∀ ds : List Nat, (∀ d ∈ ds, d < 10) → filtM (tElt (pNm n_z4_1) tYes (TL.tB addI (tK (48 : Int)) (t1 intS (tV n_z4_1))) e1) (ds.map fun d => (⟨#[48 + d]⟩ : Str)) = some (ds.map fun d => ((48 + d : Nat) : Int)) := fun ds => by
      induction ds with
      | nil => exact fun _ => rfl
      | cons d ds ih =>
        intro hd
        have i := intS_dig d (hd d (by simp))
        rw [List.map_cons]; unfold filtM; rw [ih fun x hx => hd x (List.mem_cons_of_mem _ hx)]
        simp [i]
    exact this _ (digs_lt m m (Nat.le_refl _))
  have l2 : (chS S).length ≤ 16777216 := by rw [cs, List.length_map]; exact hl
  unfold T_z4 fnT tB_z4 tQ_z4_1
  simp -implicitDefEqProofs [-strI, -tElt, si, l2, e]
/-! the text of a style -/
def txt (t : List Int) (n : Int) : List Int := t ++ [59] ++ dgT n.toNat
theorem small (n : Int) (h : 0 ≤ n) (h2 : n < 60) : T_z10 (n, ()) = some (dgT n.toNat) ∧ T_z4 (n, ()) = some (dgT n.toNat) ∧ (dgT n.toNat).length ≤ 2 := by
  have e : n = ((n.toNat : Nat) : Int) := by omega
  have l := digs_len n.toNat 2 (by decide) (by omega)
  have b : n.toNat < 2 ^ 1000 := Nat.lt_of_lt_of_le (show n.toNat < 60 by omega) (by decide +kernel)
  refine ⟨?_, ?_, by unfold dgT; rw [List.length_map]; exact l⟩
  · have := dig_eq n.toNat b (by omega)
    rw [← e] at this; exact this
  · have := ldig_eq n.toNat b (by omega)
    rw [← e] at this; exact this
theorem st_loop : ∀ (xs t : List Int), (∀ x ∈ xs, 0 ≤ x ∧ x < 60) → t.length + 3 * xs.length ≤ 1000 → forT k_z5_1 (pNm n_z5_2) tL_z5_1 xs ((none, some t, none, ()) : E_z5) = some (.nx (none, some (xs.foldl txt t), none, ()))
  | [], t, _, _ => rfl
  | x :: xs, t, h, hl => by
    rw [List.length_cons] at hl
    obtain ⟨d1, d2, d3⟩ := small x (h x (by simp)).1 (h x (by simp)).2
    have e3 : tL_z5_1 ((none, some t, some x, ()) : E_z5) = some (.nx (none, some (txt t x), some x, ())) := by
      unfold tL_z5_1 txt
      have b1 : t.length ≤ 16777215 := by omega
      have b2 : t.length + 1 + (dgT x.toNat).length ≤ 16777216 := by omega
      generalize dgT x.toNat = G at *
      simp -implicitDefEqProofs [d1, b1, b2]
    unfold forT
    rw [show pNm n_z5_2 x ((none, some t, none, ()) : E_z5) = some (none, some t, some x, ()) from rfl]
    simp only [Option.bind_some]
    rw [e3]
    simp only [Option.bind_some, forT1]
    exact st_loop xs (txt t x) (fun y hy => h y (List.mem_cons_of_mem _ hy)) (by unfold txt; rw [List.length_append, List.length_append, List.length_singleton]; omega)
theorem text_eq {l : List Int} (h : StS ⟨l⟩) : T_z5 (⟨l⟩, ()) = some (l.foldl txt [48]) := by
  have hl : l.length ≤ 47 := h.len
  have hb : ∀ x ∈ l, 0 ≤ x ∧ x < 60 := fun x hx => by have := knd_b (h.nk x hx); omega
  have e := st_loop l [48] hb (by simp; omega)
  have d0 : T_z10 (0, ()) = some [48] := (small 0 (by decide) (by decide)).1.trans (by rw [show (0 : Int).toNat = 0 from rfl]; unfold dgT; rw [digs_rec, if_pos (by decide)]; rfl)
  have l1 : l.length ≤ 16777216 := by omega
  unfold T_z5 fnT tB_z5
  simp -implicitDefEqProofs [d0, e, l1]
/-! the law's dict -/
abbrev KpD : Type := List (Str × Int)
structure WF (l : KpD) : Prop where
  nd : (l.map (·.1)).Nodup
  ok : ∀ p ∈ l, p.2 = 0 ∨ (0 < p.2 ∧ knd p.2 = p.1)
def pvK (l : KpD) : List Int := (l.map (·.2)).filter fun x => decide (0 < x)
theorem pvK_app (a b : KpD) : pvK (a ++ b) = pvK a ++ pvK b := by unfold pvK; rw [List.map_append, List.filter_append]
theorem pvK_one (k : Str) (v : Int) : pvK [(k, v)] = if 0 < v then [v] else [] := by
  unfold pvK
  by_cases h : 0 < v
  · rw [if_pos h]; simp [h]
  · rw [if_neg h]; simp [h]
theorem pvK_ne {l : KpD} (h : ∀ p ∈ l, p.2 = 0 ∨ (0 < p.2 ∧ knd p.2 = p.1)) {k : Str} (hk : ¬ k ∈ l.map (·.1)) : (pvK l).filter (fun x => decide (knd x ≠ k)) = pvK l := by
  refine List.filter_eq_self.mpr fun x hx => decide_eq_true fun e => hk ?_
  unfold pvK at hx
  obtain ⟨h1, h2⟩ := List.mem_filter.mp hx
  obtain ⟨p, hp, rfl⟩ := List.mem_map.mp h1
  have h2 := of_decide_eq_true h2
  rcases h p hp with z | ⟨_, z⟩
  · omega
  · exact List.mem_map.mpr ⟨p, hp, by rw [← z, e]⟩
theorem put_split {l : KpD} {k : Str} {v : Int} (hn : (l.map (·.1)).Nodup) (hk : k ∈ l.map (·.1)) : ∃ a w b, l = a ++ (k, w) :: b ∧ ¬ k ∈ a.map (·.1) ∧ ¬ k ∈ b.map (·.1) ∧ putT l k v = a ++ (k, v) :: b := by
  obtain ⟨p, hp, rfl⟩ := List.mem_map.mp hk
  obtain ⟨a, b, rfl⟩ := List.append_of_mem hp
  rw [List.map_append, List.map_cons] at hn
  have h1 := List.nodup_append.mp hn
  have ha : ¬ p.1 ∈ a.map (·.1) := fun q => h1.2.2 p.1 q p.1 (by simp) rfl
  have hb : ¬ p.1 ∈ b.map (·.1) := (List.nodup_cons.mp h1.2.1).1
  refine ⟨a, p.2, b, rfl, ha, hb, ?_⟩
  unfold putT
  have any : ((a ++ p :: b).any fun q => decide (q.1 = p.1)) = true := List.any_eq_true.mpr ⟨p, hp, decide_eq_true rfl⟩
  have id : ∀ c : KpD, ¬ p.1 ∈ c.map (·.1) → c.map (fun q => if q.1 = p.1 then (q.1, v) else q) = c := fun c hc => by
    have : c.map (fun q => if q.1 = p.1 then (q.1, v) else q) = c.map id := List.map_congr_left fun q hq => by rw [if_neg fun z => hc (List.mem_map.mpr ⟨q, hq, z⟩)]; rfl
    rw [this, List.map_id]
  rw [if_pos any, List.map_append, List.map_cons, id a ha, id b hb, if_pos rfl]
theorem put_no {l : KpD} {k : Str} {v : Int} (hk : ¬ k ∈ l.map (·.1)) : putT l k v = l ++ [(k, v)] := by
  unfold putT
  rw [if_neg]
  intro q
  obtain ⟨p, hp, e⟩ := List.any_eq_true.mp q
  exact hk (List.mem_map.mpr ⟨p, hp, of_decide_eq_true e⟩)
theorem WF.put {l : KpD} (h : WF l) {k : Str} {v : Int} (hv : v = 0 ∨ (0 < v ∧ knd v = k)) : WF (putT l k v) ∧ (putT l k v).length ≤ l.length + 1 ∧ (pvK (putT l k v)).Perm ((pvK l).filter (fun x => decide (knd x ≠ k)) ++ if 0 < v then [v] else []) := by
  by_cases hk : k ∈ l.map (·.1)
  · obtain ⟨a, w, b, e, ha, hb, q⟩ := put_split (v := v) h.nd hk
    rw [q]
    have ok := h.ok
    have nd := h.nd
    rw [e] at ok nd
    have oka : ∀ p ∈ a, p.2 = 0 ∨ (0 < p.2 ∧ knd p.2 = p.1) := fun p hp => ok p (List.mem_append_left _ hp)
    have okb : ∀ p ∈ b, p.2 = 0 ∨ (0 < p.2 ∧ knd p.2 = p.1) := fun p hp => ok p (List.mem_append_right _ (List.mem_cons_of_mem _ hp))
    refine ⟨⟨?_, fun p hp => ?_⟩, ?_, ?_⟩
    · rw [List.map_append, List.map_cons] at nd ⊢; exact nd
    · rcases List.mem_append.mp hp with y | y
      · exact oka p y
      · rcases List.mem_cons.mp y with y | y
        · rw [y]; exact hv
        · exact okb p y
    · rw [e, List.length_append, List.length_append, List.length_cons, List.length_cons]; omega
    · have e1 : ∀ u : Int, pvK (a ++ (k, u) :: b) = pvK a ++ (if 0 < u then [u] else []) ++ pvK b := fun u => by
        rw [show a ++ (k, u) :: b = a ++ [(k, u)] ++ b by simp, pvK_app, pvK_app, pvK_one]
      have ew : (if 0 < w then [w] else []).filter (fun x => decide (knd x ≠ k)) = [] := by
        by_cases c : 0 < w
        · rw [if_pos c]
          rcases ok (k, w) (by simp) with y | ⟨_, y⟩
          · have y : w = 0 := y
            omega
          · have y : knd w = k := y
            simp [y]
        · rw [if_neg c]; rfl
      rw [e, e1, e1, List.filter_append, List.filter_append, pvK_ne oka ha, pvK_ne okb hb, ew, List.append_nil, List.append_assoc, List.append_assoc]
      exact List.Perm.append_left _ List.perm_append_comm
  · rw [put_no hk]
    refine ⟨⟨?_, fun p hp => ?_⟩, by rw [List.length_append, List.length_singleton]; exact Nat.le_refl _, ?_⟩
    · rw [List.map_append]
      exact List.nodup_append.mpr ⟨h.nd, List.nodup_cons.mpr ⟨List.not_mem_nil, List.nodup_nil⟩, fun x hx y hy z => hk (by rw [List.map_singleton] at hy; have := List.mem_singleton.mp hy; have this : y = k := this; rw [← this, ← z]; exact hx)⟩
    · rcases List.mem_append.mp hp with y | y
      · exact h.ok p y
      · rw [List.mem_singleton.mp y]; exact hv
    · rw [pvK_app, pvK_one, pvK_ne h.ok hk]
theorem isort_eq {a b : List Int} (h : a.Perm b) : isort a = isort b := sorted_one (((isort_perm a).trans h).trans (isort_perm b).symm) (isort_pw a) (isort_pw b)
theorem isort_filter (a : List Int) (p : Int → Bool) : (isort a).filter p = isort (a.filter p) :=
  sorted_one (((isort_perm a).filter p).trans (isort_perm _).symm) (List.Pairwise.filter p (isort_pw a)) (isort_pw _)
/-- what the law's dict becomes -/
def stp (l : KpD) (n : Int) : KpD := if n = 0 then [] else if rmk n ≠ "" then putT l (rmk n) 0 else if knd n ≠ "" then putT l (knd n) n else l
theorem rmk_cases (n : Int) : rmk n = "" ∧ ¬ (n = 22 ∨ n = 24 ∨ n = 27 ∨ n = 39 ∨ n = 49) ∨ rmk n ≠ "" ∧ (n = 22 ∨ n = 24 ∨ n = 27 ∨ n = 39 ∨ n = 49) := by
  by_cases r : n = 22 ∨ n = 24 ∨ n = 27 ∨ n = 39 ∨ n = 49
  · right
    refine ⟨?_, r⟩
    rcases r with rfl | rfl | rfl | rfl | rfl <;> decide
  · left
    refine ⟨?_, r⟩
    unfold rmk
    rw [if_neg (by omega), if_neg (by omega), if_neg (by omega), if_neg (by omega), if_neg (by omega)]
theorem step_ok {l : KpD} (h : WF l) (n : Int) : WF (stp l n) ∧ (stp l n).length ≤ l.length + 1 ∧ sty (isort (pvK l)) n = isort (pvK (stp l n)) := by
  unfold stp sty
  by_cases z : n = 0
  · rw [if_pos z, if_pos z]
    exact ⟨⟨List.nodup_nil, fun p hp => nomatch hp⟩, Nat.zero_le _, rfl⟩
  rw [if_neg z, if_neg z]
  rcases rmk_cases n with ⟨r, r2⟩ | ⟨r, r2⟩
  · have nr : ¬ (rmk n ≠ "") := fun y => y r
    by_cases q : knd n = ""
    · have nq : ¬ (knd n ≠ "") := fun y => y q
      rw [if_neg nr, if_neg nq, if_neg nq, if_neg nr]
      exact ⟨h, by omega, rfl⟩
    · rw [if_neg nr, if_pos q, if_pos q]
      have b := knd_b q
      obtain ⟨w1, w2, w3⟩ := h.put (k := knd n) (v := n) (.inr ⟨by omega, rfl⟩)
      rw [if_pos (by omega : (0 : Int) < n)] at w3
      refine ⟨w1, w2, ?_⟩
      rw [isort_filter]
      exact isort_eq ((List.Perm.append_right _ (isort_perm _)).trans w3.symm)
  · have q : knd n = "" := by rcases r2 with rfl | rfl | rfl | rfl | rfl <;> decide
    have nq : ¬ (knd n ≠ "") := fun y => y q
    rw [if_pos r, if_neg nq, if_pos r]
    obtain ⟨w1, w2, w3⟩ := h.put (k := rmk n) (v := 0) (.inl rfl)
    rw [if_neg (by decide), List.append_nil] at w3
    refine ⟨w1, w2, ?_⟩
    rw [isort_filter]
    exact isort_eq w3.symm
theorem pos_eq {l : KpD} (h : WF l) : posT l l = some (pvK l) := by
  have lk : ∀ p ∈ l, lkT l p.1 = some p.2 := fun p hp => by
    have key : ∀ l : KpD, (l.map (·.1)).Nodup → p ∈ l → lkT l p.1 = some p.2 := fun l => by
      induction l with
      | nil => exact fun _ h => nomatch h
      | cons q l ih =>
        intro hn hm
        rw [List.map_cons] at hn
        obtain ⟨h1, h2⟩ := List.nodup_cons.mp hn
        unfold lkT
        rcases List.mem_cons.mp hm with e | e
        · rw [← e, List.find?_cons_of_pos (by simp)]; rfl
        · rw [List.find?_cons_of_neg (by
            simp only [decide_eq_true_eq]
            intro z
            exact h1 (List.mem_map.mpr ⟨p, e, z.symm⟩))]
          exact ih h2 e
    exact key l h.nd hp
  have go : ∀ t : KpD, (∀ p ∈ t, lkT l p.1 = some p.2) → posT l t = some (pvK t) := fun t => by
    induction t with
    | nil => exact fun _ => rfl
    | cons q t ih =>
      intro ht
      unfold posT
      rw [ht q (by simp), ih fun p hp => ht p (List.mem_cons_of_mem _ hp)]
      simp only [Option.bind_some, Option.map_some]
      unfold pvK
      rw [List.map_cons]
      by_cases c : 0 < q.2
      · simp [c]
      · simp [c]
  exact go l lk

theorem seq_nx {E β : Type} {a b : E → Option (Fw β E)} {e e1 : E} (h : a e = some (.nx e1)) : TL.tSeq a b e = b e1 := by
  unfold TL.tSeq
  rw [h]; rfl
abbrev EL : Type := E_law
def gon : List (Int × Str) := [(22, "bold"), (24, "underlined"), (27, "inverse"), (39, "foreground"), (49, "background")]
theorem gon_lk (n : Int) : lkT gon n = if rmk n = "" then none else some (rmk n) := by
  rcases rmk_cases n with ⟨r, r2⟩ | ⟨r, r2⟩
  · rw [if_pos r]
    unfold gon lkT
    have r1 : ¬ (22 : Int) = n := by omega
    have r2 : ¬ (24 : Int) = n := by omega
    have r3 : ¬ (27 : Int) = n := by omega
    have r4 : ¬ (39 : Int) = n := by omega
    have r5 : ¬ (49 : Int) = n := by omega
    simp [r1, r2, r3, r4, r5]
  · rw [if_neg r]
    rcases r2 with rfl | rfl | rfl | rfl | rfl <;> decide
def S0 (ns : List Int) (l : KpD) (st : List Int) : EL := (none, ⟨some ⟨gon⟩⟩, ⟨some ⟨l⟩⟩, some ⟨st⟩, some ns, none, none, none, none, none, ())
theorem loop_ok (ns : List Int) (l : KpD) (h : WF l) (hl : l.length ≤ 500) (hs : StS ⟨isort (pvK l)⟩) (n : Int) :
    ∃ e2, tL_law_1 ((none, ⟨some ⟨gon⟩⟩, ⟨some ⟨l⟩⟩, some ⟨isort (pvK l)⟩, some ns, some n, none, none, none, none, ()) : EL) = some (.nx e2) ∧ k_law_1 e2 = S0 ns (stp l n) (isort (pvK (stp l n))) ∧ WF (stp l n) ∧ (stp l n).length ≤ l.length + 1 ∧ StS ⟨isort (pvK (stp l n))⟩ := by
  obtain ⟨w1, w2, w3⟩ := step_ok h n
  obtain ⟨e1, h1⟩ := styled_eq hs n
  rw [w3] at e1 h1
  have is := is_style_ok h1
  have po := pos_eq w1
  have k1 := knd_eq n
  have k2 := knd_ok n
  have k3 := lknd_eq n
  have g := gon_lk n
  refine ⟨(none, ⟨some ⟨gon⟩⟩, ⟨some ⟨stp l n⟩⟩, some ⟨isort (pvK (stp l n))⟩, some ns, some n, none, none, none, none, ()), ?_, rfl, w1, w2, h1⟩
  have sz : (stp l n).length < sizeLine := by show _ < 16777216; omega
  have l2 : l.length < 16777216 := by omega
  have s1 : (tSet n_law_3 (TL.tCall T_z12 (pCons (tV n_law_3) (pCons (tV n_law_5) pNil))) : EL → Option (Fw Bool EL)) (none, ⟨some ⟨gon⟩⟩, ⟨some ⟨l⟩⟩, some ⟨isort (pvK l)⟩, some ns, some n, none, none, none, none, ()) = some (.nx (none, ⟨some ⟨gon⟩⟩, ⟨some ⟨l⟩⟩, some ⟨isort (pvK (stp l n))⟩, some ns, some n, none, none, none, none, ())) := by
    simp -implicitDefEqProofs [e1]
  have dp : ∀ e : EL, e.2.2.1 = ⟨some ⟨stp l n⟩⟩ → tDPos n_law_2 e = some (pvK (stp l n)) := fun e he => by
    unfold tDPos
    show (e.2.2.1.v.bind _) = _
    rw [he]
    show (if (stp l n).length < sizeLine then posT (stp l n) (stp l n) else none) = _
    rw [if_pos sz, po]
  generalize hst : isort (pvK (stp l n)) = st at *
  have s2 : (TL.tIfS (TL.tB neT (TL.tCall T_z0 (pCons (tV n_law_5) pNil)) (TL.tCall T_z8 (pCons (tV n_law_5) pNil))) (TL.tRet (tK false)) TL.tNil : EL → Option (Fw Bool EL)) (none, ⟨some ⟨gon⟩⟩, ⟨some ⟨l⟩⟩, some ⟨st⟩, some ns, some n, none, none, none, none, ()) = some (.nx (none, ⟨some ⟨gon⟩⟩, ⟨some ⟨l⟩⟩, some ⟨st⟩, some ns, some n, none, none, none, none, ())) := by
    simp -implicitDefEqProofs [k1, k2, k3]
  have s3 : (TL.tIfS (TL.tB eqT (tV n_law_5) (tK (0 : Int))) (tSetD0 n_law_2) (TL.tIfS (tDIn false n_law_1 (tV n_law_5)) (tDPut n_law_2 (tDGet n_law_1 (tV n_law_5)) (tK (0 : Int))) (TL.tIfS (TL.tB neT (TL.tCall T_z8 (pCons (tV n_law_5) pNil)) (tK ("" : Str))) (tDPut n_law_2 (TL.tCall T_z8 (pCons (tV n_law_5) pNil)) (tV n_law_5)) TL.tNil)) : EL → Option (Fw Bool EL)) (none, ⟨some ⟨gon⟩⟩, ⟨some ⟨l⟩⟩, some ⟨st⟩, some ns, some n, none, none, none, none, ()) = some (.nx (none, ⟨some ⟨gon⟩⟩, ⟨some ⟨stp l n⟩⟩, some ⟨st⟩, some ns, some n, none, none, none, none, ())) := by
    unfold stp
    by_cases z : n = 0
    · rw [if_pos z]
      simp -implicitDefEqProofs [z]
    rw [if_neg z]
    by_cases r : rmk n = ""
    · rw [if_neg (fun y => y r)]
      rw [if_pos r] at g
      by_cases q : knd n = ""
      · rw [if_neg (fun y => y q)]
        rw [q] at k3
        simp -implicitDefEqProofs [-lkT, z, g, k3, okE_lit]
      · rw [if_pos q]
        simp -implicitDefEqProofs [-lkT, z, g, k3, k2, q, l2, okE_lit]
    · rw [if_pos r]
      rw [if_neg r] at g
      generalize rmk n = R at *
      simp -implicitDefEqProofs [-lkT, z, g, l2]
  have s4 : (TL.tIfS (TL.tOr (TL.tB neT (tV n_law_3) (t1 tupT (t1 srtT (tDPos n_law_2)))) (TL.tNot (tTr (TL.tCall T_z9 (pCons (tV n_law_3) pNil))))) (TL.tRet (tK false)) TL.tNil : EL → Option (Fw Bool EL)) (none, ⟨some ⟨gon⟩⟩, ⟨some ⟨stp l n⟩⟩, some ⟨st⟩, some ns, some n, none, none, none, none, ()) = some (.nx (none, ⟨some ⟨gon⟩⟩, ⟨some ⟨stp l n⟩⟩, some ⟨st⟩, some ns, some n, none, none, none, none, ())) := by
    have dp := dp (none, ⟨some ⟨gon⟩⟩, ⟨some ⟨stp l n⟩⟩, some ⟨st⟩, some ns, some n, none, none, none, none, ()) rfl
    have ln : st.length ≤ 16777216 := by have := h1.len; have this : st.length ≤ 47 := this; omega
    generalize stp l n = L at *
    generalize pvK L = P at *
    simp -implicitDefEqProofs [dp, hst, is, ln]
  unfold tL_law_1
  exact (seq_nx s1).trans ((seq_nx s2).trans ((seq_nx s3).trans s4))
theorem st_len {st : List Int} (h : StS ⟨st⟩) : st.length ≤ 47 := h.len
theorem loop1 (ns : List Int) : ∀ (xs : List Int) (l : KpD) (st : List Int), st = isort (pvK l) → WF l → l.length + xs.length ≤ 400 → StS ⟨st⟩ →
    ∃ l', forT k_law_1 (pNm n_law_5) tL_law_1 xs (S0 ns l st) = some (.nx (S0 ns l' (xs.foldl sty st))) ∧ StS ⟨xs.foldl sty st⟩
  | [], l, st, _, _, _, h => ⟨l, rfl, h⟩
  | x :: xs, l, st, e, w, hl, h => by
    rw [List.length_cons] at hl
    subst e
    obtain ⟨e2, h1, h2, h3, h4, h5⟩ := loop_ok ns l w (by omega) h x
    have st3 := (step_ok w x).2.2
    obtain ⟨l', f1, f2⟩ := loop1 ns xs (stp l x) (isort (pvK (stp l x))) rfl h3 (by omega) h5
    refine ⟨l', ?_, by rw [List.foldl_cons, st3]; exact f2⟩
    unfold forT
    rw [show pNm n_law_5 x (S0 ns l (isort (pvK l))) = some ((none, ⟨some ⟨gon⟩⟩, ⟨some ⟨l⟩⟩, some ⟨isort (pvK l)⟩, some ns, some x, none, none, none, none, ()) : EL) from rfl]
    simp only [Option.bind_some]
    rw [h1]
    simp only [Option.bind_some, forT1]
    rw [h2, List.foldl_cons, st3]
    exact f1
def S2 (ns : List Int) (st t : List Int) : EL := (none, ⟨none⟩, ⟨none⟩, some ⟨st⟩, some ns, none, some t, none, none, none, ())
theorem loop2 (ns st : List Int) : ∀ (xs t : List Int), (∀ x ∈ xs, 0 ≤ x ∧ x < 60) → t.length + 3 * xs.length ≤ 1000 → forT k_law_2 (pNm n_law_5) tL_law_2 xs (S2 ns st t) = some (.nx (S2 ns st (xs.foldl txt t)))
  | [], t, _, _ => rfl
  | x :: xs, t, h, hl => by
    rw [List.length_cons] at hl
    obtain ⟨d1, d2, d3⟩ := small x (h x (by simp)).1 (h x (by simp)).2
    have e3 : tL_law_2 ((none, ⟨none⟩, ⟨none⟩, some ⟨st⟩, some ns, some x, some t, none, none, none, ()) : EL) = some (.nx (none, ⟨none⟩, ⟨none⟩, some ⟨st⟩, some ns, some x, some (txt t x), none, none, none, ())) := by
      unfold tL_law_2 txt
      have b1 : t.length ≤ 16777215 := by omega
      have b2 : t.length + 1 + (dgT x.toNat).length ≤ 16777216 := by omega
      generalize dgT x.toNat = G at *
      simp -implicitDefEqProofs [d2, b1, b2]
    unfold forT
    rw [show pNm n_law_5 x (S2 ns st t) = some ((none, ⟨none⟩, ⟨none⟩, some ⟨st⟩, some ns, some x, some t, none, none, none, ()) : EL) from rfl]
    simp only [Option.bind_some]
    rw [e3]
    simp only [Option.bind_some, forT1]
    exact loop2 ns st xs (txt t x) (fun y hy => h y (List.mem_cons_of_mem _ hy)) (by unfold txt; rw [List.length_append, List.length_append, List.length_singleton]; omega)
theorem law_t (ns : List Int) (hns : ns.length ≤ 63) : T_law (⟨ns⟩, ()) = some true := by
  obtain ⟨ms, m1, m2⟩ : ∃ ms : List Int, (∀ e : EL, filtM (tElt (pNm n_law_8) tYes (TL.tCall T_z3 (pCons (tV n_law_8) pNil)) e) ns = some ms) ∧ ms.length = ns.length := by
    have key : ∀ ns : List Int, ∃ ms : List Int, (∀ e : EL, filtM (tElt (pNm n_law_8) tYes (TL.tCall T_z3 (pCons (tV n_law_8) pNil)) e) ns = some ms) ∧ ms.length = ns.length := fun ns => by
      induction ns with
      | nil => exact ⟨[], fun _ => rfl, rfl⟩
      | cons x xs ih =>
        obtain ⟨ms, h1, h2⟩ := ih
        obtain ⟨m, h3, -⟩ := lnum_ok x
        refine ⟨m :: ms, fun e => ?_, by rw [List.length_cons, List.length_cons, h2]⟩
        unfold filtM
        rw [h1 e]
        simp -implicitDefEqProofs [h3]
    exact key ns
  have q1 : ∀ e : EL, e.1 = some ⟨ns⟩ → tQ_law_1 e = some ms := fun e he => by
    have l1 : ns.length ≤ 16777216 := by omega
    unfold tQ_law_1
    simp -implicitDefEqProofs [-tElt, he, l1, m1]
  obtain ⟨l', f1, f2⟩ := loop1 ms ms [] [] rfl ⟨List.nodup_nil, fun p hp => nomatch hp⟩ (by show 0 + ms.length ≤ 400; omega) .nil
  have tu := turned_eq ms (by omega)
  have tx := text_eq f2
  have tn := turned_nil (ms.foldl sty [])
  generalize hst : ms.foldl sty [] = st at *
  have sl := st_len f2
  have g := loop2 ms st st [48] (fun x hx => by have := knd_b (f2.nk x hx); omega) (by simp; omega)
  have fw : cutL ms none (some 4) = ms.take 4 := sl_hi ms 4 (by decide)
  have i1 := ist_eq (ms.take 4) (by rw [List.length_take]; omega)
  have i2 := lis_eq (ms.take 4) (by rw [List.length_take]; omega)
  generalize st.foldl txt [48] = tt at *
  generalize isb [] 0 (ms.take 4) = bb at *
  generalize ms.take 4 = m4 at *
  have l2 : ms.length ≤ 16777216 := by omega
  have l3 : st.length ≤ 16777216 := by omega
  have r1 : (tSetD n_law_1 (dCons (tK (22 : Int)) (tK ("bold" : Str)) (dCons (tK (24 : Int)) (tK ("underlined" : Str)) (dCons (tK (27 : Int)) (tK ("inverse" : Str)) (dCons (tK (39 : Int)) (tK ("foreground" : Str)) (dCons (tK (49 : Int)) (tK ("background" : Str)) dNil))))) : EL → Option (Fw Bool EL)) (some ⟨ns⟩, ⟨none⟩, ⟨none⟩, none, none, none, none, none, none, none, ()) = some (.nx (some ⟨ns⟩, ⟨some ⟨gon⟩⟩, ⟨none⟩, none, none, none, none, none, none, none, ())) := rfl
  have r2 : (tSetD0 n_law_2 : EL → Option (Fw Bool EL)) (some ⟨ns⟩, ⟨some ⟨gon⟩⟩, ⟨none⟩, none, none, none, none, none, none, none, ()) = some (.nx (some ⟨ns⟩, ⟨some ⟨gon⟩⟩, ⟨some ⟨[]⟩⟩, none, none, none, none, none, none, none, ())) := rfl
  have r3 : (tSet n_law_3 (tTup (lNil (α := Int))) : EL → Option (Fw Bool EL)) (some ⟨ns⟩, ⟨some ⟨gon⟩⟩, ⟨some ⟨[]⟩⟩, none, none, none, none, none, none, none, ()) = some (.nx (some ⟨ns⟩, ⟨some ⟨gon⟩⟩, ⟨some ⟨[]⟩⟩, some ⟨[]⟩, none, none, none, none, none, none, ())) := rfl
  have r4 : (tSet n_law_4 tQ_law_1 : EL → Option (Fw Bool EL)) (some ⟨ns⟩, ⟨some ⟨gon⟩⟩, ⟨some ⟨[]⟩⟩, some ⟨[]⟩, none, none, none, none, none, none, ()) = some (.nx (some ⟨ns⟩, ⟨some ⟨gon⟩⟩, ⟨some ⟨[]⟩⟩, some ⟨[]⟩, some ms, none, none, none, none, none, ())) := by
    simp -implicitDefEqProofs [q1]
  have r5 : (TL.tFor k_law_1 (iL (tV n_law_4)) (pNm n_law_5) tL_law_1 : EL → Option (Fw Bool EL)) (some ⟨ns⟩, ⟨some ⟨gon⟩⟩, ⟨some ⟨[]⟩⟩, some ⟨[]⟩, some ms, none, none, none, none, none, ()) = some (.nx (S0 ms l' st)) := by
    have f1 : forT k_law_1 (pNm n_law_5) tL_law_1 ms (none, ⟨some ⟨gon⟩⟩, ⟨some ⟨[]⟩⟩, some ⟨[]⟩, some ms, none, none, none, none, none, ()) = some (.nx (S0 ms l' st)) := f1
    generalize S0 ms l' st = S at *
    generalize gon = gg at *
    simp -implicitDefEqProofs [l2, f1]
  have r6 : (tSet n_law_6 (tLst (lCons (tK (48 : Int)) lNil)) : EL → Option (Fw Bool EL)) (S0 ms l' st) = some (.nx (none, ⟨some ⟨gon⟩⟩, ⟨some ⟨l'⟩⟩, some ⟨st⟩, some ms, none, some [48], none, none, none, ())) := rfl
  have r7 : (TL.tFor k_law_2 (iL (tV n_law_3)) (pNm n_law_5) tL_law_2 : EL → Option (Fw Bool EL)) (none, ⟨some ⟨gon⟩⟩, ⟨some ⟨l'⟩⟩, some ⟨st⟩, some ms, none, some [48], none, none, none, ()) = some (.nx (S2 ms st tt)) := by
    have g : forT k_law_2 (pNm n_law_5) tL_law_2 st (none, ⟨none⟩, ⟨none⟩, some ⟨st⟩, some ms, none, some [48], none, none, none, ()) = some (.nx (S2 ms st tt)) := g
    generalize S2 ms st tt = S at *
    generalize gon = gg at *
    simp -implicitDefEqProofs [l3, g]
  have r8 : tR_law__7 (S2 ms st tt) = some (.rt true) := by
    unfold S2 tR_law__7 tR_law__8 tR_law__9
    simp -implicitDefEqProofs [tu, tx, fw, i1, i2, tn, l2]
  unfold T_law fnT tB_law tR_law__1 tR_law__2 tR_law__3 tR_law__4 tR_law__5 tR_law__6
  refine (congrArg (fun w => Option.bind w _) ((seq_nx r1).trans ((seq_nx r2).trans ((seq_nx r3).trans ((seq_nx r4).trans ((seq_nx r5).trans ((seq_nx r6).trans ((seq_nx r7).trans r8)))))))).trans ?_
  rfl
theorem law_true : ∀ ns : List Int, ns.length ≤ 63 → ∃ M, F_law [.scr ns] [] = some (.val (.bl true), M) := law_of tok_law fun ns h => law_t ns h

end K00
namespace K00
open PySem PySem.Spec PyProof.Rows L2 CI

theorem sc_z6 : FnScope ["_law_cell_here", "_law_many", "_law_rows", "_law_rest", "_law_state", "_law_k"] ["_law_cell_here", "_law_many"] (defScope s_z6) := ⟨rfl, rfl, rfl, by decide +kernel, rfl, by decide +kernel, by decide +kernel⟩
theorem ok_z6 {P : Program} {w : World} {K : PySem.W.Frag} {h : Heap} {mg : Str → Option Value} {base : Heap} (KX : K.In h) (G : h.Ns mainGlobals mg) (c : SaysE fa fn cs ds K w) {fd : FuncData} (FD : FunD K "_law_draws" "_law_draws" (defArgs s_z6) (defBody s_z6) (defScope s_z6) [] [] (He.fAd K ("_law_draws", none)) fd) : FnOk P w K mg base CX0 1 (He.fAd K ("_law_draws", none)) fd ["_law_cell_here", "_law_many"] (spF K F_z6) := by
  unfold F_z6
  exact fnK_ok FD sc_z6 fun cdv A outer s H E hr => by
    unfold B_z6
    unfold L_z6_2 L_z6_1
    exact (cb_cons (cs_setM (ps_set (i := 2) sc_z6.nd rfl (by first | exact Or.inl rfl | exact Or.inr rfl) (ce_lst ca_nil)))
    (cb_cons (cs_set (ps_set (i := 3) sc_z6.nd rfl (by first | exact Or.inl rfl | exact Or.inr rfl) (ce_callTy ok_int (by rfl) (He.free_ok KX G (c.fact 15 rfl)) (by decide +kernel) (ca_cons (ce_var (pv 0)) ca_nil))))
    (cb_cons (cs_if (ct_cmp ok_ge (ce_var (pv 3)) (ce_bin ok_pow ce_int ce_int) (nomark _))
    (cb_one (cs_forK PassesOwn.never rfl (ci_rg1 (by rfl) (He.free_ok KX G (c.fact 20 rfl)) (ce_var (pv 1))) (cg_of (pg_name (i := 5) sc_z6.nd rfl (by first | exact Or.inl rfl | exact Or.inr rfl)))
    (cb_one (cs_if (ct_cmp ok_gt (ce_var (pv 3)) ce_int (nomark _))
    (cb_cons (cs_expr (ce_bm PySem.F.plainAttrs_list PySem.F.slot_list_append PySem.F.type_list_append ok_append (ce_var (pv 2)) (ca_cons (ce_bin ok_mod (ce_callTy ok_int (by rfl) (He.free_ok KX G (c.fact 15 rfl)) (by decide +kernel) (ca_cons (ce_var (pv 3)) ca_nil)) ce_int) ca_nil)))
    (cb_one (cs_set (ps_set (i := 3) sc_z6.nd rfl (by first | exact Or.inl rfl | exact Or.inr rfl) (ce_bin ok_div (ce_var (pv 3)) ce_int)))))
    cb_nil))))
    cb_nil)
    (cb_cons (cs_set (ps_set (i := 4) sc_z6.nd rfl (by first | exact Or.inl rfl | exact Or.inr rfl) (ce_bin ok_mod (ce_callTy ok_int (by rfl) (He.free_ok KX G (c.fact 15 rfl)) (by decide +kernel) (ca_cons (ce_bin ok_add (ce_bin ok_mulA (ce_callTy ok_int (by rfl) (He.free_ok KX G (c.fact 15 rfl)) (by decide +kernel) (ca_cons (ce_var (pv 0)) ca_nil)) ce_int) ce_int) ca_nil)) ce_int)))
    (cb_cons (cs_forK PassesOwn.never rfl (ci_rg1 (by rfl) (He.free_ok KX G (c.fact 20 rfl)) (ce_var (pv 1))) (cg_of (pg_name (i := 5) sc_z6.nd rfl (by first | exact Or.inl rfl | exact Or.inr rfl)))
    (cb_cons (cs_set (ps_set (i := 4) sc_z6.nd rfl (by first | exact Or.inl rfl | exact Or.inr rfl) (ce_bin ok_mod (ce_callTy ok_int (by rfl) (He.free_ok KX G (c.fact 15 rfl)) (by decide +kernel) (ca_cons (ce_bin ok_add (ce_bin ok_add (ce_bin ok_mulA (ce_var (pv 4)) ce_int) (ce_bin ok_mulA (ce_var (pv 5)) ce_int)) ce_int) ca_nil)) ce_int)))
    (cb_one (cs_if (ct_cmp ok_lt (ce_callB ok_len (by rfl) (He.free_ok KX G (c.fact 14 rfl)) (by decide +kernel) (ca_cons (ce_var (pv 2)) ca_nil)) (ce_var (pv 1)) (nomark _))
    (cb_one (cs_expr (ce_bm PySem.F.plainAttrs_list PySem.F.slot_list_append PySem.F.type_list_append ok_append (ce_var (pv 2)) (ca_cons (ce_bin ok_mod (ce_callTy ok_int (by rfl) (He.free_ok KX G (c.fact 15 rfl)) (by decide +kernel) (ca_cons (ce_bin ok_mod (ce_callTy ok_int (by rfl) (He.free_ok KX G (c.fact 15 rfl)) (by decide +kernel) (ca_cons (ce_bin ok_add (ce_bin ok_mulA (ce_var (pv 4)) ce_int) ce_int) ca_nil)) ce_int) ca_nil)) ce_int) ca_nil))))
    cb_nil))))
    (cb_one (cs_ret (ce_var (pv 2)))))))))
theorem sc_z3 : FnScope ["_law_cell_here", "_law_draws_here"] ["_law_cell_here"] (defScope s_z3) := ⟨rfl, rfl, rfl, by decide +kernel, rfl, by decide +kernel, by decide +kernel⟩
theorem ok_z3 {P : Program} {w : World} {K : PySem.W.Frag} {h : Heap} {mg : Str → Option Value} {base : Heap} (KX : K.In h) (G : h.Ns mainGlobals mg) (c : SaysE fa fn cs ds K w) {fd : FuncData} (FD : FunD K "_law_number" "_law_number" (defArgs s_z3) (defBody s_z3) (defScope s_z3) [] [] (He.fAd K ("_law_number", none)) fd) : FnOk P w K mg base CX0 2 (He.fAd K ("_law_number", none)) fd ["_law_cell_here"] (spF K F_z3) := by
  obtain ⟨fd_z6, FD_z6⟩ := c.def_ 7 (d := d_z6) rfl
  have G_z6 := ok_z6 (P := P) (w := w) (base := base) KX G c FD_z6
  have b_z6 : Binds K fd_z6 ["_law_cell_here", "_law_many"] [] := FD_z6.bindsN fun _ _ _ _ _ _ us hl => match us, hl with | [_, _], _ => rfl
  have kp_z6 := FD_z6.kp
  unfold F_z3
  exact fnK_ok FD sc_z3 fun cdv A outer s H E hr => by
    unfold B_z3
    exact (cb_cons (cs_set (ps_set (i := 1) sc_z3.nd rfl (by first | exact Or.inl rfl | exact Or.inr rfl) (ce_call G_z6 hr (by rfl) (He.glo_ok KX G (c.fact 8 rfl)) kp_z6 b_z6 (ca_cons (ce_var (pv 0)) (ca_cons ce_int ca_nil)))))
    (cb_cons (cs_if (ct_cmp (ok_eq hr.units) (ce_bin ok_mod (ce_ix (ce_var (pv 1)) ce_int (fun _ _ => rfl)) ce_int) ce_int (nomark _))
    (cb_one (cs_ret (ce_ix (ce_lst (ca_cons ce_int (ca_cons ce_int (ca_cons ce_int (ca_cons ce_int (ca_cons ce_int (ca_cons ce_int (ca_cons ce_int (ca_cons ce_int (ca_cons ce_int (ca_cons ce_int ca_nil))))))))))) (ce_bin ok_mod (ce_ix (ce_var (pv 1)) ce_int (fun _ _ => rfl)) ce_int) (fun _ _ => rfl))))
    cb_nil)
    (cb_one (cs_ret (ce_bin ok_mod (ce_ix (ce_var (pv 1)) ce_int (fun _ _ => rfl)) ce_int)))))
theorem sc_z0 : FnScope ["number"] ["number"] (defScope s_z0) := ⟨rfl, rfl, rfl, by decide +kernel, rfl, by decide +kernel, by decide +kernel⟩
theorem ok_z0 {P : Program} {w : World} {K : PySem.W.Frag} {h : Heap} {mg : Str → Option Value} {base : Heap} (KX : K.In h) (G : h.Ns mainGlobals mg) (c : SaysE fa fn cs ds K w) {fd : FuncData} (FD : FunD K "kind_of_number" "kind_of_number" (defArgs s_z0) (defBody s_z0) (defScope s_z0) [] [] (He.fAd K ("kind_of_number", none)) fd) : FnOk P w K mg base CX0 1 (He.fAd K ("kind_of_number", none)) fd ["number"] (spF K F_z0) := by
  unfold F_z0
  exact fnK_ok FD sc_z0 fun cdv A outer s H E hr => by
    unfold B_z0
    exact (cb_cons (cs_if (ct_cmp (ok_eq hr.units) (ce_var (pv 0)) ce_int (nomark _))
    (cb_one (cs_ret ce_str))
    cb_nil)
    (cb_cons (cs_if (ct_cmp (ok_eq hr.units) (ce_var (pv 0)) ce_int (nomark _))
    (cb_one (cs_ret ce_str))
    cb_nil)
    (cb_cons (cs_if (ct_cmp (ok_eq hr.units) (ce_var (pv 0)) ce_int (nomark _))
    (cb_one (cs_ret ce_str))
    cb_nil)
    (cb_cons (cs_if (ct_chain ok_le ok_le ce_int (ce_var (pv 0)) ce_int)
    (cb_one (cs_ret ce_str))
    cb_nil)
    (cb_cons (cs_if (ct_chain ok_le ok_le ce_int (ce_var (pv 0)) ce_int)
    (cb_one (cs_ret ce_str))
    cb_nil)
    (cb_one (cs_ret ce_str)))))))
theorem sc_z2 : FnScope ["style", "kind", "number"] ["style", "kind"] (defScope s_z2) := ⟨rfl, rfl, rfl, by decide +kernel, rfl, by decide +kernel, by decide +kernel⟩
theorem ok_z2 {P : Program} {w : World} {K : PySem.W.Frag} {h : Heap} {mg : Str → Option Value} {base : Heap} (KX : K.In h) (G : h.Ns mainGlobals mg) (c : SaysE fa fn cs ds K w) {fd : FuncData} (FD : FunD K "without_kind" "without_kind" (defArgs s_z2) (defBody s_z2) (defScope s_z2) [] [] (He.fAd K ("without_kind", none)) fd) : FnOk P w K mg base CX0 2 (He.fAd K ("without_kind", none)) fd ["style", "kind"] (spF K F_z2) := by
  obtain ⟨fd_z0, FD_z0⟩ := c.def_ 1 (d := d_z0) rfl
  have G_z0 := ok_z0 (P := P) (w := w) (base := base) KX G c FD_z0
  have b_z0 : Binds K fd_z0 ["number"] [] := FD_z0.bindsN fun _ _ _ _ _ _ us hl => match us, hl with | [_], _ => rfl
  have kp_z0 := FD_z0.kp
  unfold F_z2
  exact fnK_ok FD sc_z2 fun cdv A outer s H E hr => by
    unfold B_z2
    unfold Q_z2_1
    exact (cb_one (cs_ret (ce_lc (own := [("number", 2)]) rfl sc_z2.nd (ci_seq (ce_var (pv 0))) (blkOk_by (own := [("number", 2)]) (N := ["style", "kind", "number"]) (sc := defScope s_z2) (by decide +kernel)) (fun _ _ _ _ _ => (cgw_of (vs := [2]) (pg_name (i := 2) sc_z2.nd rfl (by first | exact Or.inl rfl | exact Or.inr rfl)) (by decide))) (fun _ _ _ _ _ => (cts_one (ct_cmp (ok_ne hr.units) (ce_call G_z0 hr (by rfl) (He.glo_ok KX G (c.fact 1 rfl)) kp_z0 b_z0 (ca_cons (ce_var (pv 2)) ca_nil)) (ce_var (pv 1)) (nomark _)))) (fun _ _ _ _ _ => (ce_var (pv 2))))))
theorem sc_z12 : FnScope ["style", "number", "kind"] ["style", "number"] (defScope s_z12) := ⟨rfl, rfl, rfl, by decide +kernel, rfl, by decide +kernel, by decide +kernel⟩
theorem ok_z12 {P : Program} {w : World} {K : PySem.W.Frag} {h : Heap} {mg : Str → Option Value} {base : Heap} (KX : K.In h) (G : h.Ns mainGlobals mg) (c : SaysE fa fn cs ds K w) {fd : FuncData} (FD : FunD K "styled" "styled" (defArgs s_z12) (defBody s_z12) (defScope s_z12) [] [] (He.fAd K ("styled", none)) fd) : FnOk P w K mg base CX0 3 (He.fAd K ("styled", none)) fd ["style", "number"] (spF K F_z12) := by
  obtain ⟨ad_REMOVED, mg_REMOVED, wd_REMOVED⟩ := SaysE.dct KX G c 0 rfl
  obtain ⟨fd_z0, FD_z0⟩ := c.def_ 1 (d := d_z0) rfl
  have G_z0 := ok_z0 (P := P) (w := w) (base := base) KX G c FD_z0
  have b_z0 : Binds K fd_z0 ["number"] [] := FD_z0.bindsN fun _ _ _ _ _ _ us hl => match us, hl with | [_], _ => rfl
  have kp_z0 := FD_z0.kp
  obtain ⟨fd_z2, FD_z2⟩ := c.def_ 3 (d := d_z2) rfl
  have G_z2 := ok_z2 (P := P) (w := w) (base := base) KX G c FD_z2
  have b_z2 : Binds K fd_z2 ["style", "kind"] [] := FD_z2.bindsN fun _ _ _ _ _ _ us hl => match us, hl with | [_, _], _ => rfl
  have kp_z2 := FD_z2.kp
  unfold F_z12
  exact fnK_ok FD sc_z12 fun cdv A outer s H E hr => by
    unfold B_z12
    exact (cb_cons (cs_if (ct_cmp (ok_eq hr.units) (ce_var (pv 1)) ce_int (nomark _))
    (cb_one (cs_ret (ce_tup ca_nil)))
    cb_nil)
    (cb_cons (cs_set (ps_set (i := 2) sc_z12.nd rfl (by first | exact Or.inl rfl | exact Or.inr rfl) (ce_call G_z0 (hr.mono (by decide)) (by rfl) (He.glo_ok KX G (c.fact 1 rfl)) kp_z0 b_z0 (ca_cons (ce_var (pv 1)) ca_nil))))
    (cb_cons (cs_if (ct_cmp (ok_ne hr.units) (ce_var (pv 2)) ce_str (nomark _))
    (cb_one (cs_ret (ce_callTy ok_tuple (by rfl) (He.free_ok KX G (c.fact 16 rfl)) (by decide +kernel) (ca_cons (ce_callB ok_sorted (by rfl) (He.free_ok KX G (c.fact 17 rfl)) (by decide +kernel) (ca_cons (ce_bin ok_add (ce_call G_z2 hr (by rfl) (He.glo_ok KX G (c.fact 3 rfl)) kp_z2 b_z2 (ca_cons (ce_var (pv 0)) (ca_cons (ce_var (pv 2)) ca_nil))) (ce_lst (ca_cons (ce_var (pv 1)) ca_nil))) ca_nil)) ca_nil))))
    cb_nil)
    (cb_cons (cs_if (ct_gin op_win (pe_glob (by rfl) mg_REMOVED rfl) wd_REMOVED (ce_var (pv 1)) (by rfl))
    (cb_one (cs_ret (ce_callTy ok_tuple (by rfl) (He.free_ok KX G (c.fact 16 rfl)) (by decide +kernel) (ca_cons (ce_call G_z2 hr (by rfl) (He.glo_ok KX G (c.fact 3 rfl)) kp_z2 b_z2 (ca_cons (ce_var (pv 0)) (ca_cons (ce_gix (pe_glob (by rfl) mg_REMOVED rfl) wd_REMOVED (ce_var (pv 1)) (fun _ _ => rfl)) ca_nil))) ca_nil))))
    cb_nil)
    (cb_one (cs_ret (ce_var (pv 0))))))))
theorem sc_z8 : FnScope ["_law_number_here"] ["_law_number_here"] (defScope s_z8) := ⟨rfl, rfl, rfl, by decide +kernel, rfl, by decide +kernel, by decide +kernel⟩
theorem ok_z8 {P : Program} {w : World} {K : PySem.W.Frag} {h : Heap} {mg : Str → Option Value} {base : Heap} (KX : K.In h) (G : h.Ns mainGlobals mg) (c : SaysE fa fn cs ds K w) {fd : FuncData} (FD : FunD K "_law_kind" "_law_kind" (defArgs s_z8) (defBody s_z8) (defScope s_z8) [] [] (He.fAd K ("_law_kind", none)) fd) : FnOk P w K mg base CX0 1 (He.fAd K ("_law_kind", none)) fd ["_law_number_here"] (spF K F_z8) := by
  unfold F_z8
  exact fnK_ok FD sc_z8 fun cdv A outer s H E hr => by
    unfold B_z8
    exact (cb_cons (cs_if (ct_cmp ok_in (ce_var (pv 0)) (ce_tup (ca_cons ce_int (ca_cons ce_int (ca_cons ce_int ca_nil)))) (by rfl))
    (cb_one (cs_ret (ce_ix (ce_lst (ca_cons ce_str (ca_cons ce_str (ca_cons ce_str (ca_cons ce_str (ca_cons ce_str (ca_cons ce_str (ca_cons ce_str (ca_cons ce_str ca_nil))))))))) (ce_var (pv 0)) (fun _ _ => rfl))))
    cb_nil)
    (cb_cons (cs_if (ct_inR2 op_inR (by rfl) (He.free_ok KX G (c.fact 20 rfl)) (ce_var (pv 0)) ce_int ce_int)
    (cb_one (cs_ret ce_str))
    cb_nil)
    (cb_one (cs_ret (ce_if (ct_inR2 op_inR (by rfl) (He.free_ok KX G (c.fact 20 rfl)) (ce_var (pv 0)) ce_int ce_int) ce_str ce_str)))))
theorem sc_z4 : FnScope ["_law_number_here", "_law_sign"] ["_law_number_here"] (defScope s_z4) := ⟨rfl, rfl, rfl, by decide +kernel, rfl, by decide +kernel, by decide +kernel⟩
theorem ok_z4 {P : Program} {w : World} {K : PySem.W.Frag} {h : Heap} {mg : Str → Option Value} {base : Heap} (KX : K.In h) (G : h.Ns mainGlobals mg) (c : SaysE fa fn cs ds K w) {fd : FuncData} (FD : FunD K "_law_digits" "_law_digits" (defArgs s_z4) (defBody s_z4) (defScope s_z4) [] [] (He.fAd K ("_law_digits", none)) fd) : FnOk P w K mg base CX0 1 (He.fAd K ("_law_digits", none)) fd ["_law_number_here"] (spF K F_z4) := by
  unfold F_z4
  exact fnK_ok FD sc_z4 fun cdv A outer s H E hr => by
    unfold B_z4
    unfold Q_z4_1
    exact (cb_one (cs_ret (ce_lc (own := [("_law_sign", 1)]) rfl sc_z4.nd (ci_st (ce_callTy ok_str (by rfl) (He.free_ok KX G (c.fact 18 rfl)) (by decide +kernel) (ca_cons (ce_callTy ok_int (by rfl) (He.free_ok KX G (c.fact 15 rfl)) (by decide +kernel) (ca_cons (ce_var (pv 0)) ca_nil)) ca_nil))) (blkOk_by (own := [("_law_sign", 1)]) (N := ["_law_number_here", "_law_sign"]) (sc := defScope s_z4) (by decide +kernel)) (fun _ _ _ _ _ => (cgw_of (vs := [1]) (pg_name (i := 1) sc_z4.nd rfl (by first | exact Or.inl rfl | exact Or.inr rfl)) (by decide))) (fun _ _ _ _ _ => cts_nil) (fun _ _ _ _ _ => (ce_bin ok_add ce_int (ce_callTy ok_intS (by rfl) (He.free_ok KX G (c.fact 15 rfl)) (by decide +kernel) (ca_cons (ce_var (pv 1)) ca_nil)))))))
theorem sc_z11 : FnScope ["style", "numbers", "number"] ["style", "numbers"] (defScope s_z11) := ⟨rfl, rfl, rfl, by decide +kernel, rfl, by decide +kernel, by decide +kernel⟩
theorem ok_z11 {P : Program} {w : World} {K : PySem.W.Frag} {h : Heap} {mg : Str → Option Value} {base : Heap} (KX : K.In h) (G : h.Ns mainGlobals mg) (c : SaysE fa fn cs ds K w) {fd : FuncData} (FD : FunD K "turned" "turned" (defArgs s_z11) (defBody s_z11) (defScope s_z11) [] [] (He.fAd K ("turned", none)) fd) : FnOk P w K mg base CX0 4 (He.fAd K ("turned", none)) fd ["style", "numbers"] (spF K F_z11) := by
  obtain ⟨fd_z12, FD_z12⟩ := c.def_ 4 (d := d_z12) rfl
  have G_z12 := ok_z12 (P := P) (w := w) (base := base) KX G c FD_z12
  have b_z12 : Binds K fd_z12 ["style", "number"] [] := FD_z12.bindsN fun _ _ _ _ _ _ us hl => match us, hl with | [_, _], _ => rfl
  have kp_z12 := FD_z12.kp
  unfold F_z11
  exact fnK_ok FD sc_z11 fun cdv A outer s H E hr => by
    unfold B_z11
    unfold L_z11_1
    exact (cb_cons (cs_forK PassesOwn.never rfl (ci_seq (ce_var (pv 1))) (cg_of (pg_name (i := 2) sc_z11.nd rfl (by first | exact Or.inl rfl | exact Or.inr rfl)))
    (cb_one (cs_set (ps_set (i := 0) sc_z11.nd rfl (by first | exact Or.inl rfl | exact Or.inr rfl) (ce_call G_z12 hr (by rfl) (He.glo_ok KX G (c.fact 4 rfl)) kp_z12 b_z12 (ca_cons (ce_var (pv 0)) (ca_cons (ce_var (pv 2)) ca_nil)))))))
    (cb_one (cs_ret (ce_var (pv 0)))))
theorem sc_z10 : FnScope ["number", "sign"] ["number"] (defScope s_z10) := ⟨rfl, rfl, rfl, by decide +kernel, rfl, by decide +kernel, by decide +kernel⟩
theorem ok_z10 {P : Program} {w : World} {K : PySem.W.Frag} {h : Heap} {mg : Str → Option Value} {base : Heap} (KX : K.In h) (G : h.Ns mainGlobals mg) (c : SaysE fa fn cs ds K w) {fd : FuncData} (FD : FunD K "digits" "digits" (defArgs s_z10) (defBody s_z10) (defScope s_z10) [] [] (He.fAd K ("digits", none)) fd) : FnOk P w K mg base CX0 1 (He.fAd K ("digits", none)) fd ["number"] (spF K F_z10) := by
  unfold F_z10
  exact fnK_ok FD sc_z10 fun cdv A outer s H E hr => by
    unfold B_z10
    unfold Q_z10_1
    exact (cb_one (cs_ret (ce_lc (own := [("sign", 1)]) rfl sc_z10.nd (ci_st (ce_callTy ok_str (by rfl) (He.free_ok KX G (c.fact 18 rfl)) (by decide +kernel) (ca_cons (ce_var (pv 0)) ca_nil))) (blkOk_by (own := [("sign", 1)]) (N := ["number", "sign"]) (sc := defScope s_z10) (by decide +kernel)) (fun _ _ _ _ _ => (cgw_of (vs := [1]) (pg_name (i := 1) sc_z10.nd rfl (by first | exact Or.inl rfl | exact Or.inr rfl)) (by decide))) (fun _ _ _ _ _ => cts_nil) (fun _ _ _ _ _ => (ce_callB ok_ord (by rfl) (He.free_ok KX G (c.fact 19 rfl)) (by decide +kernel) (ca_cons (ce_var (pv 1)) ca_nil))))))
theorem sc_z5 : FnScope ["style", "text", "number"] ["style"] (defScope s_z5) := ⟨rfl, rfl, rfl, by decide +kernel, rfl, by decide +kernel, by decide +kernel⟩
theorem ok_z5 {P : Program} {w : World} {K : PySem.W.Frag} {h : Heap} {mg : Str → Option Value} {base : Heap} (KX : K.In h) (G : h.Ns mainGlobals mg) (c : SaysE fa fn cs ds K w) {fd : FuncData} (FD : FunD K "style_text" "style_text" (defArgs s_z5) (defBody s_z5) (defScope s_z5) [] [] (He.fAd K ("style_text", none)) fd) : FnOk P w K mg base CX0 2 (He.fAd K ("style_text", none)) fd ["style"] (spF K F_z5) := by
  obtain ⟨fd_z10, FD_z10⟩ := c.def_ 0 (d := d_z10) rfl
  have G_z10 := ok_z10 (P := P) (w := w) (base := base) KX G c FD_z10
  have b_z10 : Binds K fd_z10 ["number"] [] := FD_z10.bindsN fun _ _ _ _ _ _ us hl => match us, hl with | [_], _ => rfl
  have kp_z10 := FD_z10.kp
  unfold F_z5
  exact fnK_ok FD sc_z5 fun cdv A outer s H E hr => by
    unfold B_z5
    unfold L_z5_1
    exact (cb_cons (cs_set (ps_set (i := 1) sc_z5.nd rfl (by first | exact Or.inl rfl | exact Or.inr rfl) (ce_call G_z10 hr (by rfl) (He.glo_ok KX G (c.fact 0 rfl)) kp_z10 b_z10 (ca_cons ce_int ca_nil))))
    (cb_cons (cs_forK PassesOwn.never rfl (ci_seq (ce_var (pv 0))) (cg_of (pg_name (i := 2) sc_z5.nd rfl (by first | exact Or.inl rfl | exact Or.inr rfl)))
    (cb_one (cs_set (ps_set (i := 1) sc_z5.nd rfl (by first | exact Or.inl rfl | exact Or.inr rfl) (ce_bin ok_add (ce_bin ok_add (ce_var (pv 1)) (ce_lst (ca_cons ce_int ca_nil))) (ce_call G_z10 hr (by rfl) (He.glo_ok KX G (c.fact 0 rfl)) kp_z10 b_z10 (ca_cons (ce_var (pv 2)) ca_nil)))))))
    (cb_one (cs_ret (ce_var (pv 1))))))
theorem sc_z9 : FnScope ["style", "kinds", "before", "number", "kind"] ["style"] (defScope s_z9) := ⟨rfl, rfl, rfl, by decide +kernel, rfl, by decide +kernel, by decide +kernel⟩
theorem ok_z9 {P : Program} {w : World} {K : PySem.W.Frag} {h : Heap} {mg : Str → Option Value} {base : Heap} (KX : K.In h) (G : h.Ns mainGlobals mg) (c : SaysE fa fn cs ds K w) {fd : FuncData} (FD : FunD K "is_style" "is_style" (defArgs s_z9) (defBody s_z9) (defScope s_z9) [] [] (He.fAd K ("is_style", none)) fd) : FnOk P w K mg base CX0 2 (He.fAd K ("is_style", none)) fd ["style"] (spF K F_z9) := by
  obtain ⟨fd_z0, FD_z0⟩ := c.def_ 1 (d := d_z0) rfl
  have G_z0 := ok_z0 (P := P) (w := w) (base := base) KX G c FD_z0
  have b_z0 : Binds K fd_z0 ["number"] [] := FD_z0.bindsN fun _ _ _ _ _ _ us hl => match us, hl with | [_], _ => rfl
  have kp_z0 := FD_z0.kp
  unfold F_z9
  exact fnK_ok FD sc_z9 fun cdv A outer s H E hr => by
    unfold B_z9
    unfold L_z9_1
    exact (cb_cons (cs_setM (ps_set (i := 1) sc_z9.nd rfl (by first | exact Or.inl rfl | exact Or.inr rfl) (ce_lst ca_nil)))
    (cb_cons (cs_set (ps_set (i := 2) sc_z9.nd rfl (by first | exact Or.inl rfl | exact Or.inr rfl) ce_int))
    (cb_cons (cs_forK PassesOwn.never rfl (ci_seq (ce_var (pv 0))) (cg_of (pg_name (i := 3) sc_z9.nd rfl (by first | exact Or.inl rfl | exact Or.inr rfl)))
    (cb_cons (cs_set (ps_set (i := 4) sc_z9.nd rfl (by first | exact Or.inl rfl | exact Or.inr rfl) (ce_call G_z0 hr (by rfl) (He.glo_ok KX G (c.fact 1 rfl)) kp_z0 b_z0 (ca_cons (ce_var (pv 3)) ca_nil))))
    (cb_cons (cs_if (ct_w (cw_or (ct_cmp (ok_eq hr.units) (ce_var (pv 4)) ce_str (nomark _)) (cw_or (ct_cmp ok_in (ce_var (pv 4)) (ce_var (pv 1)) (by rfl)) (cw_or1 (ct_cmp ok_le (ce_var (pv 3)) (ce_var (pv 2)) (nomark _))))))
    (cb_one (cs_ret ce_bl))
    cb_nil)
    (cb_cons (cs_expr (ce_bm PySem.F.plainAttrs_list PySem.F.slot_list_append PySem.F.type_list_append ok_append (ce_var (pv 1)) (ca_cons (ce_var (pv 4)) ca_nil)))
    (cb_one (cs_set (ps_set (i := 2) sc_z9.nd rfl (by first | exact Or.inl rfl | exact Or.inr rfl) (ce_var (pv 3)))))))))
    (cb_one (cs_ret ce_bl)))))
theorem sc_z1 : FnScope ["_law_numbers", "_law_k", "_law_number_here", "_law_kinds", "_law_other"] ["_law_numbers"] (defScope s_z1) := ⟨rfl, rfl, rfl, by decide +kernel, rfl, by decide +kernel, by decide +kernel⟩
theorem ok_z1 {P : Program} {w : World} {K : PySem.W.Frag} {h : Heap} {mg : Str → Option Value} {base : Heap} (KX : K.In h) (G : h.Ns mainGlobals mg) (c : SaysE fa fn cs ds K w) {fd : FuncData} (FD : FunD K "_law_is_style" "_law_is_style" (defArgs s_z1) (defBody s_z1) (defScope s_z1) [] [] (He.fAd K ("_law_is_style", none)) fd) : FnOk P w K mg base CX0 2 (He.fAd K ("_law_is_style", none)) fd ["_law_numbers"] (spF K F_z1) := by
  obtain ⟨fd_z8, FD_z8⟩ := c.def_ 9 (d := d_z8) rfl
  have G_z8 := ok_z8 (P := P) (w := w) (base := base) KX G c FD_z8
  have b_z8 : Binds K fd_z8 ["_law_number_here"] [] := FD_z8.bindsN fun _ _ _ _ _ _ us hl => match us, hl with | [_], _ => rfl
  have kp_z8 := FD_z8.kp
  unfold F_z1
  exact fnK_ok FD sc_z1 fun cdv A outer s H E hr => by
    unfold B_z1
    unfold L_z1_1 Q_z1_1
    exact (cb_cons (cs_forK PassesOwn.never rfl (ci_enT (by rfl) (He.free_ok KX G (c.fact 21 rfl)) (ce_var (pv 0))) (cg_tup rfl (cgs_cons (cg_of (pg_name (i := 1) sc_z1.nd rfl (by first | exact Or.inl rfl | exact Or.inr rfl))) (cgs_cons (cg_of (pg_name (i := 2) sc_z1.nd rfl (by first | exact Or.inl rfl | exact Or.inr rfl))) cgs_nil)))
    (cb_cons (by first | exact cs_set (cs_setLc (own := [("_law_other", 4)]) (i := 3) rfl sc_z1.nd rfl rfl (sw_true rfl rfl rfl (by decide +kernel)) (ci_seq (ce_sl (ce_var (pv 0)) co_none (co_some (ce_var (pv 1))))) (blkOk_by (own := [("_law_other", 4)]) (N := ["_law_numbers", "_law_k", "_law_number_here", "_law_kinds", "_law_other"]) (sc := defScope s_z1) (by decide +kernel)) (fun _ _ _ _ _ => (cgw_of (vs := [4]) (pg_name (i := 4) sc_z1.nd rfl (by first | exact Or.inl rfl | exact Or.inr rfl)) (by decide))) (fun _ _ _ _ _ => cts_nil) (fun _ _ _ _ _ => (ce_call G_z8 hr (by rfl) (He.glo_ok KX G (c.fact 10 rfl)) kp_z8 b_z8 (ca_cons (ce_var (pv 4)) ca_nil)))) | exact cs_set (ps_set (i := 3) sc_z1.nd rfl (by first | exact Or.inl rfl | exact Or.inr rfl) (ce_lc (own := [("_law_other", 4)]) rfl sc_z1.nd (ci_seq (ce_sl (ce_var (pv 0)) co_none (co_some (ce_var (pv 1))))) (blkOk_by (own := [("_law_other", 4)]) (N := ["_law_numbers", "_law_k", "_law_number_here", "_law_kinds", "_law_other"]) (sc := defScope s_z1) (by decide +kernel)) (fun _ _ _ _ _ => (cgw_of (vs := [4]) (pg_name (i := 4) sc_z1.nd rfl (by first | exact Or.inl rfl | exact Or.inr rfl)) (by decide))) (fun _ _ _ _ _ => cts_nil) (fun _ _ _ _ _ => (ce_call G_z8 hr (by rfl) (He.glo_ok KX G (c.fact 10 rfl)) kp_z8 b_z8 (ca_cons (ce_var (pv 4)) ca_nil))))))
    (cb_one (cs_if (ct_w (cw_or (ct_cmp (ok_eq hr.units) (ce_call G_z8 hr (by rfl) (He.glo_ok KX G (c.fact 10 rfl)) kp_z8 b_z8 (ca_cons (ce_var (pv 2)) ca_nil)) ce_str (nomark _)) (cw_or (ct_cmp ok_in (ce_call G_z8 hr (by rfl) (He.glo_ok KX G (c.fact 10 rfl)) kp_z8 b_z8 (ca_cons (ce_var (pv 2)) ca_nil)) (ce_var (pv 3)) (by rfl)) (cw_or1 (ct_w (cw_and (ct_cmp ok_gt (ce_var (pv 1)) ce_int (nomark _)) (cw_and1 (ct_cmp ok_ge (ce_ix (ce_var (pv 0)) (ce_bin ok_sub (ce_var (pv 1)) ce_int) (fun _ _ => rfl)) (ce_var (pv 2)) (nomark _)))))))))
    (cb_one (cs_ret ce_bl))
    cb_nil))))
    (cb_one (cs_ret ce_bl)))
theorem sc_law : FnScope ["_law_script", "_law_gone", "_law_kept", "_law_style", "_law_numbers", "_law_number_here", "_law_text", "_law_few", "_law_cell_here", "_law_kind_here"] ["_law_script"] (defScope s_law) := ⟨rfl, rfl, rfl, by decide +kernel, rfl, by decide +kernel, by decide +kernel⟩
theorem ok_law {P : Program} {w : World} {K : PySem.W.Frag} {h : Heap} {mg : Str → Option Value} {base : Heap} (KX : K.In h) (G : h.Ns mainGlobals mg) (c : SaysE fa fn cs ds K w) {fd : FuncData} (FD : FunD K "law" "law" (defArgs s_law) (defBody s_law) (defScope s_law) [] [] (He.fAd K ("law", none)) fd) : FnOk P w K mg base CX0 5 (He.fAd K ("law", none)) fd ["_law_script"] (spF K F_law) := by
  obtain ⟨fd_z3, FD_z3⟩ := c.def_ 10 (d := d_z3) rfl
  have G_z3 := ok_z3 (P := P) (w := w) (base := base) KX G c FD_z3
  have b_z3 : Binds K fd_z3 ["_law_cell_here"] [] := FD_z3.bindsN fun _ _ _ _ _ _ us hl => match us, hl with | [_], _ => rfl
  have kp_z3 := FD_z3.kp
  obtain ⟨fd_z12, FD_z12⟩ := c.def_ 4 (d := d_z12) rfl
  have G_z12 := ok_z12 (P := P) (w := w) (base := base) KX G c FD_z12
  have b_z12 : Binds K fd_z12 ["style", "number"] [] := FD_z12.bindsN fun _ _ _ _ _ _ us hl => match us, hl with | [_, _], _ => rfl
  have kp_z12 := FD_z12.kp
  obtain ⟨fd_z0, FD_z0⟩ := c.def_ 1 (d := d_z0) rfl
  have G_z0 := ok_z0 (P := P) (w := w) (base := base) KX G c FD_z0
  have b_z0 : Binds K fd_z0 ["number"] [] := FD_z0.bindsN fun _ _ _ _ _ _ us hl => match us, hl with | [_], _ => rfl
  have kp_z0 := FD_z0.kp
  obtain ⟨fd_z8, FD_z8⟩ := c.def_ 9 (d := d_z8) rfl
  have G_z8 := ok_z8 (P := P) (w := w) (base := base) KX G c FD_z8
  have b_z8 : Binds K fd_z8 ["_law_number_here"] [] := FD_z8.bindsN fun _ _ _ _ _ _ us hl => match us, hl with | [_], _ => rfl
  have kp_z8 := FD_z8.kp
  obtain ⟨fd_z4, FD_z4⟩ := c.def_ 8 (d := d_z4) rfl
  have G_z4 := ok_z4 (P := P) (w := w) (base := base) KX G c FD_z4
  have b_z4 : Binds K fd_z4 ["_law_number_here"] [] := FD_z4.bindsN fun _ _ _ _ _ _ us hl => match us, hl with | [_], _ => rfl
  have kp_z4 := FD_z4.kp
  obtain ⟨fd_z11, FD_z11⟩ := c.def_ 5 (d := d_z11) rfl
  have G_z11 := ok_z11 (P := P) (w := w) (base := base) KX G c FD_z11
  have b_z11 : Binds K fd_z11 ["style", "numbers"] [] := FD_z11.bindsN fun _ _ _ _ _ _ us hl => match us, hl with | [_, _], _ => rfl
  have kp_z11 := FD_z11.kp
  obtain ⟨fd_z5, FD_z5⟩ := c.def_ 6 (d := d_z5) rfl
  have G_z5 := ok_z5 (P := P) (w := w) (base := base) KX G c FD_z5
  have b_z5 : Binds K fd_z5 ["style"] [] := FD_z5.bindsN fun _ _ _ _ _ _ us hl => match us, hl with | [_], _ => rfl
  have kp_z5 := FD_z5.kp
  obtain ⟨fd_z9, FD_z9⟩ := c.def_ 2 (d := d_z9) rfl
  have G_z9 := ok_z9 (P := P) (w := w) (base := base) KX G c FD_z9
  have b_z9 : Binds K fd_z9 ["style"] [] := FD_z9.bindsN fun _ _ _ _ _ _ us hl => match us, hl with | [_], _ => rfl
  have kp_z9 := FD_z9.kp
  obtain ⟨fd_z1, FD_z1⟩ := c.def_ 11 (d := d_z1) rfl
  have G_z1 := ok_z1 (P := P) (w := w) (base := base) KX G c FD_z1
  have b_z1 : Binds K fd_z1 ["_law_numbers"] [] := FD_z1.bindsN fun _ _ _ _ _ _ us hl => match us, hl with | [_], _ => rfl
  have kp_z1 := FD_z1.kp
  unfold F_law
  exact fnK_ok FD sc_law fun cdv A outer s H E hr => by
    unfold B_law
    unfold L_law_2 L_law_1 Q_law_1
    exact (cb_cons (cs_set (ps_set (i := 1) sc_law.nd rfl (by first | exact Or.inl rfl | exact Or.inr rfl) (ce_disp (cp_cons ce_int ce_str (cp_cons ce_int ce_str (cp_cons ce_int ce_str (cp_cons ce_int ce_str (cp_cons ce_int ce_str cp_nil))))) (by simp) (by decide))))
    (cb_cons (cs_setM (ps_set (i := 2) sc_law.nd rfl (by first | exact Or.inl rfl | exact Or.inr rfl) ce_dnew))
    (cb_cons (cs_set (ps_set (i := 3) sc_law.nd rfl (by first | exact Or.inl rfl | exact Or.inr rfl) (ce_tup ca_nil)))
    (cb_cons (by first | exact cs_set (cs_setLc (own := [("_law_cell_here", 8)]) (i := 4) rfl sc_law.nd rfl rfl (sw_true rfl rfl rfl (by decide +kernel)) (ci_seq (ce_var (pv 0))) (blkOk_by (own := [("_law_cell_here", 8)]) (N := ["_law_script", "_law_gone", "_law_kept", "_law_style", "_law_numbers", "_law_number_here", "_law_text", "_law_few", "_law_cell_here", "_law_kind_here"]) (sc := defScope s_law) (by decide +kernel)) (fun _ _ _ _ _ => (cgw_of (vs := [8]) (pg_name (i := 8) sc_law.nd rfl (by first | exact Or.inl rfl | exact Or.inr rfl)) (by decide))) (fun _ _ _ _ _ => cts_nil) (fun _ _ _ _ _ => (ce_call G_z3 (hr.mono (by decide)) (by rfl) (He.glo_ok KX G (c.fact 11 rfl)) kp_z3 b_z3 (ca_cons (ce_var (pv 8)) ca_nil)))) | exact cs_set (ps_set (i := 4) sc_law.nd rfl (by first | exact Or.inl rfl | exact Or.inr rfl) (ce_lc (own := [("_law_cell_here", 8)]) rfl sc_law.nd (ci_seq (ce_var (pv 0))) (blkOk_by (own := [("_law_cell_here", 8)]) (N := ["_law_script", "_law_gone", "_law_kept", "_law_style", "_law_numbers", "_law_number_here", "_law_text", "_law_few", "_law_cell_here", "_law_kind_here"]) (sc := defScope s_law) (by decide +kernel)) (fun _ _ _ _ _ => (cgw_of (vs := [8]) (pg_name (i := 8) sc_law.nd rfl (by first | exact Or.inl rfl | exact Or.inr rfl)) (by decide))) (fun _ _ _ _ _ => cts_nil) (fun _ _ _ _ _ => (ce_call G_z3 (hr.mono (by decide)) (by rfl) (He.glo_ok KX G (c.fact 11 rfl)) kp_z3 b_z3 (ca_cons (ce_var (pv 8)) ca_nil))))))
    (cb_cons (cs_forK PassesOwn.never rfl (ci_seq (ce_var (pv 4))) (cg_of (pg_name (i := 5) sc_law.nd rfl (by first | exact Or.inl rfl | exact Or.inr rfl)))
    (cb_cons (cs_set (ps_set (i := 3) sc_law.nd rfl (by first | exact Or.inl rfl | exact Or.inr rfl) (ce_call G_z12 (hr.mono (by decide)) (by rfl) (He.glo_ok KX G (c.fact 4 rfl)) kp_z12 b_z12 (ca_cons (ce_var (pv 3)) (ca_cons (ce_var (pv 5)) ca_nil)))))
    (cb_cons (cs_if (ct_cmp (ok_ne hr.units) (ce_call G_z0 (hr.mono (by decide)) (by rfl) (He.glo_ok KX G (c.fact 1 rfl)) kp_z0 b_z0 (ca_cons (ce_var (pv 5)) ca_nil)) (ce_call G_z8 (hr.mono (by decide)) (by rfl) (He.glo_ok KX G (c.fact 10 rfl)) kp_z8 b_z8 (ca_cons (ce_var (pv 5)) ca_nil)) (nomark _))
    (cb_one (cs_ret ce_bl))
    cb_nil)
    (cb_cons (cs_if (ct_cmp (ok_eq hr.units) (ce_var (pv 5)) ce_int (nomark _))
    (cb_one (cs_setM (ps_set (i := 2) sc_law.nd rfl (by first | exact Or.inl rfl | exact Or.inr rfl) ce_dnew)))
    (cb_one (cs_if (ct_pc (pc_in_of (hu_of hr) (ce_var (pv 5)) (ce_var (pv 1))) (by rfl))
    (cb_one (cs_dset (hu_of hr) (ce_var (pv 2)) (ce_dget (hu_of hr) (ce_var (pv 1)) (ce_var (pv 5)) (fun _ _ => rfl)) ce_int))
    (cb_one (cs_if (ct_cmp (ok_ne hr.units) (ce_call G_z8 (hr.mono (by decide)) (by rfl) (He.glo_ok KX G (c.fact 10 rfl)) kp_z8 b_z8 (ca_cons (ce_var (pv 5)) ca_nil)) ce_str (nomark _))
    (cb_one (cs_dset (hu_of hr) (ce_var (pv 2)) (ce_call G_z8 (hr.mono (by decide)) (by rfl) (He.glo_ok KX G (c.fact 10 rfl)) kp_z8 b_z8 (ca_cons (ce_var (pv 5)) ca_nil)) (ce_var (pv 5))))
    cb_nil)))))
    (cb_one (cs_if (ct_w (cw_or (ct_cmp (ok_ne hr.units) (ce_var (pv 3)) (ce_callTy ok_tuple (by rfl) (He.free_ok KX G (c.fact 16 rfl)) (by decide +kernel) (ca_cons (ce_callB ok_sorted (by rfl) (He.free_ok KX G (c.fact 17 rfl)) (by decide +kernel) (ca_cons (ce_dpos (i := 2) (j := 9) (y := "_law_kind_here") (by decide) (hu_of hr) rfl sc_law.nd (pv 2) (blkOk_by (own := [("_law_kind_here", 9)]) (N := ["_law_script", "_law_gone", "_law_kept", "_law_style", "_law_numbers", "_law_number_here", "_law_text", "_law_few", "_law_cell_here", "_law_kind_here"]) (sc := defScope s_law) (by decide +kernel)) (fun _ _ _ _ _ => hu_of hr) (fun _ _ _ _ _ => pg_name (i := 9) sc_law.nd rfl (by first | exact Or.inl rfl | exact Or.inr rfl)) (fun _ _ _ _ _ => ⟨pv 2, pv 9⟩) (fun _ _ _ _ _ => ⟨pv 2, pv 9⟩) (fun _ _ => rfl) (fun _ _ => rfl) rfl) ca_nil)) ca_nil)) (nomark _)) (cw_or1 (ct_not (ct_truth (ce_call G_z9 (hr.mono (by decide)) (by rfl) (He.glo_ok KX G (c.fact 2 rfl)) kp_z9 b_z9 (ca_cons (ce_var (pv 3)) ca_nil)) (fun _ => rfl))))))
    (cb_one (cs_ret ce_bl))
    cb_nil))))))
    (cb_cons (cs_set (ps_set (i := 6) sc_law.nd rfl (by first | exact Or.inl rfl | exact Or.inr rfl) (ce_lst (ca_cons ce_int ca_nil))))
    (cb_cons (cs_forK PassesOwn.never rfl (ci_seq (ce_var (pv 3))) (cg_of (pg_name (i := 5) sc_law.nd rfl (by first | exact Or.inl rfl | exact Or.inr rfl)))
    (cb_one (cs_set (ps_set (i := 6) sc_law.nd rfl (by first | exact Or.inl rfl | exact Or.inr rfl) (ce_bin ok_add (ce_bin ok_add (ce_var (pv 6)) (ce_lst (ca_cons ce_int ca_nil))) (ce_call G_z4 (hr.mono (by decide)) (by rfl) (He.glo_ok KX G (c.fact 9 rfl)) kp_z4 b_z4 (ca_cons (ce_var (pv 5)) ca_nil)))))))
    (cb_cons (cs_if (ct_w (cw_or (ct_cmp (ok_ne hr.units) (ce_call G_z11 hr (by rfl) (He.glo_ok KX G (c.fact 5 rfl)) kp_z11 b_z11 (ca_cons (ce_tup ca_nil) (ca_cons (ce_var (pv 4)) ca_nil))) (ce_var (pv 3)) (nomark _)) (cw_or1 (ct_cmp (ok_ne hr.units) (ce_call G_z5 (hr.mono (by decide)) (by rfl) (He.glo_ok KX G (c.fact 6 rfl)) kp_z5 b_z5 (ca_cons (ce_var (pv 3)) ca_nil)) (ce_var (pv 6)) (nomark _)))))
    (cb_one (cs_ret ce_bl))
    cb_nil)
    (cb_cons (cs_set (ps_set (i := 7) sc_law.nd rfl (by first | exact Or.inl rfl | exact Or.inr rfl) (ce_callTy ok_tuple (by rfl) (He.free_ok KX G (c.fact 16 rfl)) (by decide +kernel) (ca_cons (ce_sl (ce_var (pv 4)) co_none (co_some ce_int)) ca_nil))))
    (cb_one (cs_ret (ce_and (ce_cmp (ok_eq hr.units) (ce_call G_z9 (hr.mono (by decide)) (by rfl) (He.glo_ok KX G (c.fact 2 rfl)) kp_z9 b_z9 (ca_cons (ce_var (pv 7)) ca_nil)) (ce_call G_z1 (hr.mono (by decide)) (by rfl) (He.glo_ok KX G (c.fact 12 rfl)) kp_z1 b_z1 (ca_cons (ce_var (pv 7)) ca_nil)) (nomark _)) (ce_one (ce_cmp (ok_eq hr.units) (ce_call G_z11 hr (by rfl) (He.glo_ok KX G (c.fact 5 rfl)) kp_z11 b_z11 (ca_cons (ce_var (pv 3)) (ca_cons (ce_tup ca_nil) ca_nil))) (ce_var (pv 3)) (nomark _)))))))))))))))
theorem facts {P : Program} {w : World} {K : PySem.W.Frag} {h : Heap} {mg : Str → Option Value} {f : Addr} (X : K.In h) (G : h.Ns mainGlobals mg) (hfa : mg ("law" : Str) = some (.ref f)) (c : SaysE fa fn cs ds K w) :
    ∃ fd : FuncData, (∀ (s : Shared) (v : Value), BindsTo s fd ⟨[v], []⟩ [("_law_script", v)]) ∧ ∀ base : Heap, K.In base → base.Ns mainGlobals mg → FnOk P w K mg base CX0 5 f fd ["_law_script"] (spF K F_law) := by
  obtain ⟨fd, FD⟩ := c.def_ 12 (d := d_law) rfl
  have e := hfa.symm.trans (He.glo_ok X G (c.fact 13 rfl))
  cases e
  have b := FunD.bindsA (ps := ["_law_script"]) FD fun _ _ _ _ _ _ us hl => match us, hl with | [_], _ => rfl
  exact ⟨fd, fun s v => b s [v] rfl, fun base _ _ => ok_law X G c FD⟩
end K00
open PySem PySem.W PySem.Calls PyProof.Rows
theorem PySem.Challenge.cw_fardesk_k00_screens_styles_holds : PySem.Challenge.rw_fardesk_k00_screens_styles.Holds := by
  w_on; o_law
  refine HandSHeadRun.head_any (r := OpenLaw.row PySem.Challenge.rw_fardesk_k00_screens_styles) (q := view (OpenLaw.row PySem.Challenge.rw_fardesk_k00_screens_styles).prog [17]) (H := K00.hk) (ob := K00.ob) (M := 20000) (loose := K00.loose) (d := HandSHeadRun.topDef (OpenLaw.row PySem.Challenge.rw_fardesk_k00_screens_styles).prog 17) (kwd := []) K00.ob_eq
    (by kernel_rfl) (fun s => by kernel_rfl) K00.run (by kernel_rfl) (by kernel_rfl) (by kernel_rfl) (by rfl) (by first | assumption | decide +kernel) (by decide +kernel) ⟨rfl, rfl, rfl, rfl, rfl, by decide +kernel⟩ ?hw ?hc
  case hw => w_witness2
  case hc =>
    refine L2.walk_ofE (l := PySem.Challenge.rw_fardesk_k00_screens_styles) (n := 63) (k := 5) (x := "_law_script") (CX := L2.CX0) rfl (by decide) (by kernel_rfl) ⟨rfl, by decide, by decide⟩ ?F (fun _ _ _ _ z => z)
    intro w mg fa h Y G hmg0
    obtain ⟨K, KX, c⟩ := Y
    have hmg : mg ("law" : PySem.Str) = some (.ref fa) := by
      have e : (HandSHeadRun.topDef (OpenLaw.row PySem.Challenge.rw_fardesk_k00_screens_styles).prog 17).name = ("law" : PySem.Str) := by kernel_rfl
      rw [← e]
      exact hmg0
    obtain ⟨fd, hb, hF⟩ := K00.facts (P := (PySem.Challenge.rw_fardesk_k00_screens_styles).prog) (w := w) KX G hmg c
    exact ⟨K, fd, _, KX, hb, CI.law_sp K00.law_true, hF⟩
