import PyProof.Rows.All
import Wide.All
import OpenK.AllK
import Wide.FinOn
import PySem.Challenge.RW_comersline_k33_least_patiences_by_all
import HandS.ForMost
import HandS.ForExc
import HandS.More
import HandS.Wide
import HandS.Flow
import HandS.Style
import HandS.IsInst
import HandS.Conv
import HandS.Walk
import HandS.SortInts
import HandS.NoneIn
import KE.GoesEnum
import PyProof.ReprRoads
import PyProof.CallFns
import HandS.WideBits
import HandS.Iter
import HandS.SetFor
import HandS.TryOnly
import HandS.ExcIs
import HandS.WordsExc
import PyProof.ReprBulk
import HandS.Hot
import HandS.HotCalls
import HandS.OwnEq
import HandS.Text
import HandS.Codes
import PyProof.DictMoreH
import HandS.SetKeys
set_option Elab.async false
set_option linter.all false
set_option maxRecDepth 100000
set_option maxHeartbeats 4000000
namespace DL
open PySem L2
section
/-! DL, part a: data over the abstract heap; what a run keeps. -/

/-- things that are only looked at: an empty dict; a caught error of the class at C -/
inductive Ob where
  | dic | exc (C : Addr)
/-- a caught error's object -/
def exV (C a : Addr) : HO := .ext fun h => ∃ oe vs, h.get? a = some oe ∧ Zc (.ref C) none oe ∧ oe.data = .fields vs
def obO : Ob → Addr → HO
  | .dic, _ => .dK []
  | .exc C, a => exV C a
/-- data -/
inductive Dt where
  | non | bl (b : Bool) | int (i : Int) | str (x : Str) | lst (ds : List Dt) | tup (ds : List Dt) | ins (C : Addr) (ns : List Str) (ds : List Dt) | ob (k : Ob)

mutual
inductive Dv (K : PySem.W.Frag) (H : Hp) : V → Dt → Prop
  | non : Dv K H .non .non
  | bl (b : Bool) : Dv K H (.bl b) (.bl b)
  | int (i : Int) : Dv K H (.int i) (.int i)
  | str (x : Str) : Dv K H (.str x) (.str x)
  | lst {a : Addr} {xs : List V} {ds : List Dt} : H a = some (.lst xs) → Dvs K H xs ds → Dv K H (.ref a) (.lst ds)
  | tup {a : Addr} {xs : List V} {ds : List Dt} : H a = some (.tup xs) → Dvs K H xs ds → Dv K H (.ref a) (.tup ds)
  | ins {a C dx : Addr} {ns : List Str} {xs : List V} {ds : List Dt} : H a = some (.ins C dx (ns.zip xs)) → ns.length = xs.length → Dvs K H xs ds → Dv K H (.ref a) (.ins C ns ds)
  | ob {a : Addr} {k : Ob} : H a = some (obO k a) → Dv K H (.ref a) (.ob k)
inductive Dvs (K : PySem.W.Frag) (H : Hp) : List V → List Dt → Prop
  | nil : Dvs K H [] []
  | cons {v : V} {vs : List V} {d : Dt} {ds : List Dt} : Dv K H v d → Dvs K H vs ds → Dvs K H (v :: vs) (d :: ds)
end
theorem sqT_up {K : PySem.W.Frag} {H H' : Hp} {a : Addr} {xs : List V} (e : Same H H') (h : SqT K H a xs) : SqT K H' a xs := by
  rcases h with (h | ⟨o, h⟩) | h
  · exact .inl (.inl (e _ _ h))
  · exact .inl (.inr ⟨o, e _ _ h⟩)
  · exact .inr h
section
variable {K : PySem.W.Frag} {H H' : Hp}
mutual
theorem Dv.up (e : Same H H') : ∀ (d : Dt) (v : V), Dv K H v d → Dv K H' v d
  | .non, _, h => by cases h; exact .non
  | .bl b, _, h => by cases h; exact .bl b
  | .int i, _, h => by cases h; exact .int i
  | .str x, _, h => by cases h; exact .str x
  | .lst ds, _, h => by
    cases h with
    | lst hs ha => exact .lst (e _ _ hs) (Dvs.up e ds _ ha)
  | .tup ds, _, h => by
    cases h with
    | tup hs ha => exact .tup (e _ _ hs) (Dvs.up e ds _ ha)
  | .ins C ns ds, _, h => by
    cases h with
    | ins hs hl ha => exact .ins (e _ _ hs) hl (Dvs.up e ds _ ha)
  | .ob k, _, h => by
    cases h with
    | ob hs => exact .ob (e _ _ hs)
theorem Dvs.up (e : Same H H') : ∀ (ds : List Dt) (vs : List V), Dvs K H vs ds → Dvs K H' vs ds
  | [], _, h => by cases h; exact .nil
  | d :: ds, _, h => by
    cases h with
    | cons h1 h2 => exact .cons (Dv.up e d _ h1) (Dvs.up e ds _ h2)
end
theorem Dvs.len : ∀ {vs : List V} {ds : List Dt}, Dvs K H vs ds → vs.length = ds.length
  | _, _, .nil => rfl
  | _, _, .cons _ t => by rw [List.length_cons, List.length_cons, Dvs.len t]
theorem Dvs.get : ∀ {vs : List V} {ds : List Dt} {i : Nat} {d : Dt}, Dvs K H vs ds → ds[i]? = some d → ∃ v, vs[i]? = some v ∧ Dv K H v d
  | _, _, _, _, .nil, e => by simp at e
  | _, _, 0, _, .cons r _, e => by simp at e; subst e; exact ⟨_, rfl, r⟩
  | _, _, i + 1, d, .cons _ t, e => by
    obtain ⟨u, h1, h2⟩ := Dvs.get (i := i) (d := d) t (by simpa using e)
    exact ⟨u, by simpa using h1, h2⟩
theorem Dvs.getV : ∀ {vs : List V} {ds : List Dt} {i : Nat} {v : V}, Dvs K H vs ds → vs[i]? = some v → ∃ d, ds[i]? = some d ∧ Dv K H v d
  | _, _, _, _, .nil, e => by simp at e
  | _, _, 0, _, .cons r _, e => by simp at e; subst e; exact ⟨_, rfl, r⟩
  | _, _, i + 1, d, .cons _ t, e => by
    obtain ⟨u, h1, h2⟩ := Dvs.getV (i := i) (v := d) t (by simpa using e)
    exact ⟨u, by simpa using h1, h2⟩
theorem Dvs.app : ∀ {vs ws : List V} {ds es : List Dt}, Dvs K H vs ds → Dvs K H ws es → Dvs K H (vs ++ ws) (ds ++ es)
  | _, _, _, _, .nil, s => s
  | _, _, _, _, .cons r t, s => .cons r (Dvs.app t s)
theorem Dvs.one {v : V} {d : Dt} (h : Dv K H v d) : Dvs K H [v] [d] := .cons h .nil
theorem Dvs.set {v : V} {d : Dt} (r : Dv K H v d) : ∀ {vs : List V} {ds : List Dt} (i : Nat), Dvs K H vs ds → Dvs K H (vs.set i v) (ds.set i d)
  | _, _, _, .nil => .nil
  | _, _, 0, .cons _ t => .cons r t
  | _, _, i + 1, .cons q t => .cons q (Dvs.set r i t)
theorem Dvs.take : ∀ {vs : List V} {ds : List Dt} (n : Nat), Dvs K H vs ds → Dvs K H (vs.take n) (ds.take n)
  | _, _, 0, _ => .nil
  | _, _, _ + 1, .nil => .nil
  | _, _, n + 1, .cons r t => .cons r (Dvs.take n t)
theorem Dvs.drop : ∀ {vs : List V} {ds : List Dt} (n : Nat), Dvs K H vs ds → Dvs K H (vs.drop n) (ds.drop n)
  | _, _, 0, r => r
  | _, _, _ + 1, .nil => .nil
  | _, _, n + 1, .cons _ t => Dvs.drop n t
theorem Dvs.era : ∀ {vs : List V} {ds : List Dt} (n : Nat), Dvs K H vs ds → Dvs K H (vs.eraseIdx n) (ds.eraseIdx n)
  | _, _, _, .nil => .nil
  | _, _, 0, .cons _ t => t
  | _, _, n + 1, .cons r t => .cons r (Dvs.era n t)
theorem Dvs.rev : ∀ {vs : List V} {ds : List Dt}, Dvs K H vs ds → Dvs K H vs.reverse ds.reverse
  | _, _, .nil => .nil
  | _, _, .cons r t => by rw [List.reverse_cons, List.reverse_cons]; exact (Dvs.rev t).app (.one r)
theorem Dvs.rep {v : V} {d : Dt} (h : Dv K H v d) : ∀ n : Nat, Dvs K H (List.replicate n v) (List.replicate n d)
  | 0 => .nil
  | n + 1 => .cons h (Dvs.rep h n)
theorem Dvs.ints : ∀ ns : List Int, Dvs K H (ns.map V.int) (ns.map Dt.int)
  | [] => .nil
  | n :: ns => .cons (.int n) (Dvs.ints ns)
theorem Dvs.ofInts : ∀ {ns : List Int} {vs : List V}, Dvs K H vs (ns.map Dt.int) → vs = ns.map V.int
  | [], _, h => by cases h; rfl
  | n :: ns, _, h => by
    cases h with
    | cons h1 h2 => cases h1; rw [Dvs.ofInts h2]; rfl
theorem Dvs.ofBls : ∀ {ns : List Bool} {vs : List V}, Dvs K H vs (ns.map Dt.bl) → vs = ns.map V.bl
  | [], _, h => by cases h; rfl
  | n :: ns, _, h => by
    cases h with
    | cons h1 h2 => cases h1; rw [Dvs.ofBls h2]; rfl
theorem Dvs.ofStrs : ∀ {ns : List Str} {vs : List V}, Dvs K H vs (ns.map Dt.str) → vs = ns.map V.str
  | [], _, h => by cases h; rfl
  | n :: ns, _, h => by
    cases h with
    | cons h1 h2 => cases h1; rw [Dvs.ofStrs h2]; rfl
end
theorem same_new {H : Hp} {p : Addr} {o : HO} (h : H p = none) : Same H (upd H p o) := fun b x e => by
  rw [upd_ne (ne_of_none e h)]
  exact e

/-! ### slots -/
/-- an owned thing: what is true of it, its cells -/
structure Wd where
  W : PySem.W.Frag → Hp → Hp → V → List Addr → Prop
  st : ∀ {K : PySem.W.Frag} {G G' H H' : Hp} {v : V} {fp : List Addr}, W K G H v fp → Same G G' → (∀ a ∈ fp, ∀ o, H a = some o → H' a = some o) → W K G' H' v fp
inductive Sl where
  | no
  | d (d : Dt)
  | w (q : Bool) (W : Wd)
/-- an owned list of data -/
def lw (ds : List Dt) : Wd where
  W := fun K G H v fp => ∃ p xs, v = .ref p ∧ fp = [p] ∧ H p = some (.lst xs) ∧ Dvs K G xs ds
  st := by
    rintro K G G' H H' v fp ⟨p, xs, rfl, rfl, h, hd⟩ e k
    exact ⟨p, xs, rfl, rfl, k p (List.mem_singleton.mpr rfl) _ h, hd.up e⟩
abbrev Sl.l (ds : List Dt) : Sl := .w false (lw ds)
/-- what a run goes out from: the written part, the cells that may be written, what is known, the heap -/
structure Cc (K : PySem.W.Frag) where
  bs : List Addr
  ls : List Addr
  vs : List V
  G0 : Hp
  H0 : Hp
/-- new since the start, or one's own -/
def Cc.nu {K : PySem.W.Frag} (C : Cc K) (a : Addr) : Prop := C.H0 a = none ∨ a ∈ C.ls

def SlotOk {K : PySem.W.Frag} (C : Cc K) (G H : Hp) (σ : St) (i : Nat) (fp : List Addr) : Sl → Prop
  | .no => True
  | .d d => ∃ v, σ[i]? = some (some v) ∧ Dv K G v d
  | .w q W => ∃ v, σ[i]? = some (some v) ∧ W.W K G H v fp ∧ (q = true → C.vs[i]? = some v) ∧ (q = false → ∀ a ∈ fp, C.nu a)

structure Ok {K : PySem.W.Frag} (C : Cc K) (G H : Hp) (σ : St) (ρ : List Sl) (fp : Nat → List Addr) : Prop where
  e0 : Same C.G0 G
  e1 : Same G H
  nw : ∀ a o, G a = some o → C.G0 a = some o ∨ C.nu a
  fr : ∀ a o, a ∉ C.bs → C.H0 a = some o → H a = some o
  dm : ∀ a, H a = none → C.H0 a = none
  len : ρ.length = σ.length
  sl : ∀ i s, ρ[i]? = some s → SlotOk C G H σ i (fp i) s
  em : ∀ i, (∀ q W, ρ[i]? ≠ some (.w q W)) → fp i = []
  dj : ∀ i j a, a ∈ fp i → a ∈ fp j → i = j
  fo : ∀ i a, a ∈ fp i → G a = none ∧ (∃ o, H a = some o) ∧ (C.H0 a = none ∨ a ∈ C.bs)

/-- a value beside the slots -/
structure OkV {K : PySem.W.Frag} (C : Cc K) (G H : Hp) (σ : St) (ρ : List Sl) (fp : Nat → List Addr) (v : V) (fv : List Addr) (s : Sl) : Prop where
  ok : Ok C G H σ ρ fp
  va : match s with
    | .no => fv = []
    | .d d => fv = [] ∧ Dv K G v d
    | .w q W => W.W K G H v fv ∧ (q = false → ∀ a ∈ fv, C.nu a)
  dj : ∀ i a, a ∈ fp i → a ∉ fv
  fo : ∀ a, a ∈ fv → G a = none ∧ (∃ o, H a = some o) ∧ (C.H0 a = none ∨ a ∈ C.bs)

section
variable {K : PySem.W.Frag} {C : Cc K} {G H G' H' : Hp} {σ : St} {ρ : List Sl} {fp : Nat → List Addr}
theorem SlotOk.up {i : Nat} {f : List Addr} {s : Sl} (h : SlotOk C G H σ i f s) (e : Same G G') (k : ∀ a ∈ f, ∀ o, H a = some o → H' a = some o) : SlotOk C G' H' σ i f s := by
  cases s with
  | no => exact trivial
  | d d =>
    obtain ⟨v, h1, h2⟩ := h
    exact ⟨v, h1, Dv.up e d v h2⟩
  | w q W =>
    obtain ⟨v, h1, h2, h3⟩ := h
    exact ⟨v, h1, W.st h2 e k, h3⟩
/-- nothing that stood is changed; what is known grows by what is new -/
theorem Ok.grow (O : Ok C G H σ ρ fp) (e : Same G G') (e1 : Same G' H') (n : ∀ a o, G' a = some o → G a = some o ∨ H a = none) (k : Same H H') : Ok C G' H' σ ρ fp where
  e0 := O.e0.trans e
  e1 := e1
  nw := fun a o h => by
    rcases n a o h with z | z
    · exact O.nw a o z
    · exact .inr (.inl (O.dm a z))
  fr := fun a o h1 h2 => k a o (O.fr a o h1 h2)
  dm := fun a h => by
    refine O.dm a ?_
    exact k.free h
  len := O.len
  sl := fun i s h => (O.sl i s h).up e fun a _ o q => k a o q
  em := O.em
  dj := O.dj
  fo := fun i a h => by
    obtain ⟨h1, ⟨o, h2⟩, h3⟩ := O.fo i a h
    refine ⟨?_, ⟨o, k a o h2⟩, h3⟩
    cases q : G' a with
    | none => rfl
    | some u =>
      rcases n a u q with z | z
      · rw [h1] at z; cases z
      · rw [h2] at z; cases z
/-- a new object, known -/
theorem Ok.new {p : Addr} {o : HO} (O : Ok C G H σ ρ fp) (h : H p = none) : Ok C (upd G p o) (upd H p o) σ ρ fp := by
  have hG : G p = none := O.e1.free h
  refine O.grow (same_new hG) ?_ ?_ (same_new h)
  · intro a u q
    by_cases e : a = p
    · subst e; rw [upd_same] at q ⊢; exact q
    · rw [upd_ne e] at q ⊢; exact O.e1 a u q
  · intro a u q
    by_cases e : a = p
    · subst e; exact .inr h
    · rw [upd_ne e] at q; exact .inl q
/-- a new object, not known -/
theorem Ok.scr {p : Addr} {o : HO} (O : Ok C G H σ ρ fp) (h : H p = none) : Ok C G (upd H p o) σ ρ fp :=
  O.grow (Same.refl G) (O.e1.trans (same_new h)) (fun _ _ q => .inl q) (same_new h)
theorem Ok.lt (O : Ok C G H σ ρ fp) {i : Nat} {s : Sl} (h : ρ[i]? = some s) : i < σ.length := by
  rw [← O.len]; exact (List.getElem?_eq_some_iff.mp h).1
/-- a slot is stored -/
def asgOk (ρ : List Sl) (i : Nat) : Bool := match ρ[i]? with
  | some (.w q _) => !q
  | some _ => true
  | none => false
def fpSet (fp : Nat → List Addr) (i : Nat) (fv : List Addr) : Nat → List Addr := fun j => if j = i then fv else fp j
theorem OkV.store {v : V} {fv : List Addr} {s : Sl} {i : Nat} (O : OkV C G H σ ρ fp v fv s) (ha : asgOk ρ i = true) (hs : ∀ W, s ≠ .w true W) : Ok C G H (σ.set i (some v)) (ρ.set i s) (fpSet fp i fv) where
  e0 := O.ok.e0
  e1 := O.ok.e1
  nw := O.ok.nw
  fr := O.ok.fr
  dm := O.ok.dm
  len := by rw [List.length_set, List.length_set]; exact O.ok.len
  sl := fun j t h => by
    have hi : i < ρ.length := by
      cases q : ρ[i]? with
      | none => unfold asgOk at ha; rw [q] at ha; cases ha
      | some z => exact (List.getElem?_eq_some_iff.mp q).1
    have hσ : i < σ.length := by rw [← O.ok.len]; exact hi
    by_cases e : j = i
    · subst e
      rw [List.getElem?_set_self hi] at h
      cases h
      have g : (σ.set j (some v))[j]? = some (some v) := List.getElem?_set_self hσ
      unfold fpSet
      rw [if_pos rfl]
      have va := O.va
      cases s with
      | no => exact trivial
      | d d => exact ⟨v, g, va.2⟩
      | w q W =>
        refine ⟨v, g, va.1, fun hq => ?_, va.2⟩
        subst hq
        exact absurd rfl (hs W)
    · rw [List.getElem?_set_ne (Ne.symm e)] at h
      unfold fpSet
      rw [if_neg e]
      have z := O.ok.sl j t h
      have g : (σ.set i (some v))[j]? = σ[j]? := List.getElem?_set_ne (Ne.symm e)
      cases t with
      | no => exact trivial
      | d d => obtain ⟨u, h1, h2⟩ := z; exact ⟨u, g.trans h1, h2⟩
      | w q W => obtain ⟨u, h1, h2⟩ := z; exact ⟨u, g.trans h1, h2⟩
  em := fun j h => by
    unfold fpSet
    by_cases e : j = i
    · subst e
      rw [if_pos rfl]
      have hi : j < ρ.length := by
        cases q : ρ[j]? with
        | none => unfold asgOk at ha; rw [q] at ha; cases ha
        | some z => exact (List.getElem?_eq_some_iff.mp q).1
      have va := O.va
      cases s with
      | no => exact va
      | d d => exact va.1
      | w q W => exact absurd (List.getElem?_set_self hi) (h q W)
    · rw [if_neg e]
      refine O.ok.em j fun q W z => h q W ?_
      rw [List.getElem?_set_ne (Ne.symm e)]
      exact z
  dj := fun j k a h1 h2 => by
    unfold fpSet at h1 h2
    by_cases e1 : j = i
    · by_cases e2 : k = i
      · rw [e1, e2]
      · rw [if_pos e1] at h1
        rw [if_neg e2] at h2
        exact absurd h1 (O.dj k a h2)
    · by_cases e2 : k = i
      · rw [if_neg e1] at h1
        rw [if_pos e2] at h2
        exact absurd h2 (O.dj j a h1)
      · rw [if_neg e1] at h1
        rw [if_neg e2] at h2
        exact O.ok.dj j k a h1 h2
  fo := fun j a h => by
    unfold fpSet at h
    by_cases e : j = i
    · rw [if_pos e] at h
      exact O.fo a h
    · rw [if_neg e] at h
      exact O.ok.fo j a h
theorem Ok.dv (O : Ok C G H σ ρ fp) {v : V} {d : Dt} (h : Dv K G v d) : OkV C G H σ ρ fp v [] (.d d) :=
  ⟨O, ⟨rfl, h⟩, (fun _ _ _ z => nomatch z), (fun _ z => nomatch z)⟩
theorem Ok.nv (O : Ok C G H σ ρ fp) (v : V) : OkV C G H σ ρ fp v [] .no := ⟨O, rfl, (fun _ _ _ z => nomatch z), (fun _ z => nomatch z)⟩
/-- a new list, owned -/
theorem Ok.newL {p : Addr} {xs : List V} {ds : List Dt} (O : Ok C G H σ ρ fp) (h : H p = none) (hd : Dvs K G xs ds) : OkV C G (upd H p (.lst xs)) σ ρ fp (.ref p) [p] (.l ds) := by
  refine ⟨O.scr h, ⟨⟨p, xs, rfl, rfl, upd_same, hd⟩, fun _ a z => ?_⟩, fun i a h1 h2 => ?_, fun a h2 => ?_⟩
  · rw [List.mem_singleton.mp z]; exact .inl (O.dm p h)
  · have e : a = p := List.mem_singleton.mp h2
    subst e
    obtain ⟨_, ⟨o, q⟩, _⟩ := O.fo i a h1
    rw [h] at q; cases q
  · have e : a = p := List.mem_singleton.mp h2
    subst e
    exact ⟨O.e1.free h, ⟨_, upd_same⟩, .inl (O.dm a h)⟩
/-- an owned list is given up to be known -/
theorem OkV.freeze {v : V} {fv : List Addr} {ds : List Dt} (O : OkV C G H σ ρ fp v fv (.l ds)) :
    ∃ G', Same G G' ∧ Ok C G' H σ ρ fp ∧ Dv K G' v (.lst ds) := by
  obtain ⟨⟨p, xs, rfl, rfl, hp, hd⟩, hn⟩ := O.va
  obtain ⟨g, _, h0⟩ := O.fo p (List.mem_singleton.mpr rfl)
  have s1 : Same G (upd G p (.lst xs)) := same_new g
  refine ⟨upd G p (.lst xs), s1, ?_, .lst upd_same (hd.up s1)⟩
  exact {
    e0 := O.ok.e0.trans s1
    e1 := fun a u z => by
      by_cases e : a = p
      · subst e; rw [upd_same] at z; cases z; exact hp
      · rw [upd_ne e] at z; exact O.ok.e1 a u z
    nw := fun a u z => by
      by_cases e : a = p
      · subst e; exact .inr (hn rfl a (List.mem_singleton.mpr rfl))
      · rw [upd_ne e] at z; exact O.ok.nw a u z
    fr := O.ok.fr
    dm := O.ok.dm
    len := O.ok.len
    sl := fun i s h => (O.ok.sl i s h).up s1 fun a _ o q => q
    em := O.ok.em
    dj := O.ok.dj
    fo := fun i a h => by
      obtain ⟨h1, h2, h3⟩ := O.ok.fo i a h
      refine ⟨?_, h2, h3⟩
      have ne : a ≠ p := fun e => O.dj i a h (List.mem_singleton.mpr e)
      rw [upd_ne ne]
      exact h1 }
/-- an owned thing is written: its cells turn, new ones may come -/
theorem Ok.write {i : Nat} {q : Bool} {W W' : Wd} {fv' : List Addr} (O : Ok C G H σ ρ fp) (hi : ρ[i]? = some (.w q W)) (eg : Same G G') (e1 : Same G' H') (ng : ∀ a o, G' a = some o → G a = some o ∨ H a = none)
    (k : ∀ a o, a ∉ fp i → H a = some o → H' a = some o) (kd : ∀ a, H' a = none → H a = none) (hf : ∀ a ∈ fv', (a ∈ fp i ∨ H a = none) ∧ ∃ o, H' a = some o) (hg : ∀ a ∈ fv', G' a = none)
    (hW : ∀ v, σ[i]? = some (some v) → W'.W K G' H' v fv') : Ok C G' H' σ (ρ.set i (.w q W')) (fpSet fp i fv') := by
  have hi' : i < ρ.length := (List.getElem?_eq_some_iff.mp hi).1
  have nf : ∀ a, a ∈ fp i → C.H0 a = none ∨ a ∈ C.bs := fun a h => (O.fo i a h).2.2
  exact {
    e0 := O.e0.trans eg
    e1 := e1
    nw := fun a o h => by
      rcases ng a o h with z | z
      · exact O.nw a o z
      · exact .inr (.inl (O.dm a z))
    fr := fun a o h1 h2 => by
      refine k a o (fun z => ?_) (O.fr a o h1 h2)
      rcases nf a z with y | y
      · rw [h2] at y; cases y
      · exact h1 y
    dm := fun a h => O.dm a (kd a h)
    len := by rw [List.length_set]; exact O.len
    sl := fun j t h => by
      by_cases e : j = i
      · subst e
        rw [List.getElem?_set_self hi'] at h
        cases h
        obtain ⟨v, h1, h2, h3, h4⟩ := O.sl j _ hi
        unfold fpSet
        rw [if_pos rfl]
        refine ⟨v, h1, hW v h1, h3, fun hq a ha => ?_⟩
        rcases (hf a ha).1 with z | z
        · exact h4 hq a z
        · exact .inl (O.dm a z)
      · rw [List.getElem?_set_ne (Ne.symm e)] at h
        unfold fpSet
        rw [if_neg e]
        exact (O.sl j t h).up eg fun a ha o q => k a o (fun z => e (O.dj j i a ha z)) q
    em := fun j h => by
      unfold fpSet
      by_cases e : j = i
      · subst e
        exact absurd (List.getElem?_set_self hi') (h q W')
      · rw [if_neg e]
        refine O.em j fun q W z => h q W ?_
        rw [List.getElem?_set_ne (Ne.symm e)]
        exact z
    dj := fun j l a h1 h2 => by
      have nn : ∀ j, j ≠ i → a ∈ fp j → a ∉ fv' := fun j e ha hv => by
        obtain ⟨_, ⟨o, ho⟩, _⟩ := O.fo j a ha
        rcases (hf a hv).1 with z | z
        · exact e (O.dj j i a ha z)
        · rw [ho] at z; cases z
      unfold fpSet at h1 h2
      by_cases e1 : j = i
      · by_cases e2 : l = i
        · rw [e1, e2]
        · rw [if_pos e1] at h1
          rw [if_neg e2] at h2
          exact absurd h1 (nn l e2 h2)
      · by_cases e2 : l = i
        · rw [if_neg e1] at h1
          rw [if_pos e2] at h2
          exact absurd h2 (nn j e1 h1)
        · rw [if_neg e1] at h1
          rw [if_neg e2] at h2
          exact O.dj j l a h1 h2
    fo := fun j a h => by
      unfold fpSet at h
      by_cases e : j = i
      · rw [if_pos e] at h
        refine ⟨hg a h, (hf a h).2, ?_⟩
        rcases (hf a h).1 with z | z
        · exact nf a z
        · exact .inl (O.dm a z)
      · rw [if_neg e] at h
        obtain ⟨h1, ⟨o, h2⟩, h3⟩ := O.fo j a h
        refine ⟨?_, ⟨o, k a o (fun z => e (O.dj j i a h z)) h2⟩, h3⟩
        cases z : G' a with
        | none => rfl
        | some u =>
          rcases ng a u z with y | y
          · rw [h1] at y; cases y
          · rw [h2] at y; cases y }
/-- an owned list is written -/
theorem Ok.writeL {i : Nat} {q : Bool} {ds ds' : List Dt} {p : Addr} {xs xs' : List V} (O : Ok C G H σ ρ fp) (hi : ρ[i]? = some (.w q (lw ds))) (hσ : σ[i]? = some (some (.ref p))) (hp : H p = some (.lst xs)) (hd : Dvs K G xs' ds') :
    ∃ fp', Ok C G (upd H p (.lst xs')) σ (ρ.set i (.w q (lw ds'))) fp' := by
  obtain ⟨v, h1, ⟨p', ys, rfl, hf, hp', _⟩, _⟩ := O.sl i _ hi
  have e : p' = p := by rw [hσ] at h1; cases h1; rfl
  subst e
  have hm : p' ∈ fp i := by rw [hf]; exact List.mem_singleton.mpr rfl
  obtain ⟨g, _, _⟩ := O.fo i p' hm
  refine ⟨_, O.write (G' := G) (W' := lw ds') (fv' := [p']) hi (Same.refl G) (fun a u z => ?_) (fun _ _ z => .inl z) (fun a o ha z => ?_) (fun a z => ?_) (fun a ha => ?_) (fun a ha => ?_) fun v hv => ?_⟩
  · have ne : a ≠ p' := ne_of_none z g
    rw [upd_ne ne]; exact O.e1 a u z
  · have ne : a ≠ p' := fun e => ha (e ▸ hm)
    rw [upd_ne ne]; exact z
  · by_cases e : a = p'
    · subst e; rw [upd_same] at z; cases z
    · rw [upd_ne e] at z; exact z
  · have e := List.mem_singleton.mp ha
    subst e
    exact ⟨.inl hm, _, upd_same⟩
  · have e := List.mem_singleton.mp ha
    subst e
    exact g
  · rw [hσ] at hv
    cases hv
    exact ⟨p', xs', rfl, rfl, upd_same, hd⟩
end

end
section
/-! DL, part b: what is read over data: expressions, tests, arguments. -/

def EvD {K : PySem.W.Frag} (C : Cc K) (te : TE) (ρ : List Sl) (R : Dt → List Sl → Prop) : Prop :=
  ∀ G H σ fp, Ok C G H σ ρ fp → ∀ Q : VK, (∀ v G' H' d ρ' fp', Same G G' → Ok C G' H' σ ρ' fp' → Dv K G' v d → R d ρ' → Q v H') → te σ H Q
def Ev {K : PySem.W.Frag} (C : Cc K) (te : TE) (ρ : List Sl) (R : Sl → List Sl → Prop) : Prop :=
  ∀ G H σ fp, Ok C G H σ ρ fp → ∀ Q : VK, (∀ v G' H' s ρ' fp' fv, Same G G' → OkV C G' H' σ ρ' fp' v fv s → R s ρ' → Q v H') → te σ H Q
def EvT {K : PySem.W.Frag} (C : Cc K) (tt : TT) (ρ : List Sl) (R : Bool → List Sl → Prop) : Prop :=
  ∀ G H σ fp, Ok C G H σ ρ fp → ∀ Q : Bool → Hp → Prop, (∀ b G' H' ρ' fp', Same G G' → Ok C G' H' σ ρ' fp' → R b ρ' → Q b H') → tt σ H Q
def EvA {K : PySem.W.Frag} (C : Cc K) (ta : TA) (ρ : List Sl) (R : List Dt → List Sl → Prop) : Prop :=
  ∀ G H σ fp, Ok C G H σ ρ fp → ∀ Q : List V → Hp → Prop, (∀ vs G' H' ds ρ' fp', Same G G' → Ok C G' H' σ ρ' fp' → Dvs K G' vs ds → R ds ρ' → Q vs H') → ta σ H Q
def EvO {K : PySem.W.Frag} (C : Cc K) (to : TO) (ρ : List Sl) (R : Option Int → List Sl → Prop) : Prop :=
  ∀ G H σ fp, Ok C G H σ ρ fp → ∀ Q : Option Int → Hp → Prop, (∀ o G' H' ρ' fp', Same G G' → Ok C G' H' σ ρ' fp' → R o ρ' → Q o H') → to σ H Q
/-- a two-place operation on data -/
def OpD {K : PySem.W.Frag} (C : Cc K) (r : R2) (x y : Dt) (ρ : List Sl) (R : Dt → Prop) : Prop :=
  ∀ G H σ fp, Ok C G H σ ρ fp → ∀ v w, Dv K G v x → Dv K G w y → ∀ Q : VK, (∀ z G' H' d, Same G G' → Ok C G' H' σ ρ fp → Dv K G' z d → R d → Q z H') → r v w H Q
def OpL {K : PySem.W.Frag} (C : Cc K) (r : R2) (x y : Dt) (ρ : List Sl) (R : List Dt → Prop) : Prop :=
  ∀ G H σ fp, Ok C G H σ ρ fp → ∀ v w, Dv K G v x → Dv K G w y → ∀ Q : VK, (∀ p xs ds, H p = none → Dvs K G xs ds → R ds → Q (.ref p) (upd H p (.lst xs))) → r v w H Q
/-- a call on data -/
def CaD {K : PySem.W.Frag} (C : Cc K) (r : List V → Hp → VK → Prop) (ds : List Dt) (ρ : List Sl) (R : Dt → Prop) : Prop :=
  ∀ G H σ fp, Ok C G H σ ρ fp → ∀ vs, Dvs K G vs ds → ∀ Q : VK, (∀ z G' H' d, Same G G' → Ok C G' H' σ ρ fp → Dv K G' z d → R d → Q z H') → r vs H Q
def CaL {K : PySem.W.Frag} (C : Cc K) (r : List V → Hp → VK → Prop) (ds : List Dt) (ρ : List Sl) (R : List Dt → Prop) : Prop :=
  ∀ G H σ fp, Ok C G H σ ρ fp → ∀ vs, Dvs K G vs ds → ∀ Q : VK, (∀ p xs es, H p = none → Dvs K G xs es → R es → Q (.ref p) (upd H p (.lst xs))) → r vs H Q
def asB (R : Bool → Prop) : Dt → Prop
  | .bl b => R b
  | _ => False
def asI (R : Int → Prop) : Dt → Prop
  | .int b => R b
  | _ => False
def asL (R : List Dt → Prop) : Dt → Prop
  | .lst b => R b
  | _ => False

section
variable {K : PySem.W.Frag} {C : Cc K} {ρ : List Sl} {ta tb te : TE} {t u : TT}
theorem evd_imp {R R' : Dt → List Sl → Prop} (h : EvD C te ρ R) (k : ∀ d ρ', R d ρ' → R' d ρ') : EvD C te ρ R' :=
  fun G H σ fp O Q q => h G H σ fp O Q fun v G' H' d ρ' fp' e O' D r => q v G' H' d ρ' fp' e O' D (k d ρ' r)
theorem ev_imp {R R' : Sl → List Sl → Prop} (h : Ev C te ρ R) (k : ∀ d ρ', R d ρ' → R' d ρ') : Ev C te ρ R' :=
  fun G H σ fp O Q q => h G H σ fp O Q fun v G' H' d ρ' fp' fv e O' r => q v G' H' d ρ' fp' fv e O' (k d ρ' r)
theorem evt_imp {R R' : Bool → List Sl → Prop} (h : EvT C t ρ R) (k : ∀ d ρ', R d ρ' → R' d ρ') : EvT C t ρ R' :=
  fun G H σ fp O Q q => h G H σ fp O Q fun v G' H' ρ' fp' e O' r => q v G' H' ρ' fp' e O' (k v ρ' r)
theorem ev_d {R : Sl → List Sl → Prop} (h : EvD C te ρ fun d ρ' => R (.d d) ρ') : Ev C te ρ R :=
  fun G H σ fp O Q q => h G H σ fp O Q fun v G' H' d ρ' fp' e O' D r => q v G' H' (.d d) ρ' fp' [] e (O'.dv D) r
/-- a new list is given up to be known -/
def asF (R : Dt → Prop) (s : Sl) : Prop := (∃ d, s = .d d ∧ R d) ∨ ∃ ds, s = .l ds ∧ R (.lst ds)
theorem evd_f {R : Dt → List Sl → Prop} (h : Ev C te ρ fun s ρ' => asF (fun d => R d ρ') s) : EvD C te ρ R := fun G H σ fp O Q q =>
  h G H σ fp O Q fun v G' H' s ρ' fp' fv e O' r => by
    rcases r with ⟨d, rfl, r⟩ | ⟨ds, rfl, r⟩
    · exact q v G' H' d ρ' fp' e O'.ok O'.va.2 r
    · obtain ⟨G2, e2, O2, D2⟩ := O'.freeze
      exact q v G2 H' _ ρ' fp' (e.trans e2) O2 D2 r
theorem evd_l {R : Dt → List Sl → Prop} (h : Ev C te ρ fun s ρ' => ∃ ds, s = .l ds ∧ R (.lst ds) ρ') : EvD C te ρ R := evd_f (ev_imp h fun s ρ' r => .inr r)
theorem evd_var {R : Dt → List Sl → Prop} {i : Nat} {d : Dt} (h : ρ[i]? = some (.d d)) (k : R d ρ) : EvD C (tVar i) ρ R := fun G H σ fp O Q q => by
  obtain ⟨v, h1, h2⟩ := O.sl i _ h
  exact ⟨v, h1, q v G H d ρ fp (Same.refl G) O h2 k⟩
theorem evd_int {R : Dt → List Sl → Prop} {i : Int} (k : R (.int i) ρ) : EvD C (tC (.int i)) ρ R := fun G H σ fp O Q q => q _ G H _ ρ fp (Same.refl G) O (.int i) k
theorem evd_bl {R : Dt → List Sl → Prop} {i : Bool} (k : R (.bl i) ρ) : EvD C (tC (.bl i)) ρ R := fun G H σ fp O Q q => q _ G H _ ρ fp (Same.refl G) O (.bl i) k
theorem evd_str {R : Dt → List Sl → Prop} {i : Str} (k : R (.str i) ρ) : EvD C (tC (.str i)) ρ R := fun G H σ fp O Q q => q _ G H _ ρ fp (Same.refl G) O (.str i) k
theorem evd_non {R : Dt → List Sl → Prop} (k : R .non ρ) : EvD C (tC .non) ρ R := fun G H σ fp O Q q => q _ G H _ ρ fp (Same.refl G) O .non k
theorem evd_op {R : Dt → List Sl → Prop} {r : R2} (h : EvD C ta ρ fun x ρ1 => EvD C tb ρ1 fun y ρ2 => OpD C r x y ρ2 fun z => R z ρ2) : EvD C (tOp r ta tb) ρ R := fun G H σ fp O Q q =>
  h G H σ fp O _ fun v G1 H1 x ρ1 fp1 e1 O1 D1 h1 => h1 G1 H1 σ fp1 O1 _ fun w G2 H2 y ρ2 fp2 e2 O2 D2 h2 =>
    h2 G2 H2 σ fp2 O2 v w (Dv.up e2 x v D1) D2 Q fun z G3 H3 d e3 O3 D3 r => q z G3 H3 d ρ2 fp2 ((e1.trans e2).trans e3) O3 D3 r
theorem ev_opL {R : Sl → List Sl → Prop} {r : R2} (h : EvD C ta ρ fun x ρ1 => EvD C tb ρ1 fun y ρ2 => OpL C r x y ρ2 fun ds => R (.l ds) ρ2) : Ev C (tOp r ta tb) ρ R := fun G H σ fp O Q q =>
  h G H σ fp O _ fun v G1 H1 x ρ1 fp1 e1 O1 D1 h1 => h1 G1 H1 σ fp1 O1 _ fun w G2 H2 y ρ2 fp2 e2 O2 D2 h2 =>
    h2 G2 H2 σ fp2 O2 v w (Dv.up e2 x v D1) D2 Q fun p xs ds hp hd r => q _ G2 _ _ ρ2 fp2 [p] (e1.trans e2) (O2.newL hp hd) r
theorem opd_l {R : Dt → Prop} {r : R2} {x y : Dt} (h : OpL C r x y ρ fun ds => R (.lst ds)) : OpD C r x y ρ R := fun G H σ fp O v w hv hw Q q =>
  h G H σ fp O v w hv hw Q fun p xs ds hp hd r => by
    have s1 : Same G (upd G p (.lst xs)) := same_new (O.e1.free hp)
    exact q (.ref p) _ _ (.lst ds) s1 (O.new hp) (.lst upd_same (hd.up s1)) r
theorem cad_l {R : Dt → Prop} {r : List V → Hp → VK → Prop} {es : List Dt} (h : CaL C r es ρ fun ds => R (.lst ds)) : CaD C r es ρ R := fun G H σ fp O v hv Q q =>
  h G H σ fp O v hv Q fun p xs ds hp hd r => by
    have s1 : Same G (upd G p (.lst xs)) := same_new (O.e1.free hp)
    exact q (.ref p) _ _ (.lst ds) s1 (O.new hp) (.lst upd_same (hd.up s1)) r
theorem opd_s {R : Dt → Prop} {r : R2} {x y : Dt} (z : V) (d : Dt) (hd : ∀ K H, Dv K H z d) (h : ∀ G H σ fp, Ok C G H σ ρ fp → ∀ v w, Dv K G v x → Dv K G w y → ∀ Q : VK, Q z H → r v w H Q) (k : R d) : OpD C r x y ρ R :=
  fun G H σ fp O v w hv hw Q q => h G H σ fp O v w hv hw Q (q z G H d (Same.refl G) O (hd _ _) k)
theorem evd_un {R : Dt → List Sl → Prop} {r : V → Hp → VK → Prop} (z : Dt → V) (f : Dt → Dt) (h : EvD C ta ρ fun x ρ1 => (∀ v H K (Q : VK), Dv K H v x → Q (z x) H → r v H Q) ∧ (∀ K H, Dv K H (z x) (f x)) ∧ R (f x) ρ1) : EvD C (tUn r ta) ρ R := fun G H σ fp O Q q =>
  h G H σ fp O _ fun v G1 H1 x ρ1 fp1 e1 O1 D1 h1 => h1.1 v H1 K Q (Dv.up O1.e1 x v D1) (q _ G1 H1 (f x) ρ1 fp1 e1 O1 (h1.2.1 _ _) h1.2.2)
theorem evd_neg {R : Dt → List Sl → Prop} (h : EvD C ta ρ fun x ρ1 => asI (fun i => R (.int (-i)) ρ1) x) : EvD C (tUn (rU fun i => .int (-i)) ta) ρ R := fun G H σ fp O Q q =>
  h G H σ fp O _ fun v G1 H1 x ρ1 fp1 e1 O1 D1 h1 => by
    cases x with
    | int i => cases D1; exact ⟨i, rfl, q _ G1 H1 _ ρ1 fp1 e1 O1 (.int _) h1⟩
    | _ => exact h1.elim
/-! arguments -/
theorem eva_nil {R : List Dt → List Sl → Prop} (k : R [] ρ) : EvA C tNil ρ R := fun G H σ fp O Q q => q [] G H [] ρ fp (Same.refl G) O .nil k
theorem eva_cons {R : List Dt → List Sl → Prop} {tr : TA} (h : EvD C ta ρ fun x ρ1 => EvA C tr ρ1 fun xs ρ2 => R (x :: xs) ρ2) : EvA C (tCons ta tr) ρ R := fun G H σ fp O Q q =>
  h G H σ fp O _ fun v G1 H1 x ρ1 fp1 e1 O1 D1 h1 => h1 G1 H1 σ fp1 O1 _ fun vs G2 H2 xs ρ2 fp2 e2 O2 D2 r =>
    q _ G2 H2 _ ρ2 fp2 (e1.trans e2) O2 (.cons (Dv.up e2 x v D1) D2) r
theorem ev_lst {R : Sl → List Sl → Prop} {t : TA} (h : EvA C t ρ fun ds ρ1 => ds.length ≤ 1000000 ∧ R (.l ds) ρ1) : Ev C (tLst t) ρ R := fun G H σ fp O Q q =>
  h G H σ fp O _ fun vs G1 H1 ds ρ1 fp1 e1 O1 D1 h1 => ⟨by rw [D1.len]; exact Nat.le_trans h1.1 (by decide), fun p hp => q _ G1 _ _ ρ1 fp1 [p] e1 (O1.newL hp D1) h1.2⟩
theorem evd_lst {R : Dt → List Sl → Prop} {t : TA} (h : EvA C t ρ fun ds ρ1 => ds.length ≤ 1000000 ∧ R (.lst ds) ρ1) : EvD C (tLst t) ρ R := fun G H σ fp O Q q =>
  h G H σ fp O _ fun vs G1 H1 ds ρ1 fp1 e1 O1 D1 h1 => ⟨by rw [D1.len]; exact Nat.le_trans h1.1 (by decide), fun p hp => by
    have s1 : Same G1 (upd G1 p (.lst vs)) := same_new (O1.e1.free hp)
    exact q _ _ _ _ ρ1 fp1 (e1.trans s1) (O1.new hp) (.lst upd_same (D1.up s1)) h1.2⟩
theorem evd_tup {R : Dt → List Sl → Prop} {t : TA} (h : EvA C t ρ fun ds ρ1 => ds.length ≤ 1000000 ∧ R (.tup ds) ρ1) : EvD C (tTup t) ρ R := fun G H σ fp O Q q =>
  h G H σ fp O _ fun vs G1 H1 ds ρ1 fp1 e1 O1 D1 h1 => ⟨by rw [D1.len]; exact Nat.le_trans h1.1 (by decide), fun p hp => by
    have s1 : Same G1 (upd G1 p (.tup vs)) := same_new (O1.e1.free hp)
    exact q _ _ _ _ ρ1 fp1 (e1.trans s1) (O1.new hp) (.tup upd_same (D1.up s1)) h1.2⟩
theorem evd_cb {R : Dt → List Sl → Prop} {r : List V → Hp → VK → Prop} {t : TA} (h : EvA C t ρ fun ds ρ1 => CaD C r ds ρ1 fun z => R z ρ1) : EvD C (tCB r t) ρ R := fun G H σ fp O Q q =>
  h G H σ fp O _ fun vs G1 H1 ds ρ1 fp1 e1 O1 D1 h1 => h1 G1 H1 σ fp1 O1 vs D1 Q fun z G2 H2 d e2 O2 D2 r => q z G2 H2 d ρ1 fp1 (e1.trans e2) O2 D2 r
theorem ev_cbL {R : Sl → List Sl → Prop} {r : List V → Hp → VK → Prop} {t : TA} (h : EvA C t ρ fun ds ρ1 => CaL C r ds ρ1 fun z => R (.l z) ρ1) : Ev C (tCB r t) ρ R := fun G H σ fp O Q q =>
  h G H σ fp O _ fun vs G1 H1 ds ρ1 fp1 e1 O1 D1 h1 => h1 G1 H1 σ fp1 O1 vs D1 Q fun p xs es hp hd r => q _ G1 _ _ ρ1 fp1 [p] e1 (O1.newL hp hd) r
/-! tests -/
theorem evt_test {R : Bool → List Sl → Prop} (h : EvD C te ρ fun d ρ1 => asB (fun b => R b ρ1) d) : EvT C (tTest te) ρ R := fun G H σ fp O Q q =>
  h G H σ fp O _ fun v G1 H1 x ρ1 fp1 e1 O1 D1 h1 => by
    cases x with
    | bl b => cases D1; exact ⟨b, rfl, q b G1 H1 ρ1 fp1 e1 O1 h1⟩
    | _ => exact h1.elim
theorem evt_B {R : Bool → List Sl → Prop} (h : EvD C te ρ fun d ρ1 => asB (fun b => R b ρ1) d) : EvT C (tB te) ρ R := fun G H σ fp O Q q =>
  h G H σ fp O _ fun v G1 H1 x ρ1 fp1 e1 O1 D1 h1 => by
    cases x with
    | bl b => cases D1; exact ⟨b, rfl, q b G1 H1 ρ1 fp1 e1 O1 h1⟩
    | _ => exact h1.elim
theorem evt_and {R : Bool → List Sl → Prop} (h : EvT C t ρ fun c ρ1 => (c = true → EvT C u ρ1 R) ∧ (c = false → R false ρ1)) : EvT C (tAnd t u) ρ R := fun G H σ fp O Q q =>
  h G H σ fp O _ fun c G1 H1 ρ1 fp1 e1 O1 h1 => by
    cases c with
    | true =>
      show u σ H1 Q
      exact h1.1 rfl G1 H1 σ fp1 O1 Q fun b G2 H2 ρ2 fp2 e2 O2 r => q b G2 H2 ρ2 fp2 (e1.trans e2) O2 r
    | false =>
      show Q false H1
      exact q false G1 H1 ρ1 fp1 e1 O1 (h1.2 rfl)
theorem evt_or {R : Bool → List Sl → Prop} (h : EvT C t ρ fun c ρ1 => (c = true → R true ρ1) ∧ (c = false → EvT C u ρ1 R)) : EvT C (tOr t u) ρ R := fun G H σ fp O Q q =>
  h G H σ fp O _ fun c G1 H1 ρ1 fp1 e1 O1 h1 => by
    cases c with
    | true =>
      show Q true H1
      exact q true G1 H1 ρ1 fp1 e1 O1 (h1.1 rfl)
    | false =>
      show u σ H1 Q
      exact h1.2 rfl G1 H1 σ fp1 O1 Q fun b G2 H2 ρ2 fp2 e2 O2 r => q b G2 H2 ρ2 fp2 (e1.trans e2) O2 r
theorem evt_not {R : Bool → List Sl → Prop} (h : EvT C t ρ fun c ρ1 => R (!c) ρ1) : EvT C (tNot t) ρ R := fun G H σ fp O Q q =>
  h G H σ fp O _ fun c G1 H1 ρ1 fp1 e1 O1 h1 => q (!c) G1 H1 ρ1 fp1 e1 O1 h1
theorem evd_andV {R : Dt → List Sl → Prop} (h : EvD C ta ρ fun d ρ1 => asB (fun c => (c = true → EvD C tb ρ1 R) ∧ (c = false → R (.bl false) ρ1)) d) : EvD C (tAndV ta tb) ρ R := fun G H σ fp O Q q =>
  h G H σ fp O _ fun v G1 H1 x ρ1 fp1 e1 O1 D1 h1 => by
    cases x with
    | bl c =>
      cases D1
      refine ⟨c, rfl, ?_⟩
      cases c with
      | true =>
        show tb σ H1 Q
        exact h1.1 rfl G1 H1 σ fp1 O1 Q fun v G2 H2 d ρ2 fp2 e2 O2 D2 r => q v G2 H2 d ρ2 fp2 (e1.trans e2) O2 D2 r
      | false =>
        show Q (.bl false) H1
        exact q _ G1 H1 _ ρ1 fp1 e1 O1 (.bl false) (h1.2 rfl)
    | _ => exact h1.elim
theorem evd_orV {R : Dt → List Sl → Prop} (h : EvD C ta ρ fun d ρ1 => asB (fun c => (c = true → R (.bl true) ρ1) ∧ (c = false → EvD C tb ρ1 R)) d) : EvD C (tOrV ta tb) ρ R := fun G H σ fp O Q q =>
  h G H σ fp O _ fun v G1 H1 x ρ1 fp1 e1 O1 D1 h1 => by
    cases x with
    | bl c =>
      cases D1
      refine ⟨c, rfl, ?_⟩
      cases c with
      | true =>
        show Q (.bl true) H1
        exact q _ G1 H1 _ ρ1 fp1 e1 O1 (.bl true) (h1.1 rfl)
      | false =>
        show tb σ H1 Q
        exact h1.2 rfl G1 H1 σ fp1 O1 Q fun v G2 H2 d ρ2 fp2 e2 O2 D2 r => q v G2 H2 d ρ2 fp2 (e1.trans e2) O2 D2 r
    | _ => exact h1.elim
theorem evd_notV {R : Dt → List Sl → Prop} (h : EvD C ta ρ fun d ρ1 => asB (fun c => R (.bl (!c)) ρ1) d) : EvD C (tNotV ta) ρ R := fun G H σ fp O Q q =>
  h G H σ fp O _ fun v G1 H1 x ρ1 fp1 e1 O1 D1 h1 => by
    cases x with
    | bl c => cases D1; exact ⟨c, rfl, q _ G1 H1 _ ρ1 fp1 e1 O1 (.bl _) h1⟩
    | _ => exact h1.elim
theorem evd_if {R : Dt → List Sl → Prop} (h : EvT C t ρ fun c ρ1 => (c = true → EvD C ta ρ1 R) ∧ (c = false → EvD C tb ρ1 R)) : EvD C (tIf t ta tb) ρ R := fun G H σ fp O Q q =>
  h G H σ fp O _ fun c G1 H1 ρ1 fp1 e1 O1 h1 => by
    cases c with
    | true =>
      show ta σ H1 Q
      exact h1.1 rfl G1 H1 σ fp1 O1 Q fun v G2 H2 d ρ2 fp2 e2 O2 D2 r => q v G2 H2 d ρ2 fp2 (e1.trans e2) O2 D2 r
    | false =>
      show tb σ H1 Q
      exact h1.2 rfl G1 H1 σ fp1 O1 Q fun v G2 H2 d ρ2 fp2 e2 O2 D2 r => q v G2 H2 d ρ2 fp2 (e1.trans e2) O2 D2 r
theorem ev_if {R : Sl → List Sl → Prop} (h : EvT C t ρ fun c ρ1 => (c = true → Ev C ta ρ1 R) ∧ (c = false → Ev C tb ρ1 R)) : Ev C (tIf t ta tb) ρ R := fun G H σ fp O Q q =>
  h G H σ fp O _ fun c G1 H1 ρ1 fp1 e1 O1 h1 => by
    cases c with
    | true =>
      show ta σ H1 Q
      exact h1.1 rfl G1 H1 σ fp1 O1 Q fun v G2 H2 s ρ2 fp2 fv e2 O2 r => q v G2 H2 s ρ2 fp2 fv (e1.trans e2) O2 r
    | false =>
      show tb σ H1 Q
      exact h1.2 rfl G1 H1 σ fp1 O1 Q fun v G2 H2 s ρ2 fp2 fv e2 O2 r => q v G2 H2 s ρ2 fp2 fv (e1.trans e2) O2 r
theorem evd_chain {R : Dt → List Sl → Prop} {r r' : R2} {tc : TE} (h : EvD C ta ρ fun x ρ1 => EvD C tb ρ1 fun y ρ2 => OpD C r x y ρ2 fun z => asB (fun c => (c = true → EvD C tc ρ2 fun w ρ3 => OpD C r' y w ρ3 fun z => R z ρ3) ∧ (c = false → R (.bl false) ρ2)) z) : EvD C (tChain r r' ta tb tc) ρ R := fun G H σ fp O Q q =>
  h G H σ fp O _ fun v G1 H1 x ρ1 fp1 e1 O1 D1 h1 => h1 G1 H1 σ fp1 O1 _ fun w G2 H2 y ρ2 fp2 e2 O2 D2 h2 =>
    h2 G2 H2 σ fp2 O2 v w (Dv.up e2 x v D1) D2 _ fun z G3 H3 d e3 O3 D3 h3 => by
      cases d with
      | bl c =>
        cases D3
        refine ⟨c, rfl, ?_⟩
        cases c with
        | true =>
          show tc σ H3 _
          exact h3.1 rfl G3 H3 σ fp2 O3 _ fun w' G4 H4 d4 ρ4 fp4 e4 O4 D4 h4 =>
            h4 G4 H4 σ fp4 O4 w w' (Dv.up (e3.trans e4) y w D2) D4 Q fun z G5 H5 d5 e5 O5 D5 r => q z G5 H5 d5 ρ4 fp4 ((((e1.trans e2).trans e3).trans e4).trans e5) O5 D5 r
        | false =>
          show Q (.bl false) H3
          exact q _ G3 H3 _ ρ2 fp2 ((e1.trans e2).trans e3) O3 (.bl false) (h3.2 rfl)
      | _ => exact h3.elim
/-! parts of a slice -/
theorem evo_no {R : Option Int → List Sl → Prop} (k : R none ρ) : EvO C tNoPart ρ R := fun G H σ fp O Q q => q none G H ρ fp (Same.refl G) O k
theorem evo_some {R : Option Int → List Sl → Prop} (h : EvD C te ρ fun d ρ1 => asI (fun i => R (some i) ρ1) d) : EvO C (tPart te) ρ R := fun G H σ fp O Q q =>
  h G H σ fp O _ fun v G1 H1 x ρ1 fp1 e1 O1 D1 h1 => by
    cases x with
    | int i => cases D1; exact ⟨i, rfl, q (some i) G1 H1 ρ1 fp1 e1 O1 h1⟩
    | _ => exact h1.elim
end

end
section
/-! DL, part c: operators and built-in calls on data. -/

/-! ### plain data -/
mutual
def Dt.py : Dt → PyData
  | .non => .none
  | .bl b => .bool b
  | .int i => .int i
  | .str x => .str x
  | .lst ds => .list (Dt.pys ds)
  | .tup ds => .tuple (Dt.pys ds)
  | .ins _ _ _ => .none
  | .ob _ => .dict []
def Dt.pys : List Dt → List PyData
  | [] => []
  | d :: ds => d.py :: Dt.pys ds
end
/-- data of at most so many lists within one another -/
def Fn : Nat → Dt → Prop
  | _, .non => True
  | _, .bl _ => True
  | _, .int _ => True
  | _, .str x => PyData.strOk x = true
  | n + 1, .lst ds => ∀ d ∈ ds, Fn n d
  | n + 1, .tup ds => ∀ d ∈ ds, Fn n d
  | _, _ => False
theorem fn_non {n : Nat} : Fn n .non := by unfold Fn; trivial
theorem fn_bl {n : Nat} {b : Bool} : Fn n (.bl b) := by unfold Fn; trivial
theorem fn_int {n : Nat} {i : Int} : Fn n (.int i) := by unfold Fn; trivial
theorem fn_str {n : Nat} {x : Str} (h : PyData.strOk x = true) : Fn n (.str x) := by unfold Fn; exact h
theorem fn_lst {n : Nat} {ds : List Dt} (h : ∀ d ∈ ds, Fn n d) : Fn (n + 1) (.lst ds) := by unfold Fn; exact h
theorem fn_tup {n : Nat} {ds : List Dt} (h : ∀ d ∈ ds, Fn n d) : Fn (n + 1) (.tup ds) := by unfold Fn; exact h
theorem fn_nil {n : Nat} : ∀ d ∈ ([] : List Dt), Fn n d := fun _ h => nomatch h
theorem fn_cons {n : Nat} {d : Dt} {ds : List Dt} (h : Fn n d) (k : ∀ d ∈ ds, Fn n d) : ∀ x ∈ d :: ds, Fn n x := fun x hx => by
  rcases List.mem_cons.mp hx with e | e
  · rw [e]; exact h
  · exact k x e
theorem fn_map {α : Type} {n : Nat} {f : α → Dt} {l : List α} (h : ∀ a ∈ l, Fn n (f a)) : ∀ d ∈ l.map f, Fn n d := fun d hd => by
  obtain ⟨a, ha, rfl⟩ := List.mem_map.mp hd
  exact h a ha
theorem fn_ints {n : Nat} {ns : List Int} : Fn (n + 1) (.lst (ns.map Dt.int)) := fn_lst (fn_map fun _ _ => fn_int)
theorem fn_up : ∀ (n : Nat) {m : Nat} {d : Dt}, n ≤ m → Fn n d → Fn m d
  | n, m, .non, _, _ => fn_non
  | n, m, .bl _, _, _ => fn_bl
  | n, m, .int _, _, _ => fn_int
  | 0, m, .str x, _, h => fn_str (by unfold Fn at h; exact h)
  | n + 1, m, .str x, _, h => fn_str (by unfold Fn at h; exact h)
  | n + 1, m, .lst ds, hl, h => by
    obtain ⟨k, rfl⟩ : ∃ k, m = k + 1 := ⟨m - 1, by omega⟩
    unfold Fn at h
    exact fn_lst fun d hd => fn_up n (by omega) (h d hd)
  | n + 1, m, .tup ds, hl, h => by
    obtain ⟨k, rfl⟩ : ∃ k, m = k + 1 := ⟨m - 1, by omega⟩
    unfold Fn at h
    exact fn_tup fun d hd => fn_up n (by omega) (h d hd)
  | 0, _, .lst _, _, h => by unfold Fn at h; exact h.elim
  | 0, _, .tup _, _, h => by unfold Fn at h; exact h.elim
  | 0, _, .ins _ _ _, _, h => by unfold Fn at h; exact h.elim
  | 0, _, .ob _, _, h => by unfold Fn at h; exact h.elim
  | n + 1, _, .ob _, _, h => by unfold Fn at h; exact h.elim
  | n + 1, _, .ins _ _ _, _, h => by unfold Fn at h; exact h.elim
section
variable {K : PySem.W.Frag} {H : Hp}
mutual
theorem Dv.dp : ∀ (d : Dt) (n : Nat) (v : V), Fn n d → Dv K H v d → Dp K H v d.py
  | .non, _, _, _, h => by cases h; unfold Dt.py; exact .non
  | .bl b, _, _, _, h => by cases h; unfold Dt.py; exact .bl b
  | .int i, _, _, _, h => by cases h; unfold Dt.py; exact .int i
  | .str x, _, _, _, h => by cases h; unfold Dt.py; exact .str x
  | .lst ds, n, _, f, h => by
    cases h with
    | lst hs ha =>
      unfold Dt.py
      cases n with
      | zero => unfold Fn at f; exact f.elim
      | succ n => unfold Fn at f; exact .lst (.inl (.inl hs)) (Dvs.dp ds n _ f ha)
  | .tup ds, n, _, f, h => by
    cases h with
    | tup hs ha =>
      unfold Dt.py
      cases n with
      | zero => unfold Fn at f; exact f.elim
      | succ n => unfold Fn at f; exact .tup (.inl (.inl hs)) (Dvs.dp ds n _ f ha)
  | .ins _ _ _, n, _, f, _ => by cases n <;> (unfold Fn at f; exact f.elim)
  | .ob _, n, _, f, _ => by cases n <;> (unfold Fn at f; exact f.elim)
theorem Dvs.dp : ∀ (ds : List Dt) (n : Nat) (vs : List V), (∀ d ∈ ds, Fn n d) → Dvs K H vs ds → DpAll K H vs (Dt.pys ds)
  | [], _, _, _, h => by cases h; unfold Dt.pys; exact .nil
  | d :: ds, n, _, f, h => by
    cases h with
    | cons h1 h2 =>
      unfold Dt.pys
      exact .cons (Dv.dp d n _ (f d (List.mem_cons_self ..)) h1) (Dvs.dp ds n _ (fun x hx => f x (List.mem_cons_of_mem _ hx)) h2)
end
mutual
theorem fn_lay : ∀ (d : Dt) (n : Nat), Fn n d → d.py.canLay0 = true ∧ d.py.depth ≤ n
  | .non, _, _ => by unfold Dt.py; exact ⟨by simp [PyData.canLay0], by simp [PyData.depth]⟩
  | .bl b, _, _ => by unfold Dt.py; exact ⟨by simp [PyData.canLay0], by simp [PyData.depth]⟩
  | .int i, _, _ => by unfold Dt.py; exact ⟨by simp [PyData.canLay0], by simp [PyData.depth]⟩
  | .str x, n, f => by
    unfold Dt.py
    have f' : PyData.strOk x = true := by cases n <;> (unfold Fn at f; exact f)
    exact ⟨by simp [PyData.canLay0, f'], by simp [PyData.depth]⟩
  | .lst ds, n, f => by
    unfold Dt.py
    cases n with
    | zero => unfold Fn at f; exact f.elim
    | succ n =>
      unfold Fn at f
      obtain ⟨h1, h2⟩ := fn_layAll ds n f
      exact ⟨by simp [PyData.canLay0, h1], by simp [PyData.depth]; exact h2⟩
  | .tup ds, n, f => by
    unfold Dt.py
    cases n with
    | zero => unfold Fn at f; exact f.elim
    | succ n =>
      unfold Fn at f
      obtain ⟨h1, h2⟩ := fn_layAll ds n f
      exact ⟨by simp [PyData.canLay0, h1], by simp [PyData.depth]; exact h2⟩
  | .ins _ _ _, n, f => by cases n <;> (unfold Fn at f; exact f.elim)
  | .ob _, n, f => by cases n <;> (unfold Fn at f; exact f.elim)
theorem fn_layAll : ∀ (ds : List Dt) (n : Nat), (∀ d ∈ ds, Fn n d) → PyData.canLayAll0 (Dt.pys ds) = true ∧ PyData.depthAll (Dt.pys ds) ≤ n
  | [], _, _ => by unfold Dt.pys; exact ⟨by simp [PyData.canLayAll0], by simp [PyData.depthAll]⟩
  | d :: ds, n, f => by
    unfold Dt.pys
    obtain ⟨h1, h2⟩ := fn_lay d n (f d (List.mem_cons_self ..))
    obtain ⟨h3, h4⟩ := fn_layAll ds n fun x hx => f x (List.mem_cons_of_mem _ hx)
    exact ⟨by simp [PyData.canLayAll0, h1, h3], by simp only [PyData.depthAll]; omega⟩
end
theorem fn_shaped {d : Dt} (f : Fn 64 d) : SeqAt.shaped d.py = true := by
  obtain ⟨h1, h2⟩ := fn_lay d 64 f
  unfold SeqAt.shaped
  rw [h1, decide_eq_true h2]
  rfl
end
/-- == of data -/
def dEq (d e : Dt) : Bool := PyData.eqv d.py e.py
theorem dEq_int {i j : Int} : dEq (.int i) (.int j) = (i == j) := by unfold dEq; simp [Dt.py, PyData.eqv]
theorem dEq_bl {i j : Bool} : dEq (.bl i) (.bl j) = (i == j) := by unfold dEq; simp [Dt.py, PyData.eqv]
theorem dEq_str {i j : Str} : dEq (.str i) (.str j) = (i == j) := by unfold dEq; simp [Dt.py, PyData.eqv]
theorem dEq_nn : dEq .non .non = true := by unfold dEq; simp [Dt.py, PyData.eqv]
theorem dEq_ni {j : Int} : dEq .non (.int j) = false := by unfold dEq; simp [Dt.py, PyData.eqv]
theorem dEq_in {j : Int} : dEq (.int j) .non = false := by unfold dEq; simp [Dt.py, PyData.eqv]
theorem dEq_nl {ds : List Dt} : dEq .non (.lst ds) = false := by unfold dEq; simp [Dt.py, PyData.eqv]
theorem dEq_ln {ds : List Dt} : dEq (.lst ds) .non = false := by unfold dEq; simp [Dt.py, PyData.eqv]
theorem dEq_lst {ds es : List Dt} : dEq (.lst ds) (.lst es) = PyData.eqvAll (Dt.pys ds) (Dt.pys es) := by unfold dEq; simp [Dt.py, PyData.eqv]
theorem dEq_tup {ds es : List Dt} : dEq (.tup ds) (.tup es) = PyData.eqvAll (Dt.pys ds) (Dt.pys es) := by unfold dEq; simp [Dt.py, PyData.eqv]
theorem dEqs_nil : PyData.eqvAll (Dt.pys []) (Dt.pys []) = true := by simp [Dt.pys, PyData.eqvAll]
theorem dEqs_nc {e : Dt} {es : List Dt} : PyData.eqvAll (Dt.pys []) (Dt.pys (e :: es)) = false := by simp [Dt.pys, PyData.eqvAll]
theorem dEqs_cn {e : Dt} {es : List Dt} : PyData.eqvAll (Dt.pys (e :: es)) (Dt.pys []) = false := by simp [Dt.pys, PyData.eqvAll]
theorem dEqs_cc {d e : Dt} {ds es : List Dt} : PyData.eqvAll (Dt.pys (d :: ds)) (Dt.pys (e :: es)) = (dEq d e && PyData.eqvAll (Dt.pys ds) (Dt.pys es)) := by simp [Dt.pys, PyData.eqvAll, dEq]
mutual
theorem dEq_refl : ∀ (d : Dt) (n : Nat), Fn n d → dEq d d = true
  | .non, _, _ => dEq_nn
  | .bl b, _, _ => by rw [dEq_bl]; simp
  | .int i, _, _ => by rw [dEq_int]; simp
  | .str x, _, _ => by rw [dEq_str]; simp
  | .lst ds, n, f => by
    rw [dEq_lst]
    cases n with
    | zero => unfold Fn at f; exact f.elim
    | succ n => unfold Fn at f; exact dEqs_refl ds n f
  | .tup ds, n, f => by
    rw [dEq_tup]
    cases n with
    | zero => unfold Fn at f; exact f.elim
    | succ n => unfold Fn at f; exact dEqs_refl ds n f
  | .ins _ _ _, n, f => by cases n <;> (unfold Fn at f; exact f.elim)
  | .ob _, n, f => by cases n <;> (unfold Fn at f; exact f.elim)
theorem dEqs_refl : ∀ (ds : List Dt) (n : Nat), (∀ d ∈ ds, Fn n d) → PyData.eqvAll (Dt.pys ds) (Dt.pys ds) = true
  | [], _, _ => dEqs_nil
  | d :: ds, n, f => by
    rw [dEqs_cc, dEq_refl d n (f d (List.mem_cons_self ..)), dEqs_refl ds n fun x hx => f x (List.mem_cons_of_mem _ hx)]
    rfl
end
theorem dEqs_ints : ∀ ns ms : List Int, PyData.eqvAll (Dt.pys (ns.map Dt.int)) (Dt.pys (ms.map Dt.int)) = decide (ns = ms)
  | [], [] => by simp [Dt.pys, PyData.eqvAll]
  | [], m :: ms => by simp [Dt.pys, PyData.eqvAll]
  | n :: ns, [] => by simp [Dt.pys, PyData.eqvAll]
  | n :: ns, m :: ms => by
    rw [List.map_cons, List.map_cons, dEqs_cc, dEqs_ints ns ms, dEq_int]
    by_cases e : n = m
    · subst e; simp
    · simp [e]
theorem dEq_ints {ns ms : List Int} : dEq (.lst (ns.map Dt.int)) (.lst (ms.map Dt.int)) = decide (ns = ms) := by rw [dEq_lst, dEqs_ints]
theorem dEq_nilL {ds : List Dt} : dEq (.lst ds) (.lst []) = ds.isEmpty := by
  rw [dEq_lst]
  cases ds with
  | nil => exact dEqs_nil
  | cons d ds => exact dEqs_cn
theorem dEq_nilR {ds : List Dt} : dEq (.lst []) (.lst ds) = ds.isEmpty := by
  rw [dEq_lst]
  cases ds with
  | nil => exact dEqs_nil
  | cons d ds => exact dEqs_nc

/-! ### readings that leave the kind open -/
theorem opR_or {X : Cx} {f : Value → Value → Sem Value} {r r' : R2} (h : OpR X f r) (h' : OpR X f r') : OpR X f (fun x y H Q => r x y H Q ∨ r' x y H Q) := by
  intro pins s σ H x y v u Q I rx ry q
  rcases q with q | q
  · exact h pins s σ H x y v u Q I rx ry q
  · exact h' pins s σ H x y v u Q I rx ry q
theorem callR_or {X : Cx} {f : Value} {r r' : List V → Hp → VK → Prop} (h : CallR X f r) (h' : CallR X f r') : CallR X f (fun xs H Q => r xs H Q ∨ r' xs H Q) := by
  intro pins s σ H xs us Q I rx q
  rcases q with q | q
  · exact h pins s σ H xs us Q I rx q
  · exact h' pins s σ H xs us Q I rx q
def rAddS : R2 := fun x y H Q => ∃ i j, x = .str i ∧ y = .str j ∧ i.length + j.length ≤ sizeLine ∧ Q (.str (i ++ j)) H
def rAddX : R2 := fun x y H Q => rI0 (fun i j => .int (i + j)) x y H Q ∨ rCat x y H Q ∨ rAddS x y H Q
theorem op_addX {X : Cx} : OpR X (binaryOp .Add) rAddX := opR_or op_add (opR_or op_cat op_add_str)
def rSubX : R2 := rI0 fun i j => .int (i - j)
theorem op_subX {X : Cx} : OpR X (binaryOp .Sub) rSubX := op_sub
def rMulX : R2 := fun x y H Q => rI CMulW (fun i j => .int (i * j)) x y H Q ∨ rRep x y H Q ∨ rI CMul (fun i j => .int (i * j)) x y H Q
theorem op_mulX {X : Cx} : OpR X (binaryOp .Mult) rMulX := opR_or op_mulW (opR_or op_rep op_mul)
def rDivX : R2 := rI CDivW fun i j => .int (i / j)
theorem op_divX {X : Cx} : OpR X (binaryOp .FloorDiv) rDivX := op_fdivW
def rModX : R2 := rI (fun _ j => 0 < j) fun i j => .int (i % j)
theorem op_modX {X : Cx} : OpR X (binaryOp .Mod) rModX := op_mod
def rPowX : R2 := rI CPow fun i j => .int (i ^ j.toNat)
theorem op_powX {X : Cx} : OpR X (binaryOp .Pow) rPowX := op_pow
def rLtX : R2 := rI0 fun i j => .bl (decide (i < j))
def rLeX : R2 := rI0 fun i j => .bl (decide (i ≤ j))
def rGtX : R2 := rI0 fun i j => .bl (decide (j < i))
def rGeX : R2 := rI0 fun i j => .bl (decide (j ≤ i))
theorem op_ltX {X : Cx} : OpR X (compareOp .Lt) rLtX := op_lt
theorem op_leX {X : Cx} : OpR X (compareOp .LtE) rLeX := op_le
theorem op_gtX {X : Cx} : OpR X (compareOp .Gt) rGtX := op_gt
theorem op_geX {X : Cx} : OpR X (compareOp .GtE) rGeX := op_ge
def rIsN' : R2 := fun x y H Q => y = .non ∧ Q (.bl (decide (x = .non))) H
def rNotN' : R2 := fun x y H Q => y = .non ∧ Q (.bl (!decide (x = .non))) H
theorem op_isNX {X : Cx} : OpR X (compareOp .Is) rIsN' := op_isN
theorem op_notNX {X : Cx} : OpR X (compareOp .IsNot) rNotN' := op_notN
def rSlX (K : PySem.W.Frag) : V → Option Int → Option Int → Hp → VK → Prop := fun x lo hi H Q => rSlL K x lo hi H Q ∨ rSlS x lo hi H Q
theorem sl_X {X : Cx} : SlR X (rSlX X.K) := sl_list.or sl_str
def rLenQ (K : PySem.W.Frag) : List V → Hp → VK → Prop := fun xs H Q => ∃ p ys, xs = [.ref p] ∧ (SqL K H p ys ∨ SqT K H p ys) ∧ Q (.int ys.length) H
def rLenT : List V → Hp → VK → Prop := fun xs H Q => ∃ z, xs = [.str z] ∧ z.length ≤ sizeLine ∧ Q (.int z.length) H
def rLenDk : List V → Hp → VK → Prop := fun xs H Q => ∃ a kvs, xs = [V.ref a] ∧ H a = some (.dK kvs) ∧ Q (.int kvs.length) H
def rLenX (K : PySem.W.Frag) : List V → Hp → VK → Prop := fun xs H Q => rLenQ K xs H Q ∨ rLenT xs H Q ∨ rLenDk xs H Q
theorem call_lenX {X : Cx} : CallR X (.builtin "len") (rLenX X.K) := callR_or call_len_seq (callR_or call_len_str call_lenD)
def rListQ (K : PySem.W.Frag) : List V → Hp → VK → Prop := fun xs H Q => ∃ p ys, xs = [.ref p] ∧ (SqL K H p ys ∨ SqT K H p ys) ∧ ∀ l, H l = none → Q (.ref l) (upd H l (.lst ys))
theorem call_listX {X : Cx} : CallR X (.type "list") (rListQ X.K) := call_list_of
def rTupQ (K : PySem.W.Frag) : List V → Hp → VK → Prop := fun xs H Q => ∃ p ys, xs = [.ref p] ∧ ((SqL K H p ys ∧ ∀ l, H l = none → Q (.ref l) (upd H l (.tup ys))) ∨ (SqT K H p ys ∧ Q (.ref p) H))
theorem call_tupleX {X : Cx} : CallR X (.type "tuple") (rTupQ X.K) := call_tuple_of
def rMin2X : List V → Hp → VK → Prop := fun xs H Q => ∃ i j, xs = [.int i, .int j] ∧ Q (.int (if j < i then j else i)) H
def rMax2X : List V → Hp → VK → Prop := fun xs H Q => ∃ i j, xs = [.int i, .int j] ∧ Q (.int (if j > i then j else i)) H
theorem call_min2X {X : Cx} (hc : X.calm = true) : CallR X (.builtin "min") rMin2X := call_min2 hc
theorem call_max2X {X : Cx} (hc : X.calm = true) : CallR X (.builtin "max") rMax2X := call_max2 hc
def rAbsX : List V → Hp → VK → Prop := fun xs H Q => ∃ i, xs = [.int i] ∧ Q (.int (if i < 0 then -i else i)) H
theorem call_absX {X : Cx} : CallR X (.builtin "abs") rAbsX := call_abs
def rIntX : List V → Hp → VK → Prop := fun xs H Q => ((∃ i, xs = [.int i] ∧ Q (.int i) H) ∨ ∃ k, xs = [.bl k] ∧ Q (.int (if k then 1 else 0)) H) ∨ ∃ a n, xs = [.str a] ∧ PySem.intText? a = some n ∧ a.length ≤ 640 ∧ Q (.int n) H
theorem call_intX {X : Cx} : CallR X (.type "int") rIntX := callR_or call_int1 call_int_str

section
variable {K : PySem.W.Frag} {C : Cc K} {ρ : List Sl} {ta tb te : TE} {t u : TT} {R : Dt → Prop}
theorem asB_i {R : Bool → Prop} {b : Bool} (h : R b) : asB R (.bl b) := h
theorem asI_i {R : Int → Prop} {b : Int} (h : R b) : asI R (.int b) := h
theorem asL_i {R : List Dt → Prop} {b : List Dt} (h : R b) : asL R (.lst b) := h
theorem opd_I0 {g : Int → Int → V} {d : Dt} {i j : Int} (hd : ∀ K H, Dv K H (g i j) d) (k : R d) : OpD C (rI0 g) (.int i) (.int j) ρ R :=
  opd_s (g i j) d hd (fun G H σ fp O v w hv hw Q q => by cases hv; cases hw; exact ⟨i, j, rfl, rfl, q⟩) k
theorem opd_I {c : Int → Int → Prop} {g : Int → Int → V} {d : Dt} {i j : Int} (hc : c i j) (hd : ∀ K H, Dv K H (g i j) d) (k : R d) : OpD C (rI c g) (.int i) (.int j) ρ R :=
  opd_s (g i j) d hd (fun G H σ fp O v w hv hw Q q => by cases hv; cases hw; exact ⟨i, j, rfl, rfl, hc, q⟩) k
theorem opd_sub {i j : Int} (k : R (.int (i - j))) : OpD C rSubX (.int i) (.int j) ρ R := opd_I0 (fun _ _ => .int _) k
theorem opd_lt {i j : Int} (k : R (.bl (decide (i < j)))) : OpD C rLtX (.int i) (.int j) ρ R := opd_I0 (fun _ _ => .bl _) k
theorem opd_le {i j : Int} (k : R (.bl (decide (i ≤ j)))) : OpD C rLeX (.int i) (.int j) ρ R := opd_I0 (fun _ _ => .bl _) k
theorem opd_gt {i j : Int} (k : R (.bl (decide (j < i)))) : OpD C rGtX (.int i) (.int j) ρ R := opd_I0 (fun _ _ => .bl _) k
theorem opd_ge {i j : Int} (k : R (.bl (decide (j ≤ i)))) : OpD C rGeX (.int i) (.int j) ρ R := opd_I0 (fun _ _ => .bl _) k
theorem opd_div {i j : Int} (hc : CDivW i j) (k : R (.int (i / j))) : OpD C rDivX (.int i) (.int j) ρ R := opd_I hc (fun _ _ => .int _) k
theorem opd_mod {i j : Int} (hc : 0 < j) (k : R (.int (i % j))) : OpD C rModX (.int i) (.int j) ρ R := opd_I hc (fun _ _ => .int _) k
theorem opd_pow {i j : Int} (hc : CPow i j) (k : R (.int (i ^ j.toNat))) : OpD C rPowX (.int i) (.int j) ρ R := opd_I hc (fun _ _ => .int _) k
theorem opd_add {i j : Int} (k : R (.int (i + j))) : OpD C rAddX (.int i) (.int j) ρ R :=
  opd_s (.int (i + j)) _ (fun _ _ => .int _) (fun G H σ fp O v w hv hw Q q => by cases hv; cases hw; exact .inl ⟨i, j, rfl, rfl, q⟩) k
theorem opd_mul {i j : Int} (hc : CMulW i j) (k : R (.int (i * j))) : OpD C rMulX (.int i) (.int j) ρ R :=
  opd_s (.int (i * j)) _ (fun _ _ => .int _) (fun G H σ fp O v w hv hw Q q => by cases hv; cases hw; exact .inl ⟨i, j, rfl, rfl, hc, q⟩) k
theorem opd_mulS {i j : Int} (hc : CMul i j) (k : R (.int (i * j))) : OpD C rMulX (.int i) (.int j) ρ R :=
  opd_s (.int (i * j)) _ (fun _ _ => .int _) (fun G H σ fp O v w hv hw Q q => by cases hv; cases hw; exact .inr (.inr ⟨i, j, rfl, rfl, hc, q⟩)) k
theorem opd_addS {i j : Str} (hc : i.length + j.length ≤ sizeLine) (k : R (.str (i ++ j))) : OpD C rAddX (.str i) (.str j) ρ R :=
  opd_s (.str (i ++ j)) _ (fun _ _ => .str _) (fun G H σ fp O v w hv hw Q q => by cases hv; cases hw; exact .inr (.inr ⟨i, j, rfl, rfl, hc, q⟩)) k
theorem opl_add {R : List Dt → Prop} {ds es : List Dt} (hc : ds.length + es.length ≤ 1000000) (k : R (ds ++ es)) : OpL C rAddX (.lst ds) (.lst es) ρ R := fun G H σ fp O v w hv hw Q q => by
  cases hv with
  | lst h1 d1 =>
    cases hw with
    | lst h2 d2 =>
      refine .inr (.inl ⟨_, _, _, _, rfl, rfl, O.e1 _ _ h1, O.e1 _ _ h2, ?_, fun p hp => q p _ _ hp (d1.app d2) k⟩)
      rw [d1.len, d2.len]
      exact Nat.le_trans hc (by decide)
theorem opd_addL {ds es : List Dt} (hc : ds.length + es.length ≤ 1000000) (k : R (.lst (ds ++ es))) : OpD C rAddX (.lst ds) (.lst es) ρ R := opd_l (opl_add hc k)
theorem dvs_reps {G : Hp} {xs : List V} {ds : List Dt} (h : Dvs K G xs ds) : ∀ n : Nat, Dvs K G (List.replicate n xs).flatten (List.replicate n ds).flatten
  | 0 => .nil
  | n + 1 => by
    rw [List.replicate_succ, List.replicate_succ, List.flatten_cons, List.flatten_cons]
    exact h.app (dvs_reps h n)
theorem opl_rep {R : List Dt → Prop} {ds : List Dt} {j : Int} (h1 : -(2 ^ 63) ≤ j) (h2 : j < 2 ^ 63) (hc : ds.length * j.toNat ≤ 1000000) (k : R (List.replicate j.toNat ds).flatten) : OpL C rMulX (.lst ds) (.int j) ρ R := fun G H σ fp O v w hv hw Q q => by
  cases hv with
  | lst e1 d1 =>
    cases hw
    refine .inr (.inl ⟨_, _, _, rfl, rfl, O.e1 _ _ e1, h1, h2, ?_, fun p hp => q p _ _ hp (dvs_reps d1 _) k⟩)
    rw [d1.len]
    exact Nat.le_trans hc (by decide)
theorem opd_rep {ds : List Dt} {j : Int} (h1 : -(2 ^ 63) ≤ j) (h2 : j < 2 ^ 63) (hc : ds.length * j.toNat ≤ 1000000) (k : R (.lst (List.replicate j.toNat ds).flatten)) : OpD C rMulX (.lst ds) (.int j) ρ R := opd_l (opl_rep h1 h2 hc k)
theorem opd_eq {x y : Dt} (hx : Fn 64 x) (hy : Fn 64 y) (k : R (.bl (dEq x y))) : OpD C (rEqD K) x y ρ R :=
  opd_s (.bl (dEq x y)) _ (fun _ _ => .bl _) (fun G H σ fp O v w hv hw Q q => ⟨x.py, y.py, Dv.dp x 64 v hx (Dv.up O.e1 x v hv), Dv.dp y 64 w hy (Dv.up O.e1 y w hw), fn_shaped hx, fn_shaped hy, q⟩) k
theorem opd_ne {x y : Dt} (hx : Fn 64 x) (hy : Fn 64 y) (k : R (.bl (!dEq x y))) : OpD C (rNeD K) x y ρ R :=
  opd_s (.bl (!dEq x y)) _ (fun _ _ => .bl _) (fun G H σ fp O v w hv hw Q q => ⟨x.py, y.py, Dv.dp x 64 v hx (Dv.up O.e1 x v hv), Dv.dp y 64 w hy (Dv.up O.e1 y w hw), fn_shaped hx, fn_shaped hy, q⟩) k
def isNon : Dt → Bool
  | .non => true
  | _ => false
theorem isNon_v {H : Hp} {v : V} {x : Dt} (h : Dv K H v x) : decide (v = V.non) = isNon x := by
  cases h <;> simp [isNon]
theorem opd_isN {x : Dt} (k : R (.bl (isNon x))) : OpD C rIsN' x .non ρ R :=
  opd_s (.bl (isNon x)) _ (fun _ _ => .bl _) (fun G H σ fp O v w hv hw Q q => by cases hw; exact ⟨rfl, by rw [isNon_v hv]; exact q⟩) k
theorem opd_notN {x : Dt} (k : R (.bl (!isNon x))) : OpD C rNotN' x .non ρ R :=
  opd_s (.bl (!isNon x)) _ (fun _ _ => .bl _) (fun G H σ fp O v w hv hw Q q => by cases hw; exact ⟨rfl, by rw [isNon_v hv]; exact q⟩) k
/-! subscripts -/
theorem atI_dvs {G : Hp} {xs : List V} {ds : List Dt} {i : Int} {d : Dt} (h : Dvs K G xs ds) (ha : atI ds i = some d) : ∃ v, atI xs i = some v ∧ Dv K G v d := by
  unfold atI at ha ⊢
  rw [h.len]
  cases q : ixN ds.length i with
  | none => rw [q] at ha; cases ha
  | some j => rw [q] at ha; exact h.get ha
theorem opd_ixL {ds : List Dt} {i : Int} {d : Dt} (ha : atI ds i = some d) (k : R d) : OpD C (rIx K) (.lst ds) (.int i) ρ R := fun G H σ fp O v w hv hw Q q => by
  cases hv with
  | lst h1 d1 =>
    cases hw
    obtain ⟨z, h2, h3⟩ := atI_dvs d1 ha
    exact .inl ⟨_, _, _, z, rfl, rfl, .inl (.inl (O.e1 _ _ h1)), h2, q z G H d (Same.refl G) O h3 k⟩
theorem opd_ixT {ds : List Dt} {i : Int} {d : Dt} (ha : atI ds i = some d) (k : R d) : OpD C (rIx K) (.tup ds) (.int i) ρ R := fun G H σ fp O v w hv hw Q q => by
  cases hv with
  | tup h1 d1 =>
    cases hw
    obtain ⟨z, h2, h3⟩ := atI_dvs d1 ha
    exact .inr (.inl ⟨_, _, _, z, rfl, rfl, .inl (.inl (O.e1 _ _ h1)), h2, q z G H d (Same.refl G) O h3 k⟩)
theorem opd_ixS {x : Str} {i : Int} {c : Nat} (hl : x.length ≤ 1000000) (ha : atI x.cps.toList i = some c) (k : R (.str ⟨#[c]⟩)) : OpD C (rIx K) (.str x) (.int i) ρ R := fun G H σ fp O v w hv hw Q q => by
  cases hv
  cases hw
  exact .inr (.inr ⟨x, i, c, rfl, rfl, Nat.le_trans hl (by decide), ha, q _ G H _ (Same.refl G) O (.str _) k⟩)
def cutD (ds : List Dt) (lo hi : Option Int) : List Dt := (ds.drop (HT.sIx ds.length 0 lo)).take (HT.sIx ds.length ds.length hi - HT.sIx ds.length 0 lo)
theorem cut_dvs {G : Hp} {xs : List V} {ds : List Dt} (h : Dvs K G xs ds) (lo hi : Option Int) : Dvs K G (cutV xs lo hi) (cutD ds lo hi) := by
  unfold cutV cutD
  rw [h.len]
  exact (h.drop _).take _
theorem ev_sl {R : Sl → List Sl → Prop} {tl th : TO} (h : EvD C te ρ fun x ρ1 => EvO C tl ρ1 fun l ρ2 => EvO C th ρ2 fun u ρ3 => asL (fun ds => R (.l (cutD ds l u)) ρ3) x) : Ev C (tSl (rSlX K) te tl th) ρ R := fun G H σ fp O Q q =>
  h G H σ fp O _ fun v G1 H1 x ρ1 fp1 e1 O1 D1 h1 => h1 G1 H1 σ fp1 O1 _ fun l G2 H2 ρ2 fp2 e2 O2 h2 => h2 G2 H2 σ fp2 O2 _ fun u G3 H3 ρ3 fp3 e3 O3 h3 => by
    cases x with
    | lst ds =>
      cases D1 with
      | lst a1 a2 =>
        have a3 := a2.up (e2.trans e3)
        exact .inl ⟨_, _, rfl, .inl (.inl (O3.e1 _ _ ((e2.trans e3) _ _ a1))), fun p hp => q _ G3 _ _ ρ3 fp3 [p] ((e1.trans e2).trans e3) (O3.newL hp (cut_dvs a3 l u)) h3⟩
    | _ => exact h3.elim
theorem evd_sl {R : Dt → List Sl → Prop} {tl th : TO} (h : EvD C te ρ fun x ρ1 => EvO C tl ρ1 fun l ρ2 => EvO C th ρ2 fun u ρ3 => asL (fun ds => R (.lst (cutD ds l u)) ρ3) x) : EvD C (tSl (rSlX K) te tl th) ρ R := by
  refine evd_l (ev_sl (evd_imp h fun x ρ1 h1 => ?_))
  intro G H σ fp O Q q
  refine h1 G H σ fp O Q fun o G' H' ρ' fp' e O' h2 => q o G' H' ρ' fp' e O' ?_
  intro G H σ fp O Q q
  refine h2 G H σ fp O Q fun o G' H' ρ' fp' e O' h3 => q o G' H' ρ' fp' e O' ?_
  cases x with
  | lst ds => exact ⟨_, rfl, h3⟩
  | _ => exact h3.elim
theorem evd_rev {R : Dt → List Sl → Prop} (h : EvD C te ρ fun x ρ1 => asL (fun ds => R (.lst ds.reverse) ρ1) x) : EvD C (tRevL K te) ρ R := fun G H σ fp O Q q =>
  h G H σ fp O _ fun v G1 H1 x ρ1 fp1 e1 O1 D1 h1 => by
    cases x with
    | lst ds =>
      cases D1 with
      | @lst _ xs _ a1 a2 =>
        refine ⟨_, _, rfl, .inl (.inl (O1.e1 _ _ a1)), fun p hp => ?_⟩
        have s1 : Same G1 (upd G1 p (.lst xs.reverse)) := same_new (O1.e1.free hp)
        exact q _ _ _ _ ρ1 fp1 (e1.trans s1) (O1.new hp) (.lst upd_same (a2.rev.up s1)) h1
    | _ => exact h1.elim
/-! calls -/
theorem cad_s {r : List V → Hp → VK → Prop} {ds : List Dt} (z : V) (d : Dt) (hd : ∀ K H, Dv K H z d) (h : ∀ G H σ fp, Ok C G H σ ρ fp → ∀ vs, Dvs K G vs ds → ∀ Q : VK, Q z H → r vs H Q) (k : R d) : CaD C r ds ρ R :=
  fun G H σ fp O vs hv Q q => h G H σ fp O vs hv Q (q z G H d (Same.refl G) O (hd _ _) k)
theorem cad_lenL {ds : List Dt} (k : R (.int ds.length)) : CaD C (rLenX K) [.lst ds] ρ R :=
  cad_s (.int ds.length) _ (fun _ _ => .int _) (fun G H σ fp O vs hv Q q => by
    cases hv with
    | cons h1 h2 =>
      cases h2
      cases h1 with
      | lst a1 a2 => exact .inl ⟨_, _, rfl, .inl (.inl (.inl (O.e1 _ _ a1))), by rw [a2.len]; exact q⟩) k
theorem cad_lenT {ds : List Dt} (k : R (.int ds.length)) : CaD C (rLenX K) [.tup ds] ρ R :=
  cad_s (.int ds.length) _ (fun _ _ => .int _) (fun G H σ fp O vs hv Q q => by
    cases hv with
    | cons h1 h2 =>
      cases h2
      cases h1 with
      | tup a1 a2 => exact .inl ⟨_, _, rfl, .inr (.inl (.inl (O.e1 _ _ a1))), by rw [a2.len]; exact q⟩) k
theorem cad_lenS {x : Str} (hl : x.length ≤ 1000000) (k : R (.int x.length)) : CaD C (rLenX K) [.str x] ρ R :=
  cad_s (.int x.length) _ (fun _ _ => .int _) (fun G H σ fp O vs hv Q q => by
    cases hv with
    | cons h1 h2 =>
      cases h2
      cases h1
      exact .inr (.inl ⟨_, rfl, Nat.le_trans hl (by decide), q⟩)) k
theorem cal_listL {R : List Dt → Prop} {ds : List Dt} (k : R ds) : CaL C (rListQ K) [.lst ds] ρ R := fun G H σ fp O vs hv Q q => by
  cases hv with
  | cons h1 h2 =>
    cases h2
    cases h1 with
    | lst a1 a2 => exact ⟨_, _, rfl, .inl (.inl (.inl (O.e1 _ _ a1))), fun l hl => q l _ _ hl a2 k⟩
theorem cal_listT {R : List Dt → Prop} {ds : List Dt} (k : R ds) : CaL C (rListQ K) [.tup ds] ρ R := fun G H σ fp O vs hv Q q => by
  cases hv with
  | cons h1 h2 =>
    cases h2
    cases h1 with
    | tup a1 a2 => exact ⟨_, _, rfl, .inr (.inl (.inl (O.e1 _ _ a1))), fun l hl => q l _ _ hl a2 k⟩
theorem cad_tupL {ds : List Dt} (k : R (.tup ds)) : CaD C (rTupQ K) [.lst ds] ρ R := fun G H σ fp O vs hv Q q => by
  cases hv with
  | cons h1 h2 =>
    cases h2
    cases h1 with
    | @lst _ xs _ a1 a2 =>
      refine ⟨_, _, rfl, .inl ⟨.inl (.inl (O.e1 _ _ a1)), fun p hp => ?_⟩⟩
      have s1 : Same G (upd G p (.tup xs)) := same_new (O.e1.free hp)
      exact q _ _ _ _ s1 (O.new hp) (.tup upd_same (a2.up s1)) k
theorem cad_tupT {ds : List Dt} (k : R (.tup ds)) : CaD C (rTupQ K) [.tup ds] ρ R := fun G H σ fp O vs hv Q q => by
  cases hv with
  | cons h1 h2 =>
    cases h2
    cases h1 with
    | tup a1 a2 => exact ⟨_, _, rfl, .inr ⟨.inl (.inl (O.e1 _ _ a1)), q _ G H _ (Same.refl G) O (.tup a1 a2) k⟩⟩
theorem cad_min2 {i j : Int} (k : R (.int (if j < i then j else i))) : CaD C rMin2X [.int i, .int j] ρ R :=
  cad_s (.int _) _ (fun _ _ => .int _) (fun G H σ fp O vs hv Q q => by
    rcases hv with _ | ⟨h1, _ | ⟨h2, _ | _⟩⟩
    cases h1; cases h2
    exact ⟨i, j, rfl, q⟩) k
theorem cad_max2 {i j : Int} (k : R (.int (if j > i then j else i))) : CaD C rMax2X [.int i, .int j] ρ R :=
  cad_s (.int _) _ (fun _ _ => .int _) (fun G H σ fp O vs hv Q q => by
    rcases hv with _ | ⟨h1, _ | ⟨h2, _ | _⟩⟩
    cases h1; cases h2
    exact ⟨i, j, rfl, q⟩) k
theorem cad_abs {i : Int} (k : R (.int (if i < 0 then -i else i))) : CaD C rAbsX [.int i] ρ R :=
  cad_s (.int _) _ (fun _ _ => .int _) (fun G H σ fp O vs hv Q q => by
    rcases hv with _ | ⟨h1, _ | _⟩
    cases h1
    exact ⟨i, rfl, q⟩) k
theorem cad_intI {i : Int} (k : R (.int i)) : CaD C rIntX [.int i] ρ R :=
  cad_s (.int _) _ (fun _ _ => .int _) (fun G H σ fp O vs hv Q q => by
    rcases hv with _ | ⟨h1, _ | _⟩
    cases h1
    exact .inl (.inl ⟨i, rfl, q⟩)) k
theorem cad_intB {i : Bool} (k : R (.int (if i then 1 else 0))) : CaD C rIntX [.bl i] ρ R :=
  cad_s (.int _) _ (fun _ _ => .int _) (fun G H σ fp O vs hv Q q => by
    rcases hv with _ | ⟨h1, _ | _⟩
    cases h1
    exact .inl (.inr ⟨i, rfl, q⟩)) k
theorem cad_intS {x : Str} {n : Int} (h : PySem.intText? x = some n) (hl : x.length ≤ 640) (k : R (.int n)) : CaD C rIntX [.str x] ρ R :=
  cad_s (.int _) _ (fun _ _ => .int _) (fun G H σ fp O vs hv Q q => by
    rcases hv with _ | ⟨h1, _ | _⟩
    cases h1
    exact .inr ⟨x, n, rfl, h, hl, q⟩) k
theorem cad_sum {ns : List Int} (k : R (.int ns.sum)) : CaD C (rSum K) [.lst (ns.map Dt.int)] ρ R :=
  cad_s (.int _) _ (fun _ _ => .int _) (fun G H σ fp O vs hv Q q => by
    rcases hv with _ | ⟨h1, _ | _⟩
    cases h1 with
    | lst a1 a2 =>
      rw [a2.ofInts] at a1
      exact ⟨_, ns, rfl, .inl (.inl (O.e1 _ _ a1)), q⟩) k
theorem cad_all {ns : List Bool} (k : R (.bl (ns.all id))) : CaD C (rAll K) [.lst (ns.map Dt.bl)] ρ R :=
  cad_s (.bl _) _ (fun _ _ => .bl _) (fun G H σ fp O vs hv Q q => by
    rcases hv with _ | ⟨h1, _ | _⟩
    cases h1 with
    | lst a1 a2 =>
      rw [a2.ofBls] at a1
      exact ⟨_, ns, rfl, .inl (.inl (O.e1 _ _ a1)), q⟩) k
/-! isinstance -/
def dTy : Dt → String
  | .non => "NoneType"
  | .bl _ => "bool"
  | .int _ => "int"
  | .str _ => "str"
  | .lst _ => "list"
  | .tup _ => "tuple"
  | .ins _ _ _ => "?"
  | .ob _ => "dict"
/-- of a type that is built in -/
def NoI : Dt → Prop
  | .ins _ _ _ => False
  | .ob (.exc _) => False
  | _ => True
theorem dv_ty {G H : Hp} {v : V} {x : Dt} (e : Same G H) (h : Dv K G v x) (hx : NoI x) : TyX K H v (.type (dTy x)) := by
  cases h with
  | non => exact .base .non
  | bl b => exact .base (.bl b)
  | int b => exact .base (.int b)
  | str b => exact .base (.str b)
  | lst a b => exact .base (.lst (e _ _ a))
  | tup a b => exact .base (.tup (e _ _ a))
  | ins a b c => exact hx.elim
  | @ob a k g =>
    cases k with
    | dic => exact .base (.dK (e _ _ g))
    | exc C => exact hx.elim
def isTy (n : String) (x : Dt) : Bool := (kitB (dTy x) n).getD false
theorem evd_isi {R : Dt → List Sl → Prop} {n : String} (h : EvD C te ρ fun x ρ1 => (kitB (dTy x) n).isSome = true ∧ NoI x ∧ R (.bl (isTy n x)) ρ1) : EvD C (tCB (rIsi K) (tCons te (tCons (tC (.ty n)) tNil))) ρ R := fun G H σ fp O Q q =>
  h G H σ fp O _ fun v G1 H1 x ρ1 fp1 e1 O1 D1 h1 => by
    obtain ⟨h2, h3, h4⟩ := h1
    refine ⟨v, .ty n, .type (dTy x), .type n, isTy n x, rfl, .ty n, dv_ty O1.e1 D1 h3, kit_ty ?_, q _ G1 H1 _ ρ1 fp1 e1 O1 (.bl _) h4⟩
    unfold isTy
    cases e : kitB (dTy x) n with
    | none => rw [e] at h2; cases h2
    | some b => rfl
def isTy2 (n m : String) (x : Dt) : Bool := isTy n x || isTy m x
theorem evd_isi2 {R : Dt → List Sl → Prop} {n m : String} (h : EvD C te ρ fun x ρ1 => (kitB (dTy x) n).isSome = true ∧ (kitB (dTy x) m).isSome = true ∧ NoI x ∧ R (.bl (isTy2 n m x)) ρ1) :
    EvD C (tCB (rIsiT K) (tCons te (tCons (tTup (tCons (tC (.ty n)) (tCons (tC (.ty m)) tNil))) tNil))) ρ R := fun G H σ fp O Q q =>
  h G H σ fp O _ fun v G1 H1 x ρ1 fp1 e1 O1 D1 h1 => by
    obtain ⟨h2, h2', h3, h4⟩ := h1
    refine ⟨by show 2 ≤ sizeLine; decide, fun p hp => ?_⟩
    have O2 := O1.scr (o := .tup [.ty n, .ty m]) hp
    refine ⟨v, p, [.ty n, .ty m], .type (dTy x), [.type n, .type m], isTy2 n m x, rfl, upd_same, .cons (.ty n) (.cons (.ty m) .nil), dv_ty O2.e1 D1 h3, ?_, q _ G1 _ _ ρ1 fp1 e1 O2 (.bl _) h4⟩
    cases e : kitB (dTy x) n with
    | none => rw [e] at h2; cases h2
    | some b =>
      cases e' : kitB (dTy x) m with
      | none => rw [e'] at h2'; cases h2'
      | some b' =>
        have e1 : isTy n x = b := by unfold isTy; rw [e]; rfl
        have e2 : isTy m x = b' := by unfold isTy; rw [e']; rfl
        refine kitAny_cons (kit_ty e) (fun hb => kitAny_cons (kit_ty e') (fun hb' => ?_) fun hb' => ?_) fun hb => ?_
        · rw [kitAny_nil]; unfold isTy2; rw [e1, e2, hb, hb']; rfl
        · unfold isTy2; rw [e1, e2, hb, hb']; rfl
        · unfold isTy2; rw [e1, e2, hb]; rfl
/-! an owned list, at a name -/
theorem own_l {G H : Hp} {σ : St} {fp : Nat → List Addr} {i : Nat} {q : Bool} {ds : List Dt} (O : Ok C G H σ ρ fp) (h : ρ[i]? = some (.w q (lw ds))) : ∃ p xs, σ[i]? = some (some (.ref p)) ∧ H p = some (.lst xs) ∧ Dvs K G xs ds := by
  obtain ⟨v, h1, ⟨p, xs, rfl, _, h2, h3⟩, _⟩ := O.sl i _ h
  exact ⟨p, xs, h1, h2, h3⟩
theorem evd_lenO {R : Dt → List Sl → Prop} {i : Nat} {q : Bool} {ds : List Dt} (h : ρ[i]? = some (.w q (lw ds))) (k : R (.int ds.length) ρ) : EvD C (tCB (rLenX K) (tCons (tVar i) tNil)) ρ R := fun G H σ fp O Q q => by
  obtain ⟨p, xs, h1, h2, h3⟩ := own_l O h
  exact ⟨_, h1, .inl ⟨p, xs, rfl, .inl (.inl (.inl h2)), by rw [h3.len]; exact q _ G H _ ρ fp (Same.refl G) O (.int _) k⟩⟩
/-- x[e], x owned: what x holds when e is known -/
theorem evd_ixO {R : Dt → List Sl → Prop} {i : Nat} (h : EvD C tb ρ fun y ρ1 => asI (fun j => ∃ q ds d, ρ1[i]? = some (.w q (lw ds)) ∧ atI ds j = some d ∧ R d ρ1) y) {q : Bool} {W : Wd} (hw : ρ[i]? = some (.w q W)) : EvD C (tOp (rIx K) (tVar i) tb) ρ R := fun G H σ fp O Q q => by
  obtain ⟨v, h1, _⟩ := O.sl i _ hw
  refine ⟨v, h1, ?_⟩
  refine h G H σ fp O _ fun y G1 H1 d ρ1 fp1 e1 O1 D1 h2 => ?_
  cases d with
  | int j =>
    cases D1
    obtain ⟨qq, ds, d, h3, h4, h5⟩ := h2
    obtain ⟨p, xs, g1, g2, g3⟩ := own_l O1 h3
    rw [h1] at g1
    cases g1
    obtain ⟨z, g4, g5⟩ := atI_dvs g3 h4
    exact .inl ⟨p, xs, j, z, rfl, rfl, .inl (.inl g2), g4, q z G1 H1 d ρ1 fp1 e1 O1 g5 h5⟩
  | _ => exact h2.elim
/-- an owned list that is read as known for good -/
theorem evd_frz {R : Dt → List Sl → Prop} {i : Nat} {ds : List Dt} (h : ρ[i]? = some (.l ds)) (k : EvD C te (ρ.set i (.d (.lst ds))) R) : EvD C te ρ R := fun G H σ fp O Q q => by
  obtain ⟨v, h1, ⟨p, xs, rfl, hf, h2, h3⟩, _, hn⟩ := O.sl i _ h
  have hm : p ∈ fp i := by rw [hf]; exact List.mem_singleton.mpr rfl
  obtain ⟨g, _, _⟩ := O.fo i p hm
  have s1 : Same G (upd G p (.lst xs)) := same_new g
  have hi : i < ρ.length := (List.getElem?_eq_some_iff.mp h).1
  refine k (upd G p (.lst xs)) H σ (fpSet fp i []) ?_ Q fun v G' H' d ρ' fp' e O' D r => q v G' H' d ρ' fp' (s1.trans e) O' D r
  exact {
    e0 := O.e0.trans s1
    e1 := fun a u z => by
      by_cases e : a = p
      · subst e; rw [upd_same] at z; cases z; exact h2
      · rw [upd_ne e] at z; exact O.e1 a u z
    nw := fun a u z => by
      by_cases e : a = p
      · subst e; exact .inr (hn rfl a hm)
      · rw [upd_ne e] at z; exact O.nw a u z
    fr := O.fr
    dm := O.dm
    len := by rw [List.length_set]; exact O.len
    sl := fun j s hs => by
      by_cases e : j = i
      · subst e
        rw [List.getElem?_set_self hi] at hs
        cases hs
        exact ⟨_, h1, .lst upd_same (h3.up s1)⟩
      · rw [List.getElem?_set_ne (Ne.symm e)] at hs
        unfold fpSet
        rw [if_neg e]
        exact (O.sl j s hs).up s1 fun a _ o q => q
    em := fun j hj => by
      unfold fpSet
      by_cases e : j = i
      · rw [if_pos e]
      · rw [if_neg e]
        refine O.em j fun q W z => hj q W ?_
        rw [List.getElem?_set_ne (Ne.symm e)]
        exact z
    dj := fun j l a ha hb => by
      unfold fpSet at ha hb
      by_cases e1 : j = i
      · rw [if_pos e1] at ha; cases ha
      · by_cases e2 : l = i
        · rw [if_pos e2] at hb; cases hb
        · rw [if_neg e1] at ha
          rw [if_neg e2] at hb
          exact O.dj j l a ha hb
    fo := fun j a ha => by
      unfold fpSet at ha
      by_cases e : j = i
      · rw [if_pos e] at ha; cases ha
      · rw [if_neg e] at ha
        obtain ⟨x1, x2, x3⟩ := O.fo j a ha
        refine ⟨?_, x2, x3⟩
        have ne : a ≠ p := fun z => e (O.dj j i a ha (z ▸ hm))
        rw [upd_ne ne]
        exact x1 }
end

end
section
/-! DL, part d: statements, loops, comprehensions. -/

structure En where
  nx : List Sl → Prop
  bk : List Sl → Prop
  ct : List Sl → Prop
  rt : Sl → List Sl → Prop
structure EOk {K : PySem.W.Frag} (C : Cc K) (G : Hp) (P : En) (D : Ends) : Prop where
  nx : ∀ G' H' σ' ρ' fp', Same G G' → Ok C G' H' σ' ρ' fp' → P.nx ρ' → D.nx σ' H'
  bk : ∀ G' H' σ' ρ' fp', Same G G' → Ok C G' H' σ' ρ' fp' → P.bk ρ' → D.bk σ' H'
  ct : ∀ G' H' σ' ρ' fp', Same G G' → Ok C G' H' σ' ρ' fp' → P.ct ρ' → D.ct σ' H'
  rt : ∀ v G' H' σ' ρ' fp' fv s, Same G G' → OkV C G' H' σ' ρ' fp' v fv s → P.rt s ρ' → D.rt v H'
def Sj {K : PySem.W.Frag} (C : Cc K) (ts : TS) (ρ : List Sl) (P : En) : Prop := ∀ G H σ fp, Ok C G H σ ρ fp → ∀ D : Ends, EOk C G P D → ts D σ H
/-- a target -/
def GgD {K : PySem.W.Frag} (C : Cc K) (g : TG) (d : Dt) (ρ : List Sl) (R : List Sl → Prop) : Prop :=
  ∀ G H σ fp v, Ok C G H σ ρ fp → Dv K G v d → ∀ Q : St → Hp → Prop, (∀ G' H' σ' ρ' fp', Same G G' → Ok C G' H' σ' ρ' fp' → R ρ' → Q σ' H') → g v σ H Q
def GgsD {K : PySem.W.Frag} (C : Cc K) (g : TGs) (ds : List Dt) (ρ : List Sl) (R : List Sl → Prop) : Prop :=
  ∀ G H σ fp vs, Ok C G H σ ρ fp → Dvs K G vs ds → ∀ Q : St → Hp → Prop, (∀ G' H' σ' ρ' fp', Same G G' → Ok C G' H' σ' ρ' fp' → R ρ' → Q σ' H') → g vs σ H Q
def notTrue : Sl → Bool
  | .w true _ => false
  | _ => true
theorem notTrue_ne {s : Sl} (h : notTrue s = true) : ∀ W, s ≠ .w true W := fun W e => by subst e; cases h

section
variable {K : PySem.W.Frag} {C : Cc K} {ρ : List Sl} {P : En} {ta tb te : TE} {t u : TT} {ts us : TS}
theorem EOk.up {G G' : Hp} {D : Ends} (E : EOk C G P D) (e : Same G G') : EOk C G' P D :=
  ⟨fun a b c d f e1 => E.nx a b c d f (e.trans e1), fun a b c d f e1 => E.bk a b c d f (e.trans e1), fun a b c d f e1 => E.ct a b c d f (e.trans e1), fun v a b c d f g h e1 => E.rt v a b c d f g h (e.trans e1)⟩
theorem sj_imp {P' : En} (h : Sj C ts ρ P) (k1 : ∀ ρ, P.nx ρ → P'.nx ρ) (k2 : ∀ ρ, P.bk ρ → P'.bk ρ) (k3 : ∀ ρ, P.ct ρ → P'.ct ρ) (k4 : ∀ s ρ, P.rt s ρ → P'.rt s ρ) : Sj C ts ρ P' := fun G H σ fp O D E =>
  h G H σ fp O D ⟨fun a b c d f e1 o x => E.nx a b c d f e1 o (k1 _ x), fun a b c d f e1 o x => E.bk a b c d f e1 o (k2 _ x), fun a b c d f e1 o x => E.ct a b c d f e1 o (k3 _ x), fun v a b c d f g h e1 o x => E.rt v a b c d f g h e1 o (k4 _ _ x)⟩
theorem sj_seq (h : Sj C ts ρ { P with nx := fun ρ' => Sj C us ρ' P }) : Sj C (tSeq ts us) ρ P := fun G H σ fp O D E =>
  h G H σ fp O { D with nx := us D } ⟨fun G' H' σ' ρ' fp' e O' n => n G' H' σ' fp' O' D (E.up e), E.bk, E.ct, E.rt⟩
/-- what follows is shown once, from Mid -/
theorem sj_mid (Mid : List Sl → Prop) (h : Sj C ts ρ { P with nx := Mid }) (k : ∀ ρ', Mid ρ' → Sj C us ρ' P) : Sj C (tSeq ts us) ρ P := sj_seq (sj_imp h (fun ρ' m => k ρ' m) (fun _ x => x) (fun _ x => x) fun _ _ x => x)
theorem sj_next (k : P.nx ρ) : Sj C tNext ρ P := fun G H σ fp O D E => E.nx G H σ ρ fp (Same.refl G) O k
theorem sj_brk (k : P.bk ρ) : Sj C tBreak ρ P := fun G H σ fp O D E => E.bk G H σ ρ fp (Same.refl G) O k
theorem sj_cont (k : P.ct ρ) : Sj C tCont ρ P := fun G H σ fp O D E => E.ct G H σ ρ fp (Same.refl G) O k
theorem sj_ret (h : EvD C te ρ fun d ρ' => P.rt (.d d) ρ') : Sj C (tRet te) ρ P := fun G H σ fp O D E =>
  h G H σ fp O _ fun v G' H' d ρ' fp' e O' D' r => E.rt v G' H' σ ρ' fp' [] (.d d) e (O'.dv D') r
theorem sj_retS (h : Ev C te ρ fun s ρ' => P.rt s ρ') : Sj C (tRet te) ρ P := fun G H σ fp O D E =>
  h G H σ fp O _ fun v G' H' s ρ' fp' fv e O' r => E.rt v G' H' σ ρ' fp' fv s e O' r
theorem sj_retN (k : P.rt (.d .non) ρ) : Sj C tRetN ρ P := fun G H σ fp O D E => E.rt .non G H σ ρ fp [] _ (Same.refl G) (O.dv .non) k
theorem sj_drop (h : EvD C te ρ fun _ ρ' => P.nx ρ') : Sj C (tDrop te) ρ P := fun G H σ fp O D E =>
  h G H σ fp O _ fun v G' H' d ρ' fp' e O' D' r => E.nx G' H' σ ρ' fp' e O' r
theorem sj_asg {g : TG} (h : EvD C te ρ fun d ρ' => GgD C g d ρ' P.nx) : Sj C (tAsg te g) ρ P := fun G H σ fp O D E =>
  h G H σ fp O _ fun v G' H' d ρ' fp' e O' D' r => r G' H' σ fp' v O' D' D.nx fun G2 H2 σ2 ρ2 fp2 e2 O2 r2 => E.nx G2 H2 σ2 ρ2 fp2 (e.trans e2) O2 r2
theorem gg_name {d : Dt} {i : Nat} {R : List Sl → Prop} (ha : asgOk ρ i = true) (k : R (ρ.set i (.d d))) : GgD C (gName i) d ρ R := fun G H σ fp v O D Q q =>
  q G H _ _ _ (Same.refl G) ((O.dv D).store ha (fun W z => by cases z)) k
/-- x = e -/
theorem sj_set {i : Nat} (h : EvD C te ρ fun d ρ' => asgOk ρ' i = true ∧ P.nx (ρ'.set i (.d d))) : Sj C (tAsg te (gName i)) ρ P := sj_asg (evd_imp h fun d ρ' r => gg_name r.1 r.2)
/-- x = e, what comes is owned -/
theorem sj_own {i : Nat} (h : Ev C te ρ fun s ρ' => asgOk ρ' i = true ∧ notTrue s = true ∧ P.nx (ρ'.set i s)) : Sj C (tAsg te (gName i)) ρ P := fun G H σ fp O D E =>
  h G H σ fp O _ fun v G' H' s ρ' fp' fv e O' r => E.nx G' H' _ _ _ e (O'.store r.1 (notTrue_ne r.2.1)) r.2.2
theorem gg_tup {n : Nat} {gs : TGs} {ds : List Dt} {R : List Sl → Prop} (hn : ds.length = n) (h : GgsD C gs ds ρ R) : GgD C (gTup K n gs) (.tup ds) ρ R := fun G H σ fp v O D Q q => by
  cases D with
  | tup h1 h2 => exact ⟨_, _, rfl, .inl (.inl (O.e1 _ _ h1)), h2.len.trans hn, h G H σ fp _ O h2 Q q⟩
theorem ggs_nil {R : List Sl → Prop} (k : R ρ) : GgsD C gNil [] ρ R := fun G H σ fp vs O D Q q => by
  cases D
  exact ⟨rfl, q G H σ ρ fp (Same.refl G) O k⟩
theorem ggs_cons {g : TG} {gs : TGs} {d : Dt} {ds : List Dt} {R : List Sl → Prop} (h : GgD C g d ρ fun ρ1 => GgsD C gs ds ρ1 R) : GgsD C (gCons g gs) (d :: ds) ρ R := fun G H σ fp vs O D Q q => by
  cases D with
  | cons h1 h2 =>
    refine ⟨_, _, rfl, h G H σ fp _ O h1 _ fun G1 H1 σ1 ρ1 fp1 e1 O1 r => ?_⟩
    exact r G1 H1 σ1 fp1 _ O1 (h2.up e1) Q fun G2 H2 σ2 ρ2 fp2 e2 O2 r2 => q G2 H2 σ2 ρ2 fp2 (e1.trans e2) O2 r2
/-- a, b = x, y -/
theorem sj_par {i j : Nat} {t : TA} (h : EvA C t ρ fun ds ρ' => ∃ d e, ds = [d, e] ∧ asgOk ρ' i = true ∧ asgOk (ρ'.set i (.d d)) j = true ∧ P.nx ((ρ'.set i (.d d)).set j (.d e))) : Sj C (tPar i j t) ρ P := fun G H σ fp O D E =>
  h G H σ fp O _ fun vs G' H' ds ρ' fp' e O' D' r => by
    obtain ⟨d, e', rfl, h1, h2, h3⟩ := r
    rcases D' with _ | ⟨d1, _ | ⟨d2, _ | _⟩⟩
    have O1 := (O'.dv d1).store h1 (fun W z => by cases z)
    exact ⟨_, _, rfl, E.nx G' H' _ _ _ e ((O1.dv d2).store h2 (fun W z => by cases z)) h3⟩
theorem sj_if (h : EvT C t ρ fun b ρ' => (b = true → Sj C ts ρ' P) ∧ (b = false → Sj C us ρ' P)) : Sj C (tIfS t ts us) ρ P := fun G H σ fp O D E =>
  h G H σ fp O _ fun b G' H' ρ' fp' e O' r => by
    cases b with
    | true => show ts D σ H'; exact r.1 rfl G' H' σ fp' O' D (E.up e)
    | false => show us D σ H'; exact r.2 rfl G' H' σ fp' O' D (E.up e)
theorem sj_aug {i : Nat} {f : Int → Int → Int} {a : Int} (hi : ρ[i]? = some (.d (.int a))) (h : EvD C te ρ fun d ρ' => asI (fun b => asgOk ρ' i = true ∧ P.nx (ρ'.set i (.d (.int (f a b))))) d) : Sj C (tAug i te (ipI f)) ρ P := fun G H σ fp O D E => by
  obtain ⟨v, h1, h2⟩ := O.sl i _ hi
  cases h2
  refine ⟨_, h1, h G H σ fp O _ fun v G' H' d ρ' fp' e O' D' r => ?_⟩
  cases d with
  | int b =>
    cases D'
    exact ⟨a, b, rfl, rfl, E.nx G' H' _ _ _ e ((O'.dv (.int (f a b))).store r.1 (fun W z => by cases z)) r.2⟩
  | _ => exact r.elim
theorem sj_never (h : False) : Sj C tNever ρ P := h.elim
/-- while, by a word over the slots and a measure -/
theorem sj_while (Iv : Nat → List Sl → Prop) (m0 : Nat) (h0 : Iv m0 ρ)
    (hs : ∀ m ρ', Iv m ρ' → EvT C t ρ' fun b ρ1 => (b = true → Sj C ts ρ1 { P with nx := fun ρ2 => ∃ m', m' < m ∧ Iv m' ρ2, ct := fun ρ2 => ∃ m', m' < m ∧ Iv m' ρ2, bk := P.nx }) ∧ (b = false → P.nx ρ1)) : Sj C (tWhile t ts) ρ P := fun G H σ fp O D E => by
  refine ⟨fun m σ' H' => ∃ G' ρ' fp', Same G G' ∧ Ok C G' H' σ' ρ' fp' ∧ Iv m ρ', ⟨m0, G, ρ, fp, Same.refl G, O, h0⟩, ?_⟩
  rintro m σ' H' ⟨G', ρ', fp', e, O', iv⟩
  refine hs m ρ' iv G' H' σ' fp' O' _ fun b G1 H1 ρ1 fp1 e1 O1 r => ?_
  cases b with
  | true =>
    refine ⟨fun σ2 H2 => ∃ m', m' < m ∧ ∃ G2 ρ2 fp2, Same G G2 ∧ Ok C G2 H2 σ2 ρ2 fp2 ∧ Iv m' ρ2, fun σ2 H2 z => z, ?_⟩
    refine r.1 rfl G1 H1 σ' fp1 O1 _ ⟨?_, ?_, ?_, ?_⟩
    · rintro G2 H2 σ2 ρ2 fp2 e2 O2 ⟨m', hm, iv'⟩
      exact ⟨m', hm, G2, ρ2, fp2, (e.trans e1).trans e2, O2, iv'⟩
    · intro G2 H2 σ2 ρ2 fp2 e2 O2 n
      exact E.nx G2 H2 σ2 ρ2 fp2 ((e.trans e1).trans e2) O2 n
    · rintro G2 H2 σ2 ρ2 fp2 e2 O2 ⟨m', hm, iv'⟩
      exact ⟨m', hm, G2, ρ2, fp2, (e.trans e1).trans e2, O2, iv'⟩
    · intro v G2 H2 σ2 ρ2 fp2 fv s e2 O2 n
      exact E.rt v G2 H2 σ2 ρ2 fp2 fv s ((e.trans e1).trans e2) O2 n
  | false => exact E.nx G1 H1 σ' ρ1 fp1 (e.trans e1) O1 (r.2 rfl)

/-! ### what is walked -/
/-- n turns, giving the data Y i, wherever G is known -/
structure ItD (K : PySem.W.Frag) (G : Hp) (J : It) (n : Nat) (Y : Nat → Dt) : Prop where
  go : ∀ i H, Same G H → i < n → J.go i H
  stop : ∀ H, Same G H → J.stop n H
  yld : ∀ i H x H', i < n → Same G H → J.yld i H x H' → (H' = H ∧ Dv K G x (Y i)) ∨ ∃ T o, H T = none ∧ H' = upd H T o ∧ x = .ref T ∧ ∀ G2, Same G G2 → G2 T = some o → Dv K G2 (.ref T) (Y i)
def WkD {K : PySem.W.Frag} (C : Cc K) (wi : TI) (ρ : List Sl) (R : Nat → (Nat → Dt) → List Sl → Prop) : Prop :=
  ∀ G H σ fp, Ok C G H σ ρ fp → ∀ Rr : It → Hp → Prop, (∀ J G' H' n Y ρ' fp', Same G G' → Ok C G' H' σ ρ' fp' → ItD K G' J n Y → R n Y ρ' → Rr J H') → wi σ H Rr
theorem ItD.up {G G' : Hp} {J : It} {n : Nat} {Y : Nat → Dt} (h : ItD K G J n Y) (e : Same G G') : ItD K G' J n Y where
  go := fun i H e1 hi => h.go i H (e.trans e1) hi
  stop := fun H e1 => h.stop H (e.trans e1)
  yld := fun i H x H' hi e1 y => by
    rcases h.yld i H x H' hi (e.trans e1) y with ⟨a, b⟩ | ⟨T, o, a, b, c, d⟩
    · exact .inl ⟨a, Dv.up e _ _ b⟩
    · exact .inr ⟨T, o, a, b, c, fun G2 e2 => d G2 (e.trans e2)⟩
/-- the item as known data -/
theorem ItD.item {G H H' : Hp} {σ : St} {fp : Nat → List Addr} {J : It} {n i : Nat} {Y : Nat → Dt} {x : V} (h : ItD K G J n Y) (O : Ok C G H σ ρ fp) (hi : i < n) (y : J.yld i H x H') :
    ∃ G', Same G G' ∧ Ok C G' H' σ ρ fp ∧ Dv K G' x (Y i) ∧ ∀ b o, H b = some o → H' b = some o ∧ G' b = G b := by
  rcases h.yld i H x H' hi O.e1 y with ⟨rfl, b⟩ | ⟨T, o, a, rfl, rfl, d⟩
  · exact ⟨G, Same.refl G, O, b, fun c u q => ⟨q, rfl⟩⟩
  · have s1 : Same G (upd G T o) := same_new (O.e1.free a)
    refine ⟨upd G T o, s1, O.new a, d _ s1 upd_same, fun c u q => ?_⟩
    have ne : c ≠ T := ne_of_none q a
    rw [upd_ne ne, upd_ne ne]
    exact ⟨q, rfl⟩
theorem sj_for {wi : TI} {g : TG} (h : WkD C wi ρ fun n Y ρ1 => ∃ Iv : Nat → List Sl → Prop, Iv 0 ρ1 ∧
    (∀ i ρ', i < n → Iv i ρ' → GgD C g (Y i) ρ' fun ρ2 => Sj C ts ρ2 { P with nx := Iv (i + 1), ct := Iv (i + 1), bk := P.nx }) ∧ ∀ ρ', Iv n ρ' → P.nx ρ') : Sj C (tFor wi g ts) ρ P := fun G H σ fp O D E =>
  h G H σ fp O _ fun J G1 H1 n Y ρ1 fp1 e1 O1 it r => by
    obtain ⟨Iv, i0, is, ie⟩ := r
    refine ⟨fun i m σ' H' => m = n - i ∧ i ≤ n ∧ ∃ G' ρ' fp', Same G1 G' ∧ Ok C G' H' σ' ρ' fp' ∧ Iv i ρ', ⟨n, by simp, Nat.zero_le _, G1, ρ1, fp1, Same.refl G1, O1, i0⟩, ?_⟩
    rintro i m σ' H' ⟨rfl, hi, G', ρ', fp', e', O', iv⟩
    have it' := it.up e'
    by_cases hlt : i < n
    · refine .inr ⟨it'.go i H' O'.e1 hlt, fun σ2 H2 => ∃ G2 ρ2 fp2, Same G1 G2 ∧ Ok C G2 H2 σ2 ρ2 fp2 ∧ Iv (i + 1) ρ2, fun σ2 H2 z => ⟨n - (i + 1), by omega, rfl, hlt, z⟩, fun x H2 y => ?_⟩
      obtain ⟨G2, e2, O2, D2, _⟩ := it'.item O' hlt y
      refine is i ρ' hlt iv G2 H2 σ' fp' x O2 D2 _ fun G3 H3 σ3 ρ3 fp3 e3 O3 s3 => ?_
      refine s3 G3 H3 σ3 fp3 O3 _ ⟨?_, ?_, ?_, ?_⟩
      · intro G4 H4 σ4 ρ4 fp4 e4 O4 n4
        exact ⟨G4, ρ4, fp4, ((e'.trans e2).trans e3).trans e4, O4, n4⟩
      · intro G4 H4 σ4 ρ4 fp4 e4 O4 n4
        exact E.nx G4 H4 σ4 ρ4 fp4 ((((e1.trans e').trans e2).trans e3).trans e4) O4 n4
      · intro G4 H4 σ4 ρ4 fp4 e4 O4 n4
        exact ⟨G4, ρ4, fp4, ((e'.trans e2).trans e3).trans e4, O4, n4⟩
      · intro v G4 H4 σ4 ρ4 fp4 fv s e4 O4 n4
        exact E.rt v G4 H4 σ4 ρ4 fp4 fv s ((((e1.trans e').trans e2).trans e3).trans e4) O4 n4
    · have e : i = n := by omega
      subst e
      exact .inl ⟨it'.stop H' O'.e1, E.nx G' H' σ' ρ' fp' (e1.trans e') O' (ie ρ' iv)⟩
/-! the sources -/
theorem it_list {G : Hp} {a : Addr} {xs : List V} {ds : List Dt} (h : G a = some (.lst xs)) (hd : Dvs K G xs ds) : ItD K G (Itl K a) ds.length (fun i => (ds[i]?).getD .non) where
  go := fun i H e hi => by
    have hx : i < xs.length := by rw [hd.len]; exact hi
    exact ⟨xs, xs[i], .inl (.inl (e _ _ h)), by simp [hx]⟩
  stop := fun H e => ⟨xs, .inl (.inl (e _ _ h)), by rw [hd.len]; exact Nat.le_refl _⟩
  yld := fun i H x H' hi e y => by
    obtain ⟨e1, y1⟩ := y
    have hx := y1 xs (.inl (.inl (e _ _ h)))
    obtain ⟨d, h1, h2⟩ := hd.getV hx
    refine .inl ⟨e1, ?_⟩
    show Dv K G x ((ds[i]?).getD .non)
    rw [h1]
    exact h2
theorem it_tup {G : Hp} {a : Addr} {xs : List V} {ds : List Dt} (h : G a = some (.tup xs)) (hd : Dvs K G xs ds) : ItD K G (Itt K a) ds.length (fun i => (ds[i]?).getD .non) where
  go := fun i H e hi => by
    have hx : i < xs.length := by rw [hd.len]; exact hi
    exact ⟨xs, xs[i], .inl (.inl (e _ _ h)), by simp [hx]⟩
  stop := fun H e => ⟨xs, .inl (.inl (e _ _ h)), by rw [hd.len]; exact Nat.le_refl _⟩
  yld := fun i H x H' hi e y => by
    obtain ⟨e1, y1⟩ := y
    have hx := y1 xs (.inl (.inl (e _ _ h)))
    obtain ⟨d, h1, h2⟩ := hd.getV hx
    refine .inl ⟨e1, ?_⟩
    show Dv K G x ((ds[i]?).getD .non)
    rw [h1]
    exact h2
/-- a list, a tuple -/
def iSeq (K : PySem.W.Frag) (tl : TE) : TI := fun σ H R => tl σ H fun x H1 => ∃ a, x = .ref a ∧ (((∃ xs, SqL K H1 a xs) ∧ R (Itl K a) H1) ∨ ((∃ xs, SqT K H1 a xs) ∧ R (Itt K a) H1))
theorem pi_seq {X : Cx} {tg l : Expr} {tl : TE} (hl : PE X l tl) : PI X tg l (iSeq X.K tl) := by
  constructor
  intro pins s σ H R I h
  refine thn (hl.run pins s σ H _ I h) fun v s1 hv => ?_
  obtain ⟨x, H1, I1, r1, a, rfl, hc⟩ := hv
  cases r1
  have fresh : ∀ b ∈ [s1.heap.objs.size], FpOk X pins H1 b := fun b hb => by
    rw [List.mem_singleton.mp hb]
    exact I1.fpOk (Nat.le_refl _) (I1.hok.fresh (Nat.le_refl _))
  rcases hc with ⟨⟨xs, hq⟩, q⟩ | ⟨⟨xs, hq⟩, q⟩
  · obtain ⟨its, rv, p, hz⟩ := I1.list hq
    refine wpAny_pyIter_list p.isList ⟨s1.heap.objs.size, [s1.heap.objs.size], _, _, H1, rfl, ?_, turn_list a _, ?_, fresh, q⟩
    · exact I1.kept (t' := s1.toks) fun b o e => Heap.get?_push_of_some _ e
    · exact ⟨_, Heap.get?_push_size _ rfl, rfl, rfl⟩
  · obtain ⟨its, rv, p, hz⟩ := I1.tuple hq
    refine wpAny_pyIter_tuple (show s1.heap.IsTuple a its.toArray from p) ⟨s1.heap.objs.size, [s1.heap.objs.size], _, _, H1, rfl, ?_, turn_tuple a _, ?_, fresh, q⟩
    · exact I1.kept (t' := s1.toks) fun b o e => Heap.get?_push_of_some _ e
    · exact ⟨_, Heap.get?_push_size _ rfl, rfl, rfl⟩
def asQ (R : List Dt → Prop) : Dt → Prop
  | .lst b => R b
  | .tup b => R b
  | _ => False
theorem asQ_l {R : List Dt → Prop} {b : List Dt} (h : R b) : asQ R (.lst b) := h
theorem asQ_t {R : List Dt → Prop} {b : List Dt} (h : R b) : asQ R (.tup b) := h
theorem wk_seq {R : Nat → (Nat → Dt) → List Sl → Prop} (h : EvD C te ρ fun x ρ1 => asQ (fun ds => R ds.length (fun i => (ds[i]?).getD .non) ρ1) x) : WkD C (iSeq K te) ρ R := fun G H σ fp O Rr q =>
  h G H σ fp O _ fun v G1 H1 x ρ1 fp1 e1 O1 D1 h1 => by
    cases x with
    | lst ds =>
      cases D1 with
      | lst a1 a2 => exact ⟨_, rfl, .inl ⟨⟨_, .inl (.inl (O1.e1 _ _ a1))⟩, q _ G1 H1 _ _ ρ1 fp1 e1 O1 (it_list a1 a2) h1⟩⟩
    | tup ds =>
      cases D1 with
      | tup a1 a2 => exact ⟨_, rfl, .inr ⟨⟨_, .inl (.inl (O1.e1 _ _ a1))⟩, q _ G1 H1 _ _ ρ1 fp1 e1 O1 (it_tup a1 a2) h1⟩⟩
    | _ => exact h1.elim
theorem it_rng {G : Hp} {lo : Int} {n : Nat} : ItD K G (Itr lo n) n (fun i => .int (lo + (i : Int))) where
  go := fun i H _ hi => hi
  stop := fun H _ => Nat.le_refl _
  yld := fun i H x H' hi e y => by
    obtain ⟨e1, e2⟩ := y
    subst e2
    exact .inl ⟨e1, .int _⟩
theorem wk_rng1 {R : Nat → (Nat → Dt) → List Sl → Prop} {t : TA} (h : EvA C t ρ fun ds ρ1 => ∃ n : Int, ds = [.int n] ∧ -(2 ^ 62) ≤ n ∧ n < 2 ^ 62 ∧ R n.toNat (fun i => .int ((0 : Int) + (i : Int))) ρ1) : WkD C (iRng1 t) ρ R := fun G H σ fp O Rr q =>
  h G H σ fp O _ fun vs G1 H1 ds ρ1 fp1 e1 O1 D1 h1 => by
    obtain ⟨n, rfl, b1, b2, r⟩ := h1
    rcases D1 with _ | ⟨d1, _ | _⟩
    cases d1
    exact ⟨n, rfl, b1, b2, q _ G1 H1 _ _ ρ1 fp1 e1 O1 it_rng r⟩
theorem wk_rng2 {R : Nat → (Nat → Dt) → List Sl → Prop} {t : TA} (h : EvA C t ρ fun ds ρ1 => ∃ lo n : Int, ds = [.int lo, .int n] ∧ (-(2 ^ 62) ≤ lo ∧ lo < 2 ^ 62 ∧ -(2 ^ 62) ≤ n ∧ n < 2 ^ 62) ∧ R (n - lo).toNat (fun i => .int (lo + (i : Int))) ρ1) : WkD C (iRng2 t) ρ R := fun G H σ fp O Rr q =>
  h G H σ fp O _ fun vs G1 H1 ds ρ1 fp1 e1 O1 D1 h1 => by
    obtain ⟨lo, n, rfl, b, r⟩ := h1
    rcases D1 with _ | ⟨d1, _ | ⟨d2, _ | _⟩⟩
    cases d1; cases d2
    exact ⟨lo, n, rfl, b, q _ G1 H1 _ _ ρ1 fp1 e1 O1 it_rng r⟩
theorem it_enum {G : Hp} {a : Addr} {xs : List V} {ds : List Dt} (h : G a = some (.lst xs)) (hd : Dvs K G xs ds) : ItD K G (Ite K a) ds.length (fun i => .tup [.int (i : Nat), (ds[i]?).getD .non]) where
  go := fun i H e hi => by
    have hx : i < xs.length := by rw [hd.len]; exact hi
    exact ⟨xs, xs[i], .inl (.inl (e _ _ h)), by simp [hx]⟩
  stop := fun H e => ⟨xs, .inl (.inl (e _ _ h)), by rw [hd.len]; exact Nat.le_refl _⟩
  yld := fun i H x H' hi e y => by
    obtain ⟨T, z, h1, h2, h3, h4⟩ := y
    have hx := h4 xs (.inl (.inl (e _ _ h)))
    obtain ⟨d, g1, g2⟩ := hd.getV hx
    refine .inr ⟨T, _, h2, h3, h1, fun G2 e2 hT => ?_⟩
    show Dv K G2 (.ref T) (.tup [.int (i : Nat), (ds[i]?).getD .non])
    rw [g1]
    exact .tup hT (.cons (.int _) (.cons (Dv.up e2 d z g2) .nil))
theorem wk_enum {R : Nat → (Nat → Dt) → List Sl → Prop} {t : TA} (h : EvA C t ρ fun es ρ1 => ∃ ds, es = [.lst ds] ∧ R ds.length (fun i => .tup [.int (i : Nat), (ds[i]?).getD .non]) ρ1) : WkD C (iEnum K t) ρ R := fun G H σ fp O Rr q =>
  h G H σ fp O _ fun vs G1 H1 ds ρ1 fp1 e1 O1 D1 h1 => by
    obtain ⟨ds, rfl, r⟩ := h1
    rcases D1 with _ | ⟨d1, _ | _⟩
    cases d1 with
    | lst a1 a2 => exact ⟨_, _, rfl, .inl (.inl (O1.e1 _ _ a1)), q _ G1 H1 _ _ ρ1 fp1 e1 O1 (it_enum a1 a2) r⟩
theorem it_zip {G : Hp} {a b : Addr} {xs ys : List V} {ds es : List Dt} (h : G a = some (.lst xs)) (hd : Dvs K G xs ds) (h' : G b = some (.lst ys)) (hd' : Dvs K G ys es) :
    ItD K G (Itz K a b) (min ds.length es.length) (fun i => .tup [(ds[i]?).getD .non, (es[i]?).getD .non]) where
  go := fun i H e hi => by
    have h1 : i < xs.length := by rw [hd.len]; omega
    have h2 : i < ys.length := by rw [hd'.len]; omega
    exact ⟨xs, ys, xs[i], ys[i], .inl (.inl (e _ _ h)), .inl (.inl (e _ _ h')), by simp [h1], by simp [h2]⟩
  stop := fun H e => ⟨xs, ys, .inl (.inl (e _ _ h)), .inl (.inl (e _ _ h')), by rw [hd.len, hd'.len]; omega⟩
  yld := fun i H x H' hi e y => by
    obtain ⟨T, z, z', h1, h2, h3, h4, h5⟩ := y
    have hx := h4 xs (.inl (.inl (e _ _ h)))
    have hy := h5 ys (.inl (.inl (e _ _ h')))
    obtain ⟨d, g1, g2⟩ := hd.getV hx
    obtain ⟨d', g1', g2'⟩ := hd'.getV hy
    refine .inr ⟨T, _, h2, h3, h1, fun G2 e2 hT => ?_⟩
    show Dv K G2 (.ref T) (.tup [(ds[i]?).getD .non, (es[i]?).getD .non])
    rw [g1, g1']
    exact .tup hT (.cons (Dv.up e2 d z g2) (.cons (Dv.up e2 d' z' g2') .nil))
theorem wk_zip {R : Nat → (Nat → Dt) → List Sl → Prop} {t : TA} (h : EvA C t ρ fun as ρ1 => ∃ ds es, as = [.lst ds, .lst es] ∧ R (min ds.length es.length) (fun i => .tup [(ds[i]?).getD .non, (es[i]?).getD .non]) ρ1) : WkD C (iZip K t) ρ R := fun G H σ fp O Rr q =>
  h G H σ fp O _ fun vs G1 H1 ds ρ1 fp1 e1 O1 D1 h1 => by
    obtain ⟨ds, es, rfl, r⟩ := h1
    rcases D1 with _ | ⟨d1, _ | ⟨d2, _ | _⟩⟩
    cases d1 with
    | lst a1 a2 =>
      cases d2 with
      | lst b1 b2 => exact ⟨_, _, _, _, rfl, .inl (.inl (O1.e1 _ _ a1)), .inl (.inl (O1.e1 _ _ b1)), q _ G1 H1 _ _ ρ1 fp1 e1 O1 (it_zip a1 a2 b1 b2) r⟩
/-! ### comprehensions -/
def dropW (ρ : List Sl) : List Nat → List Sl
  | [] => ρ
  | v :: vs => (dropW ρ vs).set v .no
/-- the block's own names are no owned things -/
def wipeOk (ρ : List Sl) (vs : List Nat) : Bool := vs.all fun i => match ρ[i]? with
  | some (.w _ _) => false
  | some _ => true
  | none => false
theorem Ok.noSlot {G H : Hp} {σ : St} {fp : Nat → List Addr} {i : Nat} (O : Ok C G H σ ρ fp) (hw : ∀ q W, ρ[i]? ≠ some (.w q W)) : Ok C G H (σ.set i none) (ρ.set i .no) fp where
  e0 := O.e0
  e1 := O.e1
  nw := O.nw
  fr := O.fr
  dm := O.dm
  len := by rw [List.length_set, List.length_set]; exact O.len
  sl := fun j s h => by
    by_cases e : j = i
    · subst e
      by_cases hi : j < ρ.length
      · rw [List.getElem?_set_self hi] at h; cases h; exact trivial
      · rw [List.getElem?_eq_none (by rw [List.length_set]; omega)] at h; cases h
    · rw [List.getElem?_set_ne (Ne.symm e)] at h
      have z := O.sl j s h
      have g : (σ.set i none)[j]? = σ[j]? := List.getElem?_set_ne (Ne.symm e)
      cases s with
      | no => exact trivial
      | d d => obtain ⟨u, h1, h2⟩ := z; exact ⟨u, g.trans h1, h2⟩
      | w q W => obtain ⟨u, h1, h2⟩ := z; exact ⟨u, g.trans h1, h2⟩
  em := fun j h => by
    by_cases e : j = i
    · subst e; exact O.em j hw
    · refine O.em j fun q W z => h q W ?_
      rw [List.getElem?_set_ne (Ne.symm e)]
      exact z
  dj := O.dj
  fo := O.fo
theorem dropW_len (ρ : List Sl) : ∀ vs, (dropW ρ vs).length = ρ.length
  | [] => rfl
  | v :: vs => by unfold dropW; rw [List.length_set, dropW_len ρ vs]
theorem dropW_w {q : Bool} {W : Wd} : ∀ {vs : List Nat} {i : Nat}, (dropW ρ vs)[i]? = some (.w q W) → ρ[i]? = some (.w q W)
  | [], _, h => h
  | v :: vs, i, h => by
    unfold dropW at h
    by_cases e : i = v
    · subst e
      by_cases hi : i < (dropW ρ vs).length
      · rw [List.getElem?_set_self hi] at h; cases h
      · rw [List.getElem?_eq_none (by rw [List.length_set]; omega)] at h; cases h
    · rw [List.getElem?_set_ne (Ne.symm e)] at h
      exact dropW_w h
theorem wipeOk_w {vs : List Nat} (h : wipeOk ρ vs = true) {i : Nat} (hi : i ∈ vs) (q : Bool) (W : Wd) : ρ[i]? ≠ some (.w q W) := fun e => by
  have := (List.all_eq_true.mp h) i hi
  rw [e] at this
  cases this
theorem Ok.wipe {G H : Hp} {σ : St} {fp : Nat → List Addr} (O : Ok C G H σ ρ fp) : ∀ {vs : List Nat}, wipeOk ρ vs = true → Ok C G H (wipe σ vs) (dropW ρ vs) fp
  | [], _ => O
  | v :: vs, h => by
    unfold L2.wipe dropW
    have h' : wipeOk ρ vs = true := List.all_eq_true.mpr fun i hi => List.all_eq_true.mp h i (List.mem_cons_of_mem _ hi)
    exact (O.wipe h').noSlot fun q W z => wipeOk_w h (List.mem_cons_self ..) q W (dropW_w z)
/-- behind the block: its own names are as they were -/
def backW (ρ0 ρ : List Sl) : List Nat → List Sl
  | [] => ρ
  | v :: vs => (backW ρ0 ρ vs).set v ((ρ0[v]?).getD .no)
theorem backW_len (ρ0 ρ : List Sl) : ∀ vs, (backW ρ0 ρ vs).length = ρ.length
  | [] => rfl
  | v :: vs => by unfold backW; rw [List.length_set, backW_len ρ0 ρ vs]
theorem wipe_get {σ σ' : St} : ∀ {vs : List Nat}, L2.wipe σ' vs = L2.wipe σ vs → ∀ {i : Nat}, i ∉ vs → σ'[i]? = σ[i]? := fun {vs} e {i} hi => by
  rw [← wipe_out (σ := σ') hi, ← wipe_out (σ := σ) hi, e]
end

end
section
/-! DL, part e: comprehensions' rule, owned lists' methods, calls and contracts. -/

theorem wipe_in {σ : St} {i : Nat} : ∀ {vs : List Nat}, i ∈ vs → (L2.wipe σ vs)[i]? = if i < σ.length then some none else none
  | [], h => nomatch h
  | v :: vs, h => by
    unfold L2.wipe
    by_cases e : v = i
    · subst e
      by_cases hl : v < σ.length
      · rw [if_pos hl, List.getElem?_set_self (by rw [wipe_length]; exact hl)]
      · rw [if_neg hl, List.getElem?_eq_none (by rw [List.length_set, wipe_length]; omega)]
    · rw [List.getElem?_set_ne e]
      rcases List.mem_cons.mp h with z | z
      · exact absurd z.symm e
      · exact wipe_in z
theorem wipe_set {σ : St} {j : Nat} {x : Option V} {vs : List Nat} (h : j ∈ vs) : L2.wipe (σ.set j x) vs = L2.wipe σ vs := by
  apply List.ext_getElem?
  intro i
  by_cases hi : i ∈ vs
  · rw [wipe_in hi, wipe_in hi, List.length_set]
  · rw [wipe_out hi, wipe_out hi]
    exact List.getElem?_set_ne fun (e : j = i) => hi (e ▸ h)
theorem wipe_wipe {σ : St} {vs : List Nat} : L2.wipe (L2.wipe σ vs) vs = L2.wipe σ vs := by
  apply List.ext_getElem?
  intro i
  by_cases hi : i ∈ vs
  · rw [wipe_in hi, wipe_in hi, wipe_length]
  · rw [wipe_out hi]
/-- a target that stores the block's own names alone -/
def TgOnly (g : TG) (vs : List Nat) : Prop := ∀ v σ H (Q : St → Hp → Prop), (g v σ H fun σ' H' => L2.wipe σ' vs = L2.wipe σ vs → Q σ' H') → g v σ H fun σ' H' => L2.wipe σ' vs = L2.wipe σ vs ∧ Q σ' H'
def TgsOnly (g : TGs) (vs : List Nat) : Prop := ∀ ws σ H (Q : St → Hp → Prop), (g ws σ H fun σ' H' => L2.wipe σ' vs = L2.wipe σ vs → Q σ' H') → g ws σ H fun σ' H' => L2.wipe σ' vs = L2.wipe σ vs ∧ Q σ' H'
theorem tg_name {j : Nat} {vs : List Nat} (h : j ∈ vs) : TgOnly (gName j) vs := fun v σ H Q q => ⟨wipe_set h, q (wipe_set h)⟩
theorem tgs_nil {vs : List Nat} : TgsOnly gNil vs := fun ws σ H Q q => ⟨q.1, rfl, q.2 rfl⟩
theorem gname_imp {j : Nat} {v : V} {σ : St} {H : Hp} {Q Q' : St → Hp → Prop} (h : gName j v σ H Q) (k : ∀ σ' H', Q σ' H' → Q' σ' H') : gName j v σ H Q' := k _ _ h
theorem tgs_cons {j : Nat} {g : TGs} {vs : List Nat} (h : j ∈ vs) (k : TgsOnly g vs) : TgsOnly (gCons (gName j) g) vs := fun ws σ H Q q => by
  obtain ⟨v, r, e, q⟩ := q
  refine ⟨v, r, e, ?_⟩
  have z := k r (σ.set j (some v)) H Q
  rw [wipe_set h] at z
  exact z q
theorem tg_tup {K : PySem.W.Frag} {n : Nat} {g : TGs} {vs : List Nat} (k : TgsOnly g vs) : TgOnly (gTup K n g) vs := fun v σ H Q q => by
  obtain ⟨a, xs, e, h1, h2, q⟩ := q
  exact ⟨a, xs, e, h1, h2, k xs σ H Q q⟩
section
variable {K : PySem.W.Frag} {C : Cc K} {ρ : List Sl} {P : En} {ta tb te : TE} {t u : TT} {ts us : TS}
theorem Ok.inR {G H : Hp} {σ : St} {fp : Nat → List Addr} (O : Ok C G H σ ρ fp) {i : Nat} {a : Addr} (h : a ∈ fp i) : ∃ q W, ρ[i]? = some (.w q W) := by
  cases e : ρ[i]? with
  | none => rw [O.em i (fun q W z => by rw [e] at z; cases z)] at h; cases h
  | some s =>
    cases s with
    | no => rw [O.em i (fun q W z => by rw [e] at z; cases z)] at h; cases h
    | d d => rw [O.em i (fun q W z => by rw [e] at z; cases z)] at h; cases h
    | w q W => exact ⟨q, W, rfl⟩
/-- all owned cells; those that are one's own -/
def allFp (ρ : List Sl) (fp : Nat → List Addr) : List Addr := (List.range ρ.length).flatMap fp
def ownAt (fp : Nat → List Addr) (i : Nat) : Option Sl → List Addr
  | some (.w false _) => fp i
  | _ => []
def ownFp (ρ : List Sl) (fp : Nat → List Addr) : List Addr := (List.range ρ.length).flatMap fun i => ownAt fp i (ρ[i]?)
theorem Ok.mem_all {G H : Hp} {σ : St} {fp : Nat → List Addr} (O : Ok C G H σ ρ fp) {i : Nat} {a : Addr} (h : a ∈ fp i) : a ∈ allFp ρ fp := by
  obtain ⟨q, W, e⟩ := O.inR h
  exact List.mem_flatMap.mpr ⟨i, List.mem_range.mpr (List.getElem?_eq_some_iff.mp e).1, h⟩
theorem mem_of_all {fp : Nat → List Addr} {a : Addr} (h : a ∈ allFp ρ fp) : ∃ i, a ∈ fp i := by
  obtain ⟨i, _, h⟩ := List.mem_flatMap.mp h
  exact ⟨i, h⟩
theorem mem_of_own {fp : Nat → List Addr} {a : Addr} (h : a ∈ ownFp ρ fp) : ∃ i W, ρ[i]? = some (.w false W) ∧ a ∈ fp i := by
  obtain ⟨i, _, h⟩ := List.mem_flatMap.mp h
  cases e : ρ[i]? with
  | none => rw [e] at h; cases h
  | some s =>
    rw [e] at h
    cases s with
    | no => cases h
    | d d => cases h
    | w q W =>
      cases q with
      | true => cases h
      | false => exact ⟨i, W, e, h⟩
theorem mem_own {fp : Nat → List Addr} {a : Addr} {i : Nat} {W : Wd} (e : ρ[i]? = some (.w false W)) (h : a ∈ fp i) : a ∈ ownFp ρ fp := by
  refine List.mem_flatMap.mpr ⟨i, List.mem_range.mpr (List.getElem?_eq_some_iff.mp e).1, ?_⟩
  rw [e]
  exact h
/-- the same state, seen from here on -/
def Cc.at (C : Cc K) (ρ : List Sl) (fp : Nat → List Addr) (G H : Hp) : Cc K := ⟨allFp ρ fp, ownFp ρ fp, C.vs, G, H⟩
theorem Ok.from {G H : Hp} {σ : St} {fp : Nat → List Addr} (O : Ok C G H σ ρ fp) : Ok (C.at ρ fp G H) G H σ ρ fp where
  e0 := Same.refl G
  e1 := O.e1
  nw := fun a o h => .inl h
  fr := fun a o _ h => h
  dm := fun a h => h
  len := O.len
  sl := fun i s h => by
    have z := O.sl i s h
    cases s with
    | no => exact trivial
    | d d => exact z
    | w q W =>
      obtain ⟨v, h1, h2, h3, _⟩ := z
      refine ⟨v, h1, h2, h3, fun hq a ha => .inr ?_⟩
      subst hq
      exact mem_own h ha
  em := O.em
  dj := O.dj
  fo := fun i a h => by
    obtain ⟨h1, h2, _⟩ := O.fo i a h
    exact ⟨h1, h2, .inr (O.mem_all h)⟩
/-- and back -/
theorem Ok.to {G H G' H' : Hp} {σ σ' : St} {ρ' : List Sl} {fp fp' : Nat → List Addr} (O : Ok C G H σ ρ fp) (O' : Ok (C.at ρ fp G H) G' H' σ' ρ' fp') : Ok C G' H' σ' ρ' fp' := by
  have own : ∀ a, a ∈ ownFp ρ fp → C.nu a := fun a ha => by
    obtain ⟨i, W, e, h⟩ := mem_of_own ha
    obtain ⟨v, _, _, _, h4⟩ := O.sl i _ e
    exact h4 rfl a h
  have nu : ∀ a, (C.at ρ fp G H).nu a → C.nu a := fun a h => by
    rcases h with z | z
    · exact .inl (O.dm a z)
    · exact own a z
  exact {
    e0 := O.e0.trans O'.e0
    e1 := O'.e1
    nw := fun a o h => by
      rcases O'.nw a o h with z | z
      · exact O.nw a o z
      · exact .inr (nu a z)
    fr := fun a o h1 h2 => by
      refine O'.fr a o (fun z => ?_) (O.fr a o h1 h2)
      obtain ⟨i, hi⟩ := mem_of_all z
      rcases (O.fo i a hi).2.2 with y | y
      · rw [h2] at y; cases y
      · exact h1 y
    dm := fun a h => O.dm a (O'.dm a h)
    len := O'.len
    sl := fun i s h => by
      have z := O'.sl i s h
      cases s with
      | no => exact trivial
      | d d => exact z
      | w q W =>
        obtain ⟨v, h1, h2, h3, h4⟩ := z
        exact ⟨v, h1, h2, h3, fun hq a ha => nu a (h4 hq a ha)⟩
    em := O'.em
    dj := O'.dj
    fo := fun i a h => by
      obtain ⟨h1, h2, h3⟩ := O'.fo i a h
      refine ⟨h1, h2, ?_⟩
      rcases h3 with z | z
      · exact .inl (O.dm a z)
      · obtain ⟨j, hj⟩ := mem_of_all z
        exact (O.fo j a hj).2.2 }
theorem backW_out {ρ0 : List Sl} {i : Nat} : ∀ {vs : List Nat}, i ∉ vs → (backW ρ0 ρ vs)[i]? = ρ[i]?
  | [], _ => rfl
  | v :: vs, h => by
    unfold backW
    have h1 : v ≠ i := fun e => h (by rw [e]; exact List.mem_cons_self ..)
    rw [List.getElem?_set_ne h1]
    exact backW_out fun m => h (List.mem_cons_of_mem _ m)
theorem backW_in {ρ0 : List Sl} {i : Nat} : ∀ {vs : List Nat}, i ∈ vs → i < ρ.length → (backW ρ0 ρ vs)[i]? = some ((ρ0[i]?).getD .no)
  | [], h, _ => nomatch h
  | v :: vs, h, hl => by
    unfold backW
    by_cases e : v = i
    · subst e
      rw [List.getElem?_set_self (by rw [backW_len]; exact hl)]
    · rw [List.getElem?_set_ne e]
      rcases List.mem_cons.mp h with z | z
      · exact absurd z.symm e
      · exact backW_in z hl
theorem Ok.unwipe {G H G1 H1 : Hp} {σ : St} {fp fp1 : Nat → List Addr} {ρ1 : List Sl} {vs : List Nat} (O1 : Ok C G1 H1 σ ρ1 fp1) (hw : wipeOk ρ1 vs = true) (e : Same G1 G) (O : Ok C G H (L2.wipe σ vs) ρ fp) (hr : ∀ i ∈ vs, ∀ q W, ρ[i]? ≠ some (.w q W)) : Ok C G H σ (backW ρ1 ρ vs) fp where
  e0 := O.e0
  e1 := O.e1
  nw := O.nw
  fr := O.fr
  dm := O.dm
  len := by rw [backW_len, O.len, wipe_length]
  sl := fun i s h => by
    by_cases hi : i ∈ vs
    · have hl : i < ρ.length := by
        have := (List.getElem?_eq_some_iff.mp h).1
        rw [backW_len] at this
        exact this
      rw [backW_in hi hl] at h
      cases h
      cases q : ρ1[i]? with
      | none => exact trivial
      | some s1 =>
        have z := O1.sl i s1 q
        cases s1 with
        | no => exact trivial
        | d d => obtain ⟨v, h1, h2⟩ := z; exact ⟨v, h1, Dv.up e d v h2⟩
        | w qq W => exact absurd q (wipeOk_w hw hi qq W)
    · rw [backW_out hi] at h
      have z := O.sl i s h
      have g : (L2.wipe σ vs)[i]? = σ[i]? := wipe_out hi
      cases s with
      | no => exact trivial
      | d d => obtain ⟨u, h1, h2⟩ := z; exact ⟨u, g.symm.trans h1, h2⟩
      | w q W => obtain ⟨u, h1, h2⟩ := z; exact ⟨u, g.symm.trans h1, h2⟩
  em := fun j h => by
    by_cases hj : j ∈ vs
    · exact O.em j (hr j hj)
    · refine O.em j fun q W z => h q W ?_
      rw [backW_out hj]
      exact z
  dj := O.dj
  fo := O.fo
theorem dropW_in {i : Nat} : ∀ {vs : List Nat}, i ∈ vs → ∀ q W, (dropW ρ vs)[i]? ≠ some (.w q W)
  | [], h, _, _ => nomatch h
  | v :: vs, h, q, W => fun z => by
    unfold dropW at z
    by_cases e : v = i
    · subst e
      by_cases hl : v < (dropW ρ vs).length
      · rw [List.getElem?_set_self hl] at z; cases z
      · rw [List.getElem?_eq_none (by rw [List.length_set]; omega)] at z; cases z
    · rw [List.getElem?_set_ne e] at z
      rcases List.mem_cons.mp h with y | y
      · exact e y.symm
      · exact dropW_in y q W z
/-- [e for .. in .. if ..] -/
theorem ev_lc {R : Sl → List Sl → Prop} {wi : TI} {g : TG} {vs : List Nat} (hT : TgOnly g vs) (h : WkD C wi ρ fun n Y ρ1 => wipeOk ρ1 vs = true ∧ n ≤ 1000000 ∧ ∃ Iv : Nat → List Dt → List Sl → Prop, Iv 0 [] (dropW ρ1 vs) ∧
    (∀ (C' : Cc K) i acc ρ', i < n → acc.length ≤ i → Iv i acc ρ' → GgD C' g (Y i) ρ' fun ρ2 => EvT C' t ρ2 fun b ρ3 =>
      (b = true → EvD C' te ρ3 fun d ρ4 => wipeOk ρ4 vs = true ∧ Iv (i + 1) (acc ++ [d]) (dropW ρ4 vs)) ∧ (b = false → wipeOk ρ3 vs = true ∧ Iv (i + 1) acc (dropW ρ3 vs))) ∧
    ∀ acc ρ', acc.length ≤ n → Iv n acc ρ' → (∀ i ∈ vs, ∀ q W, ρ'[i]? ≠ some (.w q W)) → R (.l acc) (backW ρ1 ρ' vs)) : Ev C (tLc wi g t te vs) ρ R := fun G H σ fp O Q q =>
  h G H σ fp O _ fun J G1 H1 n Y ρ1 fp1 e1 O1 it r => by
    obtain ⟨w1, hn, Iv, i0, is, ie⟩ := r
    intro D hD
    let M : Nat → Hp → Prop := fun i H' => ∃ G' ρ' fp' acc xs, Same G1 G' ∧ Ok C G' H' (L2.wipe σ vs) ρ' fp' ∧ H' D = some (.lst xs) ∧ Dvs K G' xs acc ∧ G' D = none ∧ C.H0 D = none ∧ (∀ j, D ∉ fp' j) ∧ acc.length ≤ i ∧ (∀ j ∈ vs, ∀ q W, ρ'[j]? ≠ some (.w q W)) ∧ Iv i acc ρ'
    refine ⟨fun i m H' => m = n - i ∧ i ≤ n ∧ M i H', ⟨n, by simp, Nat.zero_le _, ?_⟩, ?_⟩
    · have O2 := (O1.wipe w1).scr (o := .lst []) hD
      refine ⟨G1, _, fp1, [], [], Same.refl G1, O2, upd_same, .nil, O1.e1.free hD, O1.dm D hD, fun j hj => ?_, Nat.le_refl _, fun j hj => dropW_in hj, i0⟩
      obtain ⟨_, ⟨o, ho⟩, _⟩ := O1.fo j D hj
      rw [hD] at ho
      cases ho
    · rintro i m H' ⟨rfl, hi, G', ρ', fp', acc, xs, e', O', hd, ha, gD, h0D, nD, hl, hr, iv⟩
      have it' := it.up e'
      by_cases hlt : i < n
      · refine .inr ⟨it'.go i H' O'.e1 hlt, fun H2 => M (i + 1) H2, fun H2 z => ⟨n - (i + 1), by omega, rfl, hlt, z⟩, fun x H2 y => ?_⟩
        obtain ⟨G2, e2, O2, D2, keep⟩ := it'.item O' hlt y
        obtain ⟨kD, kG⟩ := keep D _ hd
        have tr := is (C.at ρ' fp' G2 H2) i acc ρ' hlt hl iv G2 H2 (L2.wipe σ vs) fp' x O2.from D2
        have oD : ∀ {G3 H3 : Hp} {σ3 : St} {ρ3 : List Sl} {fp3 : Nat → List Addr}, Ok (C.at ρ' fp' G2 H2) G3 H3 σ3 ρ3 fp3 → H3 D = some (.lst xs) ∧ G3 D = none ∧ ∀ j, D ∉ fp3 j := fun {G3 H3 σ3 ρ3 fp3} O3 => by
          have n1 : D ∉ allFp ρ' fp' := fun z => by
            obtain ⟨j, hj⟩ := mem_of_all z
            exact nD j hj
          have n2 : D ∉ ownFp ρ' fp' := fun z => by
            obtain ⟨j, W, _, hj⟩ := mem_of_own z
            exact nD j hj
          refine ⟨O3.fr D _ n1 kD, ?_, fun j hj => ?_⟩
          · cases z : G3 D with
            | none => rfl
            | some u =>
              rcases O3.nw D u z with y | y | y
              · have y' : G2 D = some u := y
                rw [kG, gD] at y'; cases y'
              · have y' : H2 D = none := y
                rw [kD] at y'; cases y'
              · exact absurd y n2
          · rcases (O3.fo j D hj).2.2 with y | y
            · have y' : H2 D = none := y
              rw [kD] at y'; cases y'
            · exact n1 y
        have fin : ∀ {G4 H4 : Hp} {σ4 : St} {ρ4 : List Sl} {fp4 : Nat → List Addr} {xs4 : List V} {acc4 : List Dt}, Same G2 G4 → Ok (C.at ρ' fp' G2 H2) G4 H4 σ4 ρ4 fp4 → L2.wipe σ4 vs = L2.wipe σ vs → wipeOk ρ4 vs = true → Dvs K G4 xs4 acc4 → acc4.length ≤ i + 1 → Iv (i + 1) acc4 (dropW ρ4 vs) →
            M (i + 1) (upd H4 D (.lst xs4)) := fun {G4 H4 σ4 ρ4 fp4 xs4 acc4} e4 O4 ew w4 d4 l4 iv4 => by
          obtain ⟨z1, z2, z3⟩ := oD O4
          have O5 : Ok C G4 H4 (L2.wipe σ4 vs) (dropW ρ4 vs) fp4 := (O2.to O4).wipe w4
          rw [ew] at O5
          refine ⟨G4, _, fp4, acc4, xs4, (e'.trans e2).trans e4, ?_, upd_same, d4, z2, h0D, z3, l4, fun j hj => dropW_in hj, iv4⟩
          exact {
            e0 := O5.e0
            e1 := fun a u z => by rw [upd_ne (ne_of_none z z2)]; exact O5.e1 a u z
            nw := O5.nw
            fr := fun a o h1 h2 => by rw [upd_ne (ne_of_none h2 h0D)]; exact O5.fr a o h1 h2
            dm := fun a z => by
              by_cases e : a = D
              · subst e; exact h0D
              · rw [upd_ne e] at z; exact O5.dm a z
            len := O5.len
            sl := fun j s hs => (O5.sl j s hs).up (Same.refl G4) fun a ha o z => by
              have ne : a ≠ D := fun y => z3 j (y ▸ ha)
              rw [upd_ne ne]; exact z
            em := O5.em
            dj := O5.dj
            fo := fun j a ha => by
              obtain ⟨y1, ⟨o, y2⟩, y3⟩ := O5.fo j a ha
              have ne : a ≠ D := fun y => z3 j (y ▸ ha)
              exact ⟨y1, ⟨o, by rw [upd_ne ne]; exact y2⟩, y3⟩ }
        have up : ∀ {H4 : Hp} {xs4 : List V}, H4 D = some (.lst xs4) → upd H4 D (.lst xs4) = H4 := fun {H4 xs4} z => by
          funext a
          by_cases e : a = D
          · subst e; rw [upd_same]; exact z.symm
          · rw [upd_ne e]
        have tr2 := hT x (L2.wipe σ vs) H2 _ (tr (fun σ3 H3 => L2.wipe σ3 vs = L2.wipe (L2.wipe σ vs) vs → t σ3 H3 fun b H4 => if b = true then te σ3 H4 fun y H5 => ∃ acc, H5 D = some (.lst acc) ∧ acc.length < sizeLine ∧ M (i + 1) (upd H5 D (.lst (acc ++ [y]))) else M (i + 1) H4) fun G3 H3 σ3 ρ3 fp3 e3 O3 s3 ew => ?_)
        · rw [wipe_wipe] at tr2
          exact tr2
        · rw [wipe_wipe] at ew
          refine s3 G3 H3 σ3 fp3 O3 _ fun b G4 H4 ρ4 fp4 e4 O4 s4 => ?_
          cases b with
          | true =>
            show te σ3 H4 _
            refine s4.1 rfl G4 H4 σ3 fp4 O4 _ fun y G5 H5 d ρ5 fp5 e5 O5 D5 r5 => ?_
            obtain ⟨z1, z2, z3⟩ := oD O5
            have dx : Dvs K G5 xs acc := ha.up (((e2.trans e3).trans e4).trans e5)
            refine ⟨xs, z1, ?_, fin ((e3.trans e4).trans e5) O5 ew r5.1 (dx.app (.one D5)) (by rw [List.length_append]; exact Nat.add_le_add_right hl 1) r5.2⟩
            rw [dx.len]
            have : (1000000 : Nat) < sizeLine := by decide
            omega
          | false =>
            show M (i + 1) H4
            obtain ⟨z1, z2, z3⟩ := oD O4
            have m := fin (xs4 := xs) (acc4 := acc) (e3.trans e4) O4 ew (s4.2 rfl).1 (ha.up ((e2.trans e3).trans e4)) (Nat.le_succ_of_le hl) (s4.2 rfl).2
            rw [up z1] at m
            exact m
      · have e : i = n := by omega
        subst e
        refine .inl ⟨it'.stop H' O'.e1, ?_⟩
        have O3 := O1.unwipe w1 e' O' hr
        refine q (.ref D) G' H' (.l acc) _ fp' [D] (e1.trans e') ⟨O3, ⟨⟨D, xs, rfl, rfl, hd, ha⟩, fun _ a z => ?_⟩, fun j a h1 h2 => ?_, fun a z => ?_⟩ (ie acc ρ' hl iv hr)
        · rw [List.mem_singleton.mp z]; exact .inl h0D
        · rw [List.mem_singleton.mp h2] at h1; exact nD j h1
        · rw [List.mem_singleton.mp z]; exact ⟨gD, ⟨_, hd⟩, .inl h0D⟩
end

end
section
/-! DL, part f: owned lists' methods, calls and contracts, a def by its contract. -/

def rInsX : V → List V → Hp → VK → Prop := fun x vs H Q => ∃ (l : Addr) (xs : List V) (i : Int) (y : V), x = .ref l ∧ vs = [.int i, y] ∧ H l = some (.lst xs) ∧ xs.length < sizeLine ∧ 0 ≤ i ∧ i < 2 ^ 63 ∧ Q .non (upd H l (.lst (xs.take i.toNat ++ [y] ++ xs.drop i.toNat)))
theorem mt_insX {X : Cx} : MtR X "list.insert" rInsX := mt_insert
/-- what is wanted of an error that leaves -/
def XOk {K : PySem.W.Frag} (C : Cc K) (E : XK) (Er : Addr → List Sl → Prop) : Prop := ∀ Cl ρ, Er Cl ρ → ∀ G H σ fp, Ok C G H σ ρ fp → E (.ref Cl) none H
theorem xok0 {K : PySem.W.Frag} {C : Cc K} {E : XK} : XOk C E (fun _ _ => False) := fun _ _ z => z.elim
abbrev Ctr := List Sl → (Sl → List Sl → Prop) → (Addr → List Sl → Prop) → Prop
def Ctr.sp (K : PySem.W.Frag) (c : Ctr) : Sp := fun vs H Q E => ∃ (G : Hp) (as : List Sl) (bs : List Addr) (fp : Nat → List Addr), Ok (⟨bs, [], vs, G, H⟩ : Cc K) G H (vs.map some) as fp ∧
  c as (fun s as' => ∀ v G' H' fp' fv, OkV (⟨bs, [], vs, G, H⟩ : Cc K) G' H' (vs.map some) as' fp' v fv s → Q v H') (fun Cl as' => ∀ G' H' fp', Ok (⟨bs, [], vs, G, H⟩ : Cc K) G' H' (vs.map some) as' fp' → E (.ref Cl) none H')
inductive Ar where
  | d (d : Dt)
  | o (i : Nat)
def ArOk (K : PySem.W.Frag) (G : Hp) (σ : St) : List V → List Ar → Prop
  | [], [] => True
  | v :: vs, .d d :: as => Dv K G v d ∧ ArOk K G σ vs as
  | v :: vs, .o i :: as => σ[i]? = some (some v) ∧ ArOk K G σ vs as
  | _, _ => False
theorem ArOk.up {K : PySem.W.Frag} {G G' : Hp} {σ : St} (e : Same G G') : ∀ {vs : List V} {as : List Ar}, ArOk K G σ vs as → ArOk K G' σ vs as
  | [], [], h => h
  | v :: vs, .d d :: as, h => ⟨Dv.up e d v h.1, ArOk.up e h.2⟩
  | v :: vs, .o i :: as, h => ⟨h.1, ArOk.up e h.2⟩
  | [], _ :: _, h => h.elim
  | _ :: _, [], h => h.elim
theorem ArOk.ds {K : PySem.W.Frag} {G : Hp} {σ : St} : ∀ {vs : List V} {ds : List Dt}, ArOk K G σ vs (ds.map Ar.d) → Dvs K G vs ds
  | [], [], _ => .nil
  | v :: vs, d :: ds, h => .cons h.1 (ArOk.ds h.2)
  | [], _ :: _, h => h.elim
  | _ :: _, [], h => h.elim
theorem ArOk.split {K : PySem.W.Frag} {G : Hp} {σ : St} {i : Nat} {post : List Dt} : ∀ {pre : List Dt} {vs : List V}, ArOk K G σ vs (pre.map Ar.d ++ .o i :: post.map Ar.d) → ∃ us v ws, vs = us ++ v :: ws ∧ Dvs K G us pre ∧ σ[i]? = some (some v) ∧ Dvs K G ws post
  | [], [], h => h.elim
  | [], v :: vs, h => ⟨[], v, vs, rfl, .nil, h.1, h.2.ds⟩
  | _ :: _, [], h => h.elim
  | d :: pre, v :: vs, h => by
    obtain ⟨us, x, ws, e, h1, h2, h3⟩ := ArOk.split (pre := pre) (vs := vs) h.2
    exact ⟨v :: us, x, ws, by rw [e]; rfl, .cons h.1 h1, h2, h3⟩
def EvB {K : PySem.W.Frag} (C : Cc K) (ta : TA) (ρ : List Sl) (R : List Ar → List Sl → Prop) : Prop :=
  ∀ G H σ fp, Ok C G H σ ρ fp → ∀ Q : List V → Hp → Prop, (∀ vs G' H' as ρ' fp', Same G G' → Ok C G' H' σ ρ' fp' → ArOk K G' σ vs as → R as ρ' → Q vs H') → ta σ H Q
section
variable {K : PySem.W.Frag} {C : Cc K} {ρ : List Sl} {P : En} {ta tb te : TE} {t u : TT} {ts us : TS}
/-! owned lists -/
theorem ev_move {R : Sl → List Sl → Prop} {i : Nat} {W : Wd} (h : ρ[i]? = some (.w false W)) (k : R (.w false W) (ρ.set i .no)) : Ev C (tVar i) ρ R := fun G H σ fp O Q q => by
  obtain ⟨v, h1, h2, h3, h4⟩ := O.sl i _ h
  have hi : i < ρ.length := (List.getElem?_eq_some_iff.mp h).1
  refine ⟨v, h1, q v G H (.w false W) _ (fpSet fp i []) (fp i) (Same.refl G) ⟨?_, ⟨h2, h4⟩, ?_, fun a ha => O.fo i a ha⟩ k⟩
  · exact {
      e0 := O.e0
      e1 := O.e1
      nw := O.nw
      fr := O.fr
      dm := O.dm
      len := by rw [List.length_set]; exact O.len
      sl := fun j s hs => by
        by_cases e : j = i
        · subst e
          rw [List.getElem?_set_self hi] at hs
          cases hs
          exact trivial
        · rw [List.getElem?_set_ne (Ne.symm e)] at hs
          unfold fpSet
          rw [if_neg e]
          exact O.sl j s hs
      em := fun j hj => by
        unfold fpSet
        by_cases e : j = i
        · rw [if_pos e]
        · rw [if_neg e]
          refine O.em j fun q W z => hj q W ?_
          rw [List.getElem?_set_ne (Ne.symm e)]
          exact z
      dj := fun j l a ha hb => by
        unfold fpSet at ha hb
        by_cases e1 : j = i
        · rw [if_pos e1] at ha; cases ha
        · by_cases e2 : l = i
          · rw [if_pos e2] at hb; cases hb
          · rw [if_neg e1] at ha
            rw [if_neg e2] at hb
            exact O.dj j l a ha hb
      fo := fun j a ha => by
        unfold fpSet at ha
        by_cases e : j = i
        · rw [if_pos e] at ha; cases ha
        · rw [if_neg e] at ha
          exact O.fo j a ha }
  · intro j a ha hb
    unfold fpSet at ha
    by_cases e : j = i
    · rw [if_pos e] at ha; cases ha
    · rw [if_neg e] at ha
      exact e (O.dj j i a ha hb)
/-- x.append(e) -/
theorem sj_append {i : Nat} {q : Bool} {W : Wd} {ds0 : List Dt} (hw : ρ[i]? = some (.w q (lw ds0))) (h : EvD C te ρ fun d ρ' => ∃ q ds, ρ'[i]? = some (.w q (lw ds)) ∧ ds.length < 1000000 ∧ P.nx (ρ'.set i (.w q (lw (ds ++ [d]))))) : Sj C (tDrop (tBM K "list" rAppend (tVar i) (tCons te tNil))) ρ P := fun G H σ fp O D E => by
  obtain ⟨p, xs, h1, h2, h3⟩ := own_l O hw
  refine ⟨_, h1, .inl ⟨rfl, _, .inl (.inl h2)⟩, ?_⟩
  refine h G H σ fp O _ fun v G' H' d ρ' fp' e O' D' r => ?_
  obtain ⟨q', ds, r1, r2, r3⟩ := r
  obtain ⟨p', ys, g1, g2, g3⟩ := own_l O' r1
  rw [h1] at g1
  cases g1
  obtain ⟨fp2, O2⟩ := O'.writeL (ds' := ds ++ [d]) r1 h1 g2 (g3.app (.one D'))
  exact ⟨p, ys, v, rfl, rfl, g2, by rw [g3.len]; exact Nat.lt_of_lt_of_le r2 (by decide), E.nx G' _ σ _ fp2 e O2 r3⟩
/-- x.insert(e, e') -/
theorem sj_insert {i : Nat} {q : Bool} {ds0 : List Dt} (hw : ρ[i]? = some (.w q (lw ds0))) (h : EvD C ta ρ fun x ρ1 => asI (fun j => EvD C te ρ1 fun d ρ' => ∃ q ds, ρ'[i]? = some (.w q (lw ds)) ∧ ds.length < 1000000 ∧ 0 ≤ j ∧ j < 2 ^ 63 ∧ P.nx (ρ'.set i (.w q (lw (ds.take j.toNat ++ [d] ++ ds.drop j.toNat))))) x) :
    Sj C (tDrop (tBM K "list" rInsX (tVar i) (tCons ta (tCons te tNil)))) ρ P := fun G H σ fp O D E => by
  obtain ⟨p, xs, h1, h2, h3⟩ := own_l O hw
  refine ⟨_, h1, .inl ⟨rfl, _, .inl (.inl h2)⟩, ?_⟩
  refine h G H σ fp O _ fun v G1 H1 x ρ1 fp1 e1 O1 D1 r => ?_
  cases x with
  | int j =>
    cases D1
    refine r G1 H1 σ fp1 O1 _ fun v G' H' d ρ' fp' e O' D' r => ?_
    obtain ⟨q', ds, r1, r2, r3, r4, r5⟩ := r
    obtain ⟨p', ys, g1, g2, g3⟩ := own_l O' r1
    rw [h1] at g1
    cases g1
    obtain ⟨fp2, O2⟩ := O'.writeL (ds' := ds.take j.toNat ++ [d] ++ ds.drop j.toNat) r1 h1 g2 (((g3.take _).app (.one D')).app (g3.drop _))
    exact ⟨p, ys, j, v, rfl, rfl, g2, by rw [g3.len]; exact Nat.lt_of_lt_of_le r2 (by decide), r3, r4, E.nx G' _ σ _ fp2 (e1.trans e) O2 r5⟩
  | _ => exact r.elim
/-- x.pop() -/
theorem evd_pop {R : Dt → List Sl → Prop} {i : Nat} {q : Bool} {ds : List Dt} {d : Dt} (hw : ρ[i]? = some (.w q (lw ds))) (hd : ds[ds.length - 1]? = some d) (k : R d (ρ.set i (.w q (lw ds.dropLast)))) : EvD C (tBM0 K "list" rPop (tVar i)) ρ R := fun G H σ fp O Q q => by
  obtain ⟨p, xs, h1, h2, h3⟩ := own_l O hw
  refine ⟨_, h1, .inl ⟨rfl, _, .inl (.inl h2)⟩, ?_⟩
  obtain ⟨v, g1, g2⟩ := h3.get hd
  have h4 : Dvs K G xs.dropLast ds.dropLast := by
    rw [List.dropLast_eq_take, List.dropLast_eq_take, h3.len]
    exact h3.take _
  obtain ⟨fp2, O2⟩ := O.writeL (ds' := ds.dropLast) hw h1 h2 h4
  exact ⟨p, xs, v, rfl, rfl, h2, by rw [h3.len]; exact g1, q v G _ d _ fp2 (Same.refl G) O2 g2 k⟩
/-- x.pop(e) -/
theorem evd_popAt {R : Dt → List Sl → Prop} {i : Nat} {q : Bool} {ds0 : List Dt} (hw : ρ[i]? = some (.w q (lw ds0))) (h : EvD C te ρ fun y ρ' => asI (fun j => ∃ q ds n d, ρ'[i]? = some (.w q (lw ds)) ∧ j = (n : Nat) ∧ n < 1000000 ∧ ds[n]? = some d ∧ R d (ρ'.set i (.w q (lw (ds.eraseIdx n))))) y) :
    EvD C (tBM K "list" rPopAt (tVar i) (tCons te tNil)) ρ R := fun G H σ fp O Q q => by
  obtain ⟨p, xs, h1, h2, h3⟩ := own_l O hw
  refine ⟨_, h1, .inl ⟨rfl, _, .inl (.inl h2)⟩, ?_⟩
  refine h G H σ fp O _ fun v G' H' y ρ' fp' e O' D' r => ?_
  cases y with
  | int j =>
    cases D'
    obtain ⟨q', ds, n, d, r1, rfl, r2, r3, r4⟩ := r
    obtain ⟨p', ys, g1, g2, g3⟩ := own_l O' r1
    rw [h1] at g1
    cases g1
    obtain ⟨z, g4, g5⟩ := g3.get r3
    obtain ⟨fp2, O2⟩ := O'.writeL (ds' := ds.eraseIdx n) r1 h1 g2 (g3.era n)
    have hn : n < ys.length := (List.getElem?_eq_some_iff.mp g4).1
    refine ⟨p, ys, (n : Int), n, z, rfl, rfl, g2, by omega, by omega, ?_, g4, q z G' _ d _ fp2 e O2 g5 r4⟩
    rw [seqIndex_of (by omega) (by omega)]
    simp
  | _ => exact r.elim
/-- x[e'] = e -/
theorem sj_setO {i : Nat} (h : EvD C te ρ fun d ρ1 => (∃ q W, ρ1[i]? = some (.w q W)) ∧ EvD C tb ρ1 fun y ρ' => asI (fun j => ∃ q ds n, ρ'[i]? = some (.w q (lw ds)) ∧ ixN ds.length j = some n ∧ P.nx (ρ'.set i (.w q (lw (ds.set n d))))) y) :
    Sj C (tAsg te (gSub (tVar i) tb rSetL)) ρ P := fun G H σ fp O D E =>
  h G H σ fp O _ fun v G1 H1 d ρ1 fp1 e1 O1 D1 r => by
    obtain ⟨⟨q1, W1, hq⟩, r⟩ := r
    obtain ⟨w, h1, _⟩ := O1.sl i _ hq
    refine ⟨w, h1, ?_⟩
    refine r G1 H1 σ fp1 O1 _ fun z G2 H2 y ρ2 fp2 e2 O2 D2 r => ?_
    cases y with
    | int j =>
      cases D2
      obtain ⟨q', ds, n, r1, r2, r3⟩ := r
      obtain ⟨p', ys, g1, g2, g3⟩ := own_l O2 r1
      rw [h1] at g1
      cases g1
      obtain ⟨fp3, O3⟩ := O2.writeL (ds' := ds.set n d) r1 h1 g2 (g3.set (Dv.up e2 d v D1) n)
      exact ⟨p', ys, j, n, rfl, rfl, g2, by rw [g3.len]; exact r2, E.nx G2 _ σ _ fp3 (e1.trans e2) O3 r3⟩
    | _ => exact r.elim
/-- x[e'] op= e, ints -/
theorem sj_augO {i : Nat} {f : Int → Int → Int} {q : Bool} {W : Wd} (hw : ρ[i]? = some (.w q W)) (h : EvD C tb ρ fun y ρ1 => asI (fun j => ∃ q ds n a, ρ1[i]? = some (.w q (lw ds)) ∧ ixN ds.length j = some n ∧ ds[n]? = some (.int a) ∧ EvD C te ρ1 fun d ρ' => asI (fun b => ∃ q ds, ρ'[i]? = some (.w q (lw ds)) ∧ ixN ds.length j = some n ∧ P.nx (ρ'.set i (.w q (lw (ds.set n (.int (f a b))))))) d) y) :
    Sj C (tAugS (tVar i) tb te (rIxL K) (ipI f) rSetL) ρ P := fun G H σ fp O D E => by
  obtain ⟨w, h1, _⟩ := O.sl i _ hw
  refine ⟨w, h1, ?_⟩
  refine h G H σ fp O _ fun v G1 H1 d ρ1 fp1 e1 O1 D1 r => ?_
  cases d with
  | int j =>
    cases D1
    obtain ⟨q', ds, n, a, r1, r2, r3, r4⟩ := r
    obtain ⟨p', ys, g1, g2, g3⟩ := own_l O1 r1
    rw [h1] at g1
    cases g1
    obtain ⟨z, g4, g5⟩ := g3.get r3
    cases g5
    refine ⟨p', ys, j, .int a, rfl, rfl, .inl (.inl g2), ?_, ?_⟩
    · unfold atI
      rw [g3.len, r2]
      exact g4
    · refine r4 G1 H1 σ fp1 O1 _ fun z G2 H2 y ρ2 fp2 e2 O2 D2 r => ?_
      cases y with
      | int b =>
        cases D2
        obtain ⟨q'', ds', s1, s2, s3⟩ := r
        obtain ⟨p'', ys', g1', g2', g3'⟩ := own_l O2 s1
        rw [h1] at g1'
        cases g1'
        obtain ⟨fp3, O3⟩ := O2.writeL (ds' := ds'.set n (.int (f a b))) s1 h1 g2' (g3'.set (.int (f a b)) n)
        exact ⟨a, b, rfl, rfl, p', ys', j, n, rfl, rfl, g2', by rw [g3'.len]; exact s2, E.nx G2 _ σ _ fp3 (e1.trans e2) O3 s3⟩
      | _ => exact r.elim
  | _ => exact r.elim
/-! calls -/
theorem evb_nil {R : List Ar → List Sl → Prop} (k : R [] ρ) : EvB C tNil ρ R := fun G H σ fp O Q q => q [] G H [] ρ fp (Same.refl G) O trivial k
theorem evb_d {R : List Ar → List Sl → Prop} {tr : TA} (h : EvD C ta ρ fun x ρ1 => EvB C tr ρ1 fun xs ρ2 => R (.d x :: xs) ρ2) : EvB C (tCons ta tr) ρ R := fun G H σ fp O Q q =>
  h G H σ fp O _ fun v G1 H1 x ρ1 fp1 e1 O1 D1 h1 => h1 G1 H1 σ fp1 O1 _ fun vs G2 H2 xs ρ2 fp2 e2 O2 D2 r =>
    q (v :: vs) G2 H2 (.d x :: xs) ρ2 fp2 (e1.trans e2) O2 ⟨Dv.up e2 x v D1, D2⟩ r
theorem evb_o {R : List Ar → List Sl → Prop} {tr : TA} {i : Nat} {q : Bool} {W : Wd} (hw : ρ[i]? = some (.w q W)) (h : EvB C tr ρ fun xs ρ2 => R (.o i :: xs) ρ2) : EvB C (tCons (tVar i) tr) ρ R := fun G H σ fp O Q q => by
  obtain ⟨v, h1, _⟩ := O.sl i _ hw
  refine ⟨v, h1, h G H σ fp O _ fun vs G2 H2 xs ρ2 fp2 e2 O2 D2 r => q (v :: vs) G2 H2 (.o i :: xs) ρ2 fp2 e2 O2 ⟨h1, D2⟩ r⟩
/-- the arguments' own state -/
theorem ok_args {G H : Hp} {vs : List V} {ds : List Dt} (e : Same G H) (h : Dvs K G vs ds) : Ok (⟨[], [], vs, G, H⟩ : Cc K) G H (vs.map some) (ds.map Sl.d) (fun _ => []) where
  e0 := Same.refl G
  e1 := e
  nw := fun a o h => .inl h
  fr := fun a o _ h => h
  dm := fun a h => h
  len := by rw [List.length_map, List.length_map, h.len]
  sl := fun i s hs => by
    rw [List.getElem?_map] at hs
    obtain ⟨d, h1, rfl⟩ := Option.map_eq_some_iff.mp hs
    obtain ⟨v, h2, h3⟩ := h.get h1
    exact ⟨v, by rw [List.getElem?_map, h2]; rfl, h3⟩
  em := fun _ _ => rfl
  dj := fun i j a ha => nomatch ha
  fo := fun i a ha => nomatch ha
theorem okv_call0 {G H G' H' : Hp} {σ : St} {fp fp' : Nat → List Addr} {vs : List V} {as : List Sl} {v : V} {fv : List Addr} {s : Sl} (O : Ok C G H σ ρ fp) (O' : OkV (⟨[], [], vs, G, H⟩ : Cc K) G' H' (vs.map some) as fp' v fv s) (hs : notTrue s = true) : OkV C G' H' σ ρ fp v fv s where
  ok := O.grow O'.ok.e0 O'.ok.e1 (fun a o h => by
    rcases O'.ok.nw a o h with z | z | z
    · exact .inl z
    · exact .inr z
    · cases z) fun a o h => O'.ok.fr a o (fun z => nomatch z) h
  va := by
    have va := O'.va
    cases s with
    | no => exact va
    | d d => exact va
    | w q W =>
      refine ⟨va.1, fun hq a ha => ?_⟩
      rcases va.2 hq a ha with z | z
      · exact .inl (O.dm a z)
      · cases z
  dj := fun i a h1 h2 => by
    obtain ⟨_, ⟨o, ho⟩, _⟩ := O.fo i a h1
    rcases (O'.fo a h2).2.2 with z | z
    · have z' : H a = none := z
      rw [ho] at z'; cases z'
    · cases z
  fo := fun a h => by
    obtain ⟨h1, h2, h3⟩ := O'.fo a h
    refine ⟨h1, h2, ?_⟩
    rcases h3 with z | z
    · exact .inl (O.dm a z)
    · cases z
theorem ok_call0 {G H G' H' : Hp} {σ : St} {fp fp' : Nat → List Addr} {vs : List V} {as : List Sl} (O : Ok C G H σ ρ fp) (O' : Ok (⟨[], [], vs, G, H⟩ : Cc K) G' H' (vs.map some) as fp') : Ok C G' H' σ ρ fp :=
  (okv_call0 O (O'.nv .non) rfl).ok
/-- f(e, ..) on data -/
theorem ev_call {R : Sl → List Sl → Prop} {c : Ctr} {E : XK} {Er : Addr → List Sl → Prop} {t : TA} (hx : XOk C E Er) (h : EvA C t ρ fun ds ρ1 => c (ds.map Sl.d) (fun s _ => notTrue s = true ∧ R s ρ1) (fun Cl _ => Er Cl ρ1)) (mono : ∀ as (R R' : Sl → List Sl → Prop) (E E' : Addr → List Sl → Prop), (∀ s a, R s a → R' s a) → (∀ s a, E s a → E' s a) → c as R E → c as R' E') :
    Ev C (tCall (c.sp K) [] E t) ρ R := fun G H σ fp O Q q =>
  h G H σ fp O _ fun vs G1 H1 ds ρ1 fp1 e1 O1 D1 h1 => by
    show Ctr.sp K c (vs ++ []) H1 Q E
    rw [List.append_nil]
    refine ⟨G1, ds.map Sl.d, [], fun _ => [], ok_args O1.e1 D1, mono _ _ _ _ _ ?_ ?_ h1⟩
    · rintro s as' ⟨hs, r⟩ v G' H' fp' fv O'
      exact q v G' H' s ρ1 fp1 fv (e1.trans O'.ok.e0) (okv_call0 O1 O' hs) r
    · intro Cl as' er G' H' fp' O'
      exact hx Cl ρ1 er G' H' σ fp1 (ok_call0 O1 O')
def Ctr.Mono (c : Ctr) : Prop := ∀ as (R R' : Sl → List Sl → Prop) (E E' : Addr → List Sl → Prop), (∀ s a, R s a → R' s a) → (∀ s a, E s a → E' s a) → c as R E → c as R' E'
theorem evd_call {R : Dt → List Sl → Prop} {c : Ctr} {E : XK} {Er : Addr → List Sl → Prop} {t : TA} (m : c.Mono) (hx : XOk C E Er) (h : EvA C t ρ fun ds ρ1 => c (ds.map Sl.d) (fun s _ => asF (fun d => R d ρ1) s) (fun Cl _ => Er Cl ρ1)) : EvD C (tCall (c.sp K) [] E t) ρ R := by
  refine evd_f (ev_call hx ?_ m)
  intro G H σ fp O Q q
  refine h G H σ fp O Q fun vs G' H' ds ρ' fp' e O' D r => q vs G' H' ds ρ' fp' e O' D (m _ _ _ _ _ (fun s a z => ⟨?_, z⟩) (fun _ _ z => z) r)
  rcases z with ⟨d, rfl, _⟩ | ⟨ds, rfl, _⟩ <;> rfl
/-- f(.., x, ..), x owned, the others data -/
theorem ev_call1 {R : Sl → List Sl → Prop} {c : Ctr} {E : XK} {Er : Addr → List Sl → Prop} {t : TA} (m : c.Mono) (hx : XOk C E Er) (h : EvB C t ρ fun as ρ1 => ∃ (pre post : List Dt) (i : Nat) (q : Bool) (W : Wd), as = pre.map Ar.d ++ .o i :: post.map Ar.d ∧ ρ1[i]? = some (.w q W) ∧
    c (pre.map Sl.d ++ .w true W :: post.map Sl.d) (fun s as' => notTrue s = true ∧ ∃ W', as'[pre.length]? = some (.w true W') ∧ R s (ρ1.set i (.w q W'))) (fun Cl as' => ∃ W', as'[pre.length]? = some (.w true W') ∧ Er Cl (ρ1.set i (.w q W')))) : Ev C (tCall (c.sp K) [] E t) ρ R := fun G H σ fp O Q q =>
  h G H σ fp O _ fun vs G1 H1 as ρ1 fp1 e1 O1 A1 h1 => by
    obtain ⟨pre, post, i, qq, W, rfl, hi, h1⟩ := h1
    obtain ⟨us, x, ws, rfl, d1, d2, d3⟩ := A1.split
    show Ctr.sp K c ((us ++ x :: ws) ++ []) H1 Q E
    rw [List.append_nil]
    have lu := d1.len
    have lw := d3.len
    have vx : (us ++ x :: ws)[pre.length]? = some x := by rw [← lu]; simp
    obtain ⟨x', g1, g2, g3, g4⟩ := O1.sl i _ hi
    have ex : x' = x := by rw [d2] at g1; cases g1; rfl
    subst ex
    have hOk : Ok (⟨fp1 i, [], us ++ x' :: ws, G1, H1⟩ : Cc K) G1 H1 ((us ++ x' :: ws).map some) (pre.map Sl.d ++ .w true W :: post.map Sl.d) (fun j => if j = pre.length then fp1 i else []) := {
      e0 := Same.refl G1
      e1 := O1.e1
      nw := fun a o h => .inl h
      fr := fun a o _ h => h
      dm := fun a h => h
      len := by simp [lu, lw]
      sl := fun j s hs => by
        by_cases hj : j < pre.length
        · rw [List.getElem?_append_left (by simpa using hj), List.getElem?_map] at hs
          obtain ⟨d, z1, rfl⟩ := Option.map_eq_some_iff.mp hs
          obtain ⟨v, z2, z3⟩ := d1.get z1
          refine ⟨v, ?_, z3⟩
          rw [List.getElem?_map, List.getElem?_append_left (by rw [lu]; exact hj), z2]
          rfl
        · by_cases ej : j = pre.length
          · subst ej
            have e : (pre.map Sl.d ++ Sl.w true W :: post.map Sl.d)[pre.length]? = some (.w true W) := by simp
            rw [e] at hs
            cases hs
            rw [if_pos rfl]
            refine ⟨x', by rw [List.getElem?_map, vx]; rfl, g2, fun _ => vx, fun z => by cases z⟩
          · obtain ⟨k, rfl⟩ : ∃ k, j = pre.length + 1 + k := ⟨j - (pre.length + 1), by omega⟩
            have e : (pre.map Sl.d ++ Sl.w true W :: post.map Sl.d)[pre.length + 1 + k]? = (post.map Sl.d)[k]? := by
              rw [List.getElem?_append_right (by simp; omega)]
              have : pre.length + 1 + k - (pre.map Sl.d).length = k + 1 := by simp; omega
              rw [this]
              rfl
            rw [e, List.getElem?_map] at hs
            obtain ⟨d, z1, rfl⟩ := Option.map_eq_some_iff.mp hs
            obtain ⟨v, z2, z3⟩ := d3.get z1
            refine ⟨v, ?_, z3⟩
            rw [List.getElem?_map, List.getElem?_append_right (by rw [lu]; omega)]
            have : pre.length + 1 + k - us.length = k + 1 := by rw [lu]; omega
            rw [this]
            show Option.map some (ws[k]?) = _
            rw [z2]
            rfl
      em := fun j hj => by
        by_cases ej : j = pre.length
        · subst ej
          exact absurd (by simp) (hj true W)
        · rw [if_neg ej]
      dj := fun j l a h1 h2 => by
        by_cases e1 : j = pre.length
        · by_cases e2 : l = pre.length
          · rw [e1, e2]
          · rw [if_neg e2] at h2; cases h2
        · rw [if_neg e1] at h1; cases h1
      fo := fun j a h => by
        by_cases e1 : j = pre.length
        · rw [if_pos e1] at h
          obtain ⟨y1, y2, _⟩ := O1.fo i a h
          exact ⟨y1, y2, .inr h⟩
        · rw [if_neg e1] at h; cases h }
    -- back to here
    have back : ∀ {G' H' : Hp} {as' : List Sl} {fp' : Nat → List Addr} {W' : Wd}, Ok (⟨fp1 i, [], us ++ x' :: ws, G1, H1⟩ : Cc K) G' H' ((us ++ x' :: ws).map some) as' fp' → as'[pre.length]? = some (.w true W') → Ok C G' H' σ (ρ1.set i (.w qq W')) (fpSet fp1 i (fp' pre.length)) := fun {G' H' as' fp' W'} O' hw => by
      refine O1.write (W' := W') hi O'.e0 O'.e1 (fun a o z => ?_) (fun a o z1 z2 => O'.fr a o z1 z2) (fun a z => O'.dm a z) (fun a ha => ?_) (fun a ha => (O'.fo _ a ha).1) fun v hv => ?_
      · rcases O'.nw a o z with y | y | y
        · exact .inl y
        · exact .inr y
        · cases y
      · obtain ⟨_, y2, y3⟩ := O'.fo _ a ha
        exact ⟨y3.symm, y2⟩
      · obtain ⟨v', y1, y2, _⟩ := O'.sl _ _ hw
        rw [List.getElem?_map, vx] at y1
        cases y1
        rw [g1] at hv
        cases hv
        exact y2
    refine ⟨G1, _, fp1 i, _, hOk, m _ _ _ _ _ ?_ ?_ h1⟩
    · rintro s as' ⟨hs, W', hw, r⟩ v G' H' fp' fv O'
      have O2 := back O'.ok hw
      refine q v G' H' s _ _ fv (e1.trans O'.ok.e0) ⟨O2, ?_, fun j a z1 z2 => ?_, fun a z => ?_⟩ r
      · have va := O'.va
        cases s with
        | no => exact va
        | d d => exact va
        | w q3 W3 =>
          refine ⟨va.1, fun hq a ha => ?_⟩
          rcases va.2 hq a ha with z | z
          · exact .inl (O1.dm a z)
          · cases z
      · unfold fpSet at z1
        by_cases e : j = i
        · rw [if_pos e] at z1
          exact O'.dj _ a z1 z2
        · rw [if_neg e] at z1
          obtain ⟨_, ⟨o, ho⟩, _⟩ := O1.fo j a z1
          rcases (O'.fo a z2).2.2 with y | y
          · have y' : H1 a = none := y
            rw [ho] at y'; cases y'
          · exact e (O1.dj j i a z1 y)
      · obtain ⟨y1, y2, y3⟩ := O'.fo a z
        refine ⟨y1, y2, ?_⟩
        rcases y3 with y | y
        · exact .inl (O1.dm a y)
        · exact (O1.fo i a y).2.2
    · rintro Cl as' ⟨W', hw, er⟩ G' H' fp' O'
      exact hx Cl _ er G' H' σ _ (back O' hw)
theorem evd_call1 {R : Dt → List Sl → Prop} {c : Ctr} {E : XK} {Er : Addr → List Sl → Prop} {t : TA} (m : c.Mono) (hx : XOk C E Er) (h : EvB C t ρ fun as ρ1 => ∃ (pre post : List Dt) (i : Nat) (q : Bool) (W : Wd), as = pre.map Ar.d ++ .o i :: post.map Ar.d ∧ ρ1[i]? = some (.w q W) ∧
    c (pre.map Sl.d ++ .w true W :: post.map Sl.d) (fun s as' => ∃ W', as'[pre.length]? = some (.w true W') ∧ asF (fun d => R d (ρ1.set i (.w q W'))) s) (fun Cl as' => ∃ W', as'[pre.length]? = some (.w true W') ∧ Er Cl (ρ1.set i (.w q W')))) : EvD C (tCall (c.sp K) [] E t) ρ R := by
  refine evd_f (ev_call1 m hx ?_)
  intro G H σ fp O Q q
  refine h G H σ fp O Q fun vs G' H' ds ρ' fp' e O' D r => q vs G' H' ds ρ' fp' e O' D ?_
  obtain ⟨pre, post, i, qq, W, e1, e2, r⟩ := r
  refine ⟨pre, post, i, qq, W, e1, e2, m _ _ _ _ _ (fun s a z => ?_) (fun _ _ z => z) r⟩
  obtain ⟨W', z1, z2⟩ := z
  refine ⟨?_, W', z1, z2⟩
  rcases z2 with ⟨d, rfl, _⟩ | ⟨ds, rfl, _⟩ <;> rfl
end
/-! a def by its contract -/
def back : List Sl → List Sl → List Sl
  | [], _ => []
  | .w _ _ :: as, ρ => (ρ.head?.getD .no) :: back as ρ.tail
  | .no :: as, ρ => .no :: back as ρ.tail
  | .d d :: as, ρ => .d d :: back as ρ.tail
def isQ : Option Sl → Bool
  | some (.w true _) => true
  | _ => false
def backOk : List Sl → List Sl → Bool
  | [], _ => true
  | .w _ _ :: as, ρ => isQ ρ.head? && backOk as ρ.tail
  | .no :: as, ρ => backOk as ρ.tail
  | .d _ :: as, ρ => backOk as ρ.tail
theorem isQ_of {o : Option Sl} (h : isQ o = true) : ∃ W, o = some (.w true W) := by
  cases o with
  | none => cases h
  | some s =>
    cases s with
    | no => cases h
    | d d => cases h
    | w q W =>
      cases q with
      | true => exact ⟨W, rfl⟩
      | false => cases h
theorem back_len : ∀ {as ρ : List Sl}, (back as ρ).length = as.length
  | [], _ => rfl
  | .no :: as, ρ => by show (back as ρ.tail).length + 1 = _; rw [back_len]; rfl
  | .d d :: as, ρ => by show (back as ρ.tail).length + 1 = _; rw [back_len]; rfl
  | .w q W :: as, ρ => by show (back as ρ.tail).length + 1 = _; rw [back_len]; rfl
theorem back_get : ∀ {as ρ : List Sl} {i : Nat} {s : Sl}, backOk as ρ = true → (back as ρ)[i]? = some s → (∃ q W W', as[i]? = some (.w q W) ∧ s = .w true W' ∧ ρ[i]? = some (.w true W')) ∨ ((∀ q W, as[i]? ≠ some (.w q W)) ∧ as[i]? = some s)
  | [], ρ, i, s, _, h => by simp [back] at h
  | .no :: as, ρ, 0, t, h, e => by
    have e' : some Sl.no = some t := e
    cases e'
    exact .inr ⟨(fun q W z => nomatch z), rfl⟩
  | .no :: as, ρ, i + 1, t, h, e => by
    have z := back_get (as := as) (ρ := ρ.tail) (i := i) h e
    rw [List.getElem?_tail] at z
    exact z
  | .d d :: as, ρ, 0, t, h, e => by
    have e' : some (Sl.d d) = some t := e
    cases e'
    exact .inr ⟨(fun q W z => nomatch z), rfl⟩
  | .d d :: as, ρ, i + 1, t, h, e => by
    have z := back_get (as := as) (ρ := ρ.tail) (i := i) h e
    rw [List.getElem?_tail] at z
    exact z
  | .w q W :: as, ρ, 0, t, h, e => by
    have h1 : isQ ρ.head? = true := (Bool.and_eq_true_iff.mp h).1
    obtain ⟨W', hW⟩ := isQ_of h1
    have e' : some (ρ.head?.getD .no) = some t := e
    rw [hW] at e'
    cases e'
    exact .inl ⟨q, W, W', rfl, rfl, by rw [← List.head?_eq_getElem?]; exact hW⟩
  | .w q W :: as, ρ, i + 1, t, h, e => by
    have z := back_get (as := as) (ρ := ρ.tail) (i := i) (Bool.and_eq_true_iff.mp h).2 e
    rw [List.getElem?_tail] at z
    exact z
theorem back_has : ∀ {as ρ : List Sl} {i : Nat} {q : Bool} {W : Wd}, backOk as ρ = true → as[i]? = some (.w q W) → ∃ W', (back as ρ)[i]? = some (.w true W')
  | [], _, _, _, _, _, h => by simp at h
  | .no :: as, ρ, 0, q, W, h, e => by cases e
  | .no :: as, ρ, i + 1, q, W, h, e => back_has (as := as) (ρ := ρ.tail) (i := i) h e
  | .d d :: as, ρ, 0, q, W, h, e => by cases e
  | .d d :: as, ρ, i + 1, q, W, h, e => back_has (as := as) (ρ := ρ.tail) (i := i) h e
  | .w q' W0 :: as, ρ, 0, q, W, h, e => by
    have h1 : isQ ρ.head? = true := (Bool.and_eq_true_iff.mp h).1
    obtain ⟨W', hW⟩ := isQ_of h1
    refine ⟨W', ?_⟩
    show some (ρ.head?.getD .no) = _
    rw [hW]
    rfl
  | .w q' W0 :: as, ρ, i + 1, q, W, h, e => back_has (as := as) (ρ := ρ.tail) (i := i) (Bool.and_eq_true_iff.mp h).2 e
theorem back_data : ∀ {ds : List Dt} {ρ : List Sl}, back (ds.map Sl.d) ρ = ds.map Sl.d ∧ backOk (ds.map Sl.d) ρ = true
  | [], _ => ⟨rfl, rfl⟩
  | d :: ds, ρ => by
    obtain ⟨h1, h2⟩ := back_data (ds := ds) (ρ := ρ.tail)
    exact ⟨by show Sl.d d :: back (ds.map Sl.d) ρ.tail = _; rw [h1]; rfl, h2⟩
section
variable {K : PySem.W.Frag}
def backFp (as : List Sl) (fp : Nat → List Addr) : Nat → List Addr := fun i => match as[i]? with
  | some (.w _ _) => fp i
  | _ => []
theorem backFp_sub {as : List Sl} {fp : Nat → List Addr} {i : Nat} {a : Addr} (h : a ∈ backFp as fp i) : a ∈ fp i := by
  unfold backFp at h
  split at h
  · exact h
  · cases h
theorem Ok.back {bs : List Addr} {vs : List V} {G H G' H' : Hp} {as ρ : List Sl} {σ : St} {fp fp' : Nat → List Addr} (O : Ok (⟨bs, [], vs, G, H⟩ : Cc K) G H (vs.map some) as fp) (O' : Ok (⟨bs, [], vs, G, H⟩ : Cc K) G' H' σ ρ fp') (hb : backOk as ρ = true) :
    Ok (⟨bs, [], vs, G, H⟩ : Cc K) G' H' (vs.map some) (DL.back as ρ) (backFp as fp') where
  e0 := O'.e0
  e1 := O'.e1
  nw := O'.nw
  fr := O'.fr
  dm := O'.dm
  len := by rw [back_len]; exact O.len
  sl := fun i s h => by
    rcases back_get hb h with ⟨q, W, W', h1, rfl, h3⟩ | ⟨h1, h2⟩
    · obtain ⟨v, g1, g2, g3, g4⟩ := O'.sl i _ h3
      refine ⟨v, ?_, ?_, g3, fun z => by cases z⟩
      · rw [List.getElem?_map, g3 rfl]; rfl
      · unfold backFp; rw [h1]; exact g2
    · have z := O.sl i s h2
      cases s with
      | no => exact trivial
      | d d => obtain ⟨v, g1, g2⟩ := z; exact ⟨v, g1, Dv.up O'.e0 d v g2⟩
      | w q W => exact absurd h2 (h1 q W)
  em := fun i h => by
    unfold backFp
    cases e : as[i]? with
    | none => rfl
    | some s =>
      cases s with
      | no => rfl
      | d d => rfl
      | w q W =>
        obtain ⟨W', z⟩ := back_has hb e
        exact absurd z (h true W')
  dj := fun i j a h1 h2 => O'.dj i j a (backFp_sub h1) (backFp_sub h2)
  fo := fun i a h => O'.fo i a (backFp_sub h)
theorem OkV.back {bs : List Addr} {vs : List V} {G H G' H' : Hp} {as ρ : List Sl} {σ : St} {fp fp' : Nat → List Addr} {v : V} {fv : List Addr} {s : Sl} (O : Ok (⟨bs, [], vs, G, H⟩ : Cc K) G H (vs.map some) as fp) (O' : OkV (⟨bs, [], vs, G, H⟩ : Cc K) G' H' σ ρ fp' v fv s) (hb : backOk as ρ = true) :
    OkV (⟨bs, [], vs, G, H⟩ : Cc K) G' H' (vs.map some) (DL.back as ρ) (backFp as fp') v fv s :=
  ⟨O.back O'.ok hb, O'.va, fun i a h => O'.dj i a (backFp_sub h), O'.fo⟩
theorem ok_start {bs : List Addr} {vs : List V} {G H : Hp} {as : List Sl} {fp : Nat → List Addr} {N : List Str} (O : Ok (⟨bs, [], vs, G, H⟩ : Cc K) G H (vs.map some) as fp) : Ok (⟨bs, [], vs, G, H⟩ : Cc K) G H (L2.start N vs) (as ++ List.replicate (N.length - as.length) .no) fp where
  e0 := O.e0
  e1 := O.e1
  nw := O.nw
  fr := O.fr
  dm := O.dm
  len := by
    have l := O.len
    rw [List.length_map] at l
    unfold L2.start
    simp [l]
  sl := fun i s h => by
    by_cases hi : i < as.length
    · rw [List.getElem?_append_left hi] at h
      have l := O.len
      have z := O.sl i s h
      have g : (L2.start N vs)[i]? = (vs.map some)[i]? := by
        unfold L2.start
        rw [List.getElem?_append_left (by rw [← l]; exact hi)]
      cases s with
      | no => exact trivial
      | d d => obtain ⟨u, h1, h2⟩ := z; exact ⟨u, g.trans h1, h2⟩
      | w q W => obtain ⟨u, h1, h2⟩ := z; exact ⟨u, g.trans h1, h2⟩
    · rw [List.getElem?_append_right (by omega), List.getElem?_replicate] at h
      split at h
      · cases h; exact trivial
      · cases h
  em := fun i h => O.em i fun q W z => h q W (by
    have hi : i < as.length := (List.getElem?_eq_some_iff.mp z).1
    rw [List.getElem?_append_left hi]
    exact z)
  dj := O.dj
  fo := O.fo
def fin (as : List Sl) (R : Sl → List Sl → Prop) : En where
  nx := fun ρ => backOk as ρ = true ∧ R (.d .non) (DL.back as ρ)
  bk := fun _ => False
  ct := fun _ => False
  rt := fun s ρ => backOk as ρ = true ∧ R s (DL.back as ρ)
variable {P : Program} {w : World} {mg : Str → Option Value} {base : Heap}
/-- a def that lets no error out -/
theorem fn_dl {x qual : Str} {st : Stmt} {f : Addr} {fd : FuncData} {N ps : List Str} {k : Nat} {c : Ctr} (m : c.Mono) (F : Fun K x qual st f fd) (S : FnScope N ps (defScope st)) (len : ∀ as R E, c as R E → as.length = ps.length)
    (hbody : ∀ (cdv : Value) (A : Around) (outer : List Env) (s : Shared) (H : Hp) (E : XK), Room k (A.deeper (PyProof.Rows.envOfC qual (defScope st) s.heap.objs.size f cdv)) →
      ∃ t, PSs (cxOf CX0 P w K mg base N qual (defScope st) f cdv A outer s H E).nox (defBody st) t ∧ ∀ (C : Cc K) as R Er, c as R Er → Sj C t (as ++ List.replicate (N.length - as.length) .no) (fin as R)) : FnOk P w K mg base CX0 (k + 1) f fd ps (c.sp K) := by
  refine F.ok S (fun vs H Q E h => ?_) (fun cdv A outer s H vs Q E hr h => ?_)
  · obtain ⟨G, as, bs, fp, O, h⟩ := h
    have l := O.len
    rw [List.length_map] at l
    rw [← l]
    exact len _ _ _ h
  · obtain ⟨t, ht, hs⟩ := hbody cdv A outer s H E hr
    refine ⟨t, ht, ?_⟩
    obtain ⟨G, as, bs, fp, O, h⟩ := h
    refine hs ⟨bs, [], vs, G, H⟩ as _ _ h G H (L2.start N vs) fp (ok_start O) _ ⟨?_, ?_, ?_, ?_⟩
    · rintro G' H' σ' ρ' fp' e O' ⟨hb, r⟩
      exact r .non G' H' (backFp as fp') [] ((Ok.back O O' hb).dv .non)
    · rintro G' H' σ' ρ' fp' e O' z
      exact z.elim
    · rintro G' H' σ' ρ' fp' e O' z
      exact z.elim
    · rintro v G' H' σ' ρ' fp' fv s e O' ⟨hb, r⟩
      exact r v G' H' (backFp as fp') fv (OkV.back O O' hb)
end

end
section
/-! DL, part g: defs by name, module constants, built-in names. -/

/-- the parameters take what is given, in its order -/
def BA (fd : FuncData) (ps : List Str) : Prop := ∀ us : List Value, us.length = ps.length → bindArgs fd ⟨us, []⟩ = pure (ps.zip us)
theorem BA.b {K : PySem.W.Frag} {fd : FuncData} {ps : List Str} (h : BA fd ps) : Binds K fd ps [] := .all h
/-- a def of the text, where the top has put it -/
def Df (K : PySem.W.Frag) (mg : Str → Option Value) (x : Str) (st : Stmt) (ps : List Str) : Prop := ∃ f fd, Fun K x x st f fd ∧ mg x = some (.ref f) ∧ BA fd ps
/-- .. that keeps a contract -/
def Gd (P : Program) (w : World) (K : PySem.W.Frag) (mg : Str → Option Value) (base : Heap) (x : Str) (ps : List Str) (L : Nat) (c : Ctr) : Prop :=
  ∃ f fd, mg x = some (.ref f) ∧ PySem.W.keepIn K (.ref f) = true ∧ BA fd ps ∧ FnOk P w K mg base CX0 L f fd ps (c.sp K) ∧ ∃ oc od osl, K.lookup f = some ⟨oc, od, .func fd, osl⟩
/-- a constant of the module -/
def Gv (mg : Str → Option Value) (x : Str) (v : V) : Prop := ∃ u, mg x = some u ∧ RelV v u
section
variable {X : Cx} {P : Program} {w : World} {K : PySem.W.Frag} {mg : Str → Option Value} {base : Heap}
theorem pe_gv {x : Str} {v : V} {pos : Pos} (hg : Gl X x) (h : Gv X.mg x v) (hd : (x == ("__debug__" : Str)) = false := by decide) : PE X (.Name x pos) (tC v) := by
  obtain ⟨u, h1, h2⟩ := h
  exact pe_glob hg h1 h2 hd
theorem pe_gd {x : Str} {ps : List Str} {L : Nat} {c : Ctr} {e : Expr} {es : List Expr} {t : TA} {p pos : Pos} (G : Gd X.prog X.w X.K X.mg X.base x ps L c) (hr : Room L X.A) (hg : Gl X x) (ha : PA X (e :: es) t)
    (hdb : (x == ("__debug__" : Str)) = false := by decide) (he : starEach (e :: es) X.env = (false, eval e X.env) :: starEach es X.env := by rfl) (hpl : (backTo pos (starEach es X.env)).any (·.1) = false := by rfl) :
    PE X (.Call (.Name x p) (e :: es) [] pos) (tCall (c.sp X.K) [] E0 t) := by
  obtain ⟨f, fd, h1, h2, h3, h4, _⟩ := G
  exact pe_call h4 hr hg h1 h2 h3.b .nil pass0 ha hdb he hpl
theorem pe_gd0 {x : Str} {ps : List Str} {L : Nat} {c : Ctr} {p pos : Pos} (G : Gd X.prog X.w X.K X.mg X.base x ps L c) (hr : Room L X.A) (hg : Gl X x)
    (hdb : (x == ("__debug__" : Str)) = false := by decide) : PE X (.Call (.Name x p) [] [] pos) (tCall (c.sp X.K) [] E0 tNil) := by
  obtain ⟨f, fd, h1, h2, h3, h4, _⟩ := G
  exact pe_call0 h4 hr hg h1 h2 h3.b .nil pass0 hdb
/-- a def keeps its contract, by its body -/
theorem gd_of {x : Str} {st : Stmt} {N ps : List Str} {k : Nat} {c : Ctr} (m : c.Mono) (F : Df K mg x st ps) (S : FnScope N ps (defScope st)) (len : ∀ as R E, c as R E → as.length = ps.length) (t : TS)
    (hbody : ∀ (f : Addr) (cdv : Value) (A : Around) (outer : List Env) (s : Shared) (H : Hp) (E : XK), Room k (A.deeper (PyProof.Rows.envOfC x (defScope st) s.heap.objs.size f cdv)) → PSs (cxOf CX0 P w K mg base N x (defScope st) f cdv A outer s H E).nox (defBody st) t)
    (hs : ∀ (C : Cc K) as R Er, c as R Er → Sj C t (as ++ List.replicate (N.length - as.length) .no) (fin as R)) : Gd P w K mg base x ps (k + 1) c := by
  obtain ⟨f, fd, h1, h2, h3⟩ := F
  have lk : ∃ oc od osl, K.lookup f = some ⟨oc, od, .func fd, osl⟩ := by
    obtain ⟨oc, od, kV, doc, pm, an, cdv, ct, osl, _, lk, _⟩ := h1.ex
    exact ⟨oc, od, osl, lk⟩
  exact ⟨f, fd, h2, h1.kp, h3, fn_dl m h1 S len fun cdv A outer s H E hr => ⟨t, hbody f cdv A outer s H E hr, hs⟩, lk⟩
/-- a list's item, for x[i] op= e -/
theorem get_list : PGet X (rIxL X.K) := by
  intro pins s σ H x y v u Q I rx ry h
  obtain ⟨p, xs, i, z, rfl, rfl, hq, he, q⟩ := h
  cases rx
  obtain ⟨t, rfl⟩ := ry
  obtain ⟨its, r, pl, hz⟩ := I.list hq
  obtain ⟨j, h1, h2, h3, h4, h5⟩ := atI_get he
  obtain ⟨w, ew, rw'⟩ := r.get h2
  have hl := r.length
  have hn := line63
  by_cases h0 : 0 ≤ i
  · have hj : i.toNat = j := Option.some.inj ((seqIndex_of h0 h5).symm.trans h1)
    have ew' : its.toArray[i.toNat]? = some w := by rw [hj]; simpa using ew
    exact wpAny_getItem_list pl.isList h0 (by omega) ew' ⟨z, H, I, rw', q⟩
  · have hj : (i + (its.toArray.size : Int)).toNat = j := by
      have := (seqIndex_neg (by omega) h4).symm.trans h1
      rw [List.size_toArray, ← hl]
      exact Option.some.inj this
    have ew' : its.toArray[(i + (its.toArray.size : Int)).toNat]? = some w := by rw [hj]; simpa using ew
    exact wpAny_getItem_list_neg pl.isList (by omega) (by rw [List.size_toArray] <;> omega) (by omega) ew' ⟨z, H, I, rw', q⟩
end
/-! names of built-ins -/
theorem bt_len : bootBuiltins "len" = some (.builtin "len") := by decide +kernel
theorem bt_min : bootBuiltins "min" = some (.builtin "min") := by decide +kernel
theorem bt_max : bootBuiltins "max" = some (.builtin "max") := by decide +kernel
theorem bt_sum : bootBuiltins "sum" = some (.builtin "sum") := by decide +kernel
theorem bt_all : bootBuiltins "all" = some (.builtin "all") := by decide +kernel
theorem bt_abs : bootBuiltins "abs" = some (.builtin "abs") := by decide +kernel
theorem bt_sorted : bootBuiltins "sorted" = some (.builtin "sorted") := by decide +kernel
theorem bt_repr : bootBuiltins "repr" = some (.builtin "repr") := by decide +kernel
theorem bt_divmod : bootBuiltins "divmod" = some (.builtin "divmod") := by decide +kernel
theorem bt_isinstance : bootBuiltins "isinstance" = some (.builtin "isinstance") := by decide +kernel
theorem bt_int : bootBuiltins "int" = some (.type "int") := by decide +kernel
theorem bt_bool : bootBuiltins "bool" = some (.type "bool") := by decide +kernel
theorem bt_str : bootBuiltins "str" = some (.type "str") := by decide +kernel
theorem bt_list : bootBuiltins "list" = some (.type "list") := by decide +kernel
theorem bt_tuple : bootBuiltins "tuple" = some (.type "tuple") := by decide +kernel
theorem bt_set : bootBuiltins "set" = some (.type "set") := by decide +kernel
theorem bt_range : bootBuiltins "range" = some (.type "range") := by decide +kernel

end
section
/-! DL, part h: what follows a statement; contracts of one form; the script. -/
section
variable {K : PySem.W.Frag} {C : Cc K} {ρ : List Sl} {P : En} {ta tb te : TE} {t u : TT} {ts us vs : TS}
theorem sq_set {i : Nat} (h : EvD C te ρ fun d ρ' => asgOk ρ' i = true ∧ Sj C us (ρ'.set i (.d d)) P) : Sj C (tSeq (tAsg te (gName i)) us) ρ P := sj_seq (sj_set h)
theorem sq_own {i : Nat} (h : Ev C te ρ fun s ρ' => asgOk ρ' i = true ∧ notTrue s = true ∧ Sj C us (ρ'.set i s) P) : Sj C (tSeq (tAsg te (gName i)) us) ρ P := sj_seq (sj_own h)
theorem sq_drop (h : EvD C te ρ fun _ ρ' => Sj C us ρ' P) : Sj C (tSeq (tDrop te) us) ρ P := sj_seq (sj_drop h)
theorem sq_when (h : EvT C t ρ fun b ρ' => (b = true → Sj C ts ρ' { P with nx := fun ρ' => Sj C us ρ' P }) ∧ (b = false → Sj C us ρ' P)) : Sj C (tSeq (tIfS t ts tNext) us) ρ P :=
  sj_seq (sj_if (evt_imp h fun b ρ' r => ⟨r.1, fun e => sj_next (r.2 e)⟩))
theorem sq_if (h : EvT C t ρ fun b ρ' => (b = true → Sj C ts ρ' { P with nx := fun ρ' => Sj C us ρ' P }) ∧ (b = false → Sj C vs ρ' { P with nx := fun ρ' => Sj C us ρ' P })) : Sj C (tSeq (tIfS t ts vs) us) ρ P := sj_seq (sj_if h)
theorem sq_aug {i : Nat} {f : Int → Int → Int} {a : Int} (hi : ρ[i]? = some (.d (.int a))) (h : EvD C te ρ fun d ρ' => asI (fun b => asgOk ρ' i = true ∧ Sj C us (ρ'.set i (.d (.int (f a b)))) P) d) : Sj C (tSeq (tAug i te (ipI f)) us) ρ P := sj_seq (sj_aug hi h)
theorem sq_par {i j : Nat} {t : TA} (h : EvA C t ρ fun ds ρ' => ∃ d e, ds = [d, e] ∧ asgOk ρ' i = true ∧ asgOk (ρ'.set i (.d d)) j = true ∧ Sj C us ((ρ'.set i (.d d)).set j (.d e)) P) : Sj C (tSeq (tPar i j t) us) ρ P := sj_seq (sj_par h)
theorem sq_asg {g : TG} (h : EvD C te ρ fun d ρ' => GgD C g d ρ' fun ρ'' => Sj C us ρ'' P) : Sj C (tSeq (tAsg te g) us) ρ P := sj_seq (sj_asg h)
theorem sq_append {i : Nat} {q : Bool} {ds0 : List Dt} (hw : ρ[i]? = some (.w q (lw ds0))) (h : EvD C te ρ fun d ρ' => ∃ q ds, ρ'[i]? = some (.w q (lw ds)) ∧ ds.length < 1000000 ∧ Sj C us (ρ'.set i (.w q (lw (ds ++ [d])))) P) : Sj C (tSeq (tDrop (tBM K "list" rAppend (tVar i) (tCons te tNil))) us) ρ P := sj_seq (sj_append (W := lw []) hw h)
theorem sq_setO {i : Nat} (h : EvD C te ρ fun d ρ1 => (∃ q W, ρ1[i]? = some (.w q W)) ∧ EvD C tb ρ1 fun y ρ' => asI (fun j => ∃ q ds n, ρ'[i]? = some (.w q (lw ds)) ∧ ixN ds.length j = some n ∧ Sj C us (ρ'.set i (.w q (lw (ds.set n d)))) P) y) :
    Sj C (tSeq (tAsg te (gSub (tVar i) tb rSetL)) us) ρ P := sj_seq (sj_setO h)
theorem sq_insert {i : Nat} {q : Bool} {ds0 : List Dt} (hw : ρ[i]? = some (.w q (lw ds0))) (h : EvD C ta ρ fun x ρ1 => asI (fun j => EvD C te ρ1 fun d ρ' => ∃ q ds, ρ'[i]? = some (.w q (lw ds)) ∧ ds.length < 1000000 ∧ 0 ≤ j ∧ j < 2 ^ 63 ∧ Sj C us (ρ'.set i (.w q (lw (ds.take j.toNat ++ [d] ++ ds.drop j.toNat)))) P) x) :
    Sj C (tSeq (tDrop (tBM K "list" rInsX (tVar i) (tCons ta (tCons te tNil)))) us) ρ P := sj_seq (sj_insert hw h)
/-- a loop, then the rest: by what holds behind it -/
theorem sq_for {wi : TI} {g : TG} (h : WkD C wi ρ fun n Y ρ1 => ∃ Iv : Nat → List Sl → Prop, Iv 0 ρ1 ∧
    (∀ i ρ', i < n → Iv i ρ' → GgD C g (Y i) ρ' fun ρ2 => Sj C ts ρ2 { nx := Iv (i + 1), ct := Iv (i + 1), bk := fun ρ' => Sj C us ρ' P, rt := P.rt }) ∧ ∀ ρ', Iv n ρ' → Sj C us ρ' P) : Sj C (tSeq (tFor wi g ts) us) ρ P := sj_seq (sj_for h)
theorem sq_while (Iv : Nat → List Sl → Prop) (m0 : Nat) (h0 : Iv m0 ρ)
    (hs : ∀ m ρ', Iv m ρ' → EvT C t ρ' fun b ρ1 => (b = true → Sj C ts ρ1 { nx := fun ρ2 => ∃ m', m' < m ∧ Iv m' ρ2, ct := fun ρ2 => ∃ m', m' < m ∧ Iv m' ρ2, bk := fun ρ' => Sj C us ρ' P, rt := P.rt }) ∧ (b = false → Sj C us ρ1 P)) : Sj C (tSeq (tWhile t ts) us) ρ P := sj_seq (sj_while Iv m0 h0 hs)
theorem asF_d {R : Dt → Prop} {d : Dt} (h : R d) : asF R (.d d) := .inl ⟨d, rfl, h⟩
theorem asF_l {R : Dt → Prop} {ds : List Dt} (h : R (.lst ds)) : asF R (.l ds) := .inr ⟨ds, rfl, h⟩
theorem evt_yes {R : Bool → List Sl → Prop} (k : R true ρ) : EvT C tYes ρ R := fun G H σ fp O Q q => q true G H ρ fp (Same.refl G) O k
theorem opd_in {neg : Bool} {x : Dt} {ds : List Dt} {R : Dt → Prop} (hx : Fn 0 x) (hs : ∀ d ∈ ds, Fn 0 d) (k : R (.bl (if neg then !ds.any (fun y => dEq y x) else ds.any fun y => dEq y x))) : OpD C (rIn K neg) x (.lst ds) ρ R := by
  have flat : ∀ {H : Hp} {v : V} {d : Dt}, Fn 0 d → Dv K H v d → flatV v = true := fun {H v d} f h => by
    cases h with
    | non => rfl
    | bl b => rfl
    | int b => rfl
    | str b => rfl
    | lst a b => unfold Fn at f; exact f.elim
    | tup a b => unfold Fn at f; exact f.elim
    | ins a b c => unfold Fn at f; exact f.elim
    | ob a => unfold Fn at f; exact f.elim
  have eqs : ∀ {H : Hp} {v w : V} {d e : Dt}, Fn 0 d → Fn 0 e → Dv K H v d → Dv K H w e → eqV v w = dEq d e := fun {H v w d e} f f' h h' => by
    cases h <;> first | (unfold Fn at f; exact f.elim) | skip
    all_goals (cases h' <;> first | (unfold Fn at f'; exact f'.elim) | (unfold dEq; simp [Dt.py, PyData.eqv, eqV]))
  have alls : ∀ {H : Hp} {vs : List V} {ds : List Dt}, (∀ d ∈ ds, Fn 0 d) → Dvs K H vs ds → vs.all flatV = true := fun {H} => by
    intro vs ds f h
    induction ds generalizing vs with
    | nil => cases h; rfl
    | cons d ds ih =>
      cases h with
      | cons h1 h2 => rw [List.all_cons, flat (f d (List.mem_cons_self ..)) h1, ih (fun x hx => f x (List.mem_cons_of_mem _ hx)) h2]; rfl
  have anys : ∀ {H : Hp} {w : V} {vs : List V} {ds : List Dt}, (∀ d ∈ ds, Fn 0 d) → Dvs K H vs ds → Dv K H w x → inV w vs = ds.any fun y => dEq y x := fun {H w} => by
    intro vs ds f h hw
    unfold inV
    induction ds generalizing vs with
    | nil => cases h; rfl
    | cons d ds ih =>
      cases h with
      | cons h1 h2 => rw [List.any_cons, List.any_cons, eqs (f d (List.mem_cons_self ..)) hx h1 hw, ih (fun x hx => f x (List.mem_cons_of_mem _ hx)) h2]
  refine opd_s (.bl _) _ (fun _ _ => .bl _) (fun G H σ fp O v w hv hw Q q => ?_) k
  cases hw with
  | lst h1 h2 => exact ⟨_, _, rfl, .inl (.inl (.inl (O.e1 _ _ h1))), flat hx hv, alls hs h2, by rw [anys hs h2 hv]; exact q⟩
/-! the script -/
def scW (ns : List Int) : Wd where
  W := fun K G H v fp => ∃ a, v = .ref a ∧ fp = [] ∧ SqL K G a (ns.map V.int)
  st := by
    rintro K G G' H H' v fp ⟨a, rfl, rfl, h⟩ e _
    exact ⟨a, rfl, rfl, e.seq h⟩
theorem own_s {G H : Hp} {σ : St} {fp : Nat → List Addr} {i : Nat} {q : Bool} {ns : List Int} (O : Ok C G H σ ρ fp) (h : ρ[i]? = some (.w q (scW ns))) : ∃ a, σ[i]? = some (some (.ref a)) ∧ SqL K G a (ns.map V.int) := by
  obtain ⟨v, h1, ⟨a, rfl, _, h3⟩, _⟩ := O.sl i _ h
  exact ⟨a, h1, h3⟩
theorem evd_lenS {R : Dt → List Sl → Prop} {i : Nat} {q : Bool} {ns : List Int} (h : ρ[i]? = some (.w q (scW ns))) (k : R (.int ns.length) ρ) : EvD C (tCB (rLenX K) (tCons (tVar i) tNil)) ρ R := fun G H σ fp O Q q => by
  obtain ⟨a, h1, h2⟩ := own_s O h
  exact ⟨_, h1, .inl ⟨a, _, rfl, .inl (O.e1.seq h2), by rw [List.length_map]; exact q _ G H _ ρ fp (Same.refl G) O (.int _) k⟩⟩
theorem cutV_ints (ns : List Int) (lo hi : Option Int) : cutV (ns.map V.int) lo hi = (((ns.drop (HT.sIx ns.length 0 lo)).take (HT.sIx ns.length ns.length hi - HT.sIx ns.length 0 lo))).map V.int := by
  unfold cutV
  rw [List.length_map, List.map_take, List.map_drop]
def cutI (ns : List Int) (lo hi : Option Int) : List Int := (ns.drop (HT.sIx ns.length 0 lo)).take (HT.sIx ns.length ns.length hi - HT.sIx ns.length 0 lo)
theorem ev_slS {R : Sl → List Sl → Prop} {tl th : TO} {i : Nat} {q : Bool} {ns : List Int} (hw : ρ[i]? = some (.w q (scW ns))) (h : EvO C tl ρ fun l ρ2 => EvO C th ρ2 fun u ρ3 => R (.l ((cutI ns l u).map Dt.int)) ρ3) : Ev C (tSl (rSlX K) (tVar i) tl th) ρ R := fun G H σ fp O Q q => by
  obtain ⟨a, h1, h2⟩ := own_s O hw
  refine ⟨_, h1, h G H σ fp O _ fun l G2 H2 ρ2 fp2 e2 O2 k2 => k2 G2 H2 σ fp2 O2 _ fun u G3 H3 ρ3 fp3 e3 O3 k3 => ?_⟩
  refine .inl ⟨a, _, rfl, (O3.e1.seq ((e2.trans e3).seq h2)), fun p hp => ?_⟩
  rw [cutV_ints]
  exact q _ G3 _ _ ρ3 fp3 [p] (e2.trans e3) (O3.newL hp (Dvs.ints _)) k3
theorem evd_slS {R : Dt → List Sl → Prop} {tl th : TO} {i : Nat} {q : Bool} {ns : List Int} (hw : ρ[i]? = some (.w q (scW ns))) (h : EvO C tl ρ fun l ρ2 => EvO C th ρ2 fun u ρ3 => R (.lst ((cutI ns l u).map Dt.int)) ρ3) : EvD C (tSl (rSlX K) (tVar i) tl th) ρ R := by
  refine evd_l (ev_slS hw ?_)
  intro G H σ fp O Q q
  refine h G H σ fp O Q fun o G' H' ρ' fp' e O' h2 => q o G' H' ρ' fp' e O' ?_
  intro G H σ fp O Q q
  exact h2 G H σ fp O Q fun o G' H' ρ' fp' e O' h3 => q o G' H' ρ' fp' e O' ⟨_, rfl, h3⟩
theorem ev_listS {R : Sl → List Sl → Prop} {i : Nat} {q : Bool} {ns : List Int} (hw : ρ[i]? = some (.w q (scW ns))) (k : R (.l (ns.map Dt.int)) ρ) : Ev C (tCB (rListQ K) (tCons (tVar i) tNil)) ρ R := fun G H σ fp O Q q => by
  obtain ⟨a, h1, h2⟩ := own_s O hw
  exact ⟨_, h1, a, _, rfl, .inl (O.e1.seq h2), fun p hp => q _ G _ _ ρ fp [p] (Same.refl G) (O.newL hp (Dvs.ints _)) k⟩
theorem wk_scr {R : Nat → (Nat → Dt) → List Sl → Prop} {i : Nat} {q : Bool} {ns : List Int} (hw : ρ[i]? = some (.w q (scW ns))) (k : R ns.length (fun j => .int ((ns[j]?).getD 0)) ρ) : WkD C (iSeq K (tVar i)) ρ R := fun G H σ fp O Rr q => by
  obtain ⟨a, h1, h2⟩ := own_s O hw
  refine ⟨_, h1, a, rfl, .inl ⟨⟨_, O.e1.seq h2⟩, q _ G H _ _ ρ fp (Same.refl G) O ?_ k⟩⟩
  exact {
    go := fun j H' e hj => ⟨_, .int ns[j], e.seq h2, by simp [hj]⟩
    stop := fun H' e => ⟨_, e.seq h2, by rw [List.length_map]; exact Nat.le_refl _⟩
    yld := fun j H' x H'' hj e y => by
      obtain ⟨e1, y1⟩ := y
      have hx := y1 _ (e.seq h2)
      rw [List.getElem?_map, List.getElem?_eq_getElem hj] at hx
      cases hx
      refine .inl ⟨e1, ?_⟩
      show Dv K G _ (.int ((ns[j]?).getD 0))
      rw [List.getElem?_eq_getElem hj]
      exact .int _ }
end
/-! contracts of one form -/
def CT {α : Type} (emb : α → List Dt) (pre : α → Prop) (res : α → Dt) : Ctr := fun as R _ => ∃ a, as = (emb a).map Sl.d ∧ pre a ∧ R (.d (res a)) as
theorem CT.mono {α : Type} {emb : α → List Dt} {pre : α → Prop} {res : α → Dt} : (CT emb pre res).Mono := by
  rintro as R R' E E' k _ ⟨a, h1, h2, h3⟩
  exact ⟨a, h1, h2, k _ _ h3⟩
theorem CT.len {α : Type} {emb : α → List Dt} {pre : α → Prop} {res : α → Dt} {n : Nat} (h : ∀ a, (emb a).length = n) : ∀ as R E, CT emb pre res as R E → as.length = n := by
  rintro as R E ⟨a, rfl, _, _⟩
  rw [List.length_map]
  exact h a
/-- what comes back is one of several -/
def CR {α : Type} (emb : α → List Dt) (pre : α → Prop) (res : α → Sl → Prop) : Ctr := fun as R _ => ∃ a, as = (emb a).map Sl.d ∧ pre a ∧ ∀ s, res a s → R s as
theorem CR.mono {α : Type} {emb : α → List Dt} {pre : α → Prop} {res : α → Sl → Prop} : (CR emb pre res).Mono := by
  rintro as R R' E E' k _ ⟨a, h1, h2, h3⟩
  exact ⟨a, h1, h2, fun s hs => k _ _ (h3 s hs)⟩
theorem CR.len {α : Type} {emb : α → List Dt} {pre : α → Prop} {res : α → Sl → Prop} {n : Nat} (h : ∀ a, (emb a).length = n) : ∀ as R E, CR emb pre res as R E → as.length = n := by
  rintro as R E ⟨a, rfl, _, _⟩
  rw [List.length_map]
  exact h a
/-- the first one is an owned thing of the state b -/
def CB {α β : Type} (W : β → Wd) (emb : α → List Dt) (pre : β → α → Prop) (post : β → α → Sl → β → Prop) : Ctr := fun as R _ => ∃ b a, as = .w true (W b) :: (emb a).map Sl.d ∧ pre b a ∧ ∀ s b', post b a s b' → R s (.w true (W b') :: (emb a).map Sl.d)
theorem CB.mono {α β : Type} {W : β → Wd} {emb : α → List Dt} {pre : β → α → Prop} {post : β → α → Sl → β → Prop} : (CB W emb pre post).Mono := by
  rintro as R R' E E' k _ ⟨b, a, h1, h2, h3⟩
  exact ⟨b, a, h1, h2, fun s b' hs => k _ _ (h3 s b' hs)⟩
theorem CB.len {α β : Type} {W : β → Wd} {emb : α → List Dt} {pre : β → α → Prop} {post : β → α → Sl → β → Prop} {n : Nat} (h : ∀ a, (emb a).length + 1 = n) : ∀ as R E, CB W emb pre post as R E → as.length = n := by
  rintro as R E ⟨b, a, rfl, _, _⟩
  rw [List.length_cons, List.length_map]
  exact h a
section
variable {K : PySem.W.Frag} {C : Cc K} {ρ : List Sl}
/-- f(x, ..), x an owned thing at a name -/
theorem ev_callB {α β : Type} {W : β → Wd} {emb : α → List Dt} {pre : β → α → Prop} {post : β → α → Sl → β → Prop} {R : Sl → List Sl → Prop} {E : XK} {t : TA} {i : Nat} {q : Bool} {W0 : Wd} (hw : ρ[i]? = some (.w q W0))
    (h : EvA C t ρ fun ds ρ1 => ∃ b a q, ρ1[i]? = some (.w q (W b)) ∧ ds = emb a ∧ pre b a ∧ ∀ s b', post b a s b' → notTrue s = true ∧ R s (ρ1.set i (.w q (W b')))) : Ev C (tCall ((CB W emb pre post).sp K) [] E (tCons (tVar i) t)) ρ R := by
  refine ev_call1 CB.mono xok0 (evb_o hw ?_)
  intro G H σ fp O Q qq
  refine h G H σ fp O Q fun vs G' H' ds ρ' fp' e O' D r => ?_
  obtain ⟨b, a, q', r1, rfl, r2, r3⟩ := r
  have ar : ArOk K G' σ vs ((emb a).map Ar.d) := by
    have : ∀ {vs : List V} {ds : List Dt}, Dvs K G' vs ds → ArOk K G' σ vs (ds.map Ar.d) := by
      intro vs ds h
      induction ds generalizing vs with
      | nil => cases h; exact trivial
      | cons d ds ih =>
        cases h with
        | cons h1 h2 => exact ⟨h1, ih h2⟩
    exact this D
  refine qq vs G' H' _ ρ' fp' e O' ar ⟨[], emb a, i, q', W b, rfl, r1, b, a, rfl, r2, fun s b' hs => ?_⟩
  obtain ⟨n, r⟩ := r3 s b' hs
  exact ⟨n, W b', rfl, r⟩
theorem evd_callB {α β : Type} {W : β → Wd} {emb : α → List Dt} {pre : β → α → Prop} {post : β → α → Sl → β → Prop} {R : Dt → List Sl → Prop} {E : XK} {t : TA} {i : Nat} {q : Bool} {W0 : Wd} (hw : ρ[i]? = some (.w q W0))
    (h : EvA C t ρ fun ds ρ1 => ∃ b a q, ρ1[i]? = some (.w q (W b)) ∧ ds = emb a ∧ pre b a ∧ ∀ s b', post b a s b' → asF (fun d => R d (ρ1.set i (.w q (W b')))) s) : EvD C (tCall ((CB W emb pre post).sp K) [] E (tCons (tVar i) t)) ρ R := by
  refine evd_f (ev_callB hw ?_)
  intro G H σ fp O Q qq
  refine h G H σ fp O Q fun vs G' H' ds ρ' fp' e O' D r => qq vs G' H' ds ρ' fp' e O' D ?_
  obtain ⟨b, a, q', r1, r0, r2, r3⟩ := r
  refine ⟨b, a, q', r1, r0, r2, fun s b' hs => ⟨?_, r3 s b' hs⟩⟩
  rcases r3 s b' hs with ⟨d, rfl, _⟩ | ⟨ds, rfl, _⟩ <;> rfl
theorem evd_callT {α : Type} {emb : α → List Dt} {pre : α → Prop} {res : α → Dt} {R : Dt → List Sl → Prop} {E : XK} {t : TA} (h : EvA C t ρ fun ds ρ1 => ∃ a, ds = emb a ∧ pre a ∧ R (res a) ρ1) : EvD C (tCall ((CT emb pre res).sp K) [] E t) ρ R := by
  refine evd_call CT.mono xok0 ?_
  intro G H σ fp O Q qq
  refine h G H σ fp O Q fun vs G' H' ds ρ' fp' e O' D r => qq vs G' H' ds ρ' fp' e O' D ?_
  obtain ⟨a, rfl, r1, r2⟩ := r
  exact ⟨a, rfl, r1, asF_d r2⟩
theorem ev_callR {α : Type} {emb : α → List Dt} {pre : α → Prop} {res : α → Sl → Prop} {R : Sl → List Sl → Prop} {E : XK} {t : TA} (h : EvA C t ρ fun ds ρ1 => ∃ a, ds = emb a ∧ pre a ∧ ∀ s, res a s → notTrue s = true ∧ R s ρ1) : Ev C (tCall ((CR emb pre res).sp K) [] E t) ρ R := by
  refine ev_call xok0 ?_ CR.mono
  intro G H σ fp O Q qq
  refine h G H σ fp O Q fun vs G' H' ds ρ' fp' e O' D r => qq vs G' H' ds ρ' fp' e O' D ?_
  obtain ⟨a, rfl, r1, r2⟩ := r
  exact ⟨a, rfl, r1, r2⟩
theorem evd_callR {α : Type} {emb : α → List Dt} {pre : α → Prop} {res : α → Sl → Prop} {R : Dt → List Sl → Prop} {E : XK} {t : TA} (h : EvA C t ρ fun ds ρ1 => ∃ a, ds = emb a ∧ pre a ∧ ∀ s, res a s → asF (fun d => R d ρ1) s) : EvD C (tCall ((CR emb pre res).sp K) [] E t) ρ R := by
  refine evd_call CR.mono xok0 ?_
  intro G H σ fp O Q qq
  refine h G H σ fp O Q fun vs G' H' ds ρ' fp' e O' D r => qq vs G' H' ds ρ' fp' e O' D ?_
  obtain ⟨a, rfl, r1, r2⟩ := r
  exact ⟨a, rfl, r1, r2⟩
end

end
section
/-! DL, part i: a, b = a list or a tuple. -/
def gSeq (K : PySem.W.Frag) (n : Nat) (t : TGs) : TG := fun v σ H Q => gTup K n t v σ H Q ∨ gUnl K n t v σ H Q
theorem pg_seq {X : Cx} {es : List Expr} {k : Nat} {t : TGs} {n : Nat} {pos : Pos} (hc : X.calm = true) (h : PGs X es t)
    (hn : (assignEach es X.env).length = n := by rfl) (hst : (assignEach es X.env).findIdx? (·.1) = none := by rfl) : PG X (.Tuple es k pos) (gSeq X.K n t) := by
  constructor
  intro pins s σ H v u Q I r hw
  rcases hw with hw | hw
  · exact (pg_tup hc h hn hst).run pins s σ H v u Q I r hw
  · exact (pg_unl hc h hn hst).run pins s σ H v u Q I r hw
theorem tg_seq {K : PySem.W.Frag} {n : Nat} {g : TGs} {vs : List Nat} (k : TgsOnly g vs) : TgOnly (gSeq K n g) vs := fun v σ H Q q => by
  rcases q with q | q
  · exact .inl (tg_tup k v σ H Q q)
  · obtain ⟨a, xs, e, h1, h2, q⟩ := q
    exact .inr ⟨a, xs, e, h1, h2, k xs σ H Q q⟩
section
variable {K : PySem.W.Frag} {C : Cc K} {ρ : List Sl}
theorem gg_seqT {n : Nat} {gs : TGs} {ds : List Dt} {R : List Sl → Prop} (hn : ds.length = n) (h : GgsD C gs ds ρ R) : GgD C (gSeq K n gs) (.tup ds) ρ R := fun G H σ fp v O D Q q => .inl (gg_tup hn h G H σ fp v O D Q q)
theorem gg_seqL {n : Nat} {gs : TGs} {ds : List Dt} {R : List Sl → Prop} (hn : ds.length = n) (h : GgsD C gs ds ρ R) : GgD C (gSeq K n gs) (.lst ds) ρ R := fun G H σ fp v O D Q q => by
  cases D with
  | lst h1 h2 => exact .inr ⟨_, _, rfl, .inl (.inl (O.e1 _ _ h1)), h2.len.trans hn, h G H σ fp _ O h2 Q q⟩
/-- a comprehension whose turns leave all as it is -/
theorem ev_lcF {R : Sl → List Sl → Prop} {wi : TI} {g : TG} {t : TT} {te : TE} {vs : List Nat} (hT : TgOnly g vs) (h : WkD C wi ρ fun n Y ρ1 => ρ1 = ρ ∧ wipeOk ρ vs = true ∧ n ≤ 1000000 ∧ ∃ f : Nat → Option Dt,
    (∀ (C' : Cc K) i, i < n → GgD C' g (Y i) (dropW ρ vs) fun ρ2 => EvT C' t ρ2 fun b ρ3 =>
      (b = true → EvD C' te ρ3 fun d ρ4 => wipeOk ρ4 vs = true ∧ dropW ρ4 vs = dropW ρ vs ∧ f i = some d) ∧ (b = false → wipeOk ρ3 vs = true ∧ dropW ρ3 vs = dropW ρ vs ∧ f i = none)) ∧
    R (.l ((List.range n).filterMap f)) ρ) : Ev C (tLc wi g t te vs) ρ R := by
  refine ev_lc hT ?_
  intro G H σ fp O Rr q
  refine h G H σ fp O Rr fun J G' H' n Y ρ' fp' e O' it r => q J G' H' n Y ρ' fp' e O' it ?_
  obtain ⟨rfl, w, hn, f, r1, r2⟩ := r
  have imp : ∀ {C' : Cc K} {ts : TS} {x : Dt} {ρ : List Sl} {R R' : List Sl → Prop}, (∀ ρ, R ρ → R' ρ) → GgD C' g x ρ R → GgD C' g x ρ R' := fun {C' ts x ρ R R'} k h G H σ fp v O D Q q => h G H σ fp v O D Q fun G' H' σ' ρ' fp' e O' r => q G' H' σ' ρ' fp' e O' (k _ r)
  refine ⟨w, hn, fun i acc ρ2 => acc = (List.range i).filterMap f ∧ ρ2 = dropW ρ' vs, ⟨rfl, rfl⟩, ?_, ?_⟩
  · rintro C' i acc ρ2 hi _ ⟨rfl, rfl⟩
    refine imp (ts := tNext) (fun ρ2 z => ?_) (r1 C' i hi)
    refine evt_imp z fun b ρ3 z => ⟨fun hb => evd_imp (z.1 hb) fun d ρ4 z => ⟨z.1, ?_, z.2.1⟩, fun hb => ⟨(z.2 hb).1, ?_, (z.2 hb).2.1⟩⟩
    · rw [List.range_succ, List.filterMap_append, List.filterMap_cons, z.2.2]
      rfl
    · rw [List.range_succ, List.filterMap_append, List.filterMap_cons, (z.2 hb).2.2]
      show _ = _ ++ []
      rw [List.append_nil]
  · rintro acc ρ2 _ ⟨rfl, rfl⟩ _
    have e : backW ρ' (dropW ρ' vs) vs = ρ' := by
      apply List.ext_getElem?
      intro i
      by_cases hi : i ∈ vs
      · by_cases hl : i < ρ'.length
        · rw [backW_in hi (by rw [dropW_len]; exact hl)]
          rw [List.getElem?_eq_getElem hl]
          rfl
        · rw [List.getElem?_eq_none (by rw [backW_len, dropW_len]; omega), List.getElem?_eq_none (by omega)]
      · rw [backW_out hi]
        have : ∀ {vs : List Nat}, i ∉ vs → (dropW ρ' vs)[i]? = ρ'[i]? := by
          intro vs
          induction vs with
          | nil => intro _; rfl
          | cons v vs ih =>
            intro h
            unfold dropW
            rw [List.getElem?_set_ne (fun z => h (by rw [z]; exact List.mem_cons_self ..))]
            exact ih fun m => h (List.mem_cons_of_mem _ m)
        exact this hi
    rw [e]
    exact r2
theorem evd_lcF {R : Dt → List Sl → Prop} {wi : TI} {g : TG} {t : TT} {te : TE} {vs : List Nat} (hT : TgOnly g vs) (h : WkD C wi ρ fun n Y ρ1 => ρ1 = ρ ∧ wipeOk ρ vs = true ∧ n ≤ 1000000 ∧ ∃ f : Nat → Option Dt,
    (∀ (C' : Cc K) i, i < n → GgD C' g (Y i) (dropW ρ vs) fun ρ2 => EvT C' t ρ2 fun b ρ3 =>
      (b = true → EvD C' te ρ3 fun d ρ4 => wipeOk ρ4 vs = true ∧ dropW ρ4 vs = dropW ρ vs ∧ f i = some d) ∧ (b = false → wipeOk ρ3 vs = true ∧ dropW ρ3 vs = dropW ρ vs ∧ f i = none)) ∧
    R (.lst ((List.range n).filterMap f)) ρ) : EvD C (tLc wi g t te vs) ρ R := by
  refine evd_l (ev_lcF hT ?_)
  intro G H σ fp O Rr q
  refine h G H σ fp O Rr fun J G' H' n Y ρ' fp' e O' it r => q J G' H' n Y ρ' fp' e O' it ?_
  obtain ⟨r0, w, hn, f, r1, r2⟩ := r
  exact ⟨r0, w, hn, f, r1, _, rfl, r2⟩
end

end
section
/-! DL, part j: the statements' rules with the ends written out; defs by contracts of one form. -/
section
variable {K : PySem.W.Frag} {C : Cc K} {ρ : List Sl} {nx bk ct : List Sl → Prop} {rt : Sl → List Sl → Prop} {ta tb te : TE} {t u : TT} {ts us vs : TS}
theorem z_when (h : EvT C t ρ fun b ρ' => (b = true → Sj C ts ρ' ⟨fun ρ' => Sj C us ρ' ⟨nx, bk, ct, rt⟩, bk, ct, rt⟩) ∧ (b = false → Sj C us ρ' ⟨nx, bk, ct, rt⟩)) : Sj C (tSeq (tIfS t ts tNext) us) ρ ⟨nx, bk, ct, rt⟩ := sq_when h
theorem z_ifs (h : EvT C t ρ fun b ρ' => (b = true → Sj C ts ρ' ⟨fun ρ' => Sj C us ρ' ⟨nx, bk, ct, rt⟩, bk, ct, rt⟩) ∧ (b = false → Sj C vs ρ' ⟨fun ρ' => Sj C us ρ' ⟨nx, bk, ct, rt⟩, bk, ct, rt⟩)) : Sj C (tSeq (tIfS t ts vs) us) ρ ⟨nx, bk, ct, rt⟩ := sq_if h
theorem z_for {wi : TI} {g : TG} (h : WkD C wi ρ fun n Y ρ1 => ∃ Iv : Nat → List Sl → Prop, Iv 0 ρ1 ∧
    (∀ i ρ', i < n → Iv i ρ' → GgD C g (Y i) ρ' fun ρ2 => Sj C ts ρ2 ⟨Iv (i + 1), fun ρ' => Sj C us ρ' ⟨nx, bk, ct, rt⟩, Iv (i + 1), rt⟩) ∧ ∀ ρ', Iv n ρ' → Sj C us ρ' ⟨nx, bk, ct, rt⟩) : Sj C (tSeq (tFor wi g ts) us) ρ ⟨nx, bk, ct, rt⟩ := sq_for h
theorem z_while (Iv : Nat → List Sl → Prop) (m0 : Nat) (h0 : Iv m0 ρ)
    (hs : ∀ m ρ', Iv m ρ' → EvT C t ρ' fun b ρ1 => (b = true → Sj C ts ρ1 ⟨fun ρ2 => ∃ m', m' < m ∧ Iv m' ρ2, fun ρ' => Sj C us ρ' ⟨nx, bk, ct, rt⟩, fun ρ2 => ∃ m', m' < m ∧ Iv m' ρ2, rt⟩) ∧ (b = false → Sj C us ρ1 ⟨nx, bk, ct, rt⟩)) : Sj C (tSeq (tWhile t ts) us) ρ ⟨nx, bk, ct, rt⟩ := sq_while Iv m0 h0 hs
theorem y_for {wi : TI} {g : TG} (h : WkD C wi ρ fun n Y ρ1 => ∃ Iv : Nat → List Sl → Prop, Iv 0 ρ1 ∧
    (∀ i ρ', i < n → Iv i ρ' → GgD C g (Y i) ρ' fun ρ2 => Sj C ts ρ2 ⟨Iv (i + 1), nx, Iv (i + 1), rt⟩) ∧ ∀ ρ', Iv n ρ' → nx ρ') : Sj C (tFor wi g ts) ρ ⟨nx, bk, ct, rt⟩ := sj_for h
theorem y_while (Iv : Nat → List Sl → Prop) (m0 : Nat) (h0 : Iv m0 ρ)
    (hs : ∀ m ρ', Iv m ρ' → EvT C t ρ' fun b ρ1 => (b = true → Sj C ts ρ1 ⟨fun ρ2 => ∃ m', m' < m ∧ Iv m' ρ2, nx, fun ρ2 => ∃ m', m' < m ∧ Iv m' ρ2, rt⟩) ∧ (b = false → nx ρ1)) : Sj C (tWhile t ts) ρ ⟨nx, bk, ct, rt⟩ := sj_while Iv m0 h0 hs
theorem y_next (k : nx ρ) : Sj C tNext ρ ⟨nx, bk, ct, rt⟩ := sj_next k
theorem y_ret (h : EvD C te ρ fun d ρ' => rt (.d d) ρ') : Sj C (tRet te) ρ ⟨nx, bk, ct, rt⟩ := sj_ret h
theorem y_retS (h : Ev C te ρ fun s ρ' => rt s ρ') : Sj C (tRet te) ρ ⟨nx, bk, ct, rt⟩ := sj_retS h
theorem y_retO {i : Nat} {W : Wd} (hi : ρ[i]? = some (.w false W)) (k : rt (.w false W) (ρ.set i .no)) : Sj C (tRet (tVar i)) ρ ⟨nx, bk, ct, rt⟩ := y_retS (ev_move hi k)
theorem y_retN (k : rt (.d .non) ρ) : Sj C tRetN ρ ⟨nx, bk, ct, rt⟩ := sj_retN k
theorem y_drop (h : EvD C te ρ fun _ ρ' => nx ρ') : Sj C (tDrop te) ρ ⟨nx, bk, ct, rt⟩ := sj_drop h
theorem y_set {i : Nat} (h : EvD C te ρ fun d ρ' => asgOk ρ' i = true ∧ nx (ρ'.set i (.d d))) : Sj C (tAsg te (gName i)) ρ ⟨nx, bk, ct, rt⟩ := sj_set h
theorem y_own {i : Nat} (h : Ev C te ρ fun s ρ' => asgOk ρ' i = true ∧ notTrue s = true ∧ nx (ρ'.set i s)) : Sj C (tAsg te (gName i)) ρ ⟨nx, bk, ct, rt⟩ := sj_own h
theorem y_asg {g : TG} (h : EvD C te ρ fun d ρ' => GgD C g d ρ' nx) : Sj C (tAsg te g) ρ ⟨nx, bk, ct, rt⟩ := sj_asg h
theorem y_par {i j : Nat} {t : TA} (h : EvA C t ρ fun ds ρ' => ∃ d e, ds = [d, e] ∧ asgOk ρ' i = true ∧ asgOk (ρ'.set i (.d d)) j = true ∧ nx ((ρ'.set i (.d d)).set j (.d e))) : Sj C (tPar i j t) ρ ⟨nx, bk, ct, rt⟩ := sj_par h
theorem y_if (h : EvT C t ρ fun b ρ' => (b = true → Sj C ts ρ' ⟨nx, bk, ct, rt⟩) ∧ (b = false → Sj C us ρ' ⟨nx, bk, ct, rt⟩)) : Sj C (tIfS t ts us) ρ ⟨nx, bk, ct, rt⟩ := sj_if h
theorem y_aug {i : Nat} {f : Int → Int → Int} {a : Int} (hi : ρ[i]? = some (.d (.int a))) (h : EvD C te ρ fun d ρ' => asI (fun b => asgOk ρ' i = true ∧ nx (ρ'.set i (.d (.int (f a b))))) d) : Sj C (tAug i te (ipI f)) ρ ⟨nx, bk, ct, rt⟩ := sj_aug hi h
theorem y_append {i : Nat} {q : Bool} {ds0 : List Dt} (hw : ρ[i]? = some (.w q (lw ds0))) (h : EvD C te ρ fun d ρ' => ∃ q ds, ρ'[i]? = some (.w q (lw ds)) ∧ ds.length < 1000000 ∧ nx (ρ'.set i (.w q (lw (ds ++ [d]))))) : Sj C (tDrop (tBM K "list" rAppend (tVar i) (tCons te tNil))) ρ ⟨nx, bk, ct, rt⟩ := sj_append (W := lw []) hw h
theorem y_insert {i : Nat} {q : Bool} {ds0 : List Dt} (hw : ρ[i]? = some (.w q (lw ds0))) (h : EvD C ta ρ fun x ρ1 => asI (fun j => EvD C te ρ1 fun d ρ' => ∃ q ds, ρ'[i]? = some (.w q (lw ds)) ∧ ds.length < 1000000 ∧ 0 ≤ j ∧ j < 2 ^ 63 ∧ nx (ρ'.set i (.w q (lw (ds.take j.toNat ++ [d] ++ ds.drop j.toNat))))) x) :
    Sj C (tDrop (tBM K "list" rInsX (tVar i) (tCons ta (tCons te tNil)))) ρ ⟨nx, bk, ct, rt⟩ := sj_insert hw h
theorem y_setO {i : Nat} (h : EvD C te ρ fun d ρ1 => (∃ q W, ρ1[i]? = some (.w q W)) ∧ EvD C tb ρ1 fun y ρ' => asI (fun j => ∃ q ds n, ρ'[i]? = some (.w q (lw ds)) ∧ ixN ds.length j = some n ∧ nx (ρ'.set i (.w q (lw (ds.set n d))))) y) :
    Sj C (tAsg te (gSub (tVar i) tb rSetL)) ρ ⟨nx, bk, ct, rt⟩ := sj_setO h
theorem y_augO {i : Nat} {f : Int → Int → Int} {q : Bool} {W : Wd} (hw : ρ[i]? = some (.w q W)) (h : EvD C tb ρ fun y ρ1 => asI (fun j => ∃ q ds n a, ρ1[i]? = some (.w q (lw ds)) ∧ ixN ds.length j = some n ∧ ds[n]? = some (.int a) ∧ EvD C te ρ1 fun d ρ' => asI (fun b => ∃ q ds, ρ'[i]? = some (.w q (lw ds)) ∧ ixN ds.length j = some n ∧ nx (ρ'.set i (.w q (lw (ds.set n (.int (f a b))))))) d) y) :
    Sj C (tAugS (tVar i) tb te (rIxL K) (ipI f) rSetL) ρ ⟨nx, bk, ct, rt⟩ := sj_augO hw h
theorem sq_augO {P : En} {i : Nat} {f : Int → Int → Int} {q : Bool} {W : Wd} (hw : ρ[i]? = some (.w q W)) (h : EvD C tb ρ fun y ρ1 => asI (fun j => ∃ q ds n a, ρ1[i]? = some (.w q (lw ds)) ∧ ixN ds.length j = some n ∧ ds[n]? = some (.int a) ∧ EvD C te ρ1 fun d ρ' => asI (fun b => ∃ q ds, ρ'[i]? = some (.w q (lw ds)) ∧ ixN ds.length j = some n ∧ Sj C us (ρ'.set i (.w q (lw (ds.set n (.int (f a b)))))) P) d) y) :
    Sj C (tSeq (tAugS (tVar i) tb te (rIxL K) (ipI f) rSetL) us) ρ P := sj_seq (sj_augO hw h)
/-- what follows an if is shown once, from Mid -/
theorem z_mid (Mid : List Sl → Prop) (h : Sj C ts ρ ⟨Mid, bk, ct, rt⟩) (k : ∀ ρ', Mid ρ' → Sj C us ρ' ⟨nx, bk, ct, rt⟩) : Sj C (tSeq ts us) ρ ⟨nx, bk, ct, rt⟩ := sj_mid Mid h k
end
abbrev finT (d : Dt) : En := ⟨fun _ => Sl.d .non = .d d, fun _ => False, fun _ => False, fun s _ => s = .d d⟩
abbrev finR (res : Sl → Prop) : En := ⟨fun _ => res (.d .non), fun _ => False, fun _ => False, fun s _ => res s⟩
abbrev finB {β : Type} (W : β → Wd) (post : Sl → β → Prop) : En := ⟨fun ρ => ∃ b, ρ.head? = some (.w true (W b)) ∧ post (.d .non) b, fun _ => False, fun _ => False, fun s ρ => ∃ b, ρ.head? = some (.w true (W b)) ∧ post s b⟩
section
variable {P : Program} {w : World} {K : PySem.W.Frag} {mg : Str → Option Value} {base : Heap}
theorem gd_ct {α : Type} {emb : α → List Dt} {pre : α → Prop} {res : α → Dt} {x : Str} {st : Stmt} {N ps : List Str} {k : Nat} (F : Df K mg x st ps) (S : FnScope N ps (defScope st)) (len : ∀ a, (emb a).length = ps.length) (t : TS)
    (hbody : ∀ (f : Addr) (cdv : Value) (A : Around) (outer : List Env) (s : Shared) (H : Hp) (E : XK), Room k (A.deeper (PyProof.Rows.envOfC x (defScope st) s.heap.objs.size f cdv)) → PSs (cxOf CX0 P w K mg base N x (defScope st) f cdv A outer s H E).nox (defBody st) t)
    (hs : ∀ (C : Cc K) a, pre a → Sj C t ((emb a).map Sl.d ++ List.replicate (N.length - ps.length) .no) (finT (res a))) : Gd P w K mg base x ps (k + 1) (CT emb pre res) := by
  refine gd_of CT.mono F S (CT.len len) t hbody ?_
  rintro C as R Er ⟨a, rfl, hp, hR⟩
  rw [List.length_map, len a]
  refine sj_imp (hs C a hp) (fun ρ' z => ?_) (fun _ z => z) (fun _ z => z) (fun s ρ' z => ?_)
  · obtain ⟨h1, h2⟩ := back_data (ds := emb a) (ρ := ρ')
    have z' : Sl.d .non = .d (res a) := z
    exact ⟨h2, by rw [h1, z']; exact hR⟩
  · obtain ⟨h1, h2⟩ := back_data (ds := emb a) (ρ := ρ')
    have z' : s = .d (res a) := z
    exact ⟨h2, by rw [h1, z']; exact hR⟩
theorem gd_cr {α : Type} {emb : α → List Dt} {pre : α → Prop} {res : α → Sl → Prop} {x : Str} {st : Stmt} {N ps : List Str} {k : Nat} (F : Df K mg x st ps) (S : FnScope N ps (defScope st)) (len : ∀ a, (emb a).length = ps.length) (t : TS)
    (hbody : ∀ (f : Addr) (cdv : Value) (A : Around) (outer : List Env) (s : Shared) (H : Hp) (E : XK), Room k (A.deeper (PyProof.Rows.envOfC x (defScope st) s.heap.objs.size f cdv)) → PSs (cxOf CX0 P w K mg base N x (defScope st) f cdv A outer s H E).nox (defBody st) t)
    (hs : ∀ (C : Cc K) a, pre a → Sj C t ((emb a).map Sl.d ++ List.replicate (N.length - ps.length) .no) (finR (res a))) : Gd P w K mg base x ps (k + 1) (CR emb pre res) := by
  refine gd_of CR.mono F S (CR.len len) t hbody ?_
  rintro C as R Er ⟨a, rfl, hp, hR⟩
  rw [List.length_map, len a]
  refine sj_imp (hs C a hp) (fun ρ' z => ?_) (fun _ z => z) (fun _ z => z) (fun s ρ' z => ?_)
  · obtain ⟨h1, h2⟩ := back_data (ds := emb a) (ρ := ρ')
    exact ⟨h2, by rw [h1]; exact hR _ z⟩
  · obtain ⟨h1, h2⟩ := back_data (ds := emb a) (ρ := ρ')
    exact ⟨h2, by rw [h1]; exact hR _ z⟩
theorem gd_cb {α β : Type} {W : β → Wd} {emb : α → List Dt} {pre : β → α → Prop} {post : β → α → Sl → β → Prop} {x : Str} {st : Stmt} {N ps : List Str} {k : Nat} (F : Df K mg x st ps) (S : FnScope N ps (defScope st)) (len : ∀ a, (emb a).length + 1 = ps.length) (t : TS)
    (hbody : ∀ (f : Addr) (cdv : Value) (A : Around) (outer : List Env) (s : Shared) (H : Hp) (E : XK), Room k (A.deeper (PyProof.Rows.envOfC x (defScope st) s.heap.objs.size f cdv)) → PSs (cxOf CX0 P w K mg base N x (defScope st) f cdv A outer s H E).nox (defBody st) t)
    (hs : ∀ (C : Cc K) b a, pre b a → Sj C t (.w true (W b) :: (emb a).map Sl.d ++ List.replicate (N.length - ps.length) .no) (finB W (post b a))) : Gd P w K mg base x ps (k + 1) (CB W emb pre post) := by
  refine gd_of CB.mono F S (CB.len len) t hbody ?_
  rintro C as R Er ⟨b, a, rfl, hp, hR⟩
  rw [List.length_cons, List.length_map, len a]
  have fin2 : ∀ {s : Sl} {ρ' : List Sl}, (∃ b', ρ'.head? = some (.w true (W b')) ∧ post b a s b') → backOk (.w true (W b) :: (emb a).map Sl.d) ρ' = true ∧ R s (back (.w true (W b) :: (emb a).map Sl.d) ρ') := by
    rintro s ρ' ⟨b', e, z⟩
    obtain ⟨h1, h2⟩ := back_data (ds := emb a) (ρ := ρ'.tail)
    constructor
    · show (isQ ρ'.head? && backOk ((emb a).map Sl.d) ρ'.tail) = true
      rw [e, h2]
      rfl
    · show R s ((ρ'.head?.getD .no) :: back ((emb a).map Sl.d) ρ'.tail)
      rw [e, h1]
      exact hR _ _ z
  exact sj_imp (hs C b a hp) (fun ρ' z => fin2 z) (fun _ z => z) (fun _ z => z) (fun s ρ' z => fin2 z)
end

end
section
/-! DL, part k: comprehensions of common forms. -/
theorem range_map {α β : Type} (d : α) (g : α → β) (l : List α) : (List.range l.length).filterMap (fun i => some (g ((l[i]?).getD d))) = l.map g := by
  rw [List.filterMap_eq_map']
  apply List.ext_getElem?
  intro i
  rw [List.getElem?_map, List.getElem?_map]
  by_cases h : i < l.length
  · rw [List.getElem?_range h, List.getElem?_eq_getElem h]
    simp [h]
  · rw [List.getElem?_eq_none (by simpa using h), List.getElem?_eq_none (by simpa using h)]
    rfl
theorem range_fmap {α β : Type} (d : α) (g : α → Option β) (l : List α) : (List.range l.length).filterMap (fun i => g ((l[i]?).getD d)) = l.filterMap g := by
  have h := range_map d id l
  have e : (List.range l.length).filterMap (fun i => g ((l[i]?).getD d)) = ((List.range l.length).filterMap (fun i => some (id ((l[i]?).getD d)))).filterMap g := by
    rw [List.filterMap_filterMap]
    rfl
  rw [e, h, List.map_id]
/-- of two things in a tuple, or a list -/
def onPair (g : Dt → Dt → Dt) : Dt → Dt
  | .tup [a, b] => g a b
  | .lst [a, b] => g a b
  | _ => .non
section
variable {K : PySem.W.Frag} {C : Cc K} {ρ : List Sl} {tl te : TE} {t : TT}
theorem wipe1 {j : Nat} (h : wipeOk ρ [j] = true) : j < ρ.length ∧ ∀ q W, ρ[j]? ≠ some (.w q W) := by
  refine ⟨?_, fun q W e => wipeOk_w h (List.mem_singleton.mpr rfl) q W e⟩
  have := (List.all_eq_true.mp h) j (List.mem_singleton.mpr rfl)
  cases e : ρ[j]? with
  | none => rw [e] at this; cases this
  | some s => exact (List.getElem?_eq_some_iff.mp e).1
theorem get_mem {α : Type} {l : List α} {i : Nat} {d : α} (h : i < l.length) : (l[i]?).getD d ∈ l := by
  rw [List.getElem?_eq_getElem h]
  exact List.getElem_mem h
/-- [e for x in xs if t] : x a name, xs a list or a tuple; nothing is changed -/
theorem ev_lcG {R : Sl → List Sl → Prop} {j : Nat} (g : Dt → Option Dt) (h : EvD C tl ρ fun x ρ1 => ρ1 = ρ ∧ wipeOk ρ [j] = true ∧ asQ (fun ds => ds.length ≤ 1000000 ∧
    (∀ (C' : Cc K) d, d ∈ ds → EvT C' t (ρ.set j (.d d)) fun b ρ3 => ρ3 = ρ.set j (.d d) ∧ (b = true → EvD C' te (ρ.set j (.d d)) fun y ρ4 => ρ4 = ρ.set j (.d d) ∧ g d = some y) ∧ (b = false → g d = none)) ∧ R (.l (ds.filterMap g)) ρ) x) : Ev C (tLc (iSeq K tl) (gName j) t te [j]) ρ R := by
  refine ev_lcF (tg_name (List.mem_singleton.mpr rfl)) (wk_seq (evd_imp h ?_))
  rintro x ρ1 ⟨rfl, hw, hx⟩
  obtain ⟨hj, hn⟩ := wipe1 hw
  have main : ∀ ds : List Dt, (ds.length ≤ 1000000 ∧ (∀ (C' : Cc K) d, d ∈ ds → EvT C' t (ρ1.set j (.d d)) fun b ρ3 => ρ3 = ρ1.set j (.d d) ∧ (b = true → EvD C' te (ρ1.set j (.d d)) fun y ρ4 => ρ4 = ρ1.set j (.d d) ∧ g d = some y) ∧ (b = false → g d = none)) ∧ R (.l (ds.filterMap g)) ρ1) →
      ρ1 = ρ1 ∧ wipeOk ρ1 [j] = true ∧ ds.length ≤ 1000000 ∧ ∃ f : Nat → Option Dt, (∀ (C' : Cc K) i, i < ds.length → GgD C' (gName j) ((ds[i]?).getD .non) (dropW ρ1 [j]) fun ρ2 => EvT C' t ρ2 fun b ρ3 =>
        (b = true → EvD C' te ρ3 fun d ρ4 => wipeOk ρ4 [j] = true ∧ dropW ρ4 [j] = dropW ρ1 [j] ∧ f i = some d) ∧ (b = false → wipeOk ρ3 [j] = true ∧ dropW ρ3 [j] = dropW ρ1 [j] ∧ f i = none)) ∧ R (.l ((List.range ds.length).filterMap f)) ρ1 := by
    rintro ds ⟨h1, h2, h3⟩
    refine ⟨rfl, hw, h1, fun i => g ((ds[i]?).getD .non), ?_, by rw [range_fmap]; exact h3⟩
    intro C' i hi
    have e0 : dropW ρ1 [j] = ρ1.set j .no := rfl
    have e1 : ∀ d, (ρ1.set j Sl.no).set j (.d d) = ρ1.set j (.d d) := fun d => by rw [List.set_set]
    have w2 : ∀ d, wipeOk (ρ1.set j (.d d)) [j] = true := fun d => by
      show (match (ρ1.set j (Sl.d d))[j]? with | some (.w _ _) => false | some _ => true | none => false && true) && true = true
      rw [List.getElem?_set_self hj]
      rfl
    have d2 : ∀ d, dropW (ρ1.set j (.d d)) [j] = dropW ρ1 [j] := fun d => by
      show (ρ1.set j (.d d)).set j .no = ρ1.set j .no
      rw [List.set_set]
    refine gg_name ?_ ?_
    · rw [e0]
      unfold asgOk
      rw [List.getElem?_set_self hj]
    · rw [e0, e1]
      refine evt_imp (h2 C' _ (get_mem hi)) ?_
      rintro b ρ3 ⟨rfl, r1, r2⟩
      refine ⟨fun hb => evd_imp (r1 hb) ?_, fun hb => ⟨w2 _, d2 _, r2 hb⟩⟩
      rintro y ρ4 ⟨rfl, r⟩
      exact ⟨w2 _, d2 _, r⟩
  cases x with
  | lst ds => exact main ds hx
  | tup ds => exact main ds hx
  | _ => exact hx.elim
theorem ev_lcM {R : Sl → List Sl → Prop} {j : Nat} (g : Dt → Dt) (h : EvD C tl ρ fun x ρ1 => ρ1 = ρ ∧ wipeOk ρ [j] = true ∧ asQ (fun ds => ds.length ≤ 1000000 ∧
    (∀ (C' : Cc K) d, d ∈ ds → EvD C' te (ρ.set j (.d d)) fun y ρ4 => ρ4 = ρ.set j (.d d) ∧ g d = y) ∧ R (.l (ds.map g)) ρ) x) : Ev C (tLc (iSeq K tl) (gName j) tYes te [j]) ρ R := by
  refine ev_lcG (fun d => some (g d)) (evd_imp h ?_)
  rintro x ρ1 ⟨rfl, hw, hx⟩
  refine ⟨rfl, hw, ?_⟩
  have main : ∀ ds : List Dt, (ds.length ≤ 1000000 ∧ (∀ (C' : Cc K) d, d ∈ ds → EvD C' te (ρ1.set j (.d d)) fun y ρ4 => ρ4 = ρ1.set j (.d d) ∧ g d = y) ∧ R (.l (ds.map g)) ρ1) → ds.length ≤ 1000000 ∧
      (∀ (C' : Cc K) d, d ∈ ds → EvT C' tYes (ρ1.set j (.d d)) fun b ρ3 => ρ3 = ρ1.set j (.d d) ∧ (b = true → EvD C' te (ρ1.set j (.d d)) fun y ρ4 => ρ4 = ρ1.set j (.d d) ∧ some (g d) = some y) ∧ (b = false → some (g d) = none)) ∧ R (.l (ds.filterMap fun d => some (g d))) ρ1 := by
    rintro ds ⟨h1, h2, h3⟩
    refine ⟨h1, fun C' d hd => evt_yes ⟨rfl, fun _ => evd_imp (h2 C' d hd) ?_, (fun z => nomatch z)⟩, by rw [List.filterMap_eq_map']; exact h3⟩
    rintro y ρ4 ⟨r1, r2⟩
    exact ⟨r1, by rw [r2]⟩
  cases x with
  | lst ds => exact main ds hx
  | tup ds => exact main ds hx
  | _ => exact hx.elim
/-- [e for x, y in xs] -/
theorem ev_lcP {R : Sl → List Sl → Prop} {j l : Nat} (g : Dt → Dt → Dt) (hjl : j ≠ l) (h : EvD C tl ρ fun x ρ1 => ρ1 = ρ ∧ wipeOk ρ [j, l] = true ∧ asQ (fun ds => ds.length ≤ 1000000 ∧
    (∀ d ∈ ds, ∃ a b, d = .tup [a, b] ∨ d = .lst [a, b]) ∧
    (∀ (C' : Cc K) d a b, d ∈ ds → (d = .tup [a, b] ∨ d = .lst [a, b]) → EvD C' te ((ρ.set j (.d a)).set l (.d b)) fun y ρ4 => ρ4 = (ρ.set j (.d a)).set l (.d b) ∧ g a b = y) ∧
    R (.l (ds.map (onPair g))) ρ) x) : Ev C (tLc (iSeq K tl) (gSeq K 2 (gCons (gName j) (gCons (gName l) gNil))) tYes te [j, l]) ρ R := by
  refine ev_lcF (tg_seq (tgs_cons (List.mem_cons_self ..) (tgs_cons (List.mem_cons_of_mem _ (List.mem_singleton.mpr rfl)) tgs_nil))) (wk_seq (evd_imp h ?_))
  rintro x ρ1 ⟨rfl, hw, hx⟩
  have lj : ∀ i ∈ [j, l], i < ρ1.length := fun i hi => by
    have := (List.all_eq_true.mp hw) i hi
    cases e : ρ1[i]? with
    | none => rw [e] at this; cases this
    | some s => exact (List.getElem?_eq_some_iff.mp e).1
  have hj := lj j (List.mem_cons_self ..)
  have hl := lj l (List.mem_cons_of_mem _ (List.mem_singleton.mpr rfl))
  let gg : Dt → Dt := onPair g
  have main : ∀ ds : List Dt, (ds.length ≤ 1000000 ∧ (∀ d ∈ ds, ∃ a b, d = .tup [a, b] ∨ d = .lst [a, b]) ∧ (∀ (C' : Cc K) d a b, d ∈ ds → (d = .tup [a, b] ∨ d = .lst [a, b]) → EvD C' te ((ρ1.set j (.d a)).set l (.d b)) fun y ρ4 => ρ4 = (ρ1.set j (.d a)).set l (.d b) ∧ g a b = y) ∧ R (.l (ds.map gg)) ρ1) →
      ρ1 = ρ1 ∧ wipeOk ρ1 [j, l] = true ∧ ds.length ≤ 1000000 ∧ ∃ f : Nat → Option Dt, (∀ (C' : Cc K) i, i < ds.length → GgD C' (gSeq K 2 (gCons (gName j) (gCons (gName l) gNil))) ((ds[i]?).getD .non) (dropW ρ1 [j, l]) fun ρ2 => EvT C' tYes ρ2 fun b ρ3 =>
        (b = true → EvD C' te ρ3 fun d ρ4 => wipeOk ρ4 [j, l] = true ∧ dropW ρ4 [j, l] = dropW ρ1 [j, l] ∧ f i = some d) ∧ (b = false → wipeOk ρ3 [j, l] = true ∧ dropW ρ3 [j, l] = dropW ρ1 [j, l] ∧ f i = none)) ∧ R (.l ((List.range ds.length).filterMap f)) ρ1 := by
    rintro ds ⟨h1, h0, h2, h3⟩
    refine ⟨rfl, hw, h1, fun i => some (gg ((ds[i]?).getD .non)), ?_, by rw [range_map]; exact h3⟩
    intro C' i hi
    have e0 : dropW ρ1 [j, l] = (ρ1.set l .no).set j .no := rfl
    have e1 : ∀ a b, (((ρ1.set l Sl.no).set j Sl.no).set j (.d a)).set l (.d b) = (ρ1.set j (.d a)).set l (.d b) := fun a b => by
      rw [List.set_set, List.set_comm _ _ (Ne.symm hjl), List.set_set]
    have w2 : ∀ a b, wipeOk ((ρ1.set j (.d a)).set l (.d b)) [j, l] = true := fun a b => by
      refine List.all_eq_true.mpr fun i hi => ?_
      rcases List.mem_cons.mp hi with rfl | hi
      · rw [List.getElem?_set_ne (Ne.symm hjl), List.getElem?_set_self hj]
      · rw [List.mem_singleton.mp hi, List.getElem?_set_self (by rw [List.length_set]; exact hl)]
    have d2 : ∀ a b, dropW ((ρ1.set j (.d a)).set l (.d b)) [j, l] = dropW ρ1 [j, l] := fun a b => by
      show (((ρ1.set j (.d a)).set l (.d b)).set l .no).set j .no = (ρ1.set l .no).set j .no
      rw [List.set_set, List.set_comm _ _ hjl, List.set_set]
    have hm := get_mem (d := Dt.non) hi
    obtain ⟨a, b, hab⟩ := h0 _ hm
    have fin : GgsD C' (gCons (gName j) (gCons (gName l) gNil)) [a, b] (dropW ρ1 [j, l]) fun ρ2 => EvT C' tYes ρ2 fun b ρ3 =>
        (b = true → EvD C' te ρ3 fun d ρ4 => wipeOk ρ4 [j, l] = true ∧ dropW ρ4 [j, l] = dropW ρ1 [j, l] ∧ some (gg ((ds[i]?).getD .non)) = some d) ∧ (b = false → wipeOk ρ3 [j, l] = true ∧ dropW ρ3 [j, l] = dropW ρ1 [j, l] ∧ some (gg ((ds[i]?).getD .non)) = none) := by
      refine ggs_cons (gg_name ?_ (ggs_cons (gg_name ?_ (ggs_nil ?_))))
      · rw [e0]
        unfold asgOk
        rw [List.getElem?_set_self (by rw [List.length_set]; exact hj)]
      · rw [e0]
        unfold asgOk
        rw [List.set_set, List.getElem?_set_ne hjl, List.getElem?_set_self hl]
      · rw [e0, e1]
        refine evt_yes ⟨fun _ => evd_imp (h2 C' _ a b hm hab) ?_, (fun z => nomatch z)⟩
        rintro y ρ4 ⟨rfl, r⟩
        refine ⟨w2 _ _, d2 _ _, ?_⟩
        rcases hab with e | e <;> (rw [e]; exact congrArg some r)
    rcases hab with e | e
    · rw [e]; exact gg_seqT rfl fin
    · rw [e]; exact gg_seqL rfl fin
  cases x with
  | lst ds => exact main ds hx
  | tup ds => exact main ds hx
  | _ => exact hx.elim
theorem evd_lcG {R : Dt → List Sl → Prop} {j : Nat} (g : Dt → Option Dt) (h : EvD C tl ρ fun x ρ1 => ρ1 = ρ ∧ wipeOk ρ [j] = true ∧ asQ (fun ds => ds.length ≤ 1000000 ∧
    (∀ (C' : Cc K) d, d ∈ ds → EvT C' t (ρ.set j (.d d)) fun b ρ3 => ρ3 = ρ.set j (.d d) ∧ (b = true → EvD C' te (ρ.set j (.d d)) fun y ρ4 => ρ4 = ρ.set j (.d d) ∧ g d = some y) ∧ (b = false → g d = none)) ∧ R (.lst (ds.filterMap g)) ρ) x) : EvD C (tLc (iSeq K tl) (gName j) t te [j]) ρ R := by
  refine evd_l (ev_lcG g (evd_imp h ?_))
  rintro x ρ1 ⟨h1, h2, h3⟩
  refine ⟨h1, h2, ?_⟩
  cases x with
  | lst ds => exact ⟨h3.1, h3.2.1, _, rfl, h3.2.2⟩
  | tup ds => exact ⟨h3.1, h3.2.1, _, rfl, h3.2.2⟩
  | _ => exact h3.elim
theorem evd_lcM {R : Dt → List Sl → Prop} {j : Nat} (g : Dt → Dt) (h : EvD C tl ρ fun x ρ1 => ρ1 = ρ ∧ wipeOk ρ [j] = true ∧ asQ (fun ds => ds.length ≤ 1000000 ∧
    (∀ (C' : Cc K) d, d ∈ ds → EvD C' te (ρ.set j (.d d)) fun y ρ4 => ρ4 = ρ.set j (.d d) ∧ g d = y) ∧ R (.lst (ds.map g)) ρ) x) : EvD C (tLc (iSeq K tl) (gName j) tYes te [j]) ρ R := by
  refine evd_l (ev_lcM g (evd_imp h ?_))
  rintro x ρ1 ⟨h1, h2, h3⟩
  refine ⟨h1, h2, ?_⟩
  cases x with
  | lst ds => exact ⟨h3.1, h3.2.1, _, rfl, h3.2.2⟩
  | tup ds => exact ⟨h3.1, h3.2.1, _, rfl, h3.2.2⟩
  | _ => exact h3.elim
theorem evd_lcP {R : Dt → List Sl → Prop} {j l : Nat} (g : Dt → Dt → Dt) (hjl : j ≠ l) (h : EvD C tl ρ fun x ρ1 => ρ1 = ρ ∧ wipeOk ρ [j, l] = true ∧ asQ (fun ds => ds.length ≤ 1000000 ∧
    (∀ d ∈ ds, ∃ a b, d = .tup [a, b] ∨ d = .lst [a, b]) ∧
    (∀ (C' : Cc K) d a b, d ∈ ds → (d = .tup [a, b] ∨ d = .lst [a, b]) → EvD C' te ((ρ.set j (.d a)).set l (.d b)) fun y ρ4 => ρ4 = (ρ.set j (.d a)).set l (.d b) ∧ g a b = y) ∧
    R (.lst (ds.map (onPair g))) ρ) x) : EvD C (tLc (iSeq K tl) (gSeq K 2 (gCons (gName j) (gCons (gName l) gNil))) tYes te [j, l]) ρ R := by
  refine evd_l (ev_lcP g hjl (evd_imp h ?_))
  rintro x ρ1 ⟨h1, h2, h3⟩
  refine ⟨h1, h2, ?_⟩
  cases x with
  | lst ds => exact ⟨h3.1, h3.2.1, h3.2.2.1, _, rfl, h3.2.2.2⟩
  | tup ds => exact ⟨h3.1, h3.2.1, h3.2.2.1, _, rfl, h3.2.2.2⟩
  | _ => exact h3.elim
end

end
section
/-! DL, part l: loops whose own names are forgotten behind each turn. -/
theorem at0 {a : Dt} {l : List Dt} : atI (a :: l) 0 = some a := atI_nat (j := 0) rfl
section
variable {K : PySem.W.Frag} {C : Cc K} {ρ : List Sl} {nx bk ct : List Sl → Prop} {rt : Sl → List Sl → Prop} {P : En} {t : TT} {ts us : TS}
theorem Ok.forget1 {G H : Hp} {σ : St} {fp : Nat → List Addr} {i : Nat} (O : Ok C G H σ ρ fp) (hw : ∀ q W, ρ[i]? ≠ some (.w q W)) : Ok C G H σ (ρ.set i .no) fp where
  e0 := O.e0
  e1 := O.e1
  nw := O.nw
  fr := O.fr
  dm := O.dm
  len := by rw [List.length_set]; exact O.len
  sl := fun j s h => by
    by_cases e : j = i
    · subst e
      by_cases hi : j < ρ.length
      · rw [List.getElem?_set_self hi] at h; cases h; exact trivial
      · rw [List.getElem?_eq_none (by rw [List.length_set]; omega)] at h; cases h
    · rw [List.getElem?_set_ne (Ne.symm e)] at h
      exact O.sl j s h
  em := fun j h => by
    by_cases e : j = i
    · subst e; exact O.em j hw
    · refine O.em j fun q W z => h q W ?_
      rw [List.getElem?_set_ne (Ne.symm e)]
      exact z
  dj := O.dj
  fo := O.fo
theorem Ok.forget {G H : Hp} {σ : St} {fp : Nat → List Addr} (O : Ok C G H σ ρ fp) : ∀ {vs : List Nat}, wipeOk ρ vs = true → Ok C G H σ (dropW ρ vs) fp
  | [], _ => O
  | v :: vs, h => by
    unfold dropW
    have h' : wipeOk ρ vs = true := List.all_eq_true.mpr fun i hi => List.all_eq_true.mp h i (List.mem_cons_of_mem _ hi)
    exact (O.forget h').forget1 fun q W z => wipeOk_w h (List.mem_cons_self ..) q W (dropW_w z)
theorem sj_forget {vs : List Nat} (h : wipeOk ρ vs = true) (k : Sj C ts (dropW ρ vs) P) : Sj C ts ρ P := fun G H σ fp O D E => k G H σ fp (O.forget h) D E
theorem gg_forget {g : TG} {d : Dt} {R : List Sl → Prop} {vs : List Nat} (h : wipeOk ρ vs = true) (k : GgD C g d (dropW ρ vs) R) : GgD C g d ρ R := fun G H σ fp v O D Q q => k G H σ fp v (O.forget h) D Q q
theorem evt_forget {R : Bool → List Sl → Prop} {vs : List Nat} (h : wipeOk ρ vs = true) (k : EvT C t (dropW ρ vs) R) : EvT C t ρ R := fun G H σ fp O Q q => k G H σ fp (O.forget h) Q q
theorem z_forW (vs : List Nat) {wi : TI} {g : TG} (h : WkD C wi ρ fun n Y ρ1 => ∃ Iv : Nat → List Sl → Prop, (wipeOk ρ1 vs = true ∧ Iv 0 (dropW ρ1 vs)) ∧
    (∀ i ρ', i < n → Iv i ρ' → GgD C g (Y i) ρ' fun ρ2 => Sj C ts ρ2 ⟨fun ρ' => wipeOk ρ' vs = true ∧ Iv (i + 1) (dropW ρ' vs), fun ρ' => Sj C us ρ' ⟨nx, bk, ct, rt⟩, fun ρ' => wipeOk ρ' vs = true ∧ Iv (i + 1) (dropW ρ' vs), rt⟩) ∧ ∀ ρ', Iv n ρ' → Sj C us ρ' ⟨nx, bk, ct, rt⟩) : Sj C (tSeq (tFor wi g ts) us) ρ ⟨nx, bk, ct, rt⟩ := by
  refine z_for ?_
  intro G H σ fp O Rr q
  refine h G H σ fp O Rr fun J G' H' n Y ρ' fp' e O' it r => q J G' H' n Y ρ' fp' e O' it ?_
  obtain ⟨Iv, h0, h1, h2⟩ := r
  refine ⟨fun i ρ => wipeOk ρ vs = true ∧ Iv i (dropW ρ vs), h0, fun i ρ2 hi z => gg_forget z.1 (h1 i _ hi z.2), fun ρ2 z => sj_forget z.1 (h2 _ z.2)⟩
theorem y_forW (vs : List Nat) {wi : TI} {g : TG} (h : WkD C wi ρ fun n Y ρ1 => ∃ Iv : Nat → List Sl → Prop, (wipeOk ρ1 vs = true ∧ Iv 0 (dropW ρ1 vs)) ∧
    (∀ i ρ', i < n → Iv i ρ' → GgD C g (Y i) ρ' fun ρ2 => Sj C ts ρ2 ⟨fun ρ' => wipeOk ρ' vs = true ∧ Iv (i + 1) (dropW ρ' vs), nx, fun ρ' => wipeOk ρ' vs = true ∧ Iv (i + 1) (dropW ρ' vs), rt⟩) ∧ ∀ ρ', wipeOk ρ' vs = true → Iv n (dropW ρ' vs) → nx ρ') : Sj C (tFor wi g ts) ρ ⟨nx, bk, ct, rt⟩ := by
  refine y_for ?_
  intro G H σ fp O Rr q
  refine h G H σ fp O Rr fun J G' H' n Y ρ' fp' e O' it r => q J G' H' n Y ρ' fp' e O' it ?_
  obtain ⟨Iv, h0, h1, h2⟩ := r
  exact ⟨fun i ρ => wipeOk ρ vs = true ∧ Iv i (dropW ρ vs), h0, fun i ρ2 hi z => gg_forget z.1 (h1 i _ hi z.2), fun ρ2 z => h2 _ z.1 z.2⟩
theorem z_whileW (vs : List Nat) (Iv : Nat → List Sl → Prop) (m0 : Nat) (h0 : wipeOk ρ vs = true ∧ Iv m0 (dropW ρ vs))
    (hs : ∀ m ρ', Iv m ρ' → EvT C t ρ' fun b ρ1 => (b = true → Sj C ts ρ1 ⟨fun ρ2 => ∃ m', m' < m ∧ wipeOk ρ2 vs = true ∧ Iv m' (dropW ρ2 vs), fun ρ' => Sj C us ρ' ⟨nx, bk, ct, rt⟩, fun ρ2 => ∃ m', m' < m ∧ wipeOk ρ2 vs = true ∧ Iv m' (dropW ρ2 vs), rt⟩) ∧ (b = false → Sj C us ρ1 ⟨nx, bk, ct, rt⟩)) : Sj C (tSeq (tWhile t ts) us) ρ ⟨nx, bk, ct, rt⟩ :=
  z_while (fun m ρ => wipeOk ρ vs = true ∧ Iv m (dropW ρ vs)) m0 h0 fun m ρ' z => evt_forget z.1 (hs m _ z.2)
theorem dropW_app (ρ : List Sl) : ∀ us vs, dropW ρ (us ++ vs) = dropW (dropW ρ vs) us
  | [], _ => rfl
  | u :: us, vs => by
    show (dropW ρ (us ++ vs)).set u .no = (dropW (dropW ρ vs) us).set u .no
    rw [dropW_app ρ us vs]
theorem dropW_out {i : Nat} : ∀ {vs : List Nat}, i ∉ vs → (dropW ρ vs)[i]? = ρ[i]?
  | [], _ => rfl
  | v :: vs, h => by
    unfold dropW
    rw [List.getElem?_set_ne (fun e => h (by rw [e]; exact List.mem_cons_self ..)), dropW_out fun z => h (List.mem_cons_of_mem _ z)]
theorem drop_more {L : List Sl} {us vs : List Nat} {R : List Sl → Prop} (hw : wipeOk ρ vs = true) (e : dropW ρ vs = L) (h2 : wipeOk L us = true) (k : R (dropW L us)) : wipeOk ρ (us ++ vs) = true ∧ R (dropW ρ (us ++ vs)) := by
  subst e
  refine ⟨?_, by rw [dropW_app]; exact k⟩
  unfold wipeOk
  rw [List.all_append, Bool.and_eq_true]
  refine ⟨List.all_eq_true.mpr fun i hi => ?_, hw⟩
  by_cases hv : i ∈ vs
  · exact List.all_eq_true.mp hw i hv
  · have := List.all_eq_true.mp h2 i hi
    rw [dropW_out hv] at this
    exact this
end

end
section
/-! DL, part m: the end: what the top has written, the law's own call. -/
/-- a def in the written part -/
def DefIn (K : PySem.W.Frag) (x : Str) (st : Stmt) : Prop := ∃ (f : Addr) (oc : Value) (od an : Option Addr) (kV doc pm cdv ct : Value) (osl : Array (Option Value)),
  PySem.W.nsIn K mainGlobals x = some (some (.ref f)) ∧ K.lookup f = some ⟨oc, od, .func (PySem.W.fnOf x x (defArgs st) (defBody st) (defScope st) .none kV doc pm an cdv ct), osl⟩ ∧ PySem.W.codeIn K cdv x = true ∧ PySem.W.keepIn K (.ref f) = true
theorem def_mk {K : PySem.W.Frag} {x : Str} {st : Stmt} {f : Addr} {oc : Value} {od an : Option Addr} {kV doc pm cdv ct : Value} {osl : Array (Option Value)}
    (a : PySem.W.nsIn K mainGlobals x = some (some (.ref f))) (l : K.lookup f = some ⟨oc, od, .func (PySem.W.fnOf x x (defArgs st) (defBody st) (defScope st) .none kV doc pm an cdv ct), osl⟩) (c : PySem.W.codeIn K cdv x = true) (k : PySem.W.keepIn K (.ref f) = true) : DefIn K x st :=
  ⟨f, oc, od, an, kV, doc, pm, cdv, ct, osl, a, l, c, k⟩
/-- .. whose parameters are ps -/
def Prm (x : Str) (st : Stmt) (ps : List Str) : Prop := ∀ (kV doc pm : Value) (an : Option Addr) (cdv ct : Value) (us : List Value), us.length = ps.length → bindArgs (PySem.W.fnOf x x (defArgs st) (defBody st) (defScope st) .none kV doc pm an cdv ct) ⟨us, []⟩ = pure (ps.zip us)
section
variable {K : PySem.W.Frag} {h : Heap} {mg : Str → Option Value}
theorem df_of {x : Str} {st : Stmt} {ps : List Str} (X : K.In h) (G : h.Ns mainGlobals mg) (D : DefIn K x st) (p : Prm x st ps) : Df K mg x st ps := by
  obtain ⟨f, oc, od, an, kV, doc, pm, cdv, ct, osl, a, l, c, k⟩ := D
  exact ⟨f, _, fun_mk (st := st) l c k, PySem.W.mg_of X G a, p kV doc pm an cdv ct⟩
theorem gv_int {x : Str} {i : Int} {t : Tok} (X : K.In h) (G : h.Ns mainGlobals mg) (e : PySem.W.nsIn K mainGlobals x = some (some (.int i t))) : Gv mg x (.int i) := ⟨_, PySem.W.mg_of X G e, t, rfl⟩
theorem gv_str {x : Str} {i : Str} {t : Tok} (X : K.In h) (G : h.Ns mainGlobals mg) (e : PySem.W.nsIn K mainGlobals x = some (some (.str i t))) : Gv mg x (.str i) := ⟨_, PySem.W.mg_of X G e, t, rfl⟩
end
/-- the law's contract -/
abbrev lawC : Ctr := CB scW (fun _ : Unit => []) (fun ns _ => ns.length ≤ 63) (fun ns _ s b => ns = b ∧ s = .d (.bl true))
theorem law_sp (K : PySem.W.Frag) (H : Hp) (a : Addr) (ns : List Int) (hl : ns.length ≤ 63) (hS : SqL K H a (ns.map V.int)) : lawC.sp K [.ref a] H (fun v _ => v = .bl true) fun _ _ _ => False := by
  refine ⟨H, [.w true (scW ns)], [], fun _ => [], ?_, ns, (), rfl, hl, ?_⟩
  · exact {
      e0 := Same.refl _
      e1 := Same.refl _
      nw := fun a o e => .inl e
      fr := fun a o _ e => e
      dm := fun a e => e
      len := rfl
      sl := fun i s e => by
        match i, e with
        | 0, e =>
          cases e
          exact ⟨.ref a, rfl, ⟨a, rfl, rfl, hS⟩, fun _ => rfl, fun z => nomatch z⟩
      em := fun _ _ => rfl
      dj := fun _ _ _ z => nomatch z
      fo := fun _ _ z => nomatch z }
  · rintro s b ⟨rfl, rfl⟩ v G' H' fp' fv O
    obtain ⟨_, hv⟩ := O.va
    cases hv
    rfl
theorem law_end {l : PySem.W.OpenLaw} {w : World} {K : PySem.W.Frag} {mg : Str → Option Value} {fa : Addr} {k : Nat} (h : Heap) (hfa : mg "law" = some (.ref fa)) (F : ∀ base : Heap, Gd l.prog w K mg base "law" ["script"] k lawC) :
    ∃ fd : FuncData, (∀ (s : Shared) (v : Value), BindsTo s fd ⟨[v], []⟩ [("script", v)]) ∧ ∀ base : Heap, K.In base → base.Ns mainGlobals mg → FnOk l.prog w K mg base CX0 k fa fd ["script"] (lawC.sp K) := by
  obtain ⟨f, fd, h1, h2, h3, h4, oc, od, osl, h5⟩ := F h
  rw [hfa] at h1
  cases h1
  refine ⟨fd, fun s v => .of_eq (h3 [v] rfl), fun base _ _ => ?_⟩
  obtain ⟨f', fd', g1, g2, g3, g4, oc', od', osl', g5⟩ := F base
  rw [hfa] at g1
  cases g1
  rw [h5] at g5
  cases g5
  exact g4

end
section
/-! DL, part n: sorted, list(range(..)), index; an owned list compared. -/
section
variable {K : PySem.W.Frag} {C : Cc K} {ρ : List Sl} {R : Dt → Prop} {te tb : TE}
theorem Dvs.ints_is {G : Hp} : ∀ {xs : List V} {ns : List Int}, Dvs K G xs (ns.map Dt.int) → xs = ns.map V.int
  | _, [], h => by cases h; rfl
  | _, n :: ns, h => by
    cases h with
    | cons h1 h2 =>
      cases h1
      rw [Dvs.ints_is h2]
      rfl
theorem cal_sorted {R : List Dt → Prop} {ns : List Int} (k : ∀ ns' : List Int, ns'.Perm ns → ns'.Pairwise (· ≤ ·) → R (ns'.map Dt.int)) : CaL C (rSortedI K) [.lst (ns.map Dt.int)] ρ R := fun G H σ fp O vs hv Q q => by
  cases hv with
  | cons h1 h2 =>
    cases h2
    cases h1 with
    | lst a1 a2 =>
      have e := a2.ints_is
      subst e
      exact ⟨_, ns, rfl, .inl (.inl (O.e1 _ _ a1)), fun ns' p hp hs hf => q p _ _ hf (Dvs.ints ns') (k ns' hp hs)⟩
theorem cad_sorted {ns : List Int} (k : ∀ ns' : List Int, ns'.Perm ns → ns'.Pairwise (· ≤ ·) → R (.lst (ns'.map Dt.int))) : CaD C (rSortedI K) [.lst (ns.map Dt.int)] ρ R := cad_l (cal_sorted k)
def rgD (n : Int) : List Dt := (List.range n.toNat).map fun i => .int ((i : Nat) : Int)
theorem rgV_dvs {G : Hp} (n : Int) : Dvs K G (rgV 0 n) (rgD n) := by
  unfold rgV rgD
  rw [Int.sub_zero]
  generalize List.range n.toNat = l
  induction l with
  | nil => exact .nil
  | cons a l ih => exact .cons (by show Dv K G (.int (0 + (a : Int))) (.int (a : Int)); rw [Int.zero_add]; exact .int _) ih
theorem ev_listRg {R : Sl → List Sl → Prop} (h : EvD C te ρ fun x ρ1 => asI (fun n => -1000000 ≤ n ∧ n ≤ 1000000 ∧ R (.l (rgD n)) ρ1) x) : Ev C (tLstRg (tRg1 te)) ρ R := fun G H σ fp O Q q =>
  h G H σ fp O _ fun v G1 H1 x ρ1 fp1 e1 O1 D1 r => by
    cases D1 with
    | int n =>
      obtain ⟨r1, r2, r3⟩ := r
      refine ⟨n, rfl, ⟨by decide, by decide, by omega, by omega, by omega⟩, fun p hp => ?_⟩
      exact q _ G1 _ _ ρ1 fp1 [p] e1 (O1.newL hp (rgV_dvs n)) r3
    | _ => exact r.elim
theorem evd_listRg {R : Dt → List Sl → Prop} (h : EvD C te ρ fun x ρ1 => asI (fun n => -1000000 ≤ n ∧ n ≤ 1000000 ∧ R (.lst (rgD n)) ρ1) x) : EvD C (tLstRg (tRg1 te)) ρ R :=
  evd_l (ev_listRg (evd_imp h fun x ρ1 r => by
    cases x <;> first | exact r.elim | exact ⟨r.1, r.2.1, _, rfl, r.2.2⟩))
/-- an owned list, compared -/
theorem own_dv {G H : Hp} {σ : St} {fp : Nat → List Addr} {i : Nat} {q : Bool} {ds : List Dt} (O : Ok C G H σ ρ fp) (h : ρ[i]? = some (.w q (lw ds))) : ∃ v, σ[i]? = some (some v) ∧ Dv K H v (.lst ds) := by
  obtain ⟨p, xs, h1, h2, h3⟩ := own_l O h
  exact ⟨_, h1, .lst h2 (h3.up O.e1)⟩
theorem evd_eqO {R : Dt → List Sl → Prop} {i : Nat} {q : Bool} {W : Wd} (hw : ρ[i]? = some (.w q W)) (h : EvD C tb ρ fun y ρ1 => ∃ q ds, ρ1[i]? = some (.w q (lw ds)) ∧ Fn 64 (.lst ds) ∧ Fn 64 y ∧ R (.bl (dEq (.lst ds) y)) ρ1) : EvD C (tOp (rEqD K) (tVar i) tb) ρ R := fun G H σ fp O Q qq => by
  obtain ⟨v0, g1, _⟩ := O.sl i _ hw
  refine ⟨v0, g1, h G H σ fp O _ fun w G1 H1 y ρ1 fp1 e1 O1 D1 r => ?_⟩
  obtain ⟨q', ds, r1, r2, r3, r4⟩ := r
  obtain ⟨v, h1, h2⟩ := own_dv O1 r1
  rw [g1] at h1
  cases h1
  exact ⟨_, _, Dv.dp _ 64 _ r2 h2, Dv.dp y 64 w r3 (Dv.up O1.e1 y w D1), fn_shaped r2, fn_shaped r3, qq _ G1 H1 _ ρ1 fp1 e1 O1 (.bl _) r4⟩
theorem evd_neO {R : Dt → List Sl → Prop} {i : Nat} {q : Bool} {W : Wd} (hw : ρ[i]? = some (.w q W)) (h : EvD C tb ρ fun y ρ1 => ∃ q ds, ρ1[i]? = some (.w q (lw ds)) ∧ Fn 64 (.lst ds) ∧ Fn 64 y ∧ R (.bl (!dEq (.lst ds) y)) ρ1) : EvD C (tOp (rNeD K) (tVar i) tb) ρ R := fun G H σ fp O Q qq => by
  obtain ⟨v0, g1, _⟩ := O.sl i _ hw
  refine ⟨v0, g1, h G H σ fp O _ fun w G1 H1 y ρ1 fp1 e1 O1 D1 r => ?_⟩
  obtain ⟨q', ds, r1, r2, r3, r4⟩ := r
  obtain ⟨v, h1, h2⟩ := own_dv O1 r1
  rw [g1] at h1
  cases h1
  exact ⟨_, _, Dv.dp _ 64 _ r2 h2, Dv.dp y 64 w r3 (Dv.up O1.e1 y w D1), fn_shaped r2, fn_shaped r3, qq _ G1 H1 _ ρ1 fp1 e1 O1 (.bl _) r4⟩
/-- x.index(e), numbers -/
theorem evd_index {R : Dt → List Sl → Prop} (h : EvD C te ρ fun x ρ1 => asL (fun ds => EvD C tb ρ1 fun y ρ2 => ∃ (ns : List Int) (n : Int) (j : Nat), ds = ns.map Dt.int ∧ y = .int n ∧ ns[j]? = some n ∧ (∀ m, m < j → ns[m]? ≠ some n) ∧ R (.int j) ρ2) x) :
    EvD C (tBM K "list" (rIndex K) te (tCons tb tNil)) ρ R := fun G H σ fp O Q qq =>
  h G H σ fp O _ fun v G1 H1 x ρ1 fp1 e1 O1 D1 r1 => by
    cases D1 with
    | @lst p xs ds a1 a2 =>
      refine ⟨.inl ⟨rfl, _, .inl (.inl (O1.e1 _ _ a1))⟩, r1 G1 H1 σ fp1 O1 _ fun w G2 H2 y ρ2 fp2 e2 O2 D2 r2 => ?_⟩
      obtain ⟨ns, n, j, rfl, rfl, hj, hno, r3⟩ := r2
      cases D2
      have e := a2.ints_is
      subst e
      refine ⟨_, _, _, j, .int n, rfl, rfl, .inl (.inl (O2.e1 _ _ (e2 _ _ a1))), rfl, ?_, ?_, ?_, ?_, qq _ G2 H2 _ ρ2 fp2 (e1.trans e2) O2 (.int _) r3⟩
      · exact List.all_eq_true.mpr fun x hx => by
          obtain ⟨z, _, rfl⟩ := List.mem_map.mp hx
          rfl
      · rw [List.getElem?_map, hj]; rfl
      · show (n == n) = true
        exact beq_self_eq_true n
      · intro m z' hm hz
        rw [List.getElem?_map] at hz
        cases e : ns[m]? with
        | none => rw [e] at hz; cases hz
        | some k =>
          rw [e] at hz
          cases hz
          show (k == n) = false
          refine beq_eq_false_iff_ne.mpr fun z => ?_
          subst z
          exact hno m hm e
    | _ => exact r1.elim
end

end
section
/-! DL, part o: owned dicts with int keys. -/
inductive Dks (K : PySem.W.Frag) (G : Hp) : List (Key × V) → List (Int × Dt) → Prop
  | nil : Dks K G [] []
  | cons {k : Int} {v : V} {d : Dt} {vs : List (Key × V)} {m : List (Int × Dt)} : Dv K G v d → Dks K G vs m → Dks K G ((.inl k, v) :: vs) ((k, d) :: m)
def valD : List (Int × Dt) → Int → Option Dt
  | [], _ => none
  | (j, d) :: m, k => if j = k then some d else valD m k
def putD (m : List (Int × Dt)) (k : Int) (d : Dt) : List (Int × Dt) := if (valD m k).isSome = true then m.map (fun kv => if kv.1 = k then (kv.1, d) else kv) else m ++ [(k, d)]
theorem valD_map (k j : Int) (y : Dt) : ∀ m : List (Int × Dt), valD (m.map fun kv => if kv.1 = k then (kv.1, y) else kv) j = (valD m j).map fun x => if j = k then y else x
  | [] => rfl
  | (i, d) :: r => by
    have ih := valD_map k j y r
    rw [List.map_cons]
    dsimp only
    by_cases h : i = k
    · rw [if_pos h]
      unfold valD
      by_cases e : i = j
      · rw [if_pos e, if_pos e, Option.map_some, if_pos (e.symm.trans h)]
      · rw [if_neg e, if_neg e, ih]
    · rw [if_neg h]
      unfold valD
      by_cases e : i = j
      · rw [if_pos e, if_pos e, Option.map_some, if_neg (fun z => h (e.trans z))]
      · rw [if_neg e, if_neg e, ih]
theorem valD_snoc (k j : Int) (y : Dt) : ∀ m : List (Int × Dt), valD m k = none → valD (m ++ [(k, y)]) j = if j = k then some y else valD m j
  | [], _ => by
    rw [List.nil_append]
    unfold valD
    by_cases e : k = j
    · rw [if_pos e, if_pos e.symm]
    · rw [if_neg e, if_neg (Ne.symm e)]; rfl
  | (i, d) :: r, hn => by
    rw [List.cons_append]
    unfold valD at hn ⊢
    have hk : ¬ i = k := fun z => by rw [if_pos z] at hn; cases hn
    rw [if_neg hk] at hn
    have ih := valD_snoc k j y r hn
    by_cases e : i = j
    · rw [if_pos e, if_pos e, if_neg (fun z => hk (e.trans z))]
    · rw [if_neg e, if_neg e, ih]
theorem valD_put (m : List (Int × Dt)) (k j : Int) (y : Dt) : valD (putD m k y) j = if j = k then some y else valD m j := by
  unfold putD
  by_cases a : (valD m k).isSome = true
  · rw [if_pos a, valD_map]
    by_cases e : j = k
    · obtain ⟨x, hx⟩ := Option.isSome_iff_exists.mp a
      rw [if_pos e, e, hx, Option.map_some, if_pos rfl]
    · rw [if_neg e]
      cases valD m j with
      | none => rfl
      | some x => rw [Option.map_some, if_neg e]
  · rw [if_neg a]
    refine valD_snoc k j y m ?_
    cases q : valD m k with
    | none => rfl
    | some x => rw [q] at a; exact (a rfl).elim
theorem putD_len (m : List (Int × Dt)) (k : Int) (y : Dt) : (putD m k y).length = m.length + if (valD m k).isSome = true then 0 else 1 := by
  unfold putD
  by_cases a : (valD m k).isSome = true
  · rw [if_pos a, if_pos a, List.length_map]; rfl
  · rw [if_neg a, if_neg a, List.length_append]; rfl
section
variable {K : PySem.W.Frag} {C : Cc K} {ρ : List Sl} {G G' : Hp}
theorem Dks.up (e : Same G G') {vs : List (Key × V)} {m : List (Int × Dt)} (h : Dks K G vs m) : Dks K G' vs m := by
  induction h with
  | nil => exact .nil
  | cons h _ ih => exact .cons (Dv.up e _ _ h) ih
theorem Dks.len {vs : List (Key × V)} {m : List (Int × Dt)} (h : Dks K G vs m) : vs.length = m.length := by
  induction h with
  | nil => rfl
  | cons _ _ ih => rw [List.length_cons, List.length_cons, ih]
theorem Dks.val {vs : List (Key × V)} {m : List (Int × Dt)} (h : Dks K G vs m) (k : Int) : (valV vs (.inl k) = none ∧ valD m k = none) ∨ ∃ v d, valV vs (.inl k) = some v ∧ valD m k = some d ∧ Dv K G v d := by
  induction h with
  | nil => exact .inl ⟨rfl, rfl⟩
  | @cons j v d vs m h _ ih =>
    unfold valD
    by_cases e : j = k
    · subst e
      exact .inr ⟨v, d, valV_pos rfl, if_pos rfl, h⟩
    · rw [valV_neg (by simpa using e), if_neg e]
      exact ih
theorem Dks.val_isSome {vs : List (Key × V)} {m : List (Int × Dt)} (h : Dks K G vs m) (k : Int) : (valV vs (.inl k)).isSome = (valD m k).isSome := by
  rcases h.val k with ⟨h1, h2⟩ | ⟨v, d, h1, h2, _⟩ <;> rw [h1, h2] <;> rfl
theorem Dks.map {vs : List (Key × V)} {m : List (Int × Dt)} {v : V} {d : Dt} (h : Dks K G vs m) (k : Int) (hv : Dv K G v d) : Dks K G (vs.map fun kv => if kv.1 = .inl k then (kv.1, v) else kv) (m.map fun kv => if kv.1 = k then (kv.1, d) else kv) := by
  induction h with
  | nil => exact .nil
  | @cons j u e vs m h _ ih =>
    rw [List.map_cons, List.map_cons]
    dsimp only
    by_cases z : j = k
    · subst z
      rw [if_pos rfl, if_pos rfl]
      exact .cons hv ih
    · rw [if_neg (by simpa using z), if_neg z]
      exact .cons h ih
theorem Dks.snoc {vs : List (Key × V)} {m : List (Int × Dt)} {v : V} {d : Dt} (h : Dks K G vs m) (k : Int) (hv : Dv K G v d) : Dks K G (vs ++ [(.inl k, v)]) (m ++ [(k, d)]) := by
  induction h with
  | nil => exact .cons hv .nil
  | cons h _ ih => exact .cons h ih
theorem Dks.put {vs : List (Key × V)} {m : List (Int × Dt)} {v : V} {d : Dt} (h : Dks K G vs m) (k : Int) (hv : Dv K G v d) : Dks K G (putK vs (.inl k) v) (putD m k d) := by
  unfold putK putD
  rw [valV_any, h.val_isSome]
  split
  · exact h.map k hv
  · exact h.snoc k hv
end
/-- an owned dict -/
def dw (m : List (Int × Dt)) : Wd where
  W := fun K G H v fp => ∃ p vs, v = .ref p ∧ fp = [p] ∧ H p = some (.dK vs) ∧ Dks K G vs m
  st := by
    rintro K G G' H H' v fp ⟨p, xs, rfl, rfl, h, hd⟩ e k
    exact ⟨p, xs, rfl, rfl, k p (List.mem_singleton.mpr rfl) _ h, hd.up e⟩
section
variable {K : PySem.W.Frag} {C : Cc K} {ρ : List Sl} {P : En} {ta tb te : TE} {t u : TT} {ts us : TS}
theorem own_dk {G H : Hp} {σ : St} {fp : Nat → List Addr} {i : Nat} {q : Bool} {m : List (Int × Dt)} (O : Ok C G H σ ρ fp) (h : ρ[i]? = some (.w q (dw m))) : ∃ p vs, σ[i]? = some (some (.ref p)) ∧ H p = some (.dK vs) ∧ Dks K G vs m := by
  obtain ⟨v, h1, ⟨p, xs, rfl, _, h2, h3⟩, _⟩ := O.sl i _ h
  exact ⟨p, xs, h1, h2, h3⟩
theorem Ok.writeD {G H : Hp} {σ : St} {fp : Nat → List Addr} {i : Nat} {q : Bool} {m m' : List (Int × Dt)} {p : Addr} {xs' : List (Key × V)} (O : Ok C G H σ ρ fp) (hi : ρ[i]? = some (.w q (dw m))) (hσ : σ[i]? = some (some (.ref p))) (hd : Dks K G xs' m') :
    ∃ fp', Ok C G (upd H p (.dK xs')) σ (ρ.set i (.w q (dw m'))) fp' := by
  obtain ⟨v, h1, ⟨p', ys, rfl, hf, hp', _⟩, _⟩ := O.sl i _ hi
  have e : p' = p := by rw [hσ] at h1; cases h1; rfl
  subst e
  have hm : p' ∈ fp i := by rw [hf]; exact List.mem_singleton.mpr rfl
  obtain ⟨g, _, _⟩ := O.fo i p' hm
  refine ⟨_, O.write (G' := G) (W' := dw m') (fv' := [p']) hi (Same.refl G) (fun a u z => ?_) (fun _ _ z => .inl z) (fun a o ha z => ?_) (fun a z => ?_) (fun a ha => ?_) (fun a ha => ?_) fun v hv => ?_⟩
  · have ne : a ≠ p' := ne_of_none z g
    rw [upd_ne ne]; exact O.e1 a u z
  · have ne : a ≠ p' := fun e => ha (e ▸ hm)
    rw [upd_ne ne]; exact z
  · by_cases e : a = p'
    · subst e; rw [upd_same] at z; cases z
    · rw [upd_ne e] at z; exact z
  · have e := List.mem_singleton.mp ha
    subst e
    exact ⟨.inl hm, _, upd_same⟩
  · have e := List.mem_singleton.mp ha
    subst e
    exact g
  · rw [hσ] at hv
    cases hv
    exact ⟨p', xs', rfl, rfl, upd_same, hd⟩
theorem Ok.newD {G H : Hp} {σ : St} {fp : Nat → List Addr} {p : Addr} {xs : List (Key × V)} {m : List (Int × Dt)} (O : Ok C G H σ ρ fp) (h : H p = none) (hd : Dks K G xs m) : OkV C G (upd H p (.dK xs)) σ ρ fp (.ref p) [p] (.w false (dw m)) := by
  refine ⟨O.scr h, ⟨⟨p, xs, rfl, rfl, upd_same, hd⟩, fun _ a z => ?_⟩, fun i a h1 h2 => ?_, fun a h2 => ?_⟩
  · rw [List.mem_singleton.mp z]; exact .inl (O.dm p h)
  · have e : a = p := List.mem_singleton.mp h2
    subst e
    obtain ⟨_, ⟨o, q⟩, _⟩ := O.fo i a h1
    rw [h] at q; cases q
  · have e : a = p := List.mem_singleton.mp h2
    subst e
    exact ⟨O.e1.free h, ⟨_, upd_same⟩, .inl (O.dm a h)⟩
/-- {} -/
theorem ev_dnew {R : Sl → List Sl → Prop} (k : R (.w false (dw [])) ρ) : Ev C tDNewK ρ R := fun G H σ fp O Q q => fun p hp => q _ G _ _ ρ fp [p] (Same.refl G) (O.newD hp .nil) k
/-- {e: e'} -/
theorem ev_done {R : Sl → List Sl → Prop} {k : Int} {d : Dt} (h1 : ∀ C' : Cc K, EvD C' ta ρ fun x ρ1 => x = .int k ∧ ρ1 = ρ) (h2 : ∀ C' : Cc K, EvD C' te ρ fun x ρ1 => x = d ∧ ρ1 = ρ) (r : R (.w false (dw [(k, d)])) ρ) : Ev C (tDisp [(ta, te)]) ρ R := fun G H σ fp O Q q => fun p hp => by
  have O0 : Ok C G (upd H p (.dK [])) σ ρ fp := O.scr hp
  have np : p ∉ allFp ρ fp := fun z => by
    obtain ⟨i, hi⟩ := mem_of_all z
    obtain ⟨_, ⟨o, ho⟩, _⟩ := O.fo i p hi
    rw [hp] at ho; cases ho
  refine h1 (C.at ρ fp G (upd H p (.dK []))) G _ σ fp O0.from _ fun v G1 H1 d1 ρ1 fp1 e1 O1 D1 r1 => ?_
  obtain ⟨rfl, rfl⟩ := r1
  refine h2 _ G1 H1 σ fp1 O1 _ fun w G2 H2 d2 ρ2 fp2 e2 O2 D2 r2 => ?_
  obtain ⟨rfl, rfl⟩ := r2
  have e : H2 p = some (.dK []) := O2.fr p _ np upd_same
  cases D1
  refine ⟨e, [(.inl k, w)], rfl, Nat.le_of_ble_eq_true rfl, ?_⟩
  have hm : mergeK [] [((.inl k : Key), w)] = [(.inl k, w)] := rfl
  rw [hm]
  have g2 : G2 p = none := by
    cases z : G2 p with
    | none => rfl
    | some o =>
      rcases O2.nw p o z with y | y
      · exact absurd (O.e1 p o y) (by rw [hp]; exact fun z => nomatch z)
      · rcases y with y | y
        · exact absurd y (by show upd H p _ p ≠ none; rw [upd_same]; exact fun z => nomatch z)
        · obtain ⟨i, W, _, hi⟩ := mem_of_own y
          obtain ⟨_, ⟨o, ho⟩, _⟩ := O.fo i p hi
          rw [hp] at ho; cases ho
  have O3 := O0.to O2
  have nf : ∀ i, p ∉ fp2 i := fun i hi => by
    obtain ⟨_, _, z⟩ := O2.fo i p hi
    rcases z with z | z
    · exact absurd z (by show upd H p _ p ≠ none; rw [upd_same]; exact fun z => nomatch z)
    · exact np z
  have O4 : Ok C G2 (upd H2 p (.dK [(.inl k, w)])) σ ρ2 fp2 := {
    e0 := O3.e0
    e1 := fun a u z => by
      have ne : a ≠ p := ne_of_none z g2
      rw [upd_ne ne]; exact O3.e1 a u z
    nw := O3.nw
    fr := fun a u h1 h2 => by
      have ne : a ≠ p := fun z => by rw [z, O.dm p hp] at h2; cases h2
      rw [upd_ne ne]; exact O3.fr a u h1 h2
    dm := fun a z => by
      by_cases e : a = p
      · rw [e]; exact O.dm p hp
      · rw [upd_ne e] at z; exact O3.dm a z
    len := O3.len
    sl := fun i s h => (O3.sl i s h).up (Same.refl G2) fun a ha o z => by
      have ne : a ≠ p := fun z => nf i (z ▸ ha)
      rw [upd_ne ne]; exact z
    em := O3.em
    dj := O3.dj
    fo := fun i a ha => by
      obtain ⟨x1, ⟨o, x2⟩, x3⟩ := O3.fo i a ha
      have ne : a ≠ p := fun z => nf i (z ▸ ha)
      exact ⟨x1, ⟨o, by rw [upd_ne ne]; exact x2⟩, x3⟩ }
  refine q _ G2 _ (.w false (dw [(k, d2)])) ρ2 fp2 [p] (e1.trans e2) ⟨O4, ⟨⟨p, _, rfl, rfl, upd_same, .cons D2 .nil⟩, fun _ a z => ?_⟩, fun i a h1 h2 => ?_, fun a h2 => ?_⟩ r
  · rw [List.mem_singleton.mp z]; exact .inl (O.dm p hp)
  · exact nf i ((List.mem_singleton.mp h2) ▸ h1)
  · have e : a = p := List.mem_singleton.mp h2
    subst e
    exact ⟨g2, ⟨_, upd_same⟩, .inl (O.dm a hp)⟩
theorem evd_dlen {R : Dt → List Sl → Prop} {i : Nat} {q : Bool} {m : List (Int × Dt)} (h : ρ[i]? = some (.w q (dw m))) (k : R (.int m.length) ρ) : EvD C (tCB (rLenX K) (tCons (tVar i) tNil)) ρ R := fun G H σ fp O Q q => by
  obtain ⟨p, xs, h1, h2, h3⟩ := own_dk O h
  exact ⟨_, h1, .inr (.inr ⟨p, xs, rfl, h2, by rw [h3.len]; exact q _ G H _ ρ fp (Same.refl G) O (.int _) k⟩)⟩
/-- d[e] -/
theorem evd_dget {R : Dt → List Sl → Prop} {i : Nat} {q : Bool} {W : Wd} (hw : ρ[i]? = some (.w q W)) (h : EvD C tb ρ fun y ρ1 => asI (fun j => ∃ q m d, ρ1[i]? = some (.w q (dw m)) ∧ valD m j = some d ∧ R d ρ1) y) : EvD C (tDGet (tVar i) tb) ρ R := fun G H σ fp O Q q => by
  obtain ⟨v, h1, _⟩ := O.sl i _ hw
  refine ⟨v, h1, ?_⟩
  refine h G H σ fp O _ fun y G1 H1 d ρ1 fp1 e1 O1 D1 h2 => ?_
  cases d with
  | int j =>
    cases D1
    obtain ⟨qq, m, d, h3, h4, h5⟩ := h2
    obtain ⟨p, xs, g1, g2, g3⟩ := own_dk O1 h3
    rw [h1] at g1
    cases g1
    rcases g3.val j with ⟨_, z⟩ | ⟨v, d', k1, k2, k3⟩
    · rw [h4] at z; cases z
    · rw [h4] at k2
      cases k2
      exact ⟨p, v, rfl, .inl ⟨xs, .inl j, .inl g2, rfl, k1.symm⟩, q v G1 H1 d ρ1 fp1 e1 O1 k3 h5⟩
  | _ => exact h2.elim
/-- e in d -/
theorem evd_din {R : Dt → List Sl → Prop} {i : Nat} (h : EvD C tb ρ fun y ρ1 => asI (fun j => ∃ q m, ρ1[i]? = some (.w q (dw m)) ∧ R (.bl (valD m j).isSome) ρ1) y) : EvD C (tDIn tb (tVar i)) ρ R := fun G H σ fp O Q q => by
  refine h G H σ fp O _ fun y G1 H1 d ρ1 fp1 e1 O1 D1 h2 => ?_
  cases d with
  | int j =>
    cases D1
    obtain ⟨qq, m, h3, h5⟩ := h2
    obtain ⟨p, xs, g1, g2, g3⟩ := own_dk O1 h3
    refine ⟨_, g1, p, _, rfl, .inl ⟨xs, .inl j, .inl g2, rfl, rfl⟩, ?_⟩
    rw [g3.val_isSome]
    exact q _ G1 H1 _ ρ1 fp1 e1 O1 (.bl _) h5
  | _ => exact h2.elim
theorem evd_dnin {R : Dt → List Sl → Prop} {i : Nat} (h : EvD C tb ρ fun y ρ1 => asI (fun j => ∃ q m, ρ1[i]? = some (.w q (dw m)) ∧ R (.bl (!(valD m j).isSome)) ρ1) y) : EvD C (tDNotIn tb (tVar i)) ρ R := fun G H σ fp O Q q => by
  refine h G H σ fp O _ fun y G1 H1 d ρ1 fp1 e1 O1 D1 h2 => ?_
  cases d with
  | int j =>
    cases D1
    obtain ⟨qq, m, h3, h5⟩ := h2
    obtain ⟨p, xs, g1, g2, g3⟩ := own_dk O1 h3
    refine ⟨_, g1, p, _, rfl, .inl ⟨xs, .inl j, .inl g2, rfl, rfl⟩, ?_⟩
    rw [g3.val_isSome]
    exact q _ G1 H1 _ ρ1 fp1 e1 O1 (.bl _) h5
  | _ => exact h2.elim
/-- d[e] = e' -/
theorem sj_dput {i : Nat} (h : EvD C te ρ fun d ρ1 => (∃ q W, ρ1[i]? = some (.w q W)) ∧ EvD C tb ρ1 fun y ρ' => asI (fun j => ∃ q m, ρ'[i]? = some (.w q (dw m)) ∧ m.length < 1000000 ∧ P.nx (ρ'.set i (.w q (dw (putD m j d))))) y) :
    Sj C (sDPut (tVar i) tb te) ρ P := fun G H σ fp O D E => by
  refine h G H σ fp O _ fun v G1 H1 d ρ1 fp1 e1 O1 D1 r => ?_
  obtain ⟨⟨q0, W0, h0⟩, r⟩ := r
  obtain ⟨w, h1, _⟩ := O1.sl i _ h0
  refine ⟨w, h1, ?_⟩
  refine r G1 H1 σ fp1 O1 _ fun y G2 H2 d2 ρ2 fp2 e2 O2 D2 r2 => ?_
  cases d2 with
  | int j =>
    cases D2
    obtain ⟨q, m, k1, k2, k3⟩ := r2
    obtain ⟨p, xs, g1, g2, g3⟩ := own_dk O2 k1
    rw [h1] at g1
    cases g1
    obtain ⟨fp3, O3⟩ := O2.writeD k1 h1 (g3.put j (Dv.up e2 d v D1))
    exact ⟨p, _, rfl, .inl ⟨xs, .inl j, g2, rfl, by rw [g3.len]; exact Nat.lt_of_lt_of_le k2 (by decide), rfl⟩, E.nx G2 _ σ _ fp3 (e1.trans e2) O3 k3⟩
  | _ => exact r2.elim
/-- d[e] op= e' -/
theorem sj_daug {i : Nat} {f : Int → Int → Int} {q : Bool} {W : Wd} (hw : ρ[i]? = some (.w q W)) (h : EvD C tb ρ fun y ρ1 => asI (fun j => ∃ q m a, ρ1[i]? = some (.w q (dw m)) ∧ valD m j = some (.int a) ∧ EvD C te ρ1 fun d ρ' => asI (fun b => ∃ q m, ρ'[i]? = some (.w q (dw m)) ∧ m.length < 1000000 ∧ P.nx (ρ'.set i (.w q (dw (putD m j (.int (f a b))))))) d) y) :
    Sj C (sDAug (tVar i) tb te (ipI f)) ρ P := fun G H σ fp O D E => by
  obtain ⟨w, h1, _⟩ := O.sl i _ hw
  refine ⟨w, h1, ?_⟩
  refine h G H σ fp O _ fun y G1 H1 d1 ρ1 fp1 e1 O1 D1 r => ?_
  cases d1 with
  | int j =>
    cases D1
    obtain ⟨q, m, a, k1, k2, k3⟩ := r
    obtain ⟨p, xs, g1, g2, g3⟩ := own_dk O1 k1
    rw [h1] at g1
    cases g1
    rcases g3.val j with ⟨_, z⟩ | ⟨v, d', l1, l2, l3⟩
    · rw [k2] at z; cases z
    rw [k2] at l2
    cases l2
    refine ⟨p, v, rfl, .inl ⟨xs, .inl j, .inl g2, rfl, l1.symm⟩, ?_⟩
    refine k3 G1 H1 σ fp1 O1 _ fun y2 G2 H2 d2 ρ2 fp2 e2 O2 D2 r2 => ?_
    cases d2 with
    | int b =>
      cases D2
      cases l3
      obtain ⟨q, m', k1', k2', k3'⟩ := r2
      obtain ⟨p', xs', g1', g2', g3'⟩ := own_dk O2 k1'
      rw [h1] at g1'
      cases g1'
      obtain ⟨fp3, O3⟩ := O2.writeD k1' h1 (g3'.put j (.int (f a b)))
      exact ⟨a, b, rfl, rfl, _, .inl ⟨xs', .inl j, g2', rfl, by rw [g3'.len]; exact Nat.lt_of_lt_of_le k2' (by decide), rfl⟩, E.nx G2 _ σ _ fp3 (e1.trans e2) O3 k3'⟩
    | _ => exact r2.elim
  | _ => exact r.elim
end
section
variable {K : PySem.W.Frag} {C : Cc K} {ρ : List Sl} {P : En} {nx bk ct : List Sl → Prop} {rt : Sl → List Sl → Prop} {ta tb te : TE} {t u : TT} {ts us : TS}
theorem sq_dput {i : Nat} (h : EvD C te ρ fun d ρ1 => (∃ q W, ρ1[i]? = some (.w q W)) ∧ EvD C tb ρ1 fun y ρ' => asI (fun j => ∃ q m, ρ'[i]? = some (.w q (dw m)) ∧ m.length < 1000000 ∧ Sj C us (ρ'.set i (.w q (dw (putD m j d)))) P) y) :
    Sj C (tSeq (sDPut (tVar i) tb te) us) ρ P := sj_seq (sj_dput h)
theorem y_dput {i : Nat} (h : EvD C te ρ fun d ρ1 => (∃ q W, ρ1[i]? = some (.w q W)) ∧ EvD C tb ρ1 fun y ρ' => asI (fun j => ∃ q m, ρ'[i]? = some (.w q (dw m)) ∧ m.length < 1000000 ∧ nx (ρ'.set i (.w q (dw (putD m j d))))) y) :
    Sj C (sDPut (tVar i) tb te) ρ ⟨nx, bk, ct, rt⟩ := sj_dput h
theorem sq_daug {i : Nat} {f : Int → Int → Int} {q : Bool} {W : Wd} (hw : ρ[i]? = some (.w q W)) (h : EvD C tb ρ fun y ρ1 => asI (fun j => ∃ q m a, ρ1[i]? = some (.w q (dw m)) ∧ valD m j = some (.int a) ∧ EvD C te ρ1 fun d ρ' => asI (fun b => ∃ q m, ρ'[i]? = some (.w q (dw m)) ∧ m.length < 1000000 ∧ Sj C us (ρ'.set i (.w q (dw (putD m j (.int (f a b)))))) P) d) y) :
    Sj C (tSeq (sDAug (tVar i) tb te (ipI f)) us) ρ P := sj_seq (sj_daug hw h)
theorem y_daug {i : Nat} {f : Int → Int → Int} {q : Bool} {W : Wd} (hw : ρ[i]? = some (.w q W)) (h : EvD C tb ρ fun y ρ1 => asI (fun j => ∃ q m a, ρ1[i]? = some (.w q (dw m)) ∧ valD m j = some (.int a) ∧ EvD C te ρ1 fun d ρ' => asI (fun b => ∃ q m, ρ'[i]? = some (.w q (dw m)) ∧ m.length < 1000000 ∧ nx (ρ'.set i (.w q (dw (putD m j (.int (f a b))))))) d) y) :
    Sj C (sDAug (tVar i) tb te (ipI f)) ρ ⟨nx, bk, ct, rt⟩ := sj_daug hw h
end

end
section
/-! DL, part p: enumerate and sorted over tuples, too; x *= e. -/
/-! enumerate(t), t a tuple: the two objects that it makes, and what next does -/
abbrev tItr (t : Addr) : Obj := { cls := .type "tuple_iterator", data := .fields #[.ref t, .int 0 0] }
abbrev eNew (it : Addr) : Obj := { cls := .type "enumerate", data := .fields #[.none, .bool false, .ref it, rawInt 0, .none, .none] }
theorem enum_new (t : Addr) (vs : Array Value) (n : Nat) (od : Option Addr) (os : Array (Option Value)) : Meets (Builtin.«enumerate.__new__» ⟨[.type "enumerate", .ref t], []⟩)
    (fun _ R s => s.heap.get? t = some ⟨.type "tuple", od, .seq vs n, os⟩ ∧ R (.ok (.ret (.ref (s.heap.push (tItr t)).objs.size))) { s with heap := (s.heap.push (tItr t)).push (eNew s.heap.objs.size) }) := by
  refine .of_wp fun pr wd ar R ⟨hp, gs, dd, tk, oo⟩ ⟨ht, hR⟩ => ?_
  have isub := sub_enumerate
  have tt : Heap.IsTuple (Shared.heap ⟨hp, gs, dd, tk, oo⟩) t vs := ⟨_, ht, rfl, n, rfl⟩
  wp_walk using AutoSeq1.wpAny_loadPart' ht
  refine wpAny_stack_any fun stk => wpAny_pure ?_
  split
  · rename_i cl _ _ _ _ _
    by_cases q : (cl == Value.type "enumerate") = true
    all_goals
      simp only [q]
      wp_walk using AutoSeq1.wpAny_loadPart' ht, wpAny_pyIter_tuple tt
      exact ⟨_, rfl, hR⟩
  · wp_walk using AutoSeq1.wpAny_loadPart' ht, wpAny_pyIter_tuple tt
    exact ⟨_, rfl, hR⟩
/-- what stands behind enumerate(t): the iterator at p, the enumerate object right behind it -/
structure EnT (h h' : Heap) (t : Addr) : Prop where
  en : IsEnum h' (h.objs.size + 1) h.objs.size 0 .none
  it : h'.IsTupleIter h.objs.size t 0
  kp : ∀ b o, h.get? b = some o → h'.get? b = some o
theorem enum_call {pr : Program} {wd : World} {ar : Around} {er : Value → Shared → Prop} {st : Shared} {t : Addr} {vs : Array Value} {Q : Value → Shared → Prop} (ht : st.heap.IsTuple t vs) (k : ∀ h', EnT st.heap h' t → Q (.ref (st.heap.objs.size + 1)) { st with heap := h' }) :
    wpAny (model pr wd) ar (call (.type "enumerate") [.ref t]) Q er st := by
  rcases ht with ⟨⟨oc, od, oda, os⟩, h1, h2, n, h3⟩
  obtain rfl : oc = .type "tuple" := h2
  obtain rfl : oda = .seq vs n := h3
  have one : (st.heap.push (tItr t)).objs.size = st.heap.objs.size + 1 := Heap.size_push ..
  have en : ((st.heap.push (tItr t)).push (eNew st.heap.objs.size)).get? (st.heap.objs.size + 1) = some (eNew st.heap.objs.size) := by
    rw [← one]
    exact Heap.get?_push_size _ rfl
  have E : EnT st.heap ((st.heap.push (tItr t)).push (eNew st.heap.objs.size)) t := ⟨en, ⟨_, Heap.get?_push_of_some _ (Heap.get?_push_size _ rfl), rfl, rfl⟩, fun b o e => Heap.get?_push_of_some _ (Heap.get?_push_of_some _ e)⟩
  have done := k _ E
  rw [← one] at done
  exact callType_new F.called_enumerate (by decide) (F.typeCall_enumerate_1 _) (F.newCall_enumerate_1 _) (fun ob => F.args_object_init_2 ob _) F.entry_enumerate_new (enum_new t vs n od os) ⟨h1, ⟨_, by rw [one]; exact en, rfl⟩, done⟩
/-- the tuple at a, each item in a new pair -/
def IteT (K : PySem.W.Frag) (a : Addr) : It where
  go := fun i H => ∃ (ys : List V) (y : V), SqT K H a ys ∧ ys[i]? = some y
  yld := fun i H v H' => ∃ T y, v = .ref T ∧ H T = none ∧ H' = upd H T (.tup [.int (i : Nat), y]) ∧ ∀ ys, SqT K H a ys → ys[i]? = some y
  stop := fun i H => ∃ ys : List V, SqT K H a ys ∧ ys.length ≤ i
theorem cls_apart {h : Heap} {a b : Addr} {o o' : Obj} {c c' : String} (e : h.get? a = some o) (e' : h.get? b = some o') (q : o.cls = .type c) (q' : o'.cls = .type c') (n : c ≠ c') : a ≠ b := fun z => by
  subst z
  rw [e] at e'
  cases e'
  rw [q] at q'
  exact n (by injection q')
/-- the state of a walk: the enumerate object at p over the iterator at j -/
def EnSt (a p j : Addr) (i : Nat) (h : Heap) : Prop := (∃ w, IsEnum h p j ((i : Nat) : Int) w) ∧ h.IsTupleIter j a i ∧ p ≠ j
theorem pair2 {p j b : Addr} (h : b ∈ [p, j]) : b = p ∨ b = j := by simpa using h
theorem turn_enumT {P : Program} {wd : World} {K : PySem.W.Frag} {es : List Expr} {kk : Nat} {tp : Pos} (a p j : Addr) : Turn P wd K (.Tuple es kk tp) (IteT K a) [p, j] p (EnSt a p j) where
  mem := List.mem_cons_self ..
  self := fun _ _ _ _ _ ⟨⟨_, z⟩, _⟩ h => wpAny_pyIter_enum z h
  keep := fun i h h' ⟨⟨w, z⟩, t, n⟩ k => ⟨⟨w, k p (List.mem_cons_self ..) _ z⟩, t.at fun o e => k j (List.mem_cons_of_mem _ (List.mem_singleton.mpr rfl)) o e, n⟩
  obj := fun i h ⟨⟨w, z⟩, ⟨o, o1, o2, o3⟩, n⟩ b hb => by
    rcases pair2 hb with rfl | rfl
    · exact ⟨_, z, fun v q => nomatch q⟩
    · refine ⟨o, o1, fun v q => ?_⟩
      rw [o3] at q
      cases q
  item := by
    intro X e1 e2 e3 calm i pn s σ H E I fr st go
    subst e1 e2 e3
    obtain ⟨⟨w, z⟩, ti, n⟩ := st
    obtain ⟨ys, y, sq, gy⟩ := go
    obtain ⟨vs, rel, tup, _⟩ := I.tuple sq
    obtain ⟨u, gu, ry⟩ := rel.get gy
    have tt : s.heap.IsTuple a vs.toArray := tup
    have lp := Heap.lt_size z
    have lj : j < s.heap.objs.size := let ⟨_, q, _⟩ := ti; Heap.lt_size q
    have nj : a ≠ j := let ⟨_, q1, q2, _⟩ := tt; let ⟨_, q3, q4, _⟩ := ti; cls_apart q1 q3 q2 q4 (by decide)
    have np : a ≠ p := let ⟨_, q1, q2, _⟩ := tt; cls_apart q1 z q2 rfl (by decide)
    have np' : p ∉ [j, a] := fun m => by
      rcases pair2 m with q | q
      · exact n q
      · exact np q.symm
    refine wpAny_pyNext_enum_itemD (Draws.tuple (A := X.A.in1) (I.ok.hd calm) j a nj vs.toArray) z (show _ ∧ _ from ⟨ti, tt⟩) (by simpa using (List.getElem?_eq_some_iff.mp gu).1) n np' fun x h1 tk gx eo st' nw _ kp => ?_
    obtain rfl : u = x := by
      have q : vs.toArray[i]? = some x := gx
      rw [List.getElem?_toArray, gu] at q
      exact Option.some.inj q
    refine ⟨_, rfl, wpAny_letOwnedTupleGo_enum (s := { s with heap := h1, toks := tk + 1 }) eo fun h2 en same => ?_⟩
    have nw2 := (same.2 _ (Nat.ne_of_gt lp)).trans nw
    refine ⟨.ref s.heap.objs.size, upd H s.heap.objs.size (.tup [.int (i : Nat), y]), ?_, rfl, ⟨_, y, rfl, I.hok.fresh (Nat.le_refl _), rfl, fun zs hz => ?_⟩, ⟨⟨u, ?_⟩, st'.1.at fun o q => (same.2 j (Ne.symm n)).trans q, n⟩, fun b hb => ?_⟩
    · refine I.turnedNew (ch := [p, j]) (fun b ob nb q => ?_) fr (Nat.le_refl _) ⟨Nat.le_trans (show 2 ≤ 1000000 by decide) (by decide), [.int i tk, u], .cons ⟨_, rfl⟩ (.cons ry .nil), _, nw2, rfl, _, rfl⟩
      have b1 : b ≠ p := fun z => nb (z ▸ List.mem_cons_self ..)
      have b2 : b ≠ j := fun z => nb (z ▸ List.mem_cons_of_mem _ (List.mem_singleton.mpr rfl))
      exact (same.2 b b1).trans (kp b ob b1 b2 q)
    · rw [I.tuple_inj hz sq]
      exact gy
    · rw [show ((i + 1 : Nat) : Int) = (i : Int) + 1 from rfl]
      exact en
    · have lb : b < s.heap.objs.size := by rcases pair2 hb with rfl | rfl <;> assumption
      rw [upd_ne (Nat.ne_of_lt lb)]
      exact (fr b hb).1
  done := by
    intro X e1 e2 e3 calm i pn s σ H E I fr st go
    subst e1 e2 e3
    obtain ⟨⟨w, z⟩, ti, n⟩ := st
    obtain ⟨ys, sq, le⟩ := go
    obtain ⟨vs, rel, tup, _⟩ := I.tuple sq
    have tt : s.heap.IsTuple a vs.toArray := tup
    have ln := rel.length
    obtain ⟨g0, g1, _, g3, g4, g5⟩ := fr j (List.mem_cons_of_mem _ (List.mem_singleton.mpr rfl))
    have ty : s.TypeIs (.ref p) "enumerate" := ⟨_, z, rfl⟩
    unfold pyNext
    refine wpAny_bind (wpAny_attempt (wpAny_callSpecial?_slot (name := Str.ofString "__next__") ty F.slot_enumerate_next (wpAny_call_entry F.slot_enumerate_next ty F.entry_enumerate_next ?_ (F.args_enumerate_next_1 _))))
    show wpAny _ _ (field (.ref p) 2 >>= _) _ _ s
    refine wpAny_bind (wpAny_field z rfl (x := .ref j) rfl (wpAny_bind (wpAny_nextOf_tuple_end (A := X.A.in1) (I.ok.hd calm) ti tt (by simp; omega) fun h1 x ex sx => ?_)))
    obtain ⟨o, o1, o2⟩ := sx
    exact wpAny_bind (wpAny_isInstance (T := "StopIteration") (b := true) ⟨o, o1, o2⟩ isSubtype_stop (wpAny_pure ⟨rfl, I.turned (t' := s.toks) (fun b o nb q => ex b o nb q) g0 g1 g3 g4 g5⟩))
/-- enumerate(l), l a list or a tuple -/
def iEnumQ (K : PySem.W.Frag) (ta : TA) : TI := fun σ H R => iEnum K ta σ H R ∨ ta σ H fun vs H1 => ∃ a ys, vs = [.ref a] ∧ SqT K H1 a ys ∧ R (IteT K a) H1
open PySem.Spec PyProof.Rows in
theorem pi_enumQ {X : Cx} {e : Expr} {ta : TA} {p pos tpos : Pos} {elts : List Expr} {kk : Nat} (hg : Gl X "enumerate") (hm : X.mg "enumerate" = none) (ha : PA X [e] ta) (hs : starEach [e] X.env = [(false, eval e X.env)] := by rfl) :
    PI X (.Tuple elts kk tpos) (.Call (.Name "enumerate" p) [e] [] pos) (iEnumQ X.K ta) := ⟨fun pn s σ H R I h => by
  rcases h with h | h
  · exact (pi_enum hg hm ha hs).run pn s σ H R I h
  · refine Call_ (ld_blt I hg hm boot_enumerate (PyProof.Rows.callWith_type1 (thn (ha.run pos pn s σ H _ I h) fun us s1 ⟨vs, H1, J, rl, a, ys, ev, sq, q⟩ => ?_) hs rfl))
    subst ev
    rw [Vals.ref1 rl]
    obtain ⟨ws, _, tup, _⟩ := J.tuple sq
    refine enum_call (show s1.heap.IsTuple a ws.toArray from tup) fun h' en => wpAny_pyIter_enum en.en ?_
    refine ⟨s1.heap.objs.size + 1, [s1.heap.objs.size + 1, s1.heap.objs.size], _, _, H1, rfl, J.kept (t' := s1.toks) en.kp, turn_enumT a _ _, ⟨⟨.none, en.en⟩, en.it, Nat.succ_ne_self _⟩, fun b hb => ?_, q⟩
    have lb : s1.heap.objs.size ≤ b := by rcases pair2 hb with rfl | rfl <;> omega
    exact J.fpOk lb (J.hok.fresh lb)⟩
section
variable {K : PySem.W.Frag} {C : Cc K} {ρ : List Sl}
theorem it_enumT {G : Hp} {a : Addr} {xs : List V} {ds : List Dt} (h : G a = some (.tup xs)) (hd : Dvs K G xs ds) : ItD K G (IteT K a) ds.length (fun i => .tup [.int (i : Nat), (ds[i]?).getD .non]) where
  go := fun i H e hi => by
    obtain ⟨v, h1, _⟩ := hd.get (List.getElem?_eq_getElem hi)
    exact ⟨xs, v, .inl (.inl (e _ _ h)), h1⟩
  stop := fun H e => ⟨xs, .inl (.inl (e _ _ h)), by rw [hd.len]; exact Nat.le_refl _⟩
  yld := fun i H x H' hi e y => by
    obtain ⟨T, z, rfl, hT, rfl, hz⟩ := y
    have hx := hz xs (.inl (.inl (e _ _ h)))
    obtain ⟨d, h1, h2⟩ := hd.getV hx
    refine .inr ⟨T, _, hT, rfl, rfl, fun G2 s1 eT => ?_⟩
    show Dv K G2 _ (.tup [.int (i : Nat), (ds[i]?).getD .non])
    rw [h1]
    exact .tup eT (.cons (.int _) (.cons (Dv.up s1 d z h2) .nil))
theorem wk_enumL {R : Nat → (Nat → Dt) → List Sl → Prop} {t : TA} (h : EvA C t ρ fun es ρ1 => ∃ ds, es = [.lst ds] ∧ R ds.length (fun i => .tup [.int (i : Nat), (ds[i]?).getD .non]) ρ1) : WkD C (iEnumQ K t) ρ R := fun G H σ fp O Rr q =>
  .inl <| h G H σ fp O _ fun vs G1 H1 es ρ1 fp1 e1 O1 D1 k => by
    obtain ⟨ds, rfl, k⟩ := k
    cases D1 with
    | cons h1 h2 =>
      cases h2
      cases h1 with
      | lst g1 g2 => exact ⟨_, _, rfl, .inl (.inl (O1.e1 _ _ g1)), q _ G1 H1 _ _ ρ1 fp1 e1 O1 (it_enum g1 g2) k⟩
theorem wk_enumT {R : Nat → (Nat → Dt) → List Sl → Prop} {t : TA} (h : EvA C t ρ fun es ρ1 => ∃ ds, es = [.tup ds] ∧ R ds.length (fun i => .tup [.int (i : Nat), (ds[i]?).getD .non]) ρ1) : WkD C (iEnumQ K t) ρ R := fun G H σ fp O Rr q =>
  .inr <| h G H σ fp O _ fun vs G1 H1 es ρ1 fp1 e1 O1 D1 k => by
    obtain ⟨ds, rfl, k⟩ := k
    cases D1 with
    | cons h1 h2 =>
      cases h2
      cases h1 with
      | tup g1 g2 => exact ⟨_, _, rfl, .inl (.inl (O1.e1 _ _ g1)), q _ G1 H1 _ _ ρ1 fp1 e1 O1 (it_enumT g1 g2) k⟩
end
/-! sorted(t), t a tuple -/
section
open PyProof.Rows SrtO Srt
variable {pr : Program} {wd : World} {ar : Around} {er : Value → Shared → Prop} {st : Shared}
/-- the heap in which a new list holds vs -/
abbrev gathered (h : Heap) (vs : List Value) : Heap := (h.push (seqObj "list" #[] 0)).update h.objs.size (Obj.mapSeq (· ++ vs.toArray))
theorem gather_tup {t : Addr} {vs : List Value} {Q : List Value → Shared → Prop} (g : st.heap.IsTuple t vs.toArray) (z : vs.length ≤ sizeLine) (k : Q vs { st with heap := gathered st.heap vs }) : wpAny (model pr wd) ar (collect (.ref t)) Q er st := by
  rcases g with ⟨o, g1, g2, n, g3⟩
  have old : (st.heap.push (seqObj "list" #[] 0)).get? t = some o := Heap.get?_push_of_some _ g1
  have new : (st.heap.push (seqObj "list" #[] 0)).get? st.heap.objs.size = some (seqObj "list" #[] 0) := Heap.get?_push_size _ rfl
  have fit : (#[] ++ vs.toArray).size ≤ sizeLine + 1 := by simp; omega
  unfold collect
  refine wpAny_bind (wpAny_runValue (codeAny_builtin entry_proto_collect' (show wpAny _ _ (newList [] >>= fun l => again (.builtin "list.__iadd__" ⟨[l, .ref t], []⟩)) _ _ st from wpAny_bind (wpAny_newList (wpAny_pure ⟨Code.quiet_builtin _ (by decide +kernel), codeAny_builtin entry_list_iadd' ?_⟩)))))
  show wpAny _ _ (Builtin.List.listExtendWith (.ref st.heap.objs.size) _ _) _ _ _
  unfold Builtin.List.listExtendWith
  refine wpAny_bind (wpAny_typeOf (T := "tuple") ⟨o, old, g2⟩ ?_)
  have yes : (Value.type "tuple" == Value.type "tuple") = true := rfl
  rw [if_pos (by simp only [yes, Bool.or_true])]
  refine wpAny_bind (listItems_at old g3 (wpAny_bind (listItems_at (xs := #[]) (n := 0) new rfl ?_)))
  rw [if_neg (by simp)]
  refine wpAny_bind (listUpdate_at (xs := #[]) (n := 0) new rfl (wpAny_pure ?_) (Nat.zero_le _) fit)
  refine wpAny_bind (wpAny_load (get?_update_seq new _) (wpAny_pure ?_))
  simpa using k
theorem sort_tup {t : Addr} {vs : List Value} {lt : Value → Value → Bool} {Q : Value → Shared → Prop} (O : Swo lt) (g : st.heap.IsTuple t vs.toArray) (z : vs.length ≤ sizeLine)
    (able : 2 ≤ vs.length → ∀ (h : Heap) (a : Addr), SortableO pr wd ar.in1.in1 { st with heap := h } a vs lt) (k : ∀ rs : List Value, Srtd lt rs → Stb lt rs vs → Q (.ref (st.heap.objs.size + 1)) { st with heap := sortedAll st.heap vs rs.toArray }) :
    wpAny (model pr wd) ar (call (.builtin "sorted") [.ref t]) Q er st := by
  have one : (gathered st.heap vs).objs.size = st.heap.objs.size + 1 := (Heap.size_update ..).trans (size_push' ..)
  have at1 : ((gathered st.heap vs).push (seqObj "list" vs.toArray 0)).get? (gathered st.heap vs).objs.size = some (seqObj "list" vs.toArray 0) := Heap.get?_push_size _ rfl
  refine Calls.call_function_entry kind_sorted plain_sorted entry_sorted (args_sorted1 _) ?_
  unfold Builtin.«sorted»
  refine wpAny_bind (m := checkCount "sorted" 1 1 _) (wpAny_pure (wpAny_bind (gather_tup g z (wpAny_bind (wpAny_newList ?_ z)))))
  show wpAny _ _ _ _ _ { st with heap := (gathered st.heap vs).push (seqObj "list" vs.toArray 0) }
  rw [one] at at1 ⊢
  exact wpAny_bind (wpAny_holding (wpAny_call_entry slot_list_sort ⟨_, at1, rfl⟩ entry_list_sort (list_sort_ord O at1 z (fun two => able two _ _) fun rs s1 s2 => ⟨_, rfl, wpAny_pure ⟨_, rfl, k rs s1 s2⟩⟩) (args_list_sort _)))
end
/-- sorted(l), ints in a list or in a tuple -/
def rSortQ (K : PySem.W.Frag) : List V → Hp → VK → Prop := fun vs H Q => rSortedI K vs H Q ∨ ∃ (a : Addr) (ns : List Int), vs = [V.ref a] ∧ SqT K H a (ns.map V.int) ∧ ∀ (ms : List Int) (l : Addr), ms.Perm ns → ms.Pairwise (· ≤ ·) → H l = none → Q (.ref l) (upd H l (.lst (ms.map V.int)))
theorem cr_sortQ {X : Cx} : CallR X (.builtin "sorted") (rSortQ X.K) := fun pn s σ H vs us Q I r h => by
  rcases h with h | ⟨a, ns, rfl, sq, q⟩
  · exact cr_sortedI pn s σ H vs us Q I r h
  obtain ⟨ws, rel, tup, z⟩ := I.tuple sq
  have are := rel.ints
  rw [Vals.ref1 r]
  refine sort_tup SrtO.swo_int (show s.heap.IsTuple a ws.toArray from tup) (by rw [← rel.length]; exact z) (fun two _ _ => SrtO.ints_sortable are two) fun rs s1 s2 => ?_
  obtain ⟨j1, j2, j3⟩ := SrtO.ints_out are s1 s2
  have fit : ((rs.map SrtO.iv).map V.int).length ≤ sizeLine := by
    have e := j2.length_eq
    rw [List.length_map] at z ⊢
    rw [e]
    exact z
  obtain ⟨n, at2⟩ := PyProof.Rows.sortedAll_at s.heap ws rs.toArray
  exact ⟨.ref _, _, I.laid (a := s.heap.objs.size + 1) (o := .lst ((rs.map SrtO.iv).map V.int)) (t' := s.toks) (fun _ _ => PyProof.Rows.sortedAll_old) (Nat.le_succ _) ⟨fit, rs, n, vals_of_ints j1, at2⟩, rfl, q _ _ j2 j3 (I.hok.fresh (Nat.le_succ _))⟩
section
variable {K : PySem.W.Frag} {C : Cc K} {ρ : List Sl} {R : Dt → Prop}
theorem cal_sortL {R : List Dt → Prop} {ns : List Int} (k : ∀ ns' : List Int, ns'.Perm ns → ns'.Pairwise (· ≤ ·) → R (ns'.map Dt.int)) : CaL C (rSortQ K) [.lst (ns.map Dt.int)] ρ R := fun G H σ fp O vs hv Q q => by
  cases hv with
  | cons h1 h2 =>
    cases h2
    cases h1 with
    | lst g1 g2 =>
      refine .inl ⟨_, ns, rfl, .inl (.inl ?_), fun ns' p p1 p2 hp => q p _ _ hp (Dvs.ints _) (k ns' p1 p2)⟩
      rw [← Dvs.ints_is g2]; exact O.e1 _ _ g1
theorem cal_sortT {R : List Dt → Prop} {ns : List Int} (k : ∀ ns' : List Int, ns'.Perm ns → ns'.Pairwise (· ≤ ·) → R (ns'.map Dt.int)) : CaL C (rSortQ K) [.tup (ns.map Dt.int)] ρ R := fun G H σ fp O vs hv Q q => by
  cases hv with
  | cons h1 h2 =>
    cases h2
    cases h1 with
    | tup g1 g2 =>
      refine .inr ⟨_, ns, rfl, .inl (.inl ?_), fun ns' p p1 p2 hp => q p _ _ hp (Dvs.ints _) (k ns' p1 p2)⟩
      rw [← Dvs.ints_is g2]; exact O.e1 _ _ g1
end
/-! x *= e -/
def ipMul : TIp := fun x y H Q => ∃ i j, x = .int i ∧ y = .int j ∧ CMul i j ∧ Q (.int (i * j)) H
theorem ip_mul {X : Cx} : PIp X .Mult ipMul := by
  intro pins s σ H x y v u Q I r1 r2 h
  obtain ⟨i, j, e1, e2, hc, q⟩ := h
  subst e1; subst e2
  obtain ⟨t, rfl⟩ := r1
  obtain ⟨t', rfl⟩ := r2
  exact PyProof.Rows.imul_int ⟨.int _, H, I.tok _, ⟨_, rfl⟩, q⟩ hc.ok
section
variable {K : PySem.W.Frag} {C : Cc K} {ρ : List Sl} {P : En} {nx bk ct : List Sl → Prop} {rt : Sl → List Sl → Prop} {te : TE} {us : TS}
theorem sj_mul {i : Nat} {a : Int} (hi : ρ[i]? = some (.d (.int a))) (h : EvD C te ρ fun d ρ' => asI (fun b => CMul a b ∧ asgOk ρ' i = true ∧ P.nx (ρ'.set i (.d (.int (a * b))))) d) : Sj C (tAug i te ipMul) ρ P := fun G H σ fp O D E => by
  obtain ⟨v, h1, h2⟩ := O.sl i _ hi
  cases h2
  refine ⟨_, h1, ?_⟩
  refine h G H σ fp O _ fun w G' H' d ρ' fp' e O' D' r => ?_
  cases d with
  | int b =>
    cases D'
    obtain ⟨r0, r1, r2⟩ := r
    exact ⟨a, b, rfl, rfl, r0, E.nx G' H' _ _ _ e ((O'.dv (.int (a * b))).store r1 (fun W z => nomatch z)) r2⟩
  | _ => exact r.elim
theorem y_mul {i : Nat} {a : Int} (hi : ρ[i]? = some (.d (.int a))) (h : EvD C te ρ fun d ρ' => asI (fun b => CMul a b ∧ asgOk ρ' i = true ∧ nx (ρ'.set i (.d (.int (a * b))))) d) : Sj C (tAug i te ipMul) ρ ⟨nx, bk, ct, rt⟩ := sj_mul hi h
theorem sq_mul {i : Nat} {a : Int} (hi : ρ[i]? = some (.d (.int a))) (h : EvD C te ρ fun d ρ' => asI (fun b => CMul a b ∧ asgOk ρ' i = true ∧ Sj C us (ρ'.set i (.d (.int (a * b)))) P) d) : Sj C (tSeq (tAug i te ipMul) us) ρ P := sj_seq (sj_mul hi h)
end
/-! the second one is owned -/
def CM {α β : Type} (W : β → Wd) (e0 : α → Dt) (emb : α → List Dt) (pre : β → α → Prop) (post : β → α → Sl → β → Prop) : Ctr := fun as R _ => ∃ b a, as = .d (e0 a) :: .w true (W b) :: (emb a).map Sl.d ∧ pre b a ∧ ∀ s b', post b a s b' → R s (.d (e0 a) :: .w true (W b') :: (emb a).map Sl.d)
theorem CM.mono {α β : Type} {W : β → Wd} {e0 : α → Dt} {emb : α → List Dt} {pre : β → α → Prop} {post : β → α → Sl → β → Prop} : (CM W e0 emb pre post).Mono := by
  rintro as R R' E E' k _ ⟨b, a, h1, h2, h3⟩
  exact ⟨b, a, h1, h2, fun s b' hs => k _ _ (h3 s b' hs)⟩
theorem CM.len {α β : Type} {W : β → Wd} {e0 : α → Dt} {emb : α → List Dt} {pre : β → α → Prop} {post : β → α → Sl → β → Prop} {n : Nat} (h : ∀ a, (emb a).length + 2 = n) : ∀ as R E, CM W e0 emb pre post as R E → as.length = n := by
  rintro as R E ⟨b, a, rfl, _, _⟩
  rw [List.length_cons, List.length_cons, List.length_map]
  exact h a
abbrev finM {β : Type} (W : β → Wd) (post : Sl → β → Prop) : En := ⟨fun ρ => ∃ b, ρ.tail.head? = some (.w true (W b)) ∧ post (.d .non) b, fun _ => False, fun _ => False, fun s ρ => ∃ b, ρ.tail.head? = some (.w true (W b)) ∧ post s b⟩
section
variable {P : Program} {w : World} {K : PySem.W.Frag} {mg : Str → Option Value} {base : Heap}
theorem gd_cm {α β : Type} {W : β → Wd} {e0 : α → Dt} {emb : α → List Dt} {pre : β → α → Prop} {post : β → α → Sl → β → Prop} {x : Str} {st : Stmt} {N ps : List Str} {k : Nat} (F : Df K mg x st ps) (S : FnScope N ps (defScope st)) (len : ∀ a, (emb a).length + 2 = ps.length) (t : TS)
    (hbody : ∀ (f : Addr) (cdv : Value) (A : Around) (outer : List Env) (s : Shared) (H : Hp) (E : XK), Room k (A.deeper (PyProof.Rows.envOfC x (defScope st) s.heap.objs.size f cdv)) → PSs (cxOf CX0 P w K mg base N x (defScope st) f cdv A outer s H E).nox (defBody st) t)
    (hs : ∀ (C : Cc K) b a, pre b a → Sj C t (.d (e0 a) :: .w true (W b) :: (emb a).map Sl.d ++ List.replicate (N.length - ps.length) .no) (finM W (post b a))) : Gd P w K mg base x ps (k + 1) (CM W e0 emb pre post) := by
  refine gd_of CM.mono F S (CM.len len) t hbody ?_
  rintro C as R Er ⟨b, a, rfl, hp, hR⟩
  rw [List.length_cons, List.length_cons, List.length_map, len a]
  have fin2 : ∀ {s : Sl} {ρ' : List Sl}, (∃ b', ρ'.tail.head? = some (.w true (W b')) ∧ post b a s b') → backOk (.d (e0 a) :: .w true (W b) :: (emb a).map Sl.d) ρ' = true ∧ R s (back (.d (e0 a) :: .w true (W b) :: (emb a).map Sl.d) ρ') := by
    rintro s ρ' ⟨b', e, z⟩
    obtain ⟨h1, h2⟩ := back_data (ds := emb a) (ρ := ρ'.tail.tail)
    constructor
    · show (isQ ρ'.tail.head? && backOk ((emb a).map Sl.d) ρ'.tail.tail) = true
      rw [e, h2]
      rfl
    · show R s (.d (e0 a) :: (ρ'.tail.head?.getD .no) :: back ((emb a).map Sl.d) ρ'.tail.tail)
      rw [e, h1]
      exact hR _ _ z
  exact sj_imp (hs C b a hp) (fun ρ' z => fin2 z) (fun _ z => z) (fun _ z => z) (fun s ρ' z => fin2 z)
end
section
variable {K : PySem.W.Frag} {C : Cc K} {ρ : List Sl}
theorem evb_ds {R : List Ar → List Sl → Prop} {t : TA} (h : EvA C t ρ fun ds ρ1 => R (ds.map Ar.d) ρ1) : EvB C t ρ R := fun G H σ fp O Q q =>
  h G H σ fp O Q fun vs G' H' ds ρ' fp' e O' D r => q vs G' H' _ ρ' fp' e O' (by
    have : ∀ {vs : List V} {ds : List Dt}, Dvs K G' vs ds → ArOk K G' σ vs (ds.map Ar.d) := by
      intro vs ds h
      induction ds generalizing vs with
      | nil => cases h; exact trivial
      | cons d ds ih =>
        cases h with
        | cons h1 h2 => exact ⟨h1, ih h2⟩
    exact this D) r
theorem evd_callM {α β : Type} {W : β → Wd} {e0 : α → Dt} {emb : α → List Dt} {pre : β → α → Prop} {post : β → α → Sl → β → Prop} {R : Dt → List Sl → Prop} {E : XK} {ta : TE} {t : TA} {i : Nat}
    (h : EvD C ta ρ fun x ρ0 => (∃ q W0, ρ0[i]? = some (.w q W0)) ∧ EvA C t ρ0 fun ds ρ1 => ∃ b a q, ρ1[i]? = some (.w q (W b)) ∧ x = e0 a ∧ ds = emb a ∧ pre b a ∧ ∀ s b', post b a s b' → asF (fun d => R d (ρ1.set i (.w q (W b')))) s) : EvD C (tCall ((CM W e0 emb pre post).sp K) [] E (tCons ta (tCons (tVar i) t))) ρ R := by
  refine evd_call1 CM.mono xok0 (evb_d (evd_imp h fun x ρ0 r => ?_))
  obtain ⟨⟨q0, W0, hw⟩, r⟩ := r
  refine evb_o hw (evb_ds ?_)
  intro G H σ fp O Q qq
  refine r G H σ fp O Q fun vs G' H' ds ρ' fp' e O' D r => qq vs G' H' ds ρ' fp' e O' D ?_
  obtain ⟨b, a, q', r1, rfl, rfl, r2, r3⟩ := r
  refine ⟨[e0 a], emb a, i, q', W b, rfl, r1, b, a, rfl, r2, fun s b' hs => ?_⟩
  exact ⟨W b', rfl, r3 s b' hs⟩
theorem cad_maxL {R : Dt → Prop} {ns : List Int} (hne : 0 < ns.length) (k : ∀ m, m ∈ ns → (∀ y, y ∈ ns → y ≤ m) → R (.int m)) : CaD C (rMax K) [.lst (ns.map Dt.int)] ρ R := fun G H σ fp O vs hv Q q => by
  cases hv with
  | cons h1 h2 =>
    cases h2
    cases h1 with
    | lst g1 g2 =>
      refine ⟨_, ns, rfl, .inl (.inl ?_), hne, fun m hm hy => q _ G H _ (Same.refl G) O (.int m) (k m hm hy)⟩
      rw [← Dvs.ints_is g2]; exact O.e1 _ _ g1
theorem cad_minL {R : Dt → Prop} {ns : List Int} (hne : 0 < ns.length) (k : ∀ m, m ∈ ns → (∀ y, y ∈ ns → m ≤ y) → R (.int m)) : CaD C (rMin K) [.lst (ns.map Dt.int)] ρ R := fun G H σ fp O vs hv Q q => by
  cases hv with
  | cons h1 h2 =>
    cases h2
    cases h1 with
    | lst g1 g2 =>
      refine ⟨_, ns, rfl, .inl (.inl ?_), hne, fun m hm hy => q _ G H _ (Same.refl G) O (.int m) (k m hm hy)⟩
      rw [← Dvs.ints_is g2]; exact O.e1 _ _ g1
theorem cad_sortL {R : Dt → Prop} {ns : List Int} (k : ∀ ns' : List Int, ns'.Perm ns → ns'.Pairwise (· ≤ ·) → R (.lst (ns'.map Dt.int))) : CaD C (rSortQ K) [.lst (ns.map Dt.int)] ρ R := cad_l (cal_sortL k)
theorem cad_sortT {R : Dt → Prop} {ns : List Int} (k : ∀ ns' : List Int, ns'.Perm ns → ns'.Pairwise (· ≤ ·) → R (.lst (ns'.map Dt.int))) : CaD C (rSortQ K) [.tup (ns.map Dt.int)] ρ R := cad_l (cal_sortT k)
end

end
section
/-! DL, part q: small rules. -/
section
variable {K : PySem.W.Frag} {C : Cc K} {ρ : List Sl} {P : En} {nx bk ct : List Sl → Prop} {rt : Sl → List Sl → Prop} {ta tb te : TE} {t u : TT} {ts us : TS}
theorem sq_dnew {i : Nat} (h : asgOk ρ i = true ∧ Sj C us (ρ.set i (.w false (dw []))) P) : Sj C (tSeq (tAsg tDNewK (gName i)) us) ρ P := sq_own (ev_dnew ⟨h.1, rfl, h.2⟩)
theorem sq_done {i : Nat} (h : Ev C (tDisp [(ta, tb)]) ρ fun s ρ' => asgOk ρ' i = true ∧ notTrue s = true ∧ Sj C us (ρ'.set i s) P) : Sj C (tSeq (tAsg (tDisp [(ta, tb)]) (gName i)) us) ρ P := sq_own h
end

end
section
/-! DL, part r: repr. What calls it is called where no other repr is under way: defs of that kind (FnG) are told that; the law's own call is such a place. -/
open PySem L2 PySem.Spec PyProof.Rows
structure FnG (P : Program) (w : World) (K : PySem.W.Frag) (mg : Str → Option Value) (base : Heap) (k : Nat) (f : Addr) (fd : FuncData) (ps : List Str) (sp : Sp) : Prop where
  len : ∀ vs H Q E, sp vs H Q E → vs.length = ps.length
  run : ∀ (A : Around), Room k A → A.guards = some [] → ∀ (fs : List Env) (s : Shared) (H : Hp), Env0 P w K mg base A fs s H → ∀ (xs : Args) (us : List Value), BindsTo s fd xs (ps.zip us) → ∀ vs : List V, Vals vs us → ∀ (Q : VK) (E : XK), sp vs H Q E →
    codeAny (model P w) A (.call (.ref f) xs) (L2.CR CX0 fs P w H s Q E) s
section
variable {P : Program} {w : World} {K : PySem.W.Frag} {mg : Str → Option Value} {base : Heap}
theorem FnG.of {x q : Str} {st : Stmt} {f : Addr} {fd : FuncData} {N ps : List Str} {k : Nat} {sp : Sp} (F : Fun K x q st f fd) (S : FnScope N ps (defScope st)) (len : ∀ vs H Q E, sp vs H Q E → vs.length = ps.length)
    (body : ∀ (cdv : Value) (A : Around) (fs : List Env) (s : Shared) (H : Hp) (vs : List V) (Q : VK) (E : XK), Room k (A.deeper (envOfC q (defScope st) s.heap.objs.size f cdv)) → A.guards = some [] → sp vs H Q E →
      ∃ t, PSs (cxOf CX0 P w K mg base N q (defScope st) f cdv A fs s H E).nox (defBody st) t ∧ t { nx := fun _ H' => Q .non H', rt := Q } (start N vs) H) : FnG P w K mg base (k + 1) f fd ps sp := by
  obtain ⟨oc, od, kV, doc, pm, an, cdv, ct, osl, rfl, at0, code⟩ := F.ex
  refine ⟨len, fun A room gd fs s H env xs us bind vs rel Q E pre => ?_⟩
  have old : ∀ {b o}, base.get? b = some o → s.heap.get? b = some o := fun e => (env.bs _ _ e).1
  have kin : K.In s.heap := env.mod.kin.keeps fun _ _ e => old e
  refine codeAny_call_function room.depth (kin _ _ at0) rfl S.co S.gen rfl (PySem.W.codeRec_of kin code) (bind _ _ _ _ (wpAny_newFunctionEnv_cells S.kind (fun ⟨n, u⟩ m => ?_) fun e1 e2 s1 ic => ?_))
  · have m' := (List.of_mem_zip m).1
    exact (S.par n m').imp (fun z => z) fun z => ⟨z, PySem.W.cellsFrom_some _ _ _ (.inl z)⟩
  · subst e2
    obtain ⟨t, d, g⟩ := body cdv A fs s H vs Q E (room.deeper _) gd pre
    refine ⟨(env.mod.nolimit.keeps fun _ _ e => old e).keeps ic.toInCall.keep, codeAny_func (wpAny_mono (d.nox.run [] s1 (start N vs) H _ (inv_start S room.hd env (len _ _ _ _ pre) rel ic) g) (fun fl s2 z => ?_) fun _ _ z => z)⟩
    match fl, z with
    | .ret u, ⟨v, _, H2, J, ru, z⟩ => exact ⟨v, H2, J.os, J.bare, J.base, J.hok, ru, z⟩
    | .next, ⟨_, H2, J, z⟩ => exact ⟨.non, H2, J.os, J.bare, J.base, J.hok, rfl, z⟩
    | .brk, ⟨_, _, _, z⟩ => exact z.elim
    | .cont, ⟨_, _, _, z⟩ => exact z.elim
end
section
variable {X : Cx} {k : Nat} {f : Addr} {fd : FuncData} {ps : List Str} {sp : Sp} {x : Str} {p pos : Pos} {e : Expr} {es : List Expr} {t : TA}
theorem FnG.call {pn : List (Addr × Obj)} {σ : L2.St} {H : Hp} {s : Shared} {Q : VK} {us : List Value} {vs : List V} (F : FnG X.prog X.w X.K X.mg X.base k f fd ps sp) (room : Room k X.A) (gd : X.A.guards = some []) (b : BA fd ps) (I : Inv X pn σ H s) (rel : Vals vs us) (h : sp vs H Q E0) :
    wpAny (model X.prog X.w) X.A (PySem.call (.ref f) us) (EP X pn σ Q) X.xe s := by
  have l : us.length = ps.length := rel.length.symm.trans (F.len _ _ _ _ h)
  refine wpAny_call (codeAny_mono (F.run X.A room gd X.stack s H I.env0 ⟨us, []⟩ us (by have z := b.b (K := X.K) s us I.kIn (by simpa using l); simpa using z) vs rel Q E0 h) fun r s2 z => ?_)
  match r, z with
  | .ok (.ret u), z => exact I.after z
  | .ok .next, z => exact (show False from z).elim
  | .ok .brk, z => exact (show False from z).elim
  | .ok .cont, z => exact (show False from z).elim
  | .error er, z => exact pass0 pn σ H s er s2 I z
end
/-- a def of that kind, by name -/
def GdG (P : Program) (w : World) (K : PySem.W.Frag) (mg : Str → Option Value) (base : Heap) (x : Str) (ps : List Str) (L : Nat) (c : Ctr) : Prop :=
  ∃ f fd, mg x = some (.ref f) ∧ PySem.W.keepIn K (.ref f) = true ∧ BA fd ps ∧ FnG P w K mg base L f fd ps (c.sp K) ∧ ∃ oc od osl, K.lookup f = some ⟨oc, od, .func fd, osl⟩
section
variable {X : Cx} {x : Str} {ps : List Str} {L : Nat} {c : Ctr} {e : Expr} {es : List Expr} {t : TA} {p pos : Pos}
theorem pe_gdG (D : GdG X.prog X.w X.K X.mg X.base x ps L c) (gd : X.A.guards = some []) (room : Room L X.A) (gl : Gl X x) (ha : PA X (e :: es) t)
    (h1 : (x == ("__debug__" : Str)) = false := by decide) (h2 : starEach (e :: es) X.env = (false, eval e X.env) :: starEach es X.env := by rfl) (h3 : (backTo pos (starEach es X.env)).any (·.1) = false := by rfl) :
    PE X (.Call (.Name x p) (e :: es) [] pos) (tCall (c.sp X.K) [] E0 t) := ⟨fun pn s σ H Q I h => by
  obtain ⟨f, fd, g1, g2, g3, g4, _⟩ := D
  refine wpAny_Call_Name_kw (ld_glob I gl g1 (PySem.W.callWith_K (h₀ := X.base) I.ok.mod.kin g2 (thn (ha.run pos pn s σ H _ I h) fun us s1 ⟨vs, H1, J, rel, q⟩ => ⟨J.kIn, ?_⟩) h2 h3) h1)
  have q2 : Ctr.sp X.K c (vs ++ []) H1 Q E0 := q
  rw [List.append_nil] at q2
  exact g4.call room gd g3 J rel q2⟩
theorem pe_gdG0 (D : GdG X.prog X.w X.K X.mg X.base x ps L c) (gd : X.A.guards = some []) (room : Room L X.A) (gl : Gl X x) (h1 : (x == ("__debug__" : Str)) = false := by decide) : PE X (.Call (.Name x p) [] [] pos) (tCall (c.sp X.K) [] E0 tNil) := ⟨fun pn s σ H Q I h => by
  obtain ⟨f, fd, g1, g2, g3, g4, _⟩ := D
  exact wpAny_Call_Name_kw (ld_glob I gl g1 (PySem.W.callWith_K0 I.kIn g2 (g4.call (us := []) room gd g3 I .nil h)) h1)⟩
end
section
variable {P : Program} {w : World} {K : PySem.W.Frag} {mg : Str → Option Value} {base : Heap}
theorem gdG_of {x : Str} {st : Stmt} {N ps : List Str} {k : Nat} {c : Ctr} (m : c.Mono) (F : Df K mg x st ps) (S : FnScope N ps (defScope st)) (len : ∀ as R E, c as R E → as.length = ps.length) (t : TS)
    (hb : ∀ (f : Addr) (cdv : Value) (A : Around) (fs : List Env) (s : Shared) (H : Hp) (E : XK), Room k (A.deeper (PyProof.Rows.envOfC x (defScope st) s.heap.objs.size f cdv)) → A.guards = some [] → PSs (cxOf CX0 P w K mg base N x (defScope st) f cdv A fs s H E).nox (defBody st) t)
    (hs : ∀ (C : Cc K) as R Er, c as R Er → Sj C t (as ++ List.replicate (N.length - as.length) .no) (fin as R)) : GdG P w K mg base x ps (k + 1) c := by
  obtain ⟨f, fd, h1, h2, h3⟩ := F
  refine ⟨f, fd, h2, h1.kp, h3, FnG.of h1 S (fun vs H Q E h => ?_) fun cdv A fs s H vs Q E room gd h => ⟨t, hb f cdv A fs s H E room gd, ?_⟩, let ⟨oc, od, _, _, _, _, _, _, osl, _, lk, _⟩ := h1.ex; ⟨oc, od, osl, lk⟩⟩
  · obtain ⟨G, as, bs, fp, O, h⟩ := h
    have l := O.len
    rw [List.length_map] at l
    exact l.symm.trans (len _ _ _ h)
  · obtain ⟨G, as, bs, fp, O, h⟩ := h
    refine hs ⟨bs, [], vs, G, H⟩ as _ _ h G H (L2.start N vs) fp (ok_start O) _ ⟨?_, fun _ _ _ _ _ _ _ z => z.elim, fun _ _ _ _ _ _ _ z => z.elim, ?_⟩
    · rintro G' H' σ' ρ' fp' e O' ⟨hk, r⟩
      exact r .non G' H' (backFp as fp') [] ((Ok.back O O' hk).dv .non)
    · rintro v G' H' σ' ρ' fp' fv s e O' ⟨hk, r⟩
      exact r v G' H' (backFp as fp') fv (OkV.back O O' hk)
end
/-! the call of repr -/
def rRepr (K : PySem.W.Frag) : List V → Hp → VK → Prop := fun xs H Q => ∃ v d, xs = [v] ∧ Dp K H v d ∧ d.showable = true ∧ d.hasDict = false ∧ d.depth ≤ 60 ∧ d.shown.length ≤ sizeLine ∧ Q (.str d.shown) H
theorem cr_repr {X : Cx} (gd : X.A.guards = some []) (hu : X.A.units + 65 < cLine) : CallR X (.builtin "repr") (rRepr X.K) := fun pn s σ H xs us Q I rx h => by
  obtain ⟨v, d, rfl, dp, s1, s2, s3, s4, q⟩ := h
  obtain ⟨u, rfl, ru⟩ := vals1 rx
  obtain ⟨as, rd⟩ := Dp.reads I d v u dp ru
  cases rd with
  | none => exact PySem.P.repr_of_none ⟨.str _, H, I.tok _, ⟨_, rfl⟩, q⟩
  | bool b => exact PySem.P.repr_of_bool ⟨.str _, H, I.tok _, ⟨_, rfl⟩, q⟩
  | int i t => exact PySem.P.repr_of_int (of_decide_eq_true s1) ⟨.str _, H, I.tok _, ⟨_, rfl⟩, q⟩
  | str z t => exact PySem.P.repr_of_str ⟨.str _, H, I.tok _, ⟨_, rfl⟩, q⟩ s4
  | list a b c d => exact repr_of_reads' (h₀ := s.heap) (.list a b c d) s1 (fun z => by rw [s2] at z; cases z) gd (by omega) (fun _ _ e => e) (fun h' u tk kp => ⟨.str _, H, I.kept (t' := tk) kp, ⟨_, rfl⟩, q⟩) s4
  | tuple a b c d => exact repr_of_reads' (h₀ := s.heap) (.tuple a b c d) s1 (fun z => by rw [s2] at z; cases z) gd (by omega) (fun _ _ e => e) (fun h' u tk kp => ⟨.str _, H, I.kept (t' := tk) kp, ⟨_, rfl⟩, q⟩) s4
  | dict _ _ _ _ _ => cases s2

end
section
/-! DL, part s: the law's call, where defs ask repr. -/
open PySem L2 PySem.Spec PyProof.Rows
section
variable {P : Program} {w : World} {K : PySem.W.Frag} {mg mb : Str → Option Value} {k : Nat} {fa a : Addr} {fd : FuncData} {x : Str} {sp : Sp} {s : Shared} {vs : List Value} {ns : List Int}
/-- what the caller is told -/
abbrev Told (s : Shared) (r : Except Value Flow) (s' : Shared) : Prop := r = .ok (.ret (.bool true)) ∧ OldK s.heap s'.heap ∧ s'.os = s.os ∧ AllBare s'.gens
/-- from an abstract heap that tracks the script at most -/
theorem law_from (F : ∀ base : Heap, K.In base → base.Ns mainGlobals mg → FnG P w K mg base k fa fd [x] sp) (room : Room k callerA) (bind : ∀ (s : Shared) (u : Value), BindsTo s fd ⟨[u], []⟩ [(x, u)])
    (kin : K.In s.heap) (g1 : s.heap.Ns mainGlobals mg) (g2 : s.heap.Ns builtinsNs mb) (g3 : ∀ y : Str, y ≠ "__name__" → mb y = bootBuiltins y) (g4 : s.heap.NoLimit) (g5 : s.gens = #[]) (ob : s.heap.get? a = some { cls := .type "list", data := .seq vs.toArray })
    {H : Hp} (only : Only H) (hok : HOk P w H s.heap) (mine : ∀ b, H b ≠ none → b = a ∧ K.lookup a = none) (pre : sp [.ref a] H (fun v _ => v = .bl true) E0) : codeAny (model P w) callerA (.call (.ref fa) ⟨[.ref a], []⟩) (Told s) s := by
  have free : ∀ {b : Addr}, (b = a → False) → H b = none := fun {b} n => by
    cases q : H b with
    | none => rfl
    | some u => exact (n (mine b (by rw [q]; exact fun z => nomatch z)).1).elim
  have ns2 : ∀ {b : Addr} {m : Str → Option Value}, s.heap.Ns b m → (hidT s.heap H).Ns b m := fun {b m} ⟨o, es, ep, e, d, r⟩ => ⟨o, es, ep, hidT_get e (free fun z => by
    subst z
    rw [ob] at e
    cases e
    cases (show Data.seq vs.toArray _ = Data.dict es ep from d)), d, r⟩
  have kin2 : K.In (hidT s.heap H) := fun b o e => hidT_get (kin b o e) (by
    cases q : H b with
    | none => rfl
    | some u =>
      obtain ⟨rfl, z⟩ := mine b (by rw [q]; exact fun z => nomatch z)
      rw [z] at e
      cases e)
  obtain ⟨mc, l1, l2⟩ := g4
  have env : Env0 P w K mg (hidT s.heap H) callerA [] s H := ⟨rfl, ⟨kin2, ns2 g1, ⟨mb, ns2 g2, g3⟩, ⟨mc, ns2 l1, l2⟩⟩, fun b o e => of_hidT e, Nat.le_of_eq (hidT_size _ _), trivial, (fun b m => nomatch (show b ∈ ([] : List Addr) from m)), hok, .of_eq g5⟩
  refine codeAny_mono ((F _ kin2 (ns2 g1)).run callerA room rfl [] s H env ⟨[.ref a], []⟩ [.ref a] (bind s (.ref a)) [.ref a] (.cons rfl .nil) _ E0 pre) fun r s2 z => ?_
  match r, z with
  | .error er, z => exact (show False from z).elim
  | .ok .next, z => exact (show False from z).elim
  | .ok .brk, z => exact (show False from z).elim
  | .ok .cont, z => exact (show False from z).elim
  | .ok (.ret u), ⟨v, H2, e1, e2, un, hok2, ru, q⟩ =>
    have q2 : v = .bl true := q
    subst q2
    obtain rfl : u = Value.bool true := ru
    refine ⟨rfl, OldK.of_keep fun b o e => ?_, e1, e2⟩
    cases hb : H b with
    | none => exact un.keep b o e hb (fun z => nomatch z) (by simp)
    | some t =>
      rcases only b with z | ⟨o2, xs, z⟩
      · rw [hb] at z
        cases z
      · have f1 := (hok b _ z).1
        have f2 := (hok2 b _ (un.frzs b o2 _ z)).1
        rw [e] at f1
        cases f1
        exact f2
theorem law_runG (kin : K.In s.heap) (g1 : s.heap.Ns mainGlobals mg) (g2 : s.heap.Ns builtinsNs mb) (g3 : ∀ y : Str, y ≠ "__name__" → mb y = bootBuiltins y) (g4 : s.heap.NoLimit) (g5 : s.gens = #[])
    (ob : s.heap.get? a = some { cls := .type "list", data := .seq vs.toArray }) (intz : IntsAre vs ns) (len : ns.length ≤ sizeLine) (room : Room k callerA) (F : ∀ base : Heap, K.In base → base.Ns mainGlobals mg → FnG P w K mg base k fa fd [x] sp)
    (bind : ∀ (s : Shared) (u : Value), BindsTo s fd ⟨[u], []⟩ [(x, u)]) (pre : ∀ H : Hp, SqL K H a (ns.map V.int) → sp [.ref a] H (fun v _ => v = .bl true) E0) : codeAny (model P w) callerA (.call (.ref fa) ⟨[.ref a], []⟩) (Told s) s := by
  have rel := vals_ints intz
  have ln := intz.length
  by_cases q : ∃ o, K.lookup a = some o
  · obtain ⟨o, q⟩ := q
    have e := kin a o q
    rw [ob] at e
    cases e
    exact law_from (H := fun _ => none) F room bind kin g1 g2 g3 g4 g5 ob (fun _ => .inl rfl) (fun b u z => nomatch z) (fun b z => absurd rfl z) (pre _ (.inr ⟨_, vs.toArray, _, q, rfl, rfl, rfl, by rw [List.size_toArray, ln]; exact len, by simpa using rel⟩))
  · have q' : K.lookup a = none := by
      cases z : K.lookup a with
      | none => rfl
      | some o => exact absurd ⟨o, z⟩ q
    let T : HO := .frz { cls := .type "list", data := .seq vs.toArray } (.lst (ns.map V.int))
    have here : ∀ b u, (if b = a then some T else none) = some u → b = a ∧ u = T := fun b u z => by
      by_cases c : b = a
      · rw [if_pos c] at z
        exact ⟨c, (Option.some.inj z).symm⟩
      · rw [if_neg c] at z
        cases z
    refine law_from (H := fun b => if b = a then some T else none) F room bind kin g1 g2 g3 g4 g5 ob (fun b => ?_) (fun b u z => ?_) (fun b z => ?_) (pre _ (.inl (.inr ⟨{ cls := .type "list", data := .seq vs.toArray }, if_pos rfl⟩)))
    · by_cases c : b = a
      · exact .inr ⟨_, _, if_pos c⟩
      · exact .inl (if_neg c)
    · obtain ⟨rfl, rfl⟩ := here b u z
      exact ⟨ob, by rw [List.length_map]; exact len, vs, _, rel, ob⟩
    · by_cases c : b = a
      · exact ⟨c, q'⟩
      · exact absurd (if_neg c) z
end
/-- what k_head leaves, from the law's contract -/
theorem walkG {l : PySem.W.OpenLaw} {n k : Nat} {q : Program} {loose : List Str} {XP : (Str → Option Value) → Heap → Prop} {YP : World → Heap → Prop} {d : DefRec} {K : Params → PySem.W.Frag} {x : Str} (hn : l.most = some n) (hn2 : n ≤ 63) (hdf : d.params.defaults = []) (room : Room k callerA)
    (hY : ∀ (w : World) (h : Heap), YP w h → (K w.params).In h)
    (F : ∀ (w : World) (mg : Str → Option Value) (fa : Addr) (h : Heap), (K w.params).In h → h.Ns mainGlobals mg → mg d.name = some (.ref fa) →
      ∃ fd : FuncData, (∀ (s : Shared) (u : Value), BindsTo s fd ⟨[u], []⟩ [(x, u)]) ∧ ∀ base : Heap, (K w.params).In base → base.Ns mainGlobals mg → FnG l.prog w (K w.params) mg base k fa fd [x] (lawC.sp (K w.params))) :
    PySem.W.WalkO q loose XP YP l.row.toRowW d [] (fun f vs => PySem.call f vs) := by
  refine Att.attach_call hn hdf fun w s0 s1 mg mb fa o pm cd doc a vs ns G Y ho hd hcd hmg hobj hints hlen hg => ?_
  have kin := hY w _ Y
  obtain ⟨fd, hb, hF⟩ := F w mg fa _ kin G.T.g hmg
  exact law_runG kin G.T.g G.T.b G.T.builtins G.T.nolimit hg hobj hints (Nat.le_trans hlen (Nat.le_trans hn2 (by decide))) room hF hb fun H hS => law_sp _ H a ns (Nat.le_trans hlen hn2) hS
theorem law_endG {l : PySem.W.OpenLaw} {w : World} {K : PySem.W.Frag} {mg : Str → Option Value} {fa : Addr} {k : Nat} (h : Heap) (hfa : mg "law" = some (.ref fa)) (F : ∀ base : Heap, GdG l.prog w K mg base "law" ["script"] k lawC) :
    ∃ fd : FuncData, (∀ (s : Shared) (v : Value), BindsTo s fd ⟨[v], []⟩ [("script", v)]) ∧ ∀ base : Heap, K.In base → base.Ns mainGlobals mg → FnG l.prog w K mg base k fa fd ["script"] (lawC.sp K) := by
  obtain ⟨f, fd, h1, h2, h3, h4, oc, od, osl, h5⟩ := F h
  rw [hfa] at h1
  cases h1
  refine ⟨fd, fun s v => .of_eq (h3 [v] rfl), fun base _ _ => ?_⟩
  obtain ⟨f', fd', g1, g2, g3, g4, oc', od', osl', g5⟩ := F base
  rw [hfa] at g1
  cases g1
  rw [h5] at g5
  cases g5
  exact g4
section
variable {P : Program} {w : World} {K : PySem.W.Frag} {mg : Str → Option Value} {base : Heap}
theorem gdG_ct {α : Type} {emb : α → List Dt} {pre : α → Prop} {res : α → Dt} {x : Str} {st : Stmt} {N ps : List Str} {k : Nat} (F : Df K mg x st ps) (S : FnScope N ps (defScope st)) (len : ∀ a, (emb a).length = ps.length) (t : TS)
    (hb : ∀ (f : Addr) (cdv : Value) (A : Around) (fs : List Env) (s : Shared) (H : Hp) (E : XK), Room k (A.deeper (PyProof.Rows.envOfC x (defScope st) s.heap.objs.size f cdv)) → A.guards = some [] → PSs (cxOf CX0 P w K mg base N x (defScope st) f cdv A fs s H E).nox (defBody st) t)
    (hs : ∀ (C : Cc K) a, pre a → Sj C t ((emb a).map Sl.d ++ List.replicate (N.length - ps.length) .no) (finT (res a))) : GdG P w K mg base x ps (k + 1) (CT emb pre res) := by
  refine gdG_of CT.mono F S (CT.len len) t hb ?_
  rintro C as R Er ⟨a, rfl, hp, hR⟩
  rw [List.length_map, len a]
  obtain ⟨h1, h2⟩ : (∀ ρ, back ((emb a).map Sl.d) ρ = (emb a).map Sl.d) ∧ ∀ ρ, backOk ((emb a).map Sl.d) ρ = true := ⟨fun ρ => (back_data (ds := emb a) (ρ := ρ)).1, fun ρ => (back_data (ds := emb a) (ρ := ρ)).2⟩
  exact sj_imp (hs C a hp) (fun ρ z => ⟨h2 ρ, by rw [h1, show Sl.d .non = .d (res a) from z]; exact hR⟩) (fun _ z => z) (fun _ z => z) (fun u ρ z => ⟨h2 ρ, by rw [h1, show u = .d (res a) from z]; exact hR⟩)
theorem gdG_cr {α : Type} {emb : α → List Dt} {pre : α → Prop} {res : α → Sl → Prop} {x : Str} {st : Stmt} {N ps : List Str} {k : Nat} (F : Df K mg x st ps) (S : FnScope N ps (defScope st)) (len : ∀ a, (emb a).length = ps.length) (t : TS)
    (hb : ∀ (f : Addr) (cdv : Value) (A : Around) (fs : List Env) (s : Shared) (H : Hp) (E : XK), Room k (A.deeper (PyProof.Rows.envOfC x (defScope st) s.heap.objs.size f cdv)) → A.guards = some [] → PSs (cxOf CX0 P w K mg base N x (defScope st) f cdv A fs s H E).nox (defBody st) t)
    (hs : ∀ (C : Cc K) a, pre a → Sj C t ((emb a).map Sl.d ++ List.replicate (N.length - ps.length) .no) (finR (res a))) : GdG P w K mg base x ps (k + 1) (DL.CR emb pre res) := by
  refine gdG_of CR.mono F S (CR.len len) t hb ?_
  rintro C as R Er ⟨a, rfl, hp, hR⟩
  rw [List.length_map, len a]
  obtain ⟨h1, h2⟩ : (∀ ρ, back ((emb a).map Sl.d) ρ = (emb a).map Sl.d) ∧ ∀ ρ, backOk ((emb a).map Sl.d) ρ = true := ⟨fun ρ => (back_data (ds := emb a) (ρ := ρ)).1, fun ρ => (back_data (ds := emb a) (ρ := ρ)).2⟩
  exact sj_imp (hs C a hp) (fun ρ z => ⟨h2 ρ, by rw [h1]; exact hR _ z⟩) (fun _ z => z) (fun _ z => z) (fun u ρ z => ⟨h2 ρ, by rw [h1]; exact hR _ z⟩)
theorem gdG_cb {α β : Type} {W : β → Wd} {emb : α → List Dt} {pre : β → α → Prop} {post : β → α → Sl → β → Prop} {x : Str} {st : Stmt} {N ps : List Str} {k : Nat} (F : Df K mg x st ps) (S : FnScope N ps (defScope st)) (len : ∀ a, (emb a).length + 1 = ps.length) (t : TS)
    (hb : ∀ (f : Addr) (cdv : Value) (A : Around) (fs : List Env) (s : Shared) (H : Hp) (E : XK), Room k (A.deeper (PyProof.Rows.envOfC x (defScope st) s.heap.objs.size f cdv)) → A.guards = some [] → PSs (cxOf CX0 P w K mg base N x (defScope st) f cdv A fs s H E).nox (defBody st) t)
    (hs : ∀ (C : Cc K) b a, pre b a → Sj C t (.w true (W b) :: (emb a).map Sl.d ++ List.replicate (N.length - ps.length) .no) (finB W (post b a))) : GdG P w K mg base x ps (k + 1) (CB W emb pre post) := by
  refine gdG_of CB.mono F S (CB.len len) t hb ?_
  rintro C as R Er ⟨b, a, rfl, hp, hR⟩
  rw [List.length_cons, List.length_map, len a]
  have out : ∀ {u : Sl} {ρ : List Sl}, (∃ b', ρ.head? = some (.w true (W b')) ∧ post b a u b') → backOk (.w true (W b) :: (emb a).map Sl.d) ρ = true ∧ R u (back (.w true (W b) :: (emb a).map Sl.d) ρ) := by
    rintro u ρ ⟨b', e, z⟩
    obtain ⟨h1, h2⟩ := back_data (ds := emb a) (ρ := ρ.tail)
    refine ⟨?_, ?_⟩
    · show (isQ ρ.head? && backOk ((emb a).map Sl.d) ρ.tail) = true
      rw [e, h2]
      rfl
    · show R u ((ρ.head?.getD .no) :: back ((emb a).map Sl.d) ρ.tail)
      rw [e, h1]
      exact hR _ _ z
  exact sj_imp (hs C b a hp) (fun _ z => out z) (fun _ z => z) (fun _ z => z) (fun _ _ z => out z)
end

end
section
/-! DL, part t: instances: owned, by their fields (data, owned lists, owned dicts); made, asked, changed. -/
inductive Fl where
  | d (d : Dt)
  | l (ds : List Dt)
  | m (m : List (Int × Dt))
  | w (W : Wd)
/-- a field of one cell -/
def cellQ : Fl → Bool
  | .l _ => true
  | .m _ => true
  | _ => false
def putFl (f : Str) (x : Fl) : List (Str × Fl) → List (Str × Fl)
  | [] => [(f, x)]
  | (g, y) :: r => if g = f then (g, x) :: r else (g, y) :: putFl f x r
inductive FO (K : PySem.W.Frag) (G H : Hp) : List (Str × V) → List (Str × Fl) → List Addr → Prop
  | nil : FO K G H [] [] []
  | d {f : Str} {v : V} {d : Dt} {vs : List (Str × V)} {fs : List (Str × Fl)} {cs : List Addr} : Dv K G v d → FO K G H vs fs cs → FO K G H ((f, v) :: vs) ((f, .d d) :: fs) cs
  | l {f : Str} {p : Addr} {xs : List V} {ds : List Dt} {vs : List (Str × V)} {fs : List (Str × Fl)} {cs : List Addr} : H p = some (.lst xs) → Dvs K G xs ds → FO K G H vs fs cs → FO K G H ((f, .ref p) :: vs) ((f, .l ds) :: fs) (p :: cs)
  | m {f : Str} {p : Addr} {xs : List (Key × V)} {ds : List (Int × Dt)} {vs : List (Str × V)} {fs : List (Str × Fl)} {cs : List Addr} : H p = some (.dK xs) → Dks K G xs ds → FO K G H vs fs cs → FO K G H ((f, .ref p) :: vs) ((f, .m ds) :: fs) (p :: cs)
  | w {f : Str} {v : V} {W : Wd} {fp : List Addr} {vs : List (Str × V)} {fs : List (Str × Fl)} {cs : List Addr} : W.W K G H v fp → FO K G H vs fs cs → FO K G H ((f, v) :: vs) ((f, .w W) :: fs) (fp ++ cs)
section
variable {K : PySem.W.Frag} {G G' H H' : Hp} {vs : List (Str × V)} {fs : List (Str × Fl)} {cs : List Addr}
theorem FO.up (h : FO K G H vs fs cs) (e : Same G G') : (∀ c ∈ cs, ∀ o, H c = some o → H' c = some o) → FO K G' H' vs fs cs := by
  induction h with
  | nil => exact fun _ => .nil
  | d a _ ih => exact fun k => .d (Dv.up e _ _ a) (ih k)
  | l a b _ ih => exact fun k => .l (k _ (List.mem_cons_self ..) _ a) (b.up e) (ih fun c hc => k c (List.mem_cons_of_mem _ hc))
  | m a b _ ih => exact fun k => .m (k _ (List.mem_cons_self ..) _ a) (b.up e) (ih fun c hc => k c (List.mem_cons_of_mem _ hc))
  | @w _ _ W _ _ _ _ a _ ih => exact fun k => .w (W.st a e fun c hc => k c (List.mem_append_left _ hc)) (ih fun c hc => k c (List.mem_append_right _ hc))
theorem look_pos {α : Type} {f g : Str} {x : α} {r : List (Str × α)} (h : g = f) : ((f, x) :: r).lookup g = some x := by
  rw [List.lookup_cons, show (g == f) = true from beq_iff_eq.mpr h]
theorem look_neg {α : Type} {f g : Str} {x : α} {r : List (Str × α)} (h : g ≠ f) : ((f, x) :: r).lookup g = r.lookup g := by
  rw [List.lookup_cons, show (g == f) = false from beq_eq_false_iff_ne.mpr h]
/-- what stands at a field -/
def FlAt (K : PySem.W.Frag) (G H : Hp) (cs : List Addr) (v : V) : Fl → Prop
  | Fl.d e => Dv K G v e
  | Fl.l ds => ∃ p xs, v = .ref p ∧ p ∈ cs ∧ H p = some (.lst xs) ∧ Dvs K G xs ds
  | Fl.m ds => ∃ p xs, v = .ref p ∧ p ∈ cs ∧ H p = some (.dK xs) ∧ Dks K G xs ds
  | Fl.w W => ∃ fp, (∀ c ∈ fp, c ∈ cs) ∧ W.W K G H v fp
theorem FlAt.more {c : Addr} {v : V} {x : Fl} (h : FlAt K G H cs v x) : FlAt K G H (c :: cs) v x := by
  cases x with
  | d _ => exact h
  | l _ => obtain ⟨p', xs', z1, z2, z3⟩ := h; exact ⟨p', xs', z1, List.mem_cons_of_mem _ z2, z3⟩
  | m _ => obtain ⟨p', xs', z1, z2, z3⟩ := h; exact ⟨p', xs', z1, List.mem_cons_of_mem _ z2, z3⟩
  | w W => obtain ⟨fp, z1, z2⟩ := h; exact ⟨fp, fun c hc => List.mem_cons_of_mem _ (z1 c hc), z2⟩
theorem FlAt.moreW {fp : List Addr} {v : V} {x : Fl} (h : FlAt K G H cs v x) : FlAt K G H (fp ++ cs) v x := by
  cases x with
  | d _ => exact h
  | l _ => obtain ⟨p', xs', z1, z2, z3⟩ := h; exact ⟨p', xs', z1, List.mem_append_right _ z2, z3⟩
  | m _ => obtain ⟨p', xs', z1, z2, z3⟩ := h; exact ⟨p', xs', z1, List.mem_append_right _ z2, z3⟩
  | w W => obtain ⟨fp, z1, z2⟩ := h; exact ⟨fp, fun c hc => List.mem_append_right _ (z1 c hc), z2⟩
theorem FlAt.mem {p : Addr} {x : Fl} (h : FlAt K G H cs (.ref p) x) (hx : cellQ x = true) : p ∈ cs := by
  cases x with
  | d d => cases hx
  | l _ => obtain ⟨p', _, z1, z2, _⟩ := h; cases z1; exact z2
  | m _ => obtain ⟨p', _, z1, z2, _⟩ := h; cases z1; exact z2
  | w W => cases hx
theorem FO.at {f : Str} {x : Fl} (h : FO K G H vs fs cs) (e : fs.lookup f = some x) : ∃ v, vs.lookup f = some v ∧ FlAt K G H cs v x := by
  induction h with
  | nil => cases e
  | @d g v d vs fs cs a _ ih =>
    by_cases c : f = g
    · rw [look_pos c] at e ⊢
      cases e
      exact ⟨v, rfl, a⟩
    · rw [look_neg c] at e ⊢
      exact ih e
  | @l g p xs ds vs fs cs a b _ ih =>
    by_cases c : f = g
    · rw [look_pos c] at e ⊢
      cases e
      exact ⟨_, rfl, p, xs, rfl, List.mem_cons_self .., a, b⟩
    · rw [look_neg c] at e ⊢
      obtain ⟨v, h1, h2⟩ := ih e
      exact ⟨v, h1, h2.more⟩
  | @m g p xs ds vs fs cs a b _ ih =>
    by_cases c : f = g
    · rw [look_pos c] at e ⊢
      cases e
      exact ⟨_, rfl, p, xs, rfl, List.mem_cons_self .., a, b⟩
    · rw [look_neg c] at e ⊢
      obtain ⟨v, h1, h2⟩ := ih e
      exact ⟨v, h1, h2.more⟩
  | @w g v W fp vs fs cs a _ ih =>
    by_cases c : f = g
    · rw [look_pos c] at e ⊢
      cases e
      exact ⟨_, rfl, fp, fun c hc => List.mem_append_left _ hc, a⟩
    · rw [look_neg c] at e ⊢
      obtain ⟨v, h1, h2⟩ := ih e
      exact ⟨v, h1, h2.moreW⟩
theorem FO.none {f : Str} (h : FO K G H vs fs cs) (e : fs.lookup f = .none) : vs.lookup f = .none := by
  induction h with
  | nil => rfl
  | @d g v d vs fs cs a _ ih =>
    by_cases c : f = g
    · rw [look_pos c] at e; cases e
    · rw [look_neg c] at e ⊢; exact ih e
  | @l g p xs ds vs fs cs a b _ ih =>
    by_cases c : f = g
    · rw [look_pos c] at e; cases e
    · rw [look_neg c] at e ⊢; exact ih e
  | @m g p xs ds vs fs cs a b _ ih =>
    by_cases c : f = g
    · rw [look_pos c] at e; cases e
    · rw [look_neg c] at e ⊢; exact ih e
  | @w g v W fp vs fs cs a _ ih =>
    by_cases c : f = g
    · rw [look_pos c] at e; cases e
    · rw [look_neg c] at e ⊢; exact ih e
/-- a cell is written -/
theorem FO.write {f : Str} {x y : Fl} {p : Addr} {o : HO} (nd : cs.Nodup) (h : FO K G H vs fs cs) (e : fs.lookup f = some x) (ev : vs.lookup f = some (.ref p)) (hx : cellQ x = true)
    (hy : ∀ {g : Str} {vs' : List (Str × V)} {fs' : List (Str × Fl)} {cs' : List Addr}, FO K G (upd H p o) vs' fs' cs' → FO K G (upd H p o) ((g, .ref p) :: vs') ((g, y) :: fs') (p :: cs')) : FO K G (upd H p o) vs (putFl f y fs) cs := by
  have away : ∀ {vs' : List (Str × V)} {fs' : List (Str × Fl)} {cs' : List Addr}, p ∉ cs' → FO K G H vs' fs' cs' → FO K G (upd H p o) vs' fs' cs' := fun {vs' fs' cs'} n q => q.up (Same.refl G) fun c hc o2 z => by
    have ne : c ≠ p := fun y => n (y ▸ hc)
    rw [upd_ne ne]; exact z
  induction h with
  | nil => cases e
  | @d g v d vs fs cs a _ ih =>
    unfold putFl
    by_cases c : f = g
    · rw [look_pos c] at e
      cases e
      cases hx
    · rw [look_neg c] at e ev
      rw [if_neg (Ne.symm c)]
      exact .d a (ih nd e ev)
  | @l g q xs ds vs fs cs a b r ih =>
    unfold putFl
    have nd' := List.nodup_cons.mp nd
    by_cases c : f = g
    · rw [look_pos c] at ev
      cases ev
      rw [if_pos c.symm]
      exact hy (away nd'.1 r)
    · rw [look_neg c] at e ev
      rw [if_neg (Ne.symm c)]
      have hp : p ∈ cs := by
        obtain ⟨v, h1, h2⟩ := r.at e
        rw [ev] at h1
        cases h1
        exact h2.mem hx
      have ne : q ≠ p := fun z => nd'.1 (z ▸ hp)
      exact .l (by rw [upd_ne ne]; exact a) b (ih nd'.2 e ev)
  | @m g q xs ds vs fs cs a b r ih =>
    unfold putFl
    have nd' := List.nodup_cons.mp nd
    by_cases c : f = g
    · rw [look_pos c] at ev
      cases ev
      rw [if_pos c.symm]
      exact hy (away nd'.1 r)
    · rw [look_neg c] at e ev
      rw [if_neg (Ne.symm c)]
      have hp : p ∈ cs := by
        obtain ⟨v, h1, h2⟩ := r.at e
        rw [ev] at h1
        cases h1
        exact h2.mem hx
      have ne : q ≠ p := fun z => nd'.1 (z ▸ hp)
      exact .m (by rw [upd_ne ne]; exact a) b (ih nd'.2 e ev)
  | @w g v W fp vs fs cs a r ih =>
    unfold putFl
    have nd' := List.nodup_append.mp nd
    by_cases c : f = g
    · rw [look_pos c] at e
      cases e
      cases hx
    · rw [look_neg c] at e ev
      rw [if_neg (Ne.symm c)]
      have hp : p ∈ cs := by
        obtain ⟨v, h1, h2⟩ := r.at e
        rw [ev] at h1
        cases h1
        exact h2.mem hx
      refine .w (W.st a (Same.refl G) fun c hc o2 z => ?_) (ih nd'.2.1 e ev)
      have ne : c ≠ p := fun y => nd'.2.2 c hc p hp y
      rw [upd_ne ne]; exact z
/-- a field's thing is another one behind something done to its cells -/
theorem FO.repl {f : Str} {W : Wd} {v : V} (nd : cs.Nodup) (h : FO K G H vs fs cs) (e : fs.lookup f = some (.w W)) (ev : vs.lookup f = some v) :
    ∃ fp, W.W K G H v fp ∧ (∀ c ∈ fp, c ∈ cs) ∧ fp.Nodup ∧ ∀ {G' H' : Hp} {W' : Wd} {fp' : List Addr}, Same G G' → (∀ c ∈ cs, c ∉ fp → ∀ o, H c = some o → H' c = some o) → W'.W K G' H' v fp' → fp'.Nodup → (∀ c ∈ fp', c ∈ fp ∨ c ∉ cs) →
      ∃ cs', FO K G' H' vs (putFl f (.w W') fs) cs' ∧ cs'.Nodup ∧ ∀ c ∈ cs', c ∈ fp' ∨ c ∈ cs := by
  induction h with
  | nil => cases e
  | @d g u d vs fs cs a r ih =>
    by_cases c : f = g
    · rw [look_pos c] at e; cases e
    · rw [look_neg c] at e ev
      obtain ⟨fp, k1, k2, k3, k4⟩ := ih nd e ev
      refine ⟨fp, k1, k2, k3, fun {G' H' W' fp'} s1 s2 s3 s4 s5 => ?_⟩
      obtain ⟨cs', l1, l2, l3⟩ := k4 s1 s2 s3 s4 s5
      unfold putFl
      rw [if_neg (Ne.symm c)]
      exact ⟨cs', .d (Dv.up s1 _ _ a) l1, l2, l3⟩
  | @l g p xs ds vs fs cs a b r ih =>
    have nd' := List.nodup_cons.mp nd
    by_cases c : f = g
    · rw [look_pos c] at e; cases e
    · rw [look_neg c] at e ev
      obtain ⟨fp, k1, k2, k3, k4⟩ := ih nd'.2 e ev
      have pf : p ∉ fp := fun z => nd'.1 (k2 p z)
      refine ⟨fp, k1, fun c hc => List.mem_cons_of_mem _ (k2 c hc), k3, fun {G' H' W' fp'} s1 s2 s3 s4 s5 => ?_⟩
      obtain ⟨cs', l1, l2, l3⟩ := k4 s1 (fun c hc => s2 c (List.mem_cons_of_mem _ hc)) s3 s4 (fun c hc => (s5 c hc).imp id fun y z => y (List.mem_cons_of_mem _ z))
      unfold putFl
      rw [if_neg (Ne.symm c)]
      refine ⟨p :: cs', .l (s2 p (List.mem_cons_self ..) pf _ a) (b.up s1) l1, List.nodup_cons.mpr ⟨fun z => ?_, l2⟩, fun z hz => ?_⟩
      · rcases l3 p z with y | y
        · rcases s5 p y with x | x
          · exact pf x
          · exact x (List.mem_cons_self ..)
        · exact nd'.1 y
      · rcases List.mem_cons.mp hz with rfl | y
        · exact .inr (List.mem_cons_self ..)
        · exact (l3 z y).imp id fun y => List.mem_cons_of_mem _ y
  | @m g p xs ds vs fs cs a b r ih =>
    have nd' := List.nodup_cons.mp nd
    by_cases c : f = g
    · rw [look_pos c] at e; cases e
    · rw [look_neg c] at e ev
      obtain ⟨fp, k1, k2, k3, k4⟩ := ih nd'.2 e ev
      have pf : p ∉ fp := fun z => nd'.1 (k2 p z)
      refine ⟨fp, k1, fun c hc => List.mem_cons_of_mem _ (k2 c hc), k3, fun {G' H' W' fp'} s1 s2 s3 s4 s5 => ?_⟩
      obtain ⟨cs', l1, l2, l3⟩ := k4 s1 (fun c hc => s2 c (List.mem_cons_of_mem _ hc)) s3 s4 (fun c hc => (s5 c hc).imp id fun y z => y (List.mem_cons_of_mem _ z))
      unfold putFl
      rw [if_neg (Ne.symm c)]
      refine ⟨p :: cs', .m (s2 p (List.mem_cons_self ..) pf _ a) (b.up s1) l1, List.nodup_cons.mpr ⟨fun z => ?_, l2⟩, fun z hz => ?_⟩
      · rcases l3 p z with y | y
        · rcases s5 p y with x | x
          · exact pf x
          · exact x (List.mem_cons_self ..)
        · exact nd'.1 y
      · rcases List.mem_cons.mp hz with rfl | y
        · exact .inr (List.mem_cons_self ..)
        · exact (l3 z y).imp id fun y => List.mem_cons_of_mem _ y
  | @w g u U fq vs fs cs a r ih =>
    have nd' := List.nodup_append.mp nd
    by_cases c : f = g
    · rw [look_pos c] at e ev
      cases e
      cases ev
      refine ⟨fq, a, fun c hc => List.mem_append_left _ hc, nd'.1, fun {G' H' W' fp'} s1 s2 s3 s4 s5 => ?_⟩
      unfold putFl
      rw [if_pos c.symm]
      refine ⟨fp' ++ cs, .w s3 (r.up s1 fun b hb o z => s2 b (List.mem_append_right _ hb) (fun y => nd'.2.2 b y b hb rfl) o z), List.nodup_append.mpr ⟨s4, nd'.2.1, fun x hx y hy z => ?_⟩, fun z hz => (List.mem_append.mp hz).imp id fun y => List.mem_append_right _ y⟩
      subst z
      rcases s5 x hx with y | y
      · exact nd'.2.2 x y x hy rfl
      · exact y (List.mem_append_right _ hy)
    · rw [look_neg c] at e ev
      obtain ⟨fp, k1, k2, k3, k4⟩ := ih nd'.2.1 e ev
      have pf : ∀ b ∈ fq, b ∉ fp := fun b hb z => nd'.2.2 b hb b (k2 b z) rfl
      refine ⟨fp, k1, fun c hc => List.mem_append_right _ (k2 c hc), k3, fun {G' H' W' fp'} s1 s2 s3 s4 s5 => ?_⟩
      obtain ⟨cs', l1, l2, l3⟩ := k4 s1 (fun c hc => s2 c (List.mem_append_right _ hc)) s3 s4 (fun c hc => (s5 c hc).imp id fun y z => y (List.mem_append_right _ z))
      unfold putFl
      rw [if_neg (Ne.symm c)]
      refine ⟨fq ++ cs', .w (U.st a s1 fun b hb o z => s2 b (List.mem_append_left _ hb) (pf b hb) o z) l1, List.nodup_append.mpr ⟨nd'.1, l2, fun x hx y hy z => ?_⟩, fun z hz => ?_⟩
      · subst z
        rcases l3 x hy with y | y
        · rcases s5 x y with z | z
          · exact pf x hx z
          · exact z (List.mem_append_left _ hx)
        · exact nd'.2.2 x hx x y rfl
      · rcases List.mem_append.mp hz with y | y
        · exact .inr (List.mem_append_left _ y)
        · exact (l3 z y).imp id fun y => List.mem_append_right _ y
/-- a field is stored anew -/
theorem FO.put {f : Str} {x : Fl} {v : V} {c1 : List Addr} (one : FO K G H [(f, v)] [(f, x)] c1) (h : FO K G H vs fs cs) (nd : (c1 ++ cs).Nodup) : ∃ cs', FO K G H (putF f v vs) (putFl f x fs) cs' ∧ cs'.Nodup ∧ ∀ c ∈ cs', c ∈ c1 ∨ c ∈ cs := by
  have glue : ∀ {g : Str} {vs' : List (Str × V)} {fs' : List (Str × Fl)} {cs' : List Addr}, FO K G H vs' fs' cs' → FO K G H ((g, v) :: vs') ((g, x) :: fs') (c1 ++ cs') := by
    intro g vs' fs' cs' r
    cases one with
    | d a t => cases t; exact .d a r
    | l a b t => cases t; exact .l a b r
    | m a b t => cases t; exact .m a b r
    | w a t => cases t; rw [List.append_nil]; exact .w a r
  induction h with
  | nil => exact ⟨c1 ++ [], glue .nil, nd, fun c hc => by simpa using hc⟩
  | @d g w d vs fs cs a r ih =>
    unfold putF putFl
    by_cases c : g = f
    · rw [if_pos c, if_pos c]
      exact ⟨c1 ++ cs, glue r, nd, fun z hz => List.mem_append.mp hz⟩
    · rw [if_neg c, if_neg c]
      obtain ⟨cs', k1, k2, k3⟩ := ih nd
      exact ⟨cs', .d a k1, k2, k3⟩
  | @l g p xs ds vs fs cs a b r ih =>
    have nd2 : (c1 ++ cs).Nodup := List.Nodup.sublist (List.Sublist.append_left (List.sublist_cons_self p cs) c1) nd
    have np : p ∉ c1 ∧ p ∉ cs := ⟨fun z => (List.nodup_append.mp nd).2.2 p z p (List.mem_cons_self ..) rfl, (List.nodup_cons.mp (List.nodup_append.mp nd).2.1).1⟩
    unfold putF putFl
    by_cases c : g = f
    · rw [if_pos c, if_pos c]
      exact ⟨c1 ++ cs, glue r, nd2, fun z hz => (List.mem_append.mp hz).imp id fun y => List.mem_cons_of_mem _ y⟩
    · rw [if_neg c, if_neg c]
      obtain ⟨cs', k1, k2, k3⟩ := ih nd2
      refine ⟨p :: cs', .l a b k1, List.nodup_cons.mpr ⟨fun z => ?_, k2⟩, fun z hz => ?_⟩
      · rcases k3 p z with y | y
        · exact np.1 y
        · exact np.2 y
      · rcases List.mem_cons.mp hz with rfl | y
        · exact .inr (List.mem_cons_self ..)
        · exact (k3 z y).imp id fun y => List.mem_cons_of_mem _ y
  | @m g p xs ds vs fs cs a b r ih =>
    have nd2 : (c1 ++ cs).Nodup := List.Nodup.sublist (List.Sublist.append_left (List.sublist_cons_self p cs) c1) nd
    have np : p ∉ c1 ∧ p ∉ cs := ⟨fun z => (List.nodup_append.mp nd).2.2 p z p (List.mem_cons_self ..) rfl, (List.nodup_cons.mp (List.nodup_append.mp nd).2.1).1⟩
    unfold putF putFl
    by_cases c : g = f
    · rw [if_pos c, if_pos c]
      exact ⟨c1 ++ cs, glue r, nd2, fun z hz => (List.mem_append.mp hz).imp id fun y => List.mem_cons_of_mem _ y⟩
    · rw [if_neg c, if_neg c]
      obtain ⟨cs', k1, k2, k3⟩ := ih nd2
      refine ⟨p :: cs', .m a b k1, List.nodup_cons.mpr ⟨fun z => ?_, k2⟩, fun z hz => ?_⟩
      · rcases k3 p z with y | y
        · exact np.1 y
        · exact np.2 y
      · rcases List.mem_cons.mp hz with rfl | y
        · exact .inr (List.mem_cons_self ..)
        · exact (k3 z y).imp id fun y => List.mem_cons_of_mem _ y
  | @w g u U fq vs fs cs a r ih =>
    have nd0 := List.nodup_append.mp nd
    have ndw := List.nodup_append.mp nd0.2.1
    have nd2 : (c1 ++ cs).Nodup := List.nodup_append.mpr ⟨nd0.1, ndw.2.1, fun x hx y hy z => nd0.2.2 x hx y (List.mem_append_right _ hy) z⟩
    unfold putF putFl
    by_cases c : g = f
    · rw [if_pos c, if_pos c]
      exact ⟨c1 ++ cs, glue r, nd2, fun z hz => (List.mem_append.mp hz).imp id fun y => List.mem_append_right _ y⟩
    · rw [if_neg c, if_neg c]
      obtain ⟨cs', k1, k2, k3⟩ := ih nd2
      refine ⟨fq ++ cs', .w a k1, List.nodup_append.mpr ⟨ndw.1, k2, fun x hx y hy z => ?_⟩, fun z hz => ?_⟩
      · subst z
        rcases k3 x hy with y | y
        · exact nd0.2.2 x y x (List.mem_append_left _ hx) rfl
        · exact ndw.2.2 x hx x y rfl
      · rcases List.mem_append.mp hz with y | y
        · exact .inr (List.mem_append_left _ y)
        · exact (k3 z y).imp id fun y => List.mem_append_right _ y
end
/-- an owned instance at a, its attributes' values vs -/
def iwA (Cl a : Addr) (vs : List (Str × V)) (fs : List (Str × Fl)) : Wd where
  W := fun K G H v fp => v = .ref a ∧ ∃ dx cs, H a = some (.ins Cl dx vs) ∧ H dx = some (.own a) ∧ FO K G H vs fs cs ∧ fp = a :: dx :: cs ∧ (a :: dx :: cs).Nodup
  st := by
    rintro K G G' H H' v fp ⟨rfl, dx, cs, h1, h2, h3, rfl, h5⟩ e k
    exact ⟨rfl, dx, cs, k a (List.mem_cons_self ..) _ h1, k dx (List.mem_cons_of_mem _ (List.mem_cons_self ..)) _ h2, h3.up e fun c hc => k c (List.mem_cons_of_mem _ (List.mem_cons_of_mem _ hc)), rfl, h5⟩
/-- .. wherever it stands -/
def iw (Cl : Addr) (fs : List (Str × Fl)) : Wd where
  W := fun K G H v fp => ∃ a vs, (iwA Cl a vs fs).W K G H v fp
  st := by
    rintro K G G' H H' v fp ⟨a, vs, h⟩ e k
    exact ⟨a, vs, (iwA Cl a vs fs).st h e k⟩
def FldOk (K : PySem.W.Frag) (Cl : Addr) (f : Str) : Prop := Cls K Cl ∧ NoAttr K Cl f
section
variable {K : PySem.W.Frag} {C : Cc K} {ρ : List Sl} {P : En} {ta tb te : TE} {t u : TT} {ts us : TS}
/-- an owned thing, told less of or more of -/
theorem Ok.re {G H : Hp} {σ : St} {fp : Nat → List Addr} {i : Nat} {q : Bool} {W W' : Wd} (O : Ok C G H σ ρ fp) (hi : ρ[i]? = some (.w q W)) (h : ∀ v, σ[i]? = some (some v) → W'.W K G H v (fp i)) : Ok C G H σ (ρ.set i (.w q W')) fp := by
  have hl : i < ρ.length := (List.getElem?_eq_some_iff.mp hi).1
  exact { O with
    len := by rw [List.length_set]; exact O.len
    sl := fun j s hs => by
      by_cases e : j = i
      · subst e
        rw [List.getElem?_set_self hl] at hs
        cases hs
        obtain ⟨v, h1, h2, h3⟩ := O.sl j _ hi
        exact ⟨v, h1, h v h1, h3⟩
      · rw [List.getElem?_set_ne (Ne.symm e)] at hs
        exact O.sl j s hs
    em := fun j hj => by
      by_cases e : j = i
      · subst e
        exact absurd (List.getElem?_set_self hl) (hj q W')
      · refine O.em j fun q2 W2 z => hj q2 W2 ?_
        rw [List.getElem?_set_ne (Ne.symm e)]
        exact z }
section
variable {i : Nat} {q : Bool} {Cl : Addr} {fs : List (Str × Fl)}
theorem Ok.openI {G H : Hp} {σ : St} {fp : Nat → List Addr} (O : Ok C G H σ ρ fp) (hi : ρ[i]? = some (.w q (iw Cl fs))) : ∃ a vs, Ok C G H σ (ρ.set i (.w q (iwA Cl a vs fs))) fp := by
  obtain ⟨v, h1, ⟨a, vs, h2⟩, _⟩ := O.sl i _ hi
  refine ⟨a, vs, O.re hi fun v' e => ?_⟩
  rw [h1] at e
  cases e
  exact h2
theorem Ok.closeI {G H : Hp} {σ : St} {fp : Nat → List Addr} {a : Addr} {vs : List (Str × V)} (O : Ok C G H σ ρ fp) (hi : ρ[i]? = some (.w q (iwA Cl a vs fs))) : Ok C G H σ (ρ.set i (.w q (iw Cl fs))) fp := by
  obtain ⟨v, h1, h2, _⟩ := O.sl i _ hi
  refine O.re hi fun v' e => ?_
  rw [h1] at e
  cases e
  exact ⟨a, vs, h2⟩
theorem sj_openI (hi : ρ[i]? = some (.w q (iw Cl fs))) (k : ∀ a vs, Sj C ts (ρ.set i (.w q (iwA Cl a vs fs))) P) : Sj C ts ρ P := fun G H σ fp O D E => by
  obtain ⟨a, vs, O'⟩ := O.openI hi
  exact k a vs G H σ fp O' D E
theorem evd_openI {R : Dt → List Sl → Prop} (hi : ρ[i]? = some (.w q (iw Cl fs))) (k : ∀ a vs, EvD C te (ρ.set i (.w q (iwA Cl a vs fs))) R) : EvD C te ρ R := fun G H σ fp O Q z => by
  obtain ⟨a, vs, O'⟩ := O.openI hi
  exact k a vs G H σ fp O' Q z
theorem evt_openI {R : Bool → List Sl → Prop} (hi : ρ[i]? = some (.w q (iw Cl fs))) (k : ∀ a vs, EvT C t (ρ.set i (.w q (iwA Cl a vs fs))) R) : EvT C t ρ R := fun G H σ fp O Q z => by
  obtain ⟨a, vs, O'⟩ := O.openI hi
  exact k a vs G H σ fp O' Q z
theorem sj_closeI {a : Addr} {vs : List (Str × V)} (hi : ρ[i]? = some (.w q (iwA Cl a vs fs))) (k : Sj C ts (ρ.set i (.w q (iw Cl fs))) P) : Sj C ts ρ P := fun G H σ fp O D E => k G H σ fp (O.closeI hi) D E
theorem evd_closeI {R : Dt → List Sl → Prop} {a : Addr} {vs : List (Str × V)} (hi : ρ[i]? = some (.w q (iwA Cl a vs fs))) (k : EvD C te (ρ.set i (.w q (iw Cl fs))) R) : EvD C te ρ R := fun G H σ fp O Q z => k G H σ fp (O.closeI hi) Q z
/-! what a field tells -/
theorem fld_run {G H : Hp} {σ : St} {fp : Nat → List Addr} {a : Addr} {vs : List (Str × V)} {f : Str} {v : V} {Q : VK} (O : Ok C G H σ ρ fp) (hi : ρ[i]? = some (.w q (iwA Cl a vs fs))) (ok : FldOk K Cl f) (e : vs.lookup f = some v) (z : Q v H) : tFld K (tVar i) f σ H Q := by
  obtain ⟨u, h1, ⟨rfl, dx, cs, h2, h3, h4, h5, h6⟩, _⟩ := O.sl i _ hi
  exact ⟨_, h1, a, Cl, dx, vs, v, rfl, h2, ok.1, ok.2, e, z⟩
theorem fld_at {G H : Hp} {σ : St} {fp : Nat → List Addr} {a : Addr} {vs : List (Str × V)} {f : Str} {x : Fl} (O : Ok C G H σ ρ fp) (hi : ρ[i]? = some (.w q (iwA Cl a vs fs))) (e : fs.lookup f = some x) : ∃ v cs, vs.lookup f = some v ∧ FlAt K G H cs v x := by
  obtain ⟨u, h1, ⟨rfl, dx, cs, h2, h3, h4, h5, h6⟩, _⟩ := O.sl i _ hi
  obtain ⟨v, k1, k2⟩ := h4.at e
  exact ⟨v, cs, k1, k2⟩
theorem evd_fld {R : Dt → List Sl → Prop} {a : Addr} {vs : List (Str × V)} {f : Str} {d : Dt} (hi : ρ[i]? = some (.w q (iwA Cl a vs fs))) (ok : FldOk K Cl f) (e : fs.lookup f = some (.d d)) (k : R d ρ) : EvD C (tFld K (tVar i) f) ρ R := fun G H σ fp O Q z => by
  obtain ⟨v, cs, h1, h2⟩ := fld_at O hi e
  exact fld_run O hi ok h1 (z v G H d ρ fp (Same.refl G) O h2 k)
/-- a cell of an instance is written -/
theorem Ok.cell {G H : Hp} {σ : St} {fp : Nat → List Addr} {a p : Addr} {vs : List (Str × V)} {f : Str} {x y : Fl} {o : HO} (O : Ok C G H σ ρ fp) (hi : ρ[i]? = some (.w q (iwA Cl a vs fs))) (e : fs.lookup f = some x) (ev : vs.lookup f = some (.ref p)) (hx : cellQ x = true)
    (hy : ∀ {g : Str} {vs' : List (Str × V)} {fs' : List (Str × Fl)} {cs' : List Addr}, FO K G (upd H p o) vs' fs' cs' → FO K G (upd H p o) ((g, .ref p) :: vs') ((g, y) :: fs') (p :: cs')) :
    ∃ fp', Ok C G (upd H p o) σ (ρ.set i (.w q (iwA Cl a vs (putFl f y fs)))) fp' := by
  obtain ⟨u, h1, ⟨rfl, dx, cs, h2, h3, h4, h5, h6⟩, _⟩ := O.sl i _ hi
  have hp : p ∈ cs := by
    obtain ⟨v, k1, k2⟩ := h4.at e
    rw [ev] at k1
    cases k1
    exact k2.mem hx
  have n1 := List.nodup_cons.mp h6
  have n2 := List.nodup_cons.mp n1.2
  have pa : a ≠ p := fun z => n1.1 (z ▸ List.mem_cons_of_mem _ hp)
  have pd : dx ≠ p := fun z => n2.1 (z ▸ hp)
  have pm : p ∈ fp i := by rw [h5]; exact List.mem_cons_of_mem _ (List.mem_cons_of_mem _ hp)
  obtain ⟨g, _, _⟩ := O.fo i p pm
  refine ⟨_, O.write (G' := G) (W' := iwA Cl a vs (putFl f y fs)) (fv' := fp i) hi (Same.refl G) (fun b w z => ?_) (fun _ _ z => .inl z) (fun b w nb z => ?_) (fun b z => ?_) (fun b hb => ?_) (fun b hb => (O.fo i b hb).1) fun v hv => ?_⟩
  · have ne : b ≠ p := ne_of_none z g
    rw [upd_ne ne]; exact O.e1 b w z
  · have ne : b ≠ p := fun z => nb (z ▸ pm)
    rw [upd_ne ne]; exact z
  · by_cases c : b = p
    · subst c; rw [upd_same] at z; cases z
    · rw [upd_ne c] at z; exact z
  · refine ⟨.inl hb, ?_⟩
    by_cases c : b = p
    · subst c; exact ⟨_, upd_same⟩
    · obtain ⟨w, hw⟩ := (O.fo i b hb).2.1
      exact ⟨w, by rw [upd_ne c]; exact hw⟩
  · rw [h1] at hv
    cases hv
    exact ⟨rfl, dx, cs, by rw [upd_ne pa]; exact h2, by rw [upd_ne pd]; exact h3, h4.write n2.2 e ev hx hy, h5, h6⟩
theorem Ok.cellL {G H : Hp} {σ : St} {fp : Nat → List Addr} {a p : Addr} {vs : List (Str × V)} {f : Str} {ds ds' : List Dt} {xs' : List V} (O : Ok C G H σ ρ fp) (hi : ρ[i]? = some (.w q (iwA Cl a vs fs))) (e : fs.lookup f = some (.l ds)) (ev : vs.lookup f = some (.ref p)) (hd : Dvs K G xs' ds') :
    ∃ fp', Ok C G (upd H p (.lst xs')) σ (ρ.set i (.w q (iwA Cl a vs (putFl f (.l ds') fs)))) fp' := O.cell hi e ev rfl fun r => .l upd_same hd r
theorem Ok.cellM {G H : Hp} {σ : St} {fp : Nat → List Addr} {a p : Addr} {vs : List (Str × V)} {f : Str} {ds ds' : List (Int × Dt)} {xs' : List (Key × V)} (O : Ok C G H σ ρ fp) (hi : ρ[i]? = some (.w q (iwA Cl a vs fs))) (e : fs.lookup f = some (.m ds)) (ev : vs.lookup f = some (.ref p)) (hd : Dks K G xs' ds') :
    ∃ fp', Ok C G (upd H p (.dK xs')) σ (ρ.set i (.w q (iwA Cl a vs (putFl f (.m ds') fs)))) fp' := O.cell hi e ev rfl fun r => .m upd_same hd r
/-- an owned field is looked at, and may become another thing -/
theorem Ok.fieldW {G H : Hp} {σ : St} {fp : Nat → List Addr} {a : Addr} {vs : List (Str × V)} {f : Str} {W : Wd} (O : Ok C G H σ ρ fp) (hi : ρ[i]? = some (.w q (iwA Cl a vs fs))) (e : fs.lookup f = some (.w W)) :
    ∃ v fq, vs.lookup f = some v ∧ W.W K G H v fq ∧ (∀ c ∈ fq, c ∈ fp i) ∧ fq.Nodup ∧ ∀ {G' H' : Hp} {W' : Wd} {fq' : List Addr}, Same G G' → Same G' H' → (∀ a o, G' a = some o → G a = some o ∨ H a = none) → (∀ a o, a ∉ fq → H a = some o → H' a = some o) → (∀ a, H' a = none → H a = none) →
      (∀ c ∈ fq', (c ∈ fq ∨ H c = none) ∧ ∃ o, H' c = some o) → (∀ c ∈ fq', G' c = none) → fq'.Nodup → W'.W K G' H' v fq' → ∃ fp', Ok C G' H' σ (ρ.set i (.w q (iwA Cl a vs (putFl f (.w W') fs)))) fp' := by
  obtain ⟨u, h1, ⟨rfl, dx, cs, h2, h3, h4, h5, h6⟩, _⟩ := O.sl i _ hi
  obtain ⟨v, g1, _⟩ := h4.at e
  have n1 := List.nodup_cons.mp h6
  have n2 := List.nodup_cons.mp n1.2
  obtain ⟨fq, k1, k2, k3, k4⟩ := h4.repl n2.2 e g1
  have cm : ∀ c ∈ cs, c ∈ fp i := fun c hc => by rw [h5]; exact List.mem_cons_of_mem _ (List.mem_cons_of_mem _ hc)
  have am : a ∈ fp i := by rw [h5]; exact List.mem_cons_self ..
  have dm : dx ∈ fp i := by rw [h5]; exact List.mem_cons_of_mem _ (List.mem_cons_self ..)
  have aq : a ∉ fq := fun z => n1.1 (List.mem_cons_of_mem _ (k2 a z))
  have dq : dx ∉ fq := fun z => n2.1 (k2 dx z)
  refine ⟨v, fq, g1, k1, fun c hc => cm c (k2 c hc), k3, fun {G' H' W' fq'} s1 s2 s3 s4 s5 s6 s7 s8 s9 => ?_⟩
  have old : ∀ c ∈ fp i, c ∉ fq → H' c = H c := fun c hc hn => by
    obtain ⟨o, ho⟩ := (O.fo i c hc).2.1
    rw [ho]
    exact s4 c o hn ho
  obtain ⟨cs', l1, l2, l3⟩ := k4 s1 (fun c hc hn o z => s4 c o hn z) s9 s8 (fun c hc => by
    rcases (s6 c hc).1 with y | y
    · exact .inl y
    · refine .inr fun z => ?_
      obtain ⟨o, ho⟩ := (O.fo i c (cm c z)).2.1
      rw [y] at ho
      cases ho)
  have from' : ∀ c ∈ cs', c ∈ fq' ∨ c ∈ fp i := fun c hc => (l3 c hc).imp id (cm c)
  have free : ∀ c ∈ fp i, G' c = none := fun c hc => by
    obtain ⟨y1, ⟨o, y2⟩, _⟩ := O.fo i c hc
    cases z : G' c with
    | none => rfl
    | some w =>
      rcases s3 c w z with x | x
      · rw [y1] at x; cases x
      · rw [y2] at x; cases x
  have has : ∀ c ∈ fp i, ∃ o, H' c = some o := fun c hc => by
    obtain ⟨o, ho⟩ := (O.fo i c hc).2.1
    cases z : H' c with
    | some w => exact ⟨w, rfl⟩
    | none => rw [s5 c z] at ho; cases ho
  have nin : ∀ b ∈ fp i, b ∉ fq → b ∉ fq' := fun b hb hn z => by
    rcases (s6 b z).1 with y | y
    · exact hn y
    · obtain ⟨o, ho⟩ := (O.fo i b hb).2.1
      rw [y] at ho; cases ho
  refine ⟨_, O.write (G' := G') (W' := iwA Cl a vs (putFl f (.w W') fs)) (fv' := a :: dx :: cs') hi s1 s2 s3 (fun b o nb z => s4 b o (fun y => nb (cm b (k2 b y))) z) s5 (fun b hb => ?_) (fun b hb => ?_) fun v' hv => ?_⟩
  · rcases List.mem_cons.mp hb with rfl | hb
    · exact ⟨.inl am, has _ am⟩
    rcases List.mem_cons.mp hb with rfl | hb
    · exact ⟨.inl dm, has _ dm⟩
    rcases from' b hb with y | y
    · refine ⟨?_, (s6 b y).2⟩
      exact (s6 b y).1.imp (fun z => cm b (k2 b z)) id
    · exact ⟨.inl y, has b y⟩
  · rcases List.mem_cons.mp hb with rfl | hb
    · exact free _ am
    rcases List.mem_cons.mp hb with rfl | hb
    · exact free _ dm
    rcases from' b hb with y | y
    · exact s7 b y
    · exact free b y
  · rw [h1] at hv
    cases hv
    refine ⟨rfl, dx, cs', by rw [old a am aq]; exact h2, by rw [old dx dm dq]; exact h3, l1, rfl, List.nodup_cons.mpr ⟨fun z => ?_, List.nodup_cons.mpr ⟨fun z => ?_, l2⟩⟩⟩
    · rcases List.mem_cons.mp z with y | y
      · exact n1.1 (y ▸ List.mem_cons_self ..)
      · rcases l3 a y with x | x
        · exact nin a am aq x
        · exact n1.1 (List.mem_cons_of_mem _ x)
    · rcases l3 dx z with x | x
      · exact nin dx dm dq x
      · exact n2.1 x
end
end

end
section
/-! DL, part u: what is done with the fields of an owned instance. -/
section
variable {K : PySem.W.Frag} {C : Cc K} {ρ : List Sl} {P : En} {ta tb te : TE} {t u : TT} {ts us : TS} {i : Nat} {q : Bool} {Cl a : Addr} {vs : List (Str × V)} {fs : List (Str × Fl)} {f : Str}
theorem fldL {G H : Hp} {σ : St} {fp : Nat → List Addr} {ds : List Dt} (O : Ok C G H σ ρ fp) (hi : ρ[i]? = some (.w q (iwA Cl a vs fs))) (e : fs.lookup f = some (.l ds)) : ∃ p xs, vs.lookup f = some (.ref p) ∧ H p = some (.lst xs) ∧ Dvs K G xs ds := by
  obtain ⟨v, cs, h1, p, xs, rfl, _, h2, h3⟩ := fld_at O hi e
  exact ⟨p, xs, h1, h2, h3⟩
theorem fldM {G H : Hp} {σ : St} {fp : Nat → List Addr} {ds : List (Int × Dt)} (O : Ok C G H σ ρ fp) (hi : ρ[i]? = some (.w q (iwA Cl a vs fs))) (e : fs.lookup f = some (.m ds)) : ∃ p xs, vs.lookup f = some (.ref p) ∧ H p = some (.dK xs) ∧ Dks K G xs ds := by
  obtain ⟨v, cs, h1, p, xs, rfl, _, h2, h3⟩ := fld_at O hi e
  exact ⟨p, xs, h1, h2, h3⟩
theorem evd_lenF {R : Dt → List Sl → Prop} {ds : List Dt} (hi : ρ[i]? = some (.w q (iwA Cl a vs fs))) (ok : FldOk K Cl f) (e : fs.lookup f = some (.l ds)) (k : R (.int ds.length) ρ) : EvD C (tCB (rLenX K) (tCons (tFld K (tVar i) f) tNil)) ρ R := fun G H σ fp O Q z => by
  obtain ⟨p, xs, h1, h2, h3⟩ := fldL O hi e
  exact fld_run O hi ok h1 (.inl ⟨p, xs, rfl, .inl (.inl (.inl h2)), by rw [h3.len]; exact z _ G H _ ρ fp (Same.refl G) O (.int _) k⟩)
theorem evd_lenM {R : Dt → List Sl → Prop} {ds : List (Int × Dt)} (hi : ρ[i]? = some (.w q (iwA Cl a vs fs))) (ok : FldOk K Cl f) (e : fs.lookup f = some (.m ds)) (k : R (.int ds.length) ρ) : EvD C (tCB (rLenX K) (tCons (tFld K (tVar i) f) tNil)) ρ R := fun G H σ fp O Q z => by
  obtain ⟨p, xs, h1, h2, h3⟩ := fldM O hi e
  exact fld_run O hi ok h1 (.inr (.inr ⟨p, xs, rfl, h2, by rw [h3.len]; exact z _ G H _ ρ fp (Same.refl G) O (.int _) k⟩))
theorem ev_listF {R : Sl → List Sl → Prop} {ds : List Dt} (hi : ρ[i]? = some (.w q (iwA Cl a vs fs))) (ok : FldOk K Cl f) (e : fs.lookup f = some (.l ds)) (k : R (.l ds) ρ) : Ev C (tCB (rListQ K) (tCons (tFld K (tVar i) f) tNil)) ρ R := fun G H σ fp O Q z => by
  obtain ⟨p, xs, h1, h2, h3⟩ := fldL O hi e
  exact fld_run O hi ok h1 ⟨p, xs, rfl, .inl (.inl (.inl h2)), fun l hl => z _ G _ _ ρ fp [l] (Same.refl G) (O.newL hl h3) k⟩
theorem evd_ixF {R : Dt → List Sl → Prop} {ds0 : List Dt} (hi : ρ[i]? = some (.w q (iwA Cl a vs fs))) (ok : FldOk K Cl f) (e : fs.lookup f = some (.l ds0))
    (h : EvD C tb ρ fun y ρ1 => asI (fun j => ∃ q fs ds d, ρ1[i]? = some (.w q (iwA Cl a vs fs)) ∧ fs.lookup f = some (.l ds) ∧ atI ds j = some d ∧ R d ρ1) y) : EvD C (tOp (rIx K) (tFld K (tVar i) f) tb) ρ R := fun G H σ fp O Q z => by
  obtain ⟨p, xs, h1, _, _⟩ := fldL O hi e
  refine fld_run O hi ok h1 (h G H σ fp O _ fun y G1 H1 d ρ1 fp1 e1 O1 D1 r => ?_)
  cases d with
  | int j =>
    cases D1
    obtain ⟨q2, fs2, ds2, d2, k1, k2, k3, k4⟩ := r
    obtain ⟨p', xs', g1, g2, g3⟩ := fldL O1 k1 k2
    rw [h1] at g1
    cases g1
    obtain ⟨w, w1, w2⟩ := atI_dvs g3 k3
    exact .inl ⟨p, xs', j, w, rfl, rfl, .inl (.inl g2), w1, z w G1 H1 d2 ρ1 fp1 e1 O1 w2 k4⟩
  | _ => exact r.elim
theorem evd_dgetF {R : Dt → List Sl → Prop} {m0 : List (Int × Dt)} (hi : ρ[i]? = some (.w q (iwA Cl a vs fs))) (ok : FldOk K Cl f) (e : fs.lookup f = some (.m m0))
    (h : EvD C tb ρ fun y ρ1 => asI (fun j => ∃ q fs m d, ρ1[i]? = some (.w q (iwA Cl a vs fs)) ∧ fs.lookup f = some (.m m) ∧ valD m j = some d ∧ R d ρ1) y) : EvD C (tDGet (tFld K (tVar i) f) tb) ρ R := fun G H σ fp O Q z => by
  obtain ⟨p, xs, h1, _, _⟩ := fldM O hi e
  refine fld_run O hi ok h1 (h G H σ fp O _ fun y G1 H1 d ρ1 fp1 e1 O1 D1 r => ?_)
  cases d with
  | int j =>
    cases D1
    obtain ⟨q2, fs2, m2, d2, k1, k2, k3, k4⟩ := r
    obtain ⟨p', xs', g1, g2, g3⟩ := fldM O1 k1 k2
    rw [h1] at g1
    cases g1
    rcases g3.val j with ⟨_, y⟩ | ⟨w, d', w1, w2, w3⟩
    · rw [k3] at y; cases y
    · rw [k3] at w2
      cases w2
      exact ⟨p, w, rfl, .inl ⟨xs', .inl j, .inl g2, rfl, w1.symm⟩, z w G1 H1 d2 ρ1 fp1 e1 O1 w3 k4⟩
  | _ => exact r.elim
theorem evd_dinF {R : Dt → List Sl → Prop} (ok : FldOk K Cl f) (h : EvD C tb ρ fun y ρ1 => asI (fun j => ∃ q a vs fs m, ρ1[i]? = some (.w q (iwA Cl a vs fs)) ∧ fs.lookup f = some (.m m) ∧ R (.bl (valD m j).isSome) ρ1) y) : EvD C (tDIn tb (tFld K (tVar i) f)) ρ R := fun G H σ fp O Q z => by
  refine h G H σ fp O _ fun y G1 H1 d ρ1 fp1 e1 O1 D1 r => ?_
  cases d with
  | int j =>
    cases D1
    obtain ⟨q2, a2, vs2, fs2, m2, k1, k2, k4⟩ := r
    obtain ⟨p', xs', g1, g2, g3⟩ := fldM O1 k1 k2
    refine fld_run O1 k1 ok g1 ⟨p', _, rfl, .inl ⟨xs', .inl j, .inl g2, rfl, rfl⟩, ?_⟩
    rw [g3.val_isSome]
    exact z _ G1 H1 _ ρ1 fp1 e1 O1 (.bl _) k4
  | _ => exact r.elim
theorem evd_dninF {R : Dt → List Sl → Prop} (ok : FldOk K Cl f) (h : EvD C tb ρ fun y ρ1 => asI (fun j => ∃ q a vs fs m, ρ1[i]? = some (.w q (iwA Cl a vs fs)) ∧ fs.lookup f = some (.m m) ∧ R (.bl (!(valD m j).isSome)) ρ1) y) : EvD C (tDNotIn tb (tFld K (tVar i) f)) ρ R := fun G H σ fp O Q z => by
  refine h G H σ fp O _ fun y G1 H1 d ρ1 fp1 e1 O1 D1 r => ?_
  cases d with
  | int j =>
    cases D1
    obtain ⟨q2, a2, vs2, fs2, m2, k1, k2, k4⟩ := r
    obtain ⟨p', xs', g1, g2, g3⟩ := fldM O1 k1 k2
    refine fld_run O1 k1 ok g1 ⟨p', _, rfl, .inl ⟨xs', .inl j, .inl g2, rfl, rfl⟩, ?_⟩
    rw [g3.val_isSome]
    exact z _ G1 H1 _ ρ1 fp1 e1 O1 (.bl _) k4
  | _ => exact r.elim
/-- self.f[e] = e' -/
theorem sj_dputF (ok : FldOk K Cl f) (h : EvD C te ρ fun d ρ1 => ∃ q a vs fs m0, ρ1[i]? = some (.w q (iwA Cl a vs fs)) ∧ fs.lookup f = some (.m m0) ∧ EvD C tb ρ1 fun y ρ' => asI (fun j => ∃ q fs m, ρ'[i]? = some (.w q (iwA Cl a vs fs)) ∧ fs.lookup f = some (.m m) ∧ m.length < 1000000 ∧ P.nx (ρ'.set i (.w q (iwA Cl a vs (putFl f (.m (putD m j d)) fs))))) y) :
    Sj C (sDPut (tFld K (tVar i) f) tb te) ρ P := fun G H σ fp O D E => by
  refine h G H σ fp O _ fun v G1 H1 d ρ1 fp1 e1 O1 D1 r => ?_
  obtain ⟨q0, a, vs, fs, m0, k1, k2, r⟩ := r
  obtain ⟨p, xs, h1, _, _⟩ := fldM O1 k1 k2
  refine fld_run O1 k1 ok h1 (r G1 H1 σ fp1 O1 _ fun y G2 H2 d2 ρ2 fp2 e2 O2 D2 r2 => ?_)
  cases d2 with
  | int j =>
    cases D2
    obtain ⟨q2, fs2, m2, l1, l2, l3, l4⟩ := r2
    obtain ⟨p', xs', g1, g2, g3⟩ := fldM O2 l1 l2
    rw [h1] at g1
    cases g1
    obtain ⟨fp3, O3⟩ := O2.cellM l1 l2 h1 (g3.put j (Dv.up e2 d v D1))
    exact ⟨p, _, rfl, .inl ⟨xs', .inl j, g2, rfl, by rw [g3.len]; exact Nat.lt_of_lt_of_le l3 (by decide), rfl⟩, E.nx G2 _ σ _ fp3 (e1.trans e2) O3 l4⟩
  | _ => exact r2.elim
/-- self.f[e] op= e' -/
theorem sj_daugF {g : Int → Int → Int} {m0 : List (Int × Dt)} (hi : ρ[i]? = some (.w q (iwA Cl a vs fs))) (ok : FldOk K Cl f) (e : fs.lookup f = some (.m m0))
    (h : EvD C tb ρ fun y ρ1 => asI (fun j => ∃ q fs m n, ρ1[i]? = some (.w q (iwA Cl a vs fs)) ∧ fs.lookup f = some (.m m) ∧ valD m j = some (.int n) ∧ EvD C te ρ1 fun d ρ' => asI (fun b => ∃ q fs m, ρ'[i]? = some (.w q (iwA Cl a vs fs)) ∧ fs.lookup f = some (.m m) ∧ m.length < 1000000 ∧ P.nx (ρ'.set i (.w q (iwA Cl a vs (putFl f (.m (putD m j (.int (g n b)))) fs))))) d) y) :
    Sj C (sDAug (tFld K (tVar i) f) tb te (ipI g)) ρ P := fun G H σ fp O D E => by
  obtain ⟨p, xs, h1, _, _⟩ := fldM O hi e
  refine fld_run O hi ok h1 (h G H σ fp O _ fun y G1 H1 d1 ρ1 fp1 e1 O1 D1 r => ?_)
  cases d1 with
  | int j =>
    cases D1
    obtain ⟨q2, fs2, m2, n, k1, k2, k3, k4⟩ := r
    obtain ⟨p', xs', g1, g2, g3⟩ := fldM O1 k1 k2
    rw [h1] at g1
    cases g1
    rcases g3.val j with ⟨_, y⟩ | ⟨w, d', w1, w2, w3⟩
    · rw [k3] at y; cases y
    rw [k3] at w2
    cases w2
    cases w3
    refine ⟨p, _, rfl, .inl ⟨xs', .inl j, .inl g2, rfl, w1.symm⟩, k4 G1 H1 σ fp1 O1 _ fun y2 G2 H2 d2 ρ2 fp2 e2 O2 D2 r2 => ?_⟩
    cases d2 with
    | int b =>
      cases D2
      obtain ⟨q3, fs3, m3, l1, l2, l3, l4⟩ := r2
      obtain ⟨p3, xs3, g1', g2', g3'⟩ := fldM O2 l1 l2
      rw [h1] at g1'
      cases g1'
      obtain ⟨fp3, O3⟩ := O2.cellM l1 l2 h1 (g3'.put j (.int (g n b)))
      exact ⟨n, b, rfl, rfl, _, .inl ⟨xs3, .inl j, g2', rfl, by rw [g3'.len]; exact Nat.lt_of_lt_of_le l3 (by decide), rfl⟩, E.nx G2 _ σ _ fp3 (e1.trans e2) O3 l4⟩
    | _ => exact r2.elim
  | _ => exact r.elim
theorem sj_appendF {ds0 : List Dt} (hi : ρ[i]? = some (.w q (iwA Cl a vs fs))) (ok : FldOk K Cl f) (e : fs.lookup f = some (.l ds0)) (h : EvD C te ρ fun d ρ' => ∃ q fs ds, ρ'[i]? = some (.w q (iwA Cl a vs fs)) ∧ fs.lookup f = some (.l ds) ∧ ds.length < 1000000 ∧ P.nx (ρ'.set i (.w q (iwA Cl a vs (putFl f (.l (ds ++ [d])) fs))))) :
    Sj C (tDrop (tBM K "list" rAppend (tFld K (tVar i) f) (tCons te tNil))) ρ P := fun G H σ fp O D E => by
  obtain ⟨p, xs, h1, h2, _⟩ := fldL O hi e
  unfold tDrop tBM
  refine fld_run O hi ok h1 ?_
  refine ⟨.inl ⟨rfl, _, .inl (.inl h2)⟩, h G H σ fp O _ fun v G' H' d ρ' fp' e' O' D' r => ?_⟩
  obtain ⟨q2, fs2, ds, k1, k2, k3, k4⟩ := r
  obtain ⟨p', ys, g1, g2, g3⟩ := fldL O' k1 k2
  rw [h1] at g1
  cases g1
  obtain ⟨fp2, O2⟩ := O'.cellL (ds' := ds ++ [d]) k1 k2 h1 (g3.app (.one D'))
  exact ⟨p, ys, v, rfl, rfl, g2, by rw [g3.len]; exact Nat.lt_of_lt_of_le k3 (by decide), E.nx G' _ σ _ fp2 e' O2 k4⟩
theorem sj_insertF {ds0 : List Dt} (hi : ρ[i]? = some (.w q (iwA Cl a vs fs))) (ok : FldOk K Cl f) (e : fs.lookup f = some (.l ds0))
    (h : EvD C ta ρ fun x ρ1 => asI (fun j => EvD C te ρ1 fun d ρ' => ∃ q fs ds, ρ'[i]? = some (.w q (iwA Cl a vs fs)) ∧ fs.lookup f = some (.l ds) ∧ ds.length < 1000000 ∧ 0 ≤ j ∧ j < 2 ^ 63 ∧ P.nx (ρ'.set i (.w q (iwA Cl a vs (putFl f (.l (ds.take j.toNat ++ [d] ++ ds.drop j.toNat)) fs))))) x) :
    Sj C (tDrop (tBM K "list" rInsX (tFld K (tVar i) f) (tCons ta (tCons te tNil)))) ρ P := fun G H σ fp O D E => by
  obtain ⟨p, xs, h1, h2, _⟩ := fldL O hi e
  unfold tDrop tBM
  refine fld_run O hi ok h1 ?_
  refine ⟨.inl ⟨rfl, _, .inl (.inl h2)⟩, h G H σ fp O _ fun v0 G1 H1 x ρ1 fp1 e1 O1 D1 r => ?_⟩
  cases x with
  | int j =>
    cases D1
    refine r G1 H1 σ fp1 O1 _ fun v G' H' d ρ' fp' e' O' D' r => ?_
    obtain ⟨q2, fs2, ds, k1, k2, k3, k4, k5, k6⟩ := r
    obtain ⟨p', ys, g1, g2, g3⟩ := fldL O' k1 k2
    rw [h1] at g1
    cases g1
    obtain ⟨fp2, O2⟩ := O'.cellL (ds' := ds.take j.toNat ++ [d] ++ ds.drop j.toNat) k1 k2 h1 (((g3.take _).app (.one D')).app (g3.drop _))
    exact ⟨p, ys, j, v, rfl, rfl, g2, by rw [g3.len]; exact Nat.lt_of_lt_of_le k3 (by decide), k4, k5, E.nx G' _ σ _ fp2 (e1.trans e') O2 k6⟩
  | _ => exact r.elim
theorem evd_popF {R : Dt → List Sl → Prop} {ds : List Dt} {d : Dt} (hi : ρ[i]? = some (.w q (iwA Cl a vs fs))) (ok : FldOk K Cl f) (e : fs.lookup f = some (.l ds)) (hd : ds[ds.length - 1]? = some d) (k : R d (ρ.set i (.w q (iwA Cl a vs (putFl f (.l ds.dropLast) fs))))) : EvD C (tBM0 K "list" rPop (tFld K (tVar i) f)) ρ R := fun G H σ fp O Q z => by
  obtain ⟨p, xs, h1, h2, h3⟩ := fldL O hi e
  obtain ⟨v, g1, g2⟩ := h3.get hd
  have h4 : Dvs K G xs.dropLast ds.dropLast := by
    rw [List.dropLast_eq_take, List.dropLast_eq_take, h3.len]
    exact h3.take _
  obtain ⟨fp2, O2⟩ := O.cellL (ds' := ds.dropLast) hi e h1 h4
  exact fld_run O hi ok h1 ⟨.inl ⟨rfl, _, .inl (.inl h2)⟩, p, xs, v, rfl, rfl, h2, by rw [h3.len]; exact g1, z v G _ d _ fp2 (Same.refl G) O2 g2 k⟩
theorem evd_popAtF {R : Dt → List Sl → Prop} {ds0 : List Dt} (hi : ρ[i]? = some (.w q (iwA Cl a vs fs))) (ok : FldOk K Cl f) (e : fs.lookup f = some (.l ds0))
    (h : EvD C te ρ fun y ρ' => asI (fun j => ∃ q fs ds n d, ρ'[i]? = some (.w q (iwA Cl a vs fs)) ∧ fs.lookup f = some (.l ds) ∧ j = (n : Nat) ∧ n < 1000000 ∧ ds[n]? = some d ∧ R d (ρ'.set i (.w q (iwA Cl a vs (putFl f (.l (ds.eraseIdx n)) fs))))) y) : EvD C (tBM K "list" rPopAt (tFld K (tVar i) f) (tCons te tNil)) ρ R := fun G H σ fp O Q z => by
  obtain ⟨p, xs, h1, h2, _⟩ := fldL O hi e
  refine fld_run O hi ok h1 ?_
  refine ⟨.inl ⟨rfl, _, .inl (.inl h2)⟩, h G H σ fp O _ fun v0 G1 H1 x ρ1 fp1 e1 O1 D1 r => ?_⟩
  cases x with
  | int j =>
    cases D1
    obtain ⟨q2, fs2, ds, n, d, k1, k2, rfl, k4, k5, k6⟩ := r
    obtain ⟨p', ys, g1, g2, g3⟩ := fldL O1 k1 k2
    rw [h1] at g1
    cases g1
    obtain ⟨v, w1, w2⟩ := g3.get k5
    obtain ⟨fp2, O2⟩ := O1.cellL (ds' := ds.eraseIdx n) k1 k2 h1 (g3.era n)
    have hn : n < ys.length := (List.getElem?_eq_some_iff.mp w1).1
    refine ⟨p, ys, (n : Int), n, v, rfl, rfl, g2, by omega, by omega, ?_, w1, z v G1 _ d _ fp2 e1 O2 w2 k6⟩
    rw [seqIndex_of (by omega) (by omega)]
    simp
  | _ => exact r.elim
/-- what a value is as a field -/
inductive FlOf : Sl → Fl → Prop
  | d (d : Dt) : FlOf (.d d) (.d d)
  | l (ds : List Dt) : FlOf (.l ds) (.l ds)
  | m (m : List (Int × Dt)) : FlOf (.w false (dw m)) (.m m)
  | w (W : Wd) : (∀ {K : PySem.W.Frag} {G H : Hp} {v : V} {fp : List Addr}, W.W K G H v fp → fp.Nodup) → FlOf (.w false W) (.w W)
theorem OkV.field {G H : Hp} {σ : St} {fp : Nat → List Addr} {v : V} {fv : List Addr} {s : Sl} {x : Fl} (O : OkV C G H σ ρ fp v fv s) (fo : FlOf s x) : FO K G H [(f, v)] [(f, x)] fv ∧ fv.Nodup := by
  have va := O.va
  cases fo with
  | d d => obtain ⟨rfl, h⟩ := va; exact ⟨.d h .nil, List.nodup_nil⟩
  | l ds => obtain ⟨⟨p, xs, rfl, rfl, h1, h2⟩, _⟩ := va; exact ⟨.l h1 h2 .nil, by simp⟩
  | m m => obtain ⟨⟨p, xs, rfl, rfl, h1, h2⟩, _⟩ := va; exact ⟨.m h1 h2 .nil, by simp⟩
  | w W hn => exact ⟨by have := FO.w (f := f) va.1 .nil; rwa [List.append_nil] at this, hn va.1⟩
theorem FlOf.nt {s : Sl} {x : Fl} (fo : FlOf s x) : ∀ W, s ≠ .w true W := fun W e => by cases fo <;> cases e
theorem FlOf.nu {G H : Hp} {σ : St} {fp : Nat → List Addr} {v : V} {fv : List Addr} {s : Sl} {x : Fl} (fo : FlOf s x) (O : OkV C G H σ ρ fp v fv s) : ∀ b ∈ fv, C.nu b := by
  have va := O.va
  cases fo with
  | d d => obtain ⟨rfl, h⟩ := va; exact fun b hb => nomatch hb
  | l ds => exact va.2 rfl
  | m m => exact va.2 rfl
  | w W hn => exact va.2 rfl
/-- a value goes into an instance -/
theorem OkV.into {G H : Hp} {σ : St} {fp : Nat → List Addr} {v : V} {fv : List Addr} {s : Sl} {x : Fl} (O : OkV C G H σ ρ fp v fv s) (fo : FlOf s x) (hi : ρ[i]? = some (.w q (iwA Cl a vs fs))) :
    ∃ dx fp', H a = some (.ins Cl dx vs) ∧ σ[i]? = some (some (.ref a)) ∧ Ok C G (upd H a (.ins Cl dx (putF f v vs))) σ (ρ.set i (.w q (iwA Cl a (putF f v vs) (putFl f x fs)))) fp' := by
  obtain ⟨u, h1, ⟨rfl, dx, cs, h2, h3, h4, h5, h6⟩, h7, h8⟩ := O.ok.sl i _ hi
  have hl : i < ρ.length := (List.getElem?_eq_some_iff.mp hi).1
  obtain ⟨one, nd1⟩ := O.field (f := f) fo
  have n1 := List.nodup_cons.mp h6
  have n2 := List.nodup_cons.mp n1.2
  have am : a ∈ fp i := by rw [h5]; exact List.mem_cons_self ..
  have dm : dx ∈ fp i := by rw [h5]; exact List.mem_cons_of_mem _ (List.mem_cons_self ..)
  have cm : ∀ c ∈ cs, c ∈ fp i := fun c hc => by rw [h5]; exact List.mem_cons_of_mem _ (List.mem_cons_of_mem _ hc)
  have av : a ∉ fv := O.dj i a am
  have dv : dx ∉ fv := O.dj i dx dm
  have nd : (fv ++ cs).Nodup := List.nodup_append.mpr ⟨nd1, n2.2, fun c h1 d h2 e => O.dj i d (cm d h2) (e ▸ h1)⟩
  obtain ⟨cs', k1, k2, k3⟩ := one.put h4 nd
  have acs : a ∉ cs' := fun z => by
    rcases k3 a z with y | y
    · exact av y
    · exact n1.1 (List.mem_cons_of_mem _ y)
  have dcs : dx ∉ cs' := fun z => by
    rcases k3 dx z with y | y
    · exact dv y
    · exact n2.1 y
  have da : dx ≠ a := fun z => n1.1 (z ▸ List.mem_cons_self ..)
  obtain ⟨ga, _, ha⟩ := O.ok.fo i a am
  have mem : ∀ b, b ∈ a :: dx :: cs' → b ∈ fp i ∨ b ∈ fv := fun b hb => by
    rcases List.mem_cons.mp hb with rfl | hb
    · exact .inl am
    rcases List.mem_cons.mp hb with rfl | hb
    · exact .inl dm
    · exact (k3 b hb).symm.imp (cm b) id
  refine ⟨dx, fpSet fp i (a :: dx :: cs'), h2, h1, ?_⟩
  exact {
    e0 := O.ok.e0
    e1 := fun b w z => by
      have ne : b ≠ a := ne_of_none z ga
      rw [upd_ne ne]; exact O.ok.e1 b w z
    nw := O.ok.nw
    fr := fun b w nb z => by
      have ne : b ≠ a := fun y => by
        subst y
        rcases ha with y | y
        · rw [y] at z; cases z
        · exact nb y
      rw [upd_ne ne]; exact O.ok.fr b w nb z
    dm := fun b z => by
      by_cases c : b = a
      · subst c; rw [upd_same] at z; cases z
      · rw [upd_ne c] at z; exact O.ok.dm b z
    len := by rw [List.length_set]; exact O.ok.len
    sl := fun j w hs => by
      by_cases c : j = i
      · subst c
        rw [List.getElem?_set_self hl] at hs
        cases hs
        unfold fpSet
        rw [if_pos rfl]
        refine ⟨.ref a, h1, ⟨rfl, dx, cs', upd_same, by rw [upd_ne da]; exact h3, k1.up (Same.refl G) fun b hb o z => ?_, rfl, List.nodup_cons.mpr ⟨fun z => ?_, List.nodup_cons.mpr ⟨dcs, k2⟩⟩⟩, h7, fun hq b hb => ?_⟩
        · have ne : b ≠ a := fun y => acs (y ▸ hb)
          rw [upd_ne ne]; exact z
        · rcases List.mem_cons.mp z with y | y
          · exact da y.symm
          · exact acs y
        · rcases mem b hb with y | y
          · exact h8 hq b y
          · exact fo.nu O b y
      · rw [List.getElem?_set_ne (Ne.symm c)] at hs
        unfold fpSet
        rw [if_neg c]
        refine (O.ok.sl j w hs).up (Same.refl G) fun b hb o z => ?_
        have ne : b ≠ a := fun y => c (O.ok.dj j i b hb (y ▸ am))
        rw [upd_ne ne]; exact z
    em := fun j hj => by
      unfold fpSet
      by_cases c : j = i
      · subst c
        exact absurd (List.getElem?_set_self hl) (hj q _)
      · rw [if_neg c]
        refine O.ok.em j fun q2 W2 z => hj q2 W2 ?_
        rw [List.getElem?_set_ne (Ne.symm c)]
        exact z
    dj := fun j l b hb hc => by
      have nn : ∀ j, j ≠ i → b ∈ fp j → b ∉ a :: dx :: cs' := fun j n hb' hm => by
        rcases mem b hm with y | y
        · exact n (O.ok.dj j i b hb' y)
        · exact O.dj j b hb' y
      unfold fpSet at hb hc
      by_cases c1 : j = i
      · by_cases c2 : l = i
        · rw [c1, c2]
        · rw [if_pos c1] at hb
          rw [if_neg c2] at hc
          exact absurd hb (nn l c2 hc)
      · by_cases c2 : l = i
        · rw [if_neg c1] at hb
          rw [if_pos c2] at hc
          exact absurd hc (nn j c1 hb)
        · rw [if_neg c1] at hb
          rw [if_neg c2] at hc
          exact O.ok.dj j l b hb hc
    fo := fun j b hb => by
      have both : G b = none ∧ (∃ o, H b = some o) ∧ (C.H0 b = none ∨ b ∈ C.bs) := by
        unfold fpSet at hb
        by_cases c : j = i
        · rw [if_pos c] at hb
          rcases mem b hb with y | y
          · exact O.ok.fo i b y
          · exact O.fo b y
        · rw [if_neg c] at hb
          exact O.ok.fo j b hb
      obtain ⟨x1, ⟨o, x2⟩, x3⟩ := both
      refine ⟨x1, ?_, x3⟩
      by_cases c : b = a
      · subst c; exact ⟨_, upd_same⟩
      · exact ⟨o, by rw [upd_ne c]; exact x2⟩ }
/-- self.f = e -/
theorem sj_fld (ok : FldOk K Cl f) (h : Ev C te ρ fun s ρ' => ∃ q a vs fs x, ρ'[i]? = some (.w q (iwA Cl a vs fs)) ∧ FlOf s x ∧ vs.length < 1000 ∧ ∀ v, P.nx (ρ'.set i (.w q (iwA Cl a (putF f v vs) (putFl f x fs))))) : Sj C (sFld K (tVar i) te f) ρ P := fun G H σ fp O D E =>
  h G H σ fp O _ fun v G' H' s ρ' fp' fv e O' r => by
    obtain ⟨q, a, vs, fs, x, k1, k2, k3, k4⟩ := r
    obtain ⟨dx, fp2, g1, g2, O2⟩ := O'.into (f := f) k2 k1
    exact ⟨_, g2, a, Cl, dx, vs, rfl, g1, ok.1, ok.2, k3, E.nx G' _ σ _ fp2 e O2 (k4 v)⟩
end

end
section
/-! DL, part v: methods, makers, instances as data. -/
/-- an owned instance: where it stands, its values, its fields -/
structure In where
  a : Addr
  vs : List (Str × V)
  fs : List (Str × Fl)
abbrev inW (Cl : Addr) (b : In) : Wd := iwA Cl b.a b.vs b.fs
section
variable {K : PySem.W.Frag} {C : Cc K} {ρ : List Sl} {P : En} {ta tb te : TE} {t : TA} {ts us : TS} {i : Nat} {q : Bool} {Cl : Addr} {b0 : In} {m : Str} {E : XK}
theorem meth_run {G H : Hp} {σ : St} {fp : Nat → List Addr} {sp : Sp} {Q : VK} (O : Ok C G H σ ρ fp) (hi : ρ[i]? = some (.w q (inW Cl b0))) (hm : b0.fs.lookup m = none) (h : tCall sp [] E (tCons (tVar i) t) σ H Q) : tMeth Cl m sp [] E (tVar i) t σ H Q := by
  obtain ⟨v, h1, ⟨rfl, dx, cs, h2, h3, h4, h5, h6⟩, _⟩ := O.sl i _ hi
  obtain ⟨v', g1, g2⟩ := h
  rw [h1] at g1
  cases g1
  exact ⟨_, h1, b0.a, dx, b0.vs, rfl, h2, h4.none hm, g2⟩
/-- self.m(..), self owned -/
theorem ev_methB {α β : Type} {W : β → Wd} {emb : α → List Dt} {pre : β → α → Prop} {post : β → α → Sl → β → Prop} {R : Sl → List Sl → Prop} (hi : ρ[i]? = some (.w q (inW Cl b0))) (hm : b0.fs.lookup m = none)
    (h : EvA C t ρ fun ds ρ1 => ∃ b a q, ρ1[i]? = some (.w q (W b)) ∧ ds = emb a ∧ pre b a ∧ ∀ s b', post b a s b' → notTrue s = true ∧ R s (ρ1.set i (.w q (W b')))) : Ev C (tMeth Cl m ((CB W emb pre post).sp K) [] E (tVar i) t) ρ R := fun G H σ fp O Q z =>
  meth_run O hi hm (ev_callB hi h G H σ fp O Q z)
theorem evd_methB {α β : Type} {W : β → Wd} {emb : α → List Dt} {pre : β → α → Prop} {post : β → α → Sl → β → Prop} {R : Dt → List Sl → Prop} (hi : ρ[i]? = some (.w q (inW Cl b0))) (hm : b0.fs.lookup m = none)
    (h : EvA C t ρ fun ds ρ1 => ∃ b a q, ρ1[i]? = some (.w q (W b)) ∧ ds = emb a ∧ pre b a ∧ ∀ s b', post b a s b' → asF (fun d => R d (ρ1.set i (.w q (W b')))) s) : EvD C (tMeth Cl m ((CB W emb pre post).sp K) [] E (tVar i) t) ρ R := fun G H σ fp O Q z =>
  meth_run O hi hm (evd_callB hi h G H σ fp O Q z)
/-- .. of an instance that is data -/
theorem look_zip {ns : List Str} {xs : List V} {f : Str} (h : f ∉ ns) : (ns.zip xs).lookup f = none := by
  induction ns generalizing xs with
  | nil => rfl
  | cons n ns ih =>
    cases xs with
    | nil => rfl
    | cons x xs =>
      rw [List.zip_cons_cons, look_neg (fun z => h (by rw [z]; exact List.mem_cons_self ..))]
      exact ih fun z => h (List.mem_cons_of_mem _ z)
theorem look_zips {G : Hp} {ns : List Str} {xs : List V} {ds : List Dt} {f : Str} {d : Dt} (hd : Dvs K G xs ds) (h : (ns.zip ds).lookup f = some d) : ∃ v, (ns.zip xs).lookup f = some v ∧ Dv K G v d := by
  induction ns generalizing xs ds with
  | nil => cases h
  | cons n ns ih =>
    cases hd with
    | nil => cases h
    | cons h1 h2 =>
      rw [List.zip_cons_cons] at h ⊢
      by_cases c : f = n
      · rw [look_pos c] at h ⊢
        cases h
        exact ⟨_, rfl, h1⟩
      · rw [look_neg c] at h ⊢
        exact ih h2 h
theorem evd_fldI {R : Dt → List Sl → Prop} {f : Str} (h : EvD C te ρ fun x ρ1 => ∃ Cl ns ds d, x = .ins Cl ns ds ∧ FldOk K Cl f ∧ (ns.zip ds).lookup f = some d ∧ R d ρ1) : EvD C (tFld K te f) ρ R := fun G H σ fp O Q z =>
  h G H σ fp O _ fun v G1 H1 x ρ1 fp1 e1 O1 D1 r => by
    obtain ⟨Cl, ns, ds, d, rfl, k1, k2, k3⟩ := r
    cases D1 with
    | ins g1 g2 g3 =>
      obtain ⟨w, w1, w2⟩ := look_zips g3 k2
      exact ⟨_, Cl, _, _, w, rfl, O1.e1 _ _ g1, k1.1, k1.2, w1, z w G1 H1 d ρ1 fp1 e1 O1 w2 k3⟩
theorem evd_methT {α : Type} {emb : α → List Dt} {pre : α → Prop} {res : α → Dt} {R : Dt → List Sl → Prop} (h : EvD C te ρ fun x ρ0 => (∃ ns ds, x = .ins Cl ns ds ∧ m ∉ ns) ∧ EvA C t ρ0 fun ds ρ1 => ∃ a, x :: ds = emb a ∧ pre a ∧ R (res a) ρ1) :
    EvD C (tMeth Cl m ((CT emb pre res).sp K) [] E te t) ρ R := fun G H σ fp O Q z =>
  h G H σ fp O _ fun v G1 H1 x ρ1 fp1 e1 O1 D1 r => by
    obtain ⟨⟨ns, ds0, rfl, nm⟩, r⟩ := r
    have D1' := D1
    cases D1 with
    | ins g1 g2 g3 =>
      refine ⟨_, _, _, rfl, O1.e1 _ _ g1, look_zip nm, r G1 H1 σ fp1 O1 _ fun vs G2 H2 ds ρ2 fp2 e2 O2 D2 k => ?_⟩
      obtain ⟨a, k0, k1, k2⟩ := k
      rw [List.append_nil]
      have all : Dvs K G2 _ (emb a) := k0 ▸ Dvs.cons (Dv.up e2 _ _ D1') D2
      refine ⟨G2, (emb a).map Sl.d, [], fun _ => [], ok_args O2.e1 all, a, rfl, k1, fun w G3 H3 fp3 fv O3 => ?_⟩
      have O4 := okv_call0 O2 O3 rfl
      exact z w G3 H3 (res a) ρ2 fp2 ((e1.trans e2).trans O3.ok.e0) O4.ok O4.va.2 k2
end
/-! a new one -/
section
variable {K : PySem.W.Frag} {C : Cc K} {ρ : List Sl}
theorem OkV.push {G H : Hp} {σ : St} {fp : Nat → List Addr} {v : V} {fv : List Addr} {s : Sl} (O : OkV C G H σ ρ fp v fv s) (hs : ∀ W, s ≠ .w true W) : Ok C G H (σ ++ [some v]) (ρ ++ [s]) (fpSet fp ρ.length fv) := by
  have ll := O.ok.len
  have old : ∀ {j : Nat} {w : Sl}, j < ρ.length → (ρ ++ [s])[j]? = some w → ρ[j]? = some w := fun hj h => by rw [List.getElem?_append_left hj] at h; exact h
  exact {
    e0 := O.ok.e0
    e1 := O.ok.e1
    nw := O.ok.nw
    fr := O.ok.fr
    dm := O.ok.dm
    len := by rw [List.length_append, List.length_append, ll]; rfl
    sl := fun j w h => by
      unfold fpSet
      by_cases c : j < ρ.length
      · rw [if_neg (by omega)]
        have z := O.ok.sl j w (old c h)
        have g : (σ ++ [some v])[j]? = σ[j]? := List.getElem?_append_left (by omega)
        cases w with
        | no => exact trivial
        | d d => obtain ⟨u, h1, h2⟩ := z; exact ⟨u, g.trans h1, h2⟩
        | w q W => obtain ⟨u, h1, h2⟩ := z; exact ⟨u, g.trans h1, h2⟩
      · have hj : j = ρ.length := by
          have := (List.getElem?_eq_some_iff.mp h).1
          rw [List.length_append, List.length_singleton] at this
          omega
        subst hj
        rw [if_pos rfl]
        have e : (ρ ++ [s])[ρ.length]? = some s := by simp
        rw [e] at h
        cases h
        have g : (σ ++ [some v])[ρ.length]? = some (some v) := by rw [ll]; simp
        have va := O.va
        cases s with
        | no => exact trivial
        | d d => exact ⟨v, g, va.2⟩
        | w q W =>
          refine ⟨v, g, va.1, fun hq => ?_, va.2⟩
          subst hq
          exact absurd rfl (hs W)
    em := fun j h => by
      unfold fpSet
      by_cases c : j = ρ.length
      · subst c
        rw [if_pos rfl]
        have va := O.va
        cases s with
        | no => exact va
        | d d => exact va.1
        | w q W => exact absurd (by simp) (h q W)
      · rw [if_neg c]
        refine O.ok.em j fun q W z => h q W ?_
        rw [List.getElem?_append_left (List.getElem?_eq_some_iff.mp z).1]
        exact z
    dj := fun j l a ha hb => by
      unfold fpSet at ha hb
      by_cases c1 : j = ρ.length
      · by_cases c2 : l = ρ.length
        · rw [c1, c2]
        · rw [if_pos c1] at ha
          rw [if_neg c2] at hb
          exact absurd ha (O.dj l a hb)
      · by_cases c2 : l = ρ.length
        · rw [if_neg c1] at ha
          rw [if_pos c2] at hb
          exact absurd hb (O.dj j a ha)
        · rw [if_neg c1] at ha
          rw [if_neg c2] at hb
          exact O.ok.dj j l a ha hb
    fo := fun j a ha => by
      unfold fpSet at ha
      by_cases c : j = ρ.length
      · rw [if_pos c] at ha; exact O.fo a ha
      · rw [if_neg c] at ha; exact O.ok.fo j a ha }
theorem Ok.popL {G H : Hp} {σ : St} {fp : Nat → List Addr} {v : V} {W : Wd} (ll : ρ.length = σ.length) (O : Ok C G H (σ ++ [some v]) (ρ ++ [.w false W]) fp) : OkV C G H σ ρ (fpSet fp ρ.length []) v (fp ρ.length) (.w false W) := by
  have last : (ρ ++ [Sl.w false W])[ρ.length]? = some (.w false W) := by simp
  obtain ⟨u, h1, h2, _, h4⟩ := O.sl ρ.length _ last
  have e : u = v := by
    rw [ll] at h1
    have : (σ ++ [some v])[σ.length]? = some (some v) := by simp
    rw [this] at h1
    cases h1
    rfl
  subst e
  have off : ∀ {j : Nat}, j ∉ [ρ.length] → fpSet fp ρ.length [] j = fp j := fun {j} n => if_neg (fun z => n (by rw [z]; exact List.mem_singleton.mpr rfl))
  refine ⟨?_, ⟨h2, h4⟩, fun j a ha hb => ?_, fun a ha => O.fo _ a ha⟩
  · exact {
      e0 := O.e0
      e1 := O.e1
      nw := O.nw
      fr := O.fr
      dm := O.dm
      len := ll
      sl := fun j w h => by
        have hj : j < ρ.length := (List.getElem?_eq_some_iff.mp h).1
        have z := O.sl j w (by rw [List.getElem?_append_left hj]; exact h)
        have g : (σ ++ [some u])[j]? = σ[j]? := List.getElem?_append_left (by omega)
        unfold fpSet
        rw [if_neg (by omega)]
        cases w with
        | no => exact trivial
        | d d => obtain ⟨x, k1, k2⟩ := z; exact ⟨x, g ▸ k1, k2⟩
        | w q W => obtain ⟨x, k1, k2⟩ := z; exact ⟨x, g ▸ k1, k2⟩
      em := fun j h => by
        unfold fpSet
        by_cases c : j = ρ.length
        · rw [if_pos c]
        · rw [if_neg c]
          refine O.em j fun q2 W2 z => ?_
          by_cases d : j < ρ.length
          · rw [List.getElem?_append_left d] at z
            exact h q2 W2 z
          · have := (List.getElem?_eq_some_iff.mp z).1
            rw [List.length_append, List.length_singleton] at this
            omega
      dj := fun j l a ha hb => by
        unfold fpSet at ha hb
        by_cases c1 : j = ρ.length
        · rw [if_pos c1] at ha; cases ha
        · by_cases c2 : l = ρ.length
          · rw [if_pos c2] at hb; cases hb
          · rw [if_neg c1] at ha
            rw [if_neg c2] at hb
            exact O.dj j l a ha hb
      fo := fun j a ha => by
        unfold fpSet at ha
        by_cases c : j = ρ.length
        · rw [if_pos c] at ha; cases ha
        · rw [if_neg c] at ha; exact O.fo j a ha }
  · unfold fpSet at ha
    by_cases c : j = ρ.length
    · rw [if_pos c] at ha; cases ha
    · rw [if_neg c] at ha
      exact c (O.dj j _ a ha hb)
/-- Cl(..) -/
theorem ev_make {α : Type} {emb : α → List Dt} {pre : In → α → Prop} {post : In → α → Sl → In → Prop} {R : Sl → List Sl → Prop} {E : XK} {t : TA} {Cl : Addr}
    (h : EvA C t ρ fun ds ρ1 => ∃ a, ds = emb a ∧ ∀ x, pre ⟨x, [], []⟩ a ∧ ∀ s b', post ⟨x, [], []⟩ a s b' → s = .d .non ∧ R (.w false (inW Cl b')) ρ1) : Ev C (tMake Cl ((CB (inW Cl) emb pre post).sp K) [] E t) ρ R := fun G H σ fp O Q z =>
  h G H σ fp O _ fun vs G1 H1 ds ρ1 fp1 e1 O1 D1 r => by
    obtain ⟨a, rfl, r⟩ := r
    intro x dx hx hdx ne
    obtain ⟨r1, r2⟩ := r x
    have hx2 : upd H1 dx (.own x) x = none := by rw [upd_ne (Ne.symm ne)]; exact hx
    have O2 : Ok C G1 (upd (upd H1 dx (.own x)) x (.ins Cl dx [])) σ ρ1 fp1 := (O1.scr hdx).scr hx2
    have OV : OkV C G1 (upd (upd H1 dx (.own x)) x (.ins Cl dx [])) σ ρ1 fp1 (.ref x) [x, dx] (.w false (inW Cl ⟨x, [], []⟩)) := by
      have new : ∀ b, b ∈ [x, dx] → H1 b = none := fun b hb => by
        rcases List.mem_cons.mp hb with rfl | hb
        · exact hx
        · rw [List.mem_singleton.mp hb]; exact hdx
      refine ⟨O2, ⟨⟨rfl, dx, [], upd_same, by rw [upd_ne ne]; exact upd_same, .nil, rfl, ?_⟩, fun _ b hb => .inl (O1.dm b (new b hb))⟩, fun j b h1 h2 => ?_, fun b hb => ?_⟩
      · exact List.nodup_cons.mpr ⟨fun z => ne (List.mem_singleton.mp z).symm, by simp⟩
      · obtain ⟨_, ⟨o, ho⟩, _⟩ := O1.fo j b h1
        rw [new b h2] at ho
        cases ho
      · refine ⟨O1.e1.free (new b hb), ?_, .inl (O1.dm b (new b hb))⟩
        rcases List.mem_cons.mp hb with rfl | hb
        · exact ⟨_, upd_same⟩
        · rw [List.mem_singleton.mp hb, upd_ne ne]; exact ⟨_, upd_same⟩
    have O3 := OV.push (fun W z => by cases z)
    have O4 := O3.from
    have hn : (ρ1 ++ [Sl.w false (inW Cl ⟨x, [], []⟩)])[ρ1.length]? = some (.w false (inW Cl ⟨x, [], []⟩)) := by simp
    let raw : TA := fun _ H Q => Q (.ref x :: vs) H
    have raws : EvB (C.at (ρ1 ++ [Sl.w false (inW Cl ⟨x, [], []⟩)]) (fpSet fp1 ρ1.length [x, dx]) G1 (upd (upd H1 dx (.own x)) x (.ins Cl dx []))) raw (ρ1 ++ [Sl.w false (inW Cl ⟨x, [], []⟩)]) fun as ρ2 => as = .o ρ1.length :: (emb a).map Ar.d ∧ ρ2 = ρ1 ++ [Sl.w false (inW Cl ⟨x, [], []⟩)] := fun G5 H5 σ5 fp5 O5 Q5 z5 => by
      obtain ⟨v, k1, ⟨rfl, _⟩, _⟩ := O5.sl _ _ hn
      refine z5 (.ref x :: vs) G5 H5 (.o ρ1.length :: (emb a).map Ar.d) _ fp5 (Same.refl G5) O5 ⟨k1, ?_⟩ ⟨rfl, rfl⟩
      have D5 : Dvs K G5 vs (emb a) := D1.up O5.e0
      have go : ∀ {vs : List V} {ds : List Dt}, Dvs K G5 vs ds → ArOk K G5 σ5 vs (ds.map Ar.d) := by
        intro vs ds h
        induction ds generalizing vs with
        | nil => cases h; exact trivial
        | cons d ds ih =>
          cases h with
          | cons h1 h2 => exact ⟨h1, ih h2⟩
      exact go D5
    have run := ev_call1 (R := fun s ρ2 => ∃ b', post ⟨x, [], []⟩ a s b' ∧ ρ2 = ρ1 ++ [Sl.w false (inW Cl b')]) (E := E) (Er := fun _ _ => False) CB.mono xok0 (t := raw) (c := CB (inW Cl) emb pre post) (fun G5 H5 σ5 fp5 O5 Q5 z5 => raws G5 H5 σ5 fp5 O5 Q5 fun us G6 H6 as ρ6 fp6 e6 O6 A6 r6 => z5 us G6 H6 as ρ6 fp6 e6 O6 A6 (by
        obtain ⟨rfl, rfl⟩ := r6
        refine ⟨[], emb a, ρ1.length, false, _, rfl, hn, ⟨x, [], []⟩, a, rfl, r1, fun s b' hp => ?_⟩
        obtain ⟨rfl, _⟩ := r2 s b' hp
        refine ⟨rfl, _, rfl, b', hp, ?_⟩
        rw [List.set_append_right _ _ (Nat.le_refl _), Nat.sub_self]
        rfl)) G1 _ _ _ O4 (fun v H2 => v = .non ∧ Q (.ref x) H2) fun v G6 H6 s ρ6 fp6 fv e6 O6 r6 => by
      obtain ⟨b', hp, rfl⟩ := r6
      obtain ⟨rfl, k⟩ := r2 s b' hp
      have va := O6.va
      obtain ⟨_, dv⟩ := va
      cases dv
      refine ⟨rfl, ?_⟩
      have O7 := (O3.to O6.ok).popL O1.len
      exact z _ G6 H6 _ ρ1 _ _ (e1.trans e6) O7 k
    exact run
end

end
section
/-! DL, part w: an owned instance is given up to be known; slices of owned lists. -/
def frz : List (Str × Fl) → Option (List Dt)
  | [] => some []
  | (_, .d d) :: r => (frz r).map (d :: ·)
  | (_, .l ds) :: r => (frz r).map (.lst ds :: ·)
  | (_, .m _) :: _ => none
  | (_, .w _) :: _ => none
section
variable {K : PySem.W.Frag} {G H : Hp} {vs : List (Str × V)} {fs : List (Str × Fl)} {cs : List Addr}
theorem FO.frz (h : FO K G H vs fs cs) : ∀ {ds : List Dt}, DL.frz fs = some ds → (∀ c ∈ cs, G c = .none) → cs.Nodup → ∃ G' xs, Same G G' ∧ (∀ a o, G' a = some o → G a = some o ∨ (a ∈ cs ∧ H a = some o)) ∧ vs = (fs.map (·.1)).zip xs ∧ (fs.map (·.1)).length = xs.length ∧ Dvs K G' xs ds := by
  induction h with
  | nil =>
    intro ds e _ _
    cases e
    exact ⟨G, [], Same.refl G, fun _ _ z => .inl z, rfl, rfl, .nil⟩
  | @d f v d vs fs cs a _ ih =>
    intro ds e hc nd
    obtain ⟨es, e1, rfl⟩ := Option.map_eq_some_iff.mp (show (DL.frz fs).map (d :: ·) = some ds from e)
    obtain ⟨G', xs, k1, k2, k3, k4, k5⟩ := ih e1 hc nd
    exact ⟨G', v :: xs, k1, k2, by rw [k3]; rfl, by rw [List.map_cons, List.length_cons, List.length_cons, k4], .cons (Dv.up k1 _ _ a) k5⟩
  | @l f p ys es0 vs fs cs a b _ ih =>
    intro ds e hc nd
    obtain ⟨es, e1, rfl⟩ := Option.map_eq_some_iff.mp (show (DL.frz fs).map (.lst es0 :: ·) = some ds from e)
    have nd' := List.nodup_cons.mp nd
    obtain ⟨G', xs, k1, k2, k3, k4, k5⟩ := ih e1 (fun c hc' => hc c (List.mem_cons_of_mem _ hc')) nd'.2
    have gp : G' p = .none := by
      cases z : G' p with
      | none => rfl
      | some o =>
        rcases k2 p o z with y | ⟨y, _⟩
        · rw [hc p (List.mem_cons_self ..)] at y; cases y
        · exact absurd y nd'.1
    have s1 : Same G' (upd G' p (.lst ys)) := same_new gp
    refine ⟨upd G' p (.lst ys), .ref p :: xs, k1.trans s1, fun c o z => ?_, by rw [k3]; rfl, by rw [List.map_cons, List.length_cons, List.length_cons, k4], .cons (.lst upd_same ((b.up k1).up s1)) (k5.up s1)⟩
    by_cases q : c = p
    · subst q
      rw [upd_same] at z
      cases z
      exact .inr ⟨List.mem_cons_self .., a⟩
    · rw [upd_ne q] at z
      exact (k2 c o z).imp id fun y => ⟨List.mem_cons_of_mem _ y.1, y.2⟩
  | m _ _ _ _ =>
    intro ds e
    cases e
  | w _ _ _ =>
    intro ds e
    cases e
end
section
variable {K : PySem.W.Frag} {C : Cc K} {ρ : List Sl} {te : TE}
theorem OkV.freezeI {G H : Hp} {σ : St} {fp : Nat → List Addr} {v : V} {fv : List Addr} {Cl : Addr} {b : In} {ds : List Dt} (O : OkV C G H σ ρ fp v fv (.w false (inW Cl b))) (e : frz b.fs = some ds) : ∃ G', Same G G' ∧ Ok C G' H σ ρ fp ∧ Dv K G' v (.ins Cl (b.fs.map (·.1)) ds) := by
  obtain ⟨⟨rfl, dx, cs, h2, h3, h4, rfl, h6⟩, hn⟩ := O.va
  have n1 := List.nodup_cons.mp h6
  have n2 := List.nodup_cons.mp n1.2
  have free : ∀ c, c ∈ b.a :: dx :: cs → G c = none := fun c hc => (O.fo c hc).1
  obtain ⟨G1, xs, k1, k2, k3, k4, k5⟩ := h4.frz e (fun c hc => free c (List.mem_cons_of_mem _ (List.mem_cons_of_mem _ hc))) n2.2
  have ga : G1 b.a = none := by
    cases z : G1 b.a with
    | none => rfl
    | some o =>
      rcases k2 _ o z with y | ⟨y, _⟩
      · rw [free _ (List.mem_cons_self ..)] at y; cases y
      · exact absurd (List.mem_cons_of_mem _ y) n1.1
  have s1 : Same G1 (upd G1 b.a (.ins Cl dx b.vs)) := same_new ga
  have from' : ∀ c o, upd G1 b.a (.ins Cl dx b.vs) c = some o → G c = some o ∨ (c ∈ b.a :: dx :: cs ∧ H c = some o) := fun c o z => by
    by_cases q : c = b.a
    · subst q
      rw [upd_same] at z
      cases z
      exact .inr ⟨List.mem_cons_self .., h2⟩
    · rw [upd_ne q] at z
      exact (k2 c o z).imp id fun y => ⟨List.mem_cons_of_mem _ (List.mem_cons_of_mem _ y.1), y.2⟩
  have ke := k1.trans s1
  refine ⟨_, ke, ?_, .ins (dx := dx) (xs := xs) ?_ k4 (k5.up s1)⟩
  · exact {
      e0 := O.ok.e0.trans ke
      e1 := fun c o z => by
        rcases from' c o z with y | y
        · exact O.ok.e1 c o y
        · exact y.2
      nw := fun c o z => by
        rcases from' c o z with y | y
        · exact O.ok.nw c o y
        · exact .inr (hn rfl c y.1)
      fr := O.ok.fr
      dm := O.ok.dm
      len := O.ok.len
      sl := fun i s h => (O.ok.sl i s h).up ke fun _ _ _ y => y
      em := O.ok.em
      dj := O.ok.dj
      fo := fun i c hc => by
        obtain ⟨x1, x2, x3⟩ := O.ok.fo i c hc
        refine ⟨?_, x2, x3⟩
        cases z : upd G1 b.a (.ins Cl dx b.vs) c with
        | none => rfl
        | some o =>
          rcases from' c o z with y | y
          · rw [x1] at y; cases y
          · exact absurd y.1 (O.dj i c hc) }
  · rw [← k3]; exact upd_same
theorem evd_frzI {R : Dt → List Sl → Prop} (h : Ev C te ρ fun s ρ1 => ∃ Cl b ds, s = .w false (inW Cl b) ∧ frz b.fs = some ds ∧ R (.ins Cl (b.fs.map (·.1)) ds) ρ1) : EvD C te ρ R := fun G H σ fp O Q q =>
  h G H σ fp O Q fun v G' H' s ρ' fp' fv e O' r => by
    obtain ⟨Cl, b, ds, rfl, r1, r2⟩ := r
    obtain ⟨G2, e2, O2, D2⟩ := O'.freezeI r1
    exact q v G2 H' _ ρ' fp' (e.trans e2) O2 D2 r2
/-- x[l:u], x owned -/
theorem ev_slO {R : Sl → List Sl → Prop} {tl th : TO} {i : Nat} {q : Bool} {ds0 : List Dt} (hw : ρ[i]? = some (.w q (lw ds0))) (h : EvO C tl ρ fun l ρ2 => EvO C th ρ2 fun u ρ3 => ∃ q ds, ρ3[i]? = some (.w q (lw ds)) ∧ R (.l (cutD ds l u)) ρ3) : Ev C (tSl (rSlX K) (tVar i) tl th) ρ R := fun G H σ fp O Q z => by
  obtain ⟨p, xs, h1, _, _⟩ := own_l O hw
  refine ⟨_, h1, h G H σ fp O _ fun l G2 H2 ρ2 fp2 e2 O2 k2 => k2 G2 H2 σ fp2 O2 _ fun u G3 H3 ρ3 fp3 e3 O3 k3 => ?_⟩
  obtain ⟨q3, ds, k4, k5⟩ := k3
  obtain ⟨p', ys, g1, g2, g3⟩ := own_l O3 k4
  rw [h1] at g1
  cases g1
  refine .inl ⟨p, ys, rfl, .inl (.inl g2), fun l' hl' => ?_⟩
  exact z _ G3 _ _ ρ3 fp3 [l'] (e2.trans e3) (O3.newL hl' (cut_dvs g3 l u)) k5
end

end
section
/-! DL, part x: methods and makers by name. -/
/-- a method of the text, where the top has put it -/
def DfM (K : PySem.W.Frag) (Cl : Addr) (m q : Str) (st : Stmt) (ps : List Str) : Prop := ∃ f fd, Fun K m q st f fd ∧ Meth K Cl m f ∧ BA fd ps
def GdM (P : Program) (w : World) (K : PySem.W.Frag) (mg : Str → Option Value) (base : Heap) (Cl : Addr) (m : Str) (ps : List Str) (L : Nat) (c : Ctr) : Prop :=
  ∃ f fd, Meth K Cl m f ∧ BA fd ps ∧ FnOk P w K mg base CX0 L f fd ps (c.sp K)
/-- a class that is made by its __init__ -/
def DfI (K : PySem.W.Frag) (mg : Str → Option Value) (x : Str) (Cl : Addr) (q : Str) (st : Stmt) (ps : List Str) : Prop := ∃ f fd, Fun K "__init__" q st f fd ∧ Mk K Cl f ∧ BA fd ps ∧ mg x = some (.ref Cl)
def GdI (P : Program) (w : World) (K : PySem.W.Frag) (mg : Str → Option Value) (base : Heap) (x : Str) (Cl : Addr) (ps : List Str) (L : Nat) (c : Ctr) : Prop :=
  ∃ f fd, Mk K Cl f ∧ BA fd ps ∧ FnOk P w K mg base CX0 L f fd ps (c.sp K) ∧ mg x = some (.ref Cl)
section
variable {X : Cx} {Cl : Addr} {x m : Str} {ps : List Str} {L : Nat} {c : Ctr} {e o : Expr} {es : List Expr} {ta : TE} {t : TA} {p pos apos : Pos}
theorem pe_gdM {pl : Sem Bool} (D : GdM X.prog X.w X.K X.mg X.base Cl m ps L c) (cl : Cls X.K Cl) (room : Room L X.A) (he : PE X o ta) (ha : PA X (e :: es) t)
    (h1 : starEach (e :: es) X.env = (false, eval e X.env) :: starEach es X.env := by rfl) (h2 : (backTo pos (starEach es X.env)).any (·.1) = false := by rfl)
    (h3 : eval (.Call (.Attribute o m apos) (e :: es) [] pos) X.env = (do
      let ov ← eval o X.env
      standAt apos.atName
      let (f, first) ← holding [ov] (getMethod ov m pl)
      callWith pos f first (backTo pos (starEach (e :: es) X.env)) (backToKw pos (keywordEach [] X.env))) := by rfl) : PE X (.Call (.Attribute o m apos) (e :: es) [] pos) (tMeth Cl m (c.sp X.K) [] E0 ta t) := by
  obtain ⟨f, fd, g1, g2, g3⟩ := D
  exact pe_meth he cl g1 g3 room g2.b .nil pass0 ha h1 h2 h3
theorem pe_gdM0 {pl : Sem Bool} (D : GdM X.prog X.w X.K X.mg X.base Cl m ps L c) (cl : Cls X.K Cl) (room : Room L X.A) (he : PE X o ta)
    (h3 : eval (.Call (.Attribute o m apos) [] [] pos) X.env = (do
      let ov ← eval o X.env
      standAt apos.atName
      let (f, first) ← holding [ov] (getMethod ov m pl)
      callWith pos f first (backTo pos (starEach [] X.env)) (backToKw pos (keywordEach [] X.env))) := by rfl) : PE X (.Call (.Attribute o m apos) [] [] pos) (tMeth Cl m (c.sp X.K) [] E0 ta tNil) := by
  obtain ⟨f, fd, g1, g2, g3⟩ := D
  exact pe_meth0 he cl g1 g3 room g2.b .nil pass0 h3
theorem pe_gdI (D : GdI X.prog X.w X.K X.mg X.base x Cl ps L c) (room : Room (L + 1) X.A) (gl : Gl X x) (ha : PA X (e :: es) t)
    (h0 : (x == ("__debug__" : Str)) = false := by decide) (h1 : starEach (e :: es) X.env = (false, eval e X.env) :: starEach es X.env := by rfl) (h2 : (backTo pos (starEach es X.env)).any (·.1) = false := by rfl) :
    PE X (.Call (.Name x p) (e :: es) [] pos) (tMake Cl (c.sp X.K) [] E0 t) := by
  obtain ⟨f, fd, g1, g2, g3, g4⟩ := D
  exact pe_make g1 g3 room gl g4 g2.b .nil pass0 ha h0 h1 h2
theorem pe_gdI0 (D : GdI X.prog X.w X.K X.mg X.base x Cl ps L c) (room : Room (L + 1) X.A) (gl : Gl X x) (h0 : (x == ("__debug__" : Str)) = false := by decide) : PE X (.Call (.Name x p) [] [] pos) (tMake Cl (c.sp X.K) [] E0 tNil) := by
  obtain ⟨f, fd, g1, g2, g3, g4⟩ := D
  exact pe_make0 g1 g3 room gl g4 g2.b .nil pass0 h0
end
/-! the three forms of contracts, by bodies -/
section
variable {K : PySem.W.Frag} {N ps : List Str} {t : TS}
theorem ct_fin {α : Type} {emb : α → List Dt} {pre : α → Prop} {res : α → Dt} (len : ∀ a, (emb a).length = ps.length) (hs : ∀ (C : Cc K) a, pre a → Sj C t ((emb a).map Sl.d ++ List.replicate (N.length - ps.length) .no) (finT (res a))) :
    ∀ (C : Cc K) as R Er, CT emb pre res as R Er → Sj C t (as ++ List.replicate (N.length - as.length) .no) (fin as R) := by
  rintro C as R Er ⟨a, rfl, hp, hR⟩
  rw [List.length_map, len a]
  have h1 : ∀ ρ, back ((emb a).map Sl.d) ρ = (emb a).map Sl.d := fun ρ => (back_data (ds := emb a) (ρ := ρ)).1
  have h2 : ∀ ρ, backOk ((emb a).map Sl.d) ρ = true := fun ρ => (back_data (ds := emb a) (ρ := ρ)).2
  exact sj_imp (hs C a hp) (fun ρ z => ⟨h2 ρ, by rw [h1, show Sl.d .non = .d (res a) from z]; exact hR⟩) (fun _ z => z) (fun _ z => z) (fun u ρ z => ⟨h2 ρ, by rw [h1, show u = .d (res a) from z]; exact hR⟩)
theorem cr_fin {α : Type} {emb : α → List Dt} {pre : α → Prop} {res : α → Sl → Prop} (len : ∀ a, (emb a).length = ps.length) (hs : ∀ (C : Cc K) a, pre a → Sj C t ((emb a).map Sl.d ++ List.replicate (N.length - ps.length) .no) (finR (res a))) :
    ∀ (C : Cc K) as R Er, DL.CR emb pre res as R Er → Sj C t (as ++ List.replicate (N.length - as.length) .no) (fin as R) := by
  rintro C as R Er ⟨a, rfl, hp, hR⟩
  rw [List.length_map, len a]
  have h1 : ∀ ρ, back ((emb a).map Sl.d) ρ = (emb a).map Sl.d := fun ρ => (back_data (ds := emb a) (ρ := ρ)).1
  have h2 : ∀ ρ, backOk ((emb a).map Sl.d) ρ = true := fun ρ => (back_data (ds := emb a) (ρ := ρ)).2
  exact sj_imp (hs C a hp) (fun ρ z => ⟨h2 ρ, by rw [h1]; exact hR _ z⟩) (fun _ z => z) (fun _ z => z) (fun u ρ z => ⟨h2 ρ, by rw [h1]; exact hR _ z⟩)
theorem cb_fin {α β : Type} {W : β → Wd} {emb : α → List Dt} {pre : β → α → Prop} {post : β → α → Sl → β → Prop} (len : ∀ a, (emb a).length + 1 = ps.length) (hs : ∀ (C : Cc K) b a, pre b a → Sj C t (.w true (W b) :: (emb a).map Sl.d ++ List.replicate (N.length - ps.length) .no) (finB W (post b a))) :
    ∀ (C : Cc K) as R Er, CB W emb pre post as R Er → Sj C t (as ++ List.replicate (N.length - as.length) .no) (fin as R) := by
  rintro C as R Er ⟨b, a, rfl, hp, hR⟩
  rw [List.length_cons, List.length_map, len a]
  have out : ∀ {u : Sl} {ρ : List Sl}, (∃ b', ρ.head? = some (.w true (W b')) ∧ post b a u b') → backOk (.w true (W b) :: (emb a).map Sl.d) ρ = true ∧ R u (back (.w true (W b) :: (emb a).map Sl.d) ρ) := by
    rintro u ρ ⟨b', e, z⟩
    obtain ⟨h1, h2⟩ := back_data (ds := emb a) (ρ := ρ.tail)
    refine ⟨?_, ?_⟩
    · show (isQ ρ.head? && backOk ((emb a).map Sl.d) ρ.tail) = true
      rw [e, h2]
      rfl
    · show R u ((ρ.head?.getD .no) :: back ((emb a).map Sl.d) ρ.tail)
      rw [e, h1]
      exact hR _ _ z
  exact sj_imp (hs C b a hp) (fun _ z => out z) (fun _ z => z) (fun _ z => z) (fun _ _ z => out z)
end
section
variable {P : Program} {w : World} {K : PySem.W.Frag} {mg : Str → Option Value} {base : Heap} {Cl : Addr} {x m q : Str} {st : Stmt} {N ps : List Str} {k : Nat} {c : Ctr}
theorem gdM_of (mo : c.Mono) (F : DfM K Cl m q st ps) (S : FnScope N ps (defScope st)) (len : ∀ as R E, c as R E → as.length = ps.length) (t : TS)
    (hb : ∀ (f : Addr) (cdv : Value) (A : Around) (fs : List Env) (s : Shared) (H : Hp) (E : XK), Room k (A.deeper (PyProof.Rows.envOfC q (defScope st) s.heap.objs.size f cdv)) → PSs (cxOf CX0 P w K mg base N q (defScope st) f cdv A fs s H E).nox (defBody st) t)
    (hs : ∀ (C : Cc K) as R Er, c as R Er → Sj C t (as ++ List.replicate (N.length - as.length) .no) (fin as R)) : GdM P w K mg base Cl m ps (k + 1) c := by
  obtain ⟨f, fd, h1, h2, h3⟩ := F
  exact ⟨f, fd, h2, h3, fn_dl mo h1 S len fun cdv A fs s H E hr => ⟨t, hb f cdv A fs s H E hr, hs⟩⟩
theorem gdI_of (mo : c.Mono) (F : DfI K mg x Cl q st ps) (S : FnScope N ps (defScope st)) (len : ∀ as R E, c as R E → as.length = ps.length) (t : TS)
    (hb : ∀ (f : Addr) (cdv : Value) (A : Around) (fs : List Env) (s : Shared) (H : Hp) (E : XK), Room k (A.deeper (PyProof.Rows.envOfC q (defScope st) s.heap.objs.size f cdv)) → PSs (cxOf CX0 P w K mg base N q (defScope st) f cdv A fs s H E).nox (defBody st) t)
    (hs : ∀ (C : Cc K) as R Er, c as R Er → Sj C t (as ++ List.replicate (N.length - as.length) .no) (fin as R)) : GdI P w K mg base x Cl ps (k + 1) c := by
  obtain ⟨f, fd, h1, h2, h3, h4⟩ := F
  exact ⟨f, fd, h2, h3, fn_dl mo h1 S len fun cdv A fs s H E hr => ⟨t, hb f cdv A fs s H E hr, hs⟩, h4⟩
end

end
section
/-! DL, part y: classes of a text: where they stand, their methods by contracts; divmod, index of truths. -/
/-- where the classes stand -/
structure Cs where
  Run : Addr
  Stretch : Addr
  Sums : Addr
  Line : Addr
  Desk : Addr
  Piece : Addr
  Uses : Addr
  /-- the classes of errors, by name -/
  ex : Str → Addr := fun _ => 0
section
variable {P : Program} {w : World} {K : PySem.W.Frag} {mg : Str → Option Value} {base : Heap} {Cl : Addr} {x m q : Str} {st : Stmt} {N ps : List Str} {k : Nat}
theorem gdM_ct {α : Type} {emb : α → List Dt} {pre : α → Prop} {res : α → Dt} (F : DfM K Cl m q st ps) (S : FnScope N ps (defScope st)) (len : ∀ a, (emb a).length = ps.length) (t : TS)
    (hb : ∀ (f : Addr) (cdv : Value) (A : Around) (fs : List Env) (s : Shared) (H : Hp) (E : XK), Room k (A.deeper (PyProof.Rows.envOfC q (defScope st) s.heap.objs.size f cdv)) → PSs (cxOf CX0 P w K mg base N q (defScope st) f cdv A fs s H E).nox (defBody st) t)
    (hs : ∀ (C : Cc K) a, pre a → Sj C t ((emb a).map Sl.d ++ List.replicate (N.length - ps.length) .no) (finT (res a))) : GdM P w K mg base Cl m ps (k + 1) (CT emb pre res) :=
  gdM_of CT.mono F S (CT.len len) t hb (ct_fin len hs)
theorem gdM_cr {α : Type} {emb : α → List Dt} {pre : α → Prop} {res : α → Sl → Prop} (F : DfM K Cl m q st ps) (S : FnScope N ps (defScope st)) (len : ∀ a, (emb a).length = ps.length) (t : TS)
    (hb : ∀ (f : Addr) (cdv : Value) (A : Around) (fs : List Env) (s : Shared) (H : Hp) (E : XK), Room k (A.deeper (PyProof.Rows.envOfC q (defScope st) s.heap.objs.size f cdv)) → PSs (cxOf CX0 P w K mg base N q (defScope st) f cdv A fs s H E).nox (defBody st) t)
    (hs : ∀ (C : Cc K) a, pre a → Sj C t ((emb a).map Sl.d ++ List.replicate (N.length - ps.length) .no) (finR (res a))) : GdM P w K mg base Cl m ps (k + 1) (DL.CR emb pre res) :=
  gdM_of CR.mono F S (CR.len len) t hb (cr_fin len hs)
theorem gdM_cb {α β : Type} {W : β → Wd} {emb : α → List Dt} {pre : β → α → Prop} {post : β → α → Sl → β → Prop} (F : DfM K Cl m q st ps) (S : FnScope N ps (defScope st)) (len : ∀ a, (emb a).length + 1 = ps.length) (t : TS)
    (hb : ∀ (f : Addr) (cdv : Value) (A : Around) (fs : List Env) (s : Shared) (H : Hp) (E : XK), Room k (A.deeper (PyProof.Rows.envOfC q (defScope st) s.heap.objs.size f cdv)) → PSs (cxOf CX0 P w K mg base N q (defScope st) f cdv A fs s H E).nox (defBody st) t)
    (hs : ∀ (C : Cc K) b a, pre b a → Sj C t (.w true (W b) :: (emb a).map Sl.d ++ List.replicate (N.length - ps.length) .no) (finB W (post b a))) : GdM P w K mg base Cl m ps (k + 1) (CB W emb pre post) :=
  gdM_of CB.mono F S (CB.len len) t hb (cb_fin len hs)
theorem gdI_cb {α β : Type} {W : β → Wd} {emb : α → List Dt} {pre : β → α → Prop} {post : β → α → Sl → β → Prop} (F : DfI K mg x Cl q st ps) (S : FnScope N ps (defScope st)) (len : ∀ a, (emb a).length + 1 = ps.length) (t : TS)
    (hb : ∀ (f : Addr) (cdv : Value) (A : Around) (fs : List Env) (s : Shared) (H : Hp) (E : XK), Room k (A.deeper (PyProof.Rows.envOfC q (defScope st) s.heap.objs.size f cdv)) → PSs (cxOf CX0 P w K mg base N q (defScope st) f cdv A fs s H E).nox (defBody st) t)
    (hs : ∀ (C : Cc K) b a, pre b a → Sj C t (.w true (W b) :: (emb a).map Sl.d ++ List.replicate (N.length - ps.length) .no) (finB W (post b a))) : GdI P w K mg base x Cl ps (k + 1) (CB W emb pre post) :=
  gdI_of CB.mono F S (CB.len len) t hb (cb_fin len hs)
end
/-! the end: what the top has written of classes -/
def MethIn (K : PySem.W.Frag) (Cl : Addr) (m q : Str) (st : Stmt) : Prop := ∃ (f : Addr) (oc : Value) (od an : Option Addr) (kV doc pm cdv ct : Value) (osl : Array (Option Value)),
  PySem.W.findIn K (.ref Cl) m = some (some (.ref f)) ∧ K.lookup f = some ⟨oc, od, .func (PySem.W.fnOf m q (defArgs st) (defBody st) (defScope st) .none kV doc pm an cdv ct), osl⟩ ∧ PySem.W.codeIn K cdv q = true ∧ PySem.W.keepIn K (.ref f) = true ∧ PySem.W.isFn K (.ref f) = true
theorem meth_mk {K : PySem.W.Frag} {Cl : Addr} {m q : Str} {st : Stmt} {f : Addr} {oc : Value} {od an : Option Addr} {kV doc pm cdv ct : Value} {osl : Array (Option Value)}
    (a : PySem.W.findIn K (.ref Cl) m = some (some (.ref f))) (l : K.lookup f = some ⟨oc, od, .func (PySem.W.fnOf m q (defArgs st) (defBody st) (defScope st) .none kV doc pm an cdv ct), osl⟩) (c : PySem.W.codeIn K cdv q = true) (k : PySem.W.keepIn K (.ref f) = true) (i : PySem.W.isFn K (.ref f) = true) : MethIn K Cl m q st :=
  ⟨f, oc, od, an, kV, doc, pm, cdv, ct, osl, a, l, c, k, i⟩
def PrmM (m q : Str) (st : Stmt) (ps : List Str) : Prop := ∀ (kV doc pm : Value) (an : Option Addr) (cdv ct : Value) (us : List Value), us.length = ps.length → bindArgs (PySem.W.fnOf m q (defArgs st) (defBody st) (defScope st) .none kV doc pm an cdv ct) ⟨us, []⟩ = pure (ps.zip us)
theorem dfM_of {K : PySem.W.Frag} {Cl : Addr} {m q : Str} {st : Stmt} {ps : List Str} (D : MethIn K Cl m q st) (p : PrmM m q st ps) : DfM K Cl m q st ps := by
  obtain ⟨f, oc, od, an, kV, doc, pm, cdv, ct, osl, a, l, c, k, i⟩ := D
  exact ⟨f, _, fun_mk (st := st) l c k, ⟨a, i, k⟩, p kV doc pm an cdv ct⟩
structure ClsIn (K : PySem.W.Frag) (x : Str) (Cl : Addr) : Prop where
  ns : PySem.W.nsIn K mainGlobals x = some (some (.ref Cl))
  cl : Cls K Cl
  mks : PySem.W.makesIn K Cl = true
  kp : PySem.W.keepIn K (.ref Cl) = true
theorem cls_mk {K : PySem.W.Frag} {x : Str} {Cl : Addr} (ns : PySem.W.nsIn K mainGlobals x = some (some (.ref Cl))) (pg : PySem.W.plainGet K Cl Str.empty = true) (hd : PySem.W.hasDictIn K Cl = true) (po : PySem.W.plainOver K Cl = true)
    (sa : PySem.W.findIn K (.ref Cl) "__setattr__" = some (some (.builtin "object.__setattr__"))) (mk : PySem.W.makesIn K Cl = true) (kp : PySem.W.keepIn K (.ref Cl) = true) : ClsIn K x Cl := ⟨ns, ⟨pg, hd, po, sa⟩, mk, kp⟩
theorem dfI_of {K : PySem.W.Frag} {h : Heap} {mg : Str → Option Value} {x : Str} {Cl : Addr} {q : Str} {st : Stmt} {ps : List Str} (X : K.In h) (G : h.Ns mainGlobals mg) (c : ClsIn K x Cl) (D : MethIn K Cl "__init__" q st) (p : PrmM "__init__" q st ps) : DfI K mg x Cl q st ps := by
  obtain ⟨f, oc, od, an, kV, doc, pm, cdv, ct, osl, a, l, c', k, i⟩ := D
  exact ⟨f, _, fun_mk (st := st) l c' k, ⟨c.mks, a, i, c.kp⟩, p kV doc pm an cdv ct, PySem.W.mg_of X G c.ns⟩
section
variable {K : PySem.W.Frag} {C : Cc K} {ρ : List Sl} {te tb : TE}
/-- divmod of whole numbers -/
def rDvm : List V → Hp → VK → Prop := fun xs H Q => ∃ i j, xs = [.int i, .int j] ∧ CDivP i j ∧ ∀ p, H p = none → Q (.ref p) (upd H p (.tup [.int (i / j), .int (i % j)]))
theorem cr_dvm {X : Cx} : CallR X (.builtin "divmod") rDvm := call_divmodW
theorem cad_dvm {R : Dt → Prop} {i j : Int} (hc : CDivP i j) (k : R (.tup [.int (i / j), .int (i % j)])) : CaD C rDvm [.int i, .int j] ρ R := fun G H σ fp O vs hv Q q => by
  cases hv with
  | cons h1 h2 =>
    cases h2 with
    | cons h2 h3 =>
      cases h3
      cases h1
      cases h2
      refine ⟨i, j, rfl, hc, fun p hp => ?_⟩
      have s1 : Same G (upd G p (.tup [.int (i / j), .int (i % j)])) := same_new (O.e1.free hp)
      exact q _ _ _ _ s1 (O.new hp) (.tup upd_same (.cons (.int _) (.cons (.int _) .nil))) k
theorem Dvs.bls {G : Hp} : ∀ {bs : List Bool} {xs : List V}, Dvs K G xs (bs.map Dt.bl) → xs = bs.map V.bl
  | [], _, h => by cases h; rfl
  | b :: bs, _, h => by
    cases h with
    | cons h1 h2 =>
      cases h1
      rw [Dvs.bls h2]
      rfl
/-- x.index(True), x of truths -/
theorem evd_indexB {R : Dt → List Sl → Prop} (h : EvD C te ρ fun x ρ1 => asL (fun ds => EvD C tb ρ1 fun y ρ2 => ∃ (bs : List Bool) (j : Nat), ds = bs.map Dt.bl ∧ y = .bl true ∧ bs[j]? = some true ∧ (∀ m, m < j → bs[m]? ≠ some true) ∧ R (.int j) ρ2) x) :
    EvD C (tBM K "list" (rIndex K) te (tCons tb tNil)) ρ R := fun G H σ fp O Q qq =>
  h G H σ fp O _ fun v G1 H1 x ρ1 fp1 e1 O1 D1 r1 => by
    cases D1 with
    | @lst p xs ds a1 a2 =>
      refine ⟨.inl ⟨rfl, _, .inl (.inl (O1.e1 _ _ a1))⟩, r1 G1 H1 σ fp1 O1 _ fun w G2 H2 y ρ2 fp2 e2 O2 D2 r2 => ?_⟩
      obtain ⟨bs, j, rfl, rfl, hj, hno, r3⟩ := r2
      cases D2
      have e := a2.bls
      subst e
      refine ⟨_, _, _, j, .bl true, rfl, rfl, .inl (.inl (O2.e1 _ _ (e2 _ _ a1))), rfl, ?_, ?_, rfl, ?_, qq _ G2 H2 _ ρ2 fp2 (e1.trans e2) O2 (.int _) r3⟩
      · exact List.all_eq_true.mpr fun x hx => by
          obtain ⟨z, _, rfl⟩ := List.mem_map.mp hx
          rfl
      · rw [List.getElem?_map, hj]; rfl
      · intro m z' hm hz
        rw [List.getElem?_map] at hz
        cases e : bs[m]? with
        | none => rw [e] at hz; cases hz
        | some k =>
          rw [e] at hz
          cases hz
          cases k with
          | true => exact absurd e (hno m hm)
          | false => rfl
    | _ => exact r1.elim
end

end
section
/-! DL, part z: comprehensions over what is told by a list of any kind. -/
section
variable {K : PySem.W.Frag} {C : Cc K} {ρ : List Sl} {tl te : TE} {t : TT}
theorem tg2 {i j : Nat} : TgOnly (gSeq K 2 (gCons (gName i) (gCons (gName j) gNil))) [i, j] :=
  tg_seq (tgs_cons (List.mem_cons_self ..) (tgs_cons (List.mem_cons_of_mem _ (List.mem_cons_self ..)) tgs_nil))
theorem tg3 {i j l : Nat} : TgOnly (gSeq K 3 (gCons (gName i) (gCons (gName j) (gCons (gName l) gNil)))) [i, j, l] :=
  tg_seq (tgs_cons (List.mem_cons_self ..) (tgs_cons (List.mem_cons_of_mem _ (List.mem_cons_self ..)) (tgs_cons (List.mem_cons_of_mem _ (List.mem_cons_of_mem _ (List.mem_cons_self ..))) tgs_nil)))
theorem tg1 {i : Nat} : TgOnly (gName i) [i] := tg_name (List.mem_cons_self ..)
theorem range_typed {α : Type} (xs : List α) (A : α → Dt) (f : α → Option Dt) : (List.range (xs.map A).length).filterMap (fun i => (xs[i]?).bind f) = xs.filterMap f := by
  rw [List.length_map]
  induction xs with
  | nil => rfl
  | cons x xs ih =>
    rw [List.length_cons, List.range_succ_eq_map, List.filterMap_cons, List.filterMap_map]
    have e : (fun i => ((x :: xs)[i]?).bind f) ∘ Nat.succ = fun i => (xs[i]?).bind f := by
      funext i
      show ((x :: xs)[i + 1]?).bind f = _
      rw [List.getElem?_cons_succ]
    rw [e, ih, show ((x :: xs)[0]?).bind f = f x from rfl, List.filterMap_cons]
theorem ev_lcX {α : Type} {R : Sl → List Sl → Prop} {g : TG} {vs : List Nat} (hT : TgOnly g vs) (xs : List α) (A : α → Dt) (f : α → Option Dt) {ρ0 : List Sl} (e0 : dropW ρ vs = ρ0)
    (h : EvD C tl ρ fun x ρ1 => ρ1 = ρ ∧ wipeOk ρ vs = true ∧ asQ (fun ds => ds = xs.map A ∧ xs.length ≤ 1000000 ∧
      (∀ (C' : Cc K) a, a ∈ xs → GgD C' g (A a) ρ0 fun ρ2 => EvT C' t ρ2 fun b ρ3 => (b = true → EvD C' te ρ3 fun d ρ4 => wipeOk ρ4 vs = true ∧ dropW ρ4 vs = ρ0 ∧ f a = some d) ∧ (b = false → wipeOk ρ3 vs = true ∧ dropW ρ3 vs = ρ0 ∧ f a = none)) ∧ R (.l (xs.filterMap f)) ρ) x) :
    Ev C (tLc (iSeq K tl) g t te vs) ρ R := by
  refine ev_lcF hT (wk_seq (evd_imp h ?_))
  rintro x ρ1 ⟨rfl, hw, hx⟩
  have main : ∀ ds : List Dt, (ds = xs.map A ∧ xs.length ≤ 1000000 ∧
      (∀ (C' : Cc K) a, a ∈ xs → GgD C' g (A a) ρ0 fun ρ2 => EvT C' t ρ2 fun b ρ3 => (b = true → EvD C' te ρ3 fun d ρ4 => wipeOk ρ4 vs = true ∧ dropW ρ4 vs = ρ0 ∧ f a = some d) ∧ (b = false → wipeOk ρ3 vs = true ∧ dropW ρ3 vs = ρ0 ∧ f a = none)) ∧ R (.l (xs.filterMap f)) ρ1) →
      ρ1 = ρ1 ∧ wipeOk ρ1 vs = true ∧ ds.length ≤ 1000000 ∧ ∃ f : Nat → Option Dt, (∀ (C' : Cc K) i, i < ds.length → GgD C' g ((ds[i]?).getD .non) (dropW ρ1 vs) fun ρ2 => EvT C' t ρ2 fun b ρ3 =>
        (b = true → EvD C' te ρ3 fun d ρ4 => wipeOk ρ4 vs = true ∧ dropW ρ4 vs = dropW ρ1 vs ∧ f i = some d) ∧ (b = false → wipeOk ρ3 vs = true ∧ dropW ρ3 vs = dropW ρ1 vs ∧ f i = none)) ∧ R (.l ((List.range ds.length).filterMap f)) ρ1 := by
    rintro ds ⟨rfl, h1, h2, h3⟩
    refine ⟨rfl, hw, by rw [List.length_map]; exact h1, fun i => (xs[i]?).bind f, fun C' i hi => ?_, by rw [range_typed]; exact h3⟩
    rw [List.length_map] at hi
    have e : (xs[i]?).bind f = f xs[i] := by rw [List.getElem?_eq_getElem hi]; rfl
    rw [e0, List.getElem?_map, List.getElem?_eq_getElem hi]
    show GgD C' g (A xs[i]) ρ0 fun ρ2 => EvT C' t ρ2 fun b ρ3 => (b = true → EvD C' te ρ3 fun d ρ4 => wipeOk ρ4 vs = true ∧ dropW ρ4 vs = ρ0 ∧ (xs[i]?).bind f = some d) ∧ (b = false → wipeOk ρ3 vs = true ∧ dropW ρ3 vs = ρ0 ∧ (xs[i]?).bind f = none)
    rw [e]
    exact h2 C' xs[i] (List.getElem_mem hi)
  cases x with
  | lst ds => exact main ds hx
  | tup ds => exact main ds hx
  | _ => exact hx.elim
theorem evd_lcX {α : Type} {R : Dt → List Sl → Prop} {g : TG} {vs : List Nat} (hT : TgOnly g vs) (xs : List α) (A : α → Dt) (f : α → Option Dt) {ρ0 : List Sl} (e0 : dropW ρ vs = ρ0)
    (h : EvD C tl ρ fun x ρ1 => ρ1 = ρ ∧ wipeOk ρ vs = true ∧ asQ (fun ds => ds = xs.map A ∧ xs.length ≤ 1000000 ∧
      (∀ (C' : Cc K) a, a ∈ xs → GgD C' g (A a) ρ0 fun ρ2 => EvT C' t ρ2 fun b ρ3 => (b = true → EvD C' te ρ3 fun d ρ4 => wipeOk ρ4 vs = true ∧ dropW ρ4 vs = ρ0 ∧ f a = some d) ∧ (b = false → wipeOk ρ3 vs = true ∧ dropW ρ3 vs = ρ0 ∧ f a = none)) ∧ R (.lst (xs.filterMap f)) ρ) x) :
    EvD C (tLc (iSeq K tl) g t te vs) ρ R := by
  refine evd_l (ev_lcX hT xs A f e0 (evd_imp h ?_))
  rintro x ρ1 ⟨h1, h2, h3⟩
  refine ⟨h1, h2, ?_⟩
  cases x with
  | lst ds => exact ⟨h3.1, h3.2.1, h3.2.2.1, _, rfl, h3.2.2.2⟩
  | tup ds => exact ⟨h3.1, h3.2.1, h3.2.2.1, _, rfl, h3.2.2.2⟩
  | _ => exact h3.elim
end
/-! fields that take data -/
theorem putF_len {f : Str} {v : V} : ∀ vs : List (Str × V), (putF f v vs).length ≤ vs.length + 1
  | [] => Nat.le_refl _
  | (g, x) :: r => by
    unfold putF
    split
    · exact Nat.le_succ _
    · exact Nat.succ_le_succ (putF_len r)
section
variable {K : PySem.W.Frag} {C : Cc K} {ρ : List Sl} {te : TE} {us : TS} {i : Nat} {q : Bool} {Cl a : Addr} {vs : List (Str × V)} {fs : List (Str × Fl)} {f : Str} {nx bk ct : List Sl → Prop} {rt : Sl → List Sl → Prop}
theorem y_fldD (ok : FldOk K Cl f) (hi : ρ[i]? = some (.w q (iwA Cl a vs fs))) (hl : vs.length < 900) (h : EvD C te ρ fun d ρ' => ρ' = ρ ∧ ∀ vs', vs'.length ≤ vs.length + 1 → nx (ρ.set i (.w q (iwA Cl a vs' (putFl f (.d d) fs))))) : Sj C (sFld K (tVar i) te f) ρ ⟨nx, bk, ct, rt⟩ :=
  sj_fld ok (ev_d (evd_imp h fun d ρ' r => by
    obtain ⟨rfl, r⟩ := r
    exact ⟨q, a, vs, fs, .d d, hi, .d d, by omega, fun v => r _ (putF_len vs)⟩))
theorem sq_fldD (ok : FldOk K Cl f) (hi : ρ[i]? = some (.w q (iwA Cl a vs fs))) (hl : vs.length < 900) (h : EvD C te ρ fun d ρ' => ρ' = ρ ∧ ∀ vs', vs'.length ≤ vs.length + 1 → Sj C us (ρ.set i (.w q (iwA Cl a vs' (putFl f (.d d) fs)))) ⟨nx, bk, ct, rt⟩) : Sj C (tSeq (sFld K (tVar i) te f) us) ρ ⟨nx, bk, ct, rt⟩ :=
  sj_seq (y_fldD ok hi hl h)
end

end
section
/-! DL, part A: a text times a number. -/
def rMulStr : R2 := fun x y H Q => ∃ z k, x = .str z ∧ y = .int k ∧ PySem.MulOk z k ∧ Q (.str (PySem.Txt.mul z k)) H
theorem op_mulStr {X : Cx} : OpR X (binaryOp .Mult) rMulStr := by
  intro pins s σ H x y v u Q I rx ry h
  obtain ⟨z, k, rfl, rfl, hz, q⟩ := h
  obtain ⟨t, rfl⟩ := rx
  obtain ⟨t', rfl⟩ := ry
  exact PySem.SB.mul hz fun t' tk => ⟨.str _, H, I.tok _, ⟨_, rfl⟩, q⟩
theorem opd_mulStr {K : PySem.W.Frag} {C : Cc K} {ρ : List Sl} {R : Dt → Prop} {z : Str} {k : Int} (hc : PySem.MulOk z k) (h : R (.str (PySem.Txt.mul z k))) : OpD C rMulStr (.str z) (.int k) ρ R :=
  opd_s (.str _) _ (fun _ _ => .str _) (fun G H σ fp O v w hv hw Q q => by
    cases hv
    cases hw
    exact ⟨z, k, rfl, rfl, hc, q⟩) h
theorem ten_text : ∀ n : Nat, n < 31 → PySem.intText? ((Str.ofString "1") ++ PySem.Txt.mul (Str.ofString "0") (n : Int)) = some ((10 : Int) ^ n) ∧ ((Str.ofString "1") ++ PySem.Txt.mul (Str.ofString "0") (n : Int)).length ≤ 640 := by decide +kernel
theorem ten_len : ∀ n : Nat, n < 31 → (PySem.Txt.mul (Str.ofString "0") (n : Int)).length ≤ 100 := by decide +kernel
theorem y_whileW {K : PySem.W.Frag} {C : Cc K} {ρ : List Sl} {nx bk ct : List Sl → Prop} {rt : Sl → List Sl → Prop} {t : TT} {ts : TS} (vs : List Nat) (Iv : Nat → List Sl → Prop) (m0 : Nat) (h0 : wipeOk ρ vs = true ∧ Iv m0 (dropW ρ vs))
    (hs : ∀ m ρ', Iv m ρ' → EvT C t ρ' fun b ρ1 => (b = true → Sj C ts ρ1 ⟨fun ρ2 => ∃ m', m' < m ∧ wipeOk ρ2 vs = true ∧ Iv m' (dropW ρ2 vs), nx, fun ρ2 => ∃ m', m' < m ∧ wipeOk ρ2 vs = true ∧ Iv m' (dropW ρ2 vs), rt⟩) ∧ (b = false → nx ρ1)) : Sj C (tWhile t ts) ρ ⟨nx, bk, ct, rt⟩ :=
  y_while (fun m ρ => wipeOk ρ vs = true ∧ Iv m (dropW ρ vs)) m0 h0 fun m ρ' z => evt_forget z.1 (hs m _ z.2)

end
section
/-! DL, part B: range with a step. -/
section
variable {K : PySem.W.Frag} {C : Cc K} {ρ : List Sl}
theorem it_rgc {G : Hp} {lo c : Int} {n : Nat} : ItD K G (Itc lo c n) n (fun i => .int (lo + (i : Int) * c)) where
  go := fun i H _ hi => hi
  stop := fun H _ => Nat.le_refl _
  yld := fun i H x H' hi e y => by
    obtain ⟨e1, e2⟩ := y
    subst e2
    exact .inl ⟨e1, .int _⟩
theorem wk_rng3 {R : Nat → (Nat → Dt) → List Sl → Prop} {t : TA} (h : EvA C t ρ fun ds ρ1 => ∃ (lo hi c : Int) (n : Nat), ds = [.int lo, .int hi, .int c] ∧ RgC lo hi c n ∧ R n (fun i => .int (lo + (i : Int) * c)) ρ1) : WkD C (iRng3 t) ρ R := fun G H σ fp O Rr q =>
  h G H σ fp O _ fun vs G1 H1 ds ρ1 fp1 e1 O1 D1 h1 => by
    obtain ⟨lo, hi, c, n, rfl, b, r⟩ := h1
    rcases D1 with _ | ⟨d1, _ | ⟨d2, _ | ⟨d3, _ | _⟩⟩⟩
    cases d1; cases d2; cases d3
    exact ⟨lo, hi, c, n, rfl, b, q _ G1 H1 _ _ ρ1 fp1 e1 O1 it_rgc r⟩
end

end
section
/-! DL, part C: sorted(set(..)) of a list of numbers. -/
section
open PySem.Spec PyProof.Rows
variable {P : Program} {w : World} {A : Around} {E : Value → Shared → Prop} {s : Shared}
/-- a set that is new -/
abbrev nuS (w : World) : Obj := { cls := .type "set", dict := none, data := .set #[] 0 (.fresh 0 0 (!w.params.followText "set-order")) }
abbrev nuH (w : World) (h : Heap) : Heap := h.push (nuS w)
theorem nuH_size {h : Heap} : (nuH w h).objs.size = h.objs.size + 1 := Heap.size_push ..
/-- what a set holds behind an update from a list -/
def SetUp (w : World) (s : Shared) (ns : List Int) (t : Shared) : Prop := ∃ g k c, t = { s with heap := g, toks := k } ∧ SetR w g s.heap.objs.size (fun j => decide (j ∈ ns)) c ∧ c ≤ ns.length ∧ ∀ b o, s.heap.get? b = some o → g.get? b = some o
set_option maxHeartbeats 4000000 in
theorem call_set_ints {l : Addr} {us : Array Value} {ns : List Int} {Q : Value → Shared → Prop} (nh : A.handled = none) (isl : s.heap.IsList l us) (hin : IntsAre us.toList ns) (room : ns.length + 1 < scanBound)
    (k : ∀ t, SetUp w s ns t → Q (.ref s.heap.objs.size) t) : wpAny (model P w) A (call (.type "set") [.ref l]) Q E s := by
  obtain ⟨c0, t0, mro⟩ := F.called_set.mro
  have g1 := F.called_set.made
  have g2 := F.called_set.sub
  refine wpAny_call (codeAny_of_tree ?_)
  show wpAny _ _ (callAny (.type "set") _) _ _ _
  refine wpAny_pure ⟨Code.quiet_builtin _ (by decide +kernel), codeAny_builtin F.entry_type_call ?_⟩
  rw [Around.under_plain (weight_type_call_type "set" [.ref l] []) rfl]
  have g3 := F.called_set.notType
  have g4 := F.called_set.canCreate
  have g5 := F.typeCall_set_1 (.ref l)
  repeat (any_goals (first | assumption | wp_step))
  refine codeAny_mono (code_set_led1 (.ref l) (E := E) (Q₁ := fun x t => x = .ref s.heap.objs.size ∧ t = { s with heap := nuH w s.heap }) ⟨rfl, rfl⟩) fun r t hr => ?_
  rcases r with e | fl
  · exact hr
  cases fl with
  | ret x =>
    obtain ⟨rfl, rfl⟩ := hr
    have hT : Shared.TypeIs { s with heap := nuH w s.heap } (.ref s.heap.objs.size) "set" := ⟨_, Heap.get?_push_size _ rfl, rfl⟩
    have g6 := F.called_set.init.lookup
    have g7 := F.called_set.init.bind (.ref s.heap.objs.size)
    repeat (any_goals (first | assumption | wp_step))
    refine codeAny_mono (codeAny_call_builtin (R := wants (fun r t => r = .none ∧ SetUp w s ns t) E) F.called_set.init.plain F.entry_set_init (check_set_init_1 hT ?_)) fun r t hr => ?_
    · have len : us.size = ns.length := by rw [← Array.length_toList]; exact IntsAre.length hin
      obtain ⟨⟨kc, kd, ka, ks⟩, at_l, ec, cap, ed⟩ := isl
      dsimp only at ec ed
      subst ec; subst ed
      have lo : l < s.heap.objs.size := Heap.lt_size at_l
      have at_l' : (nuH w s.heap).get? l = some { cls := .type "list", dict := kd, data := .seq us cap, slots := ks } := Heap.get?_push_of_some _ at_l
      have f1 := F.sub_list_set
      have f2 := F.sub_list_frozenset
      have f3 : (Value.type "list" == Value.type "dict") = false := by decide
      have il : (nuH w s.heap).IsList l us := ⟨_, at_l', rfl, cap, rfl⟩
      unfold Builtin.«set.__init__» noKeywords Builtin.Frozenset.updateFrom
      generalize hit : pyIter = it
      wp_walk
      subst hit
      refine wpAny_pyIter_list il (wpAny_bind (wpAny_runValue ?_))
      have calm : A.in1.in1.in1.handled = none := by simp [nh]
      have sz : (nuH w s.heap).objs.size = s.heap.objs.size + 1 := nuH_size
      have ni : l ≠ (nuH w s.heap).objs.size := by rw [sz]; exact Nat.ne_of_lt (Nat.lt_succ_of_lt lo)
      have nf : s.heap.objs.size ∉ [(nuH w s.heap).objs.size, l] := by
        rw [sz]
        intro z
        rcases List.mem_cons.mp z with z | z
        · exact absurd z (Nat.ne_of_lt (Nat.lt_succ_self _))
        · exact absurd (List.mem_singleton.mp z) (Nat.ne_of_gt lo)
      refine set_update_ints ((Walks.list calm _ l ni us).toS) s.heap.objs.size nf ns len room ?hv (us.size - 0) 0 _ (by omega) (Nat.zero_le _) ⟨⟨_, Heap.get?_push_size _ rfl, rfl, rfl⟩, (il.push _)⟩ ?h0 ?hR
      case hv =>
        intro i v hv
        have hi : i < ns.length := by rw [← len]; exact (Array.getElem?_eq_some_iff.mp hv).1
        obtain ⟨t, e⟩ := IntsAre.int_at hin i v (by rw [Array.getElem?_toList]; exact hv)
        exact ⟨ns[i], t, List.getElem?_eq_getElem hi, by rw [e, List.getD_eq_getElem?_getD, List.getElem?_eq_getElem hi]; rfl⟩
      case h0 =>
        refine ⟨0, Nat.le_refl 0, setR_new_at (Heap.get?_push_of_some _ ?_)⟩
        exact Heap.get?_push_size _ rfl
      case hR =>
        intro s' c mv hc hS
        obtain ⟨g, q1, q2, tk, q3⟩ := s'
        have e1 : q1 = s.gens := mv.gens
        have e2 : q2 = s.drawn := mv.drawn
        have e3 : q3 = s.os := mv.os
        subst e1 e2 e3
        show wpAny _ _ _ _ _ _
        refine wpAny_pure ?_
        show wpAny _ _ (ret Value.none) _ _ _
        refine wpAny_pure ⟨rfl, g, tk, c, rfl, hS, by omega, fun b o e => ?_⟩
        have lb : b < s.heap.objs.size := Heap.lt_size e
        refine mv.heap b o ?_ (Heap.get?_push_of_some _ (Heap.get?_push_of_some _ e))
        rw [sz]
        intro z
        rcases List.mem_cons.mp z with z | z
        · exact absurd z (Nat.ne_of_lt lb)
        · exact absurd (List.mem_singleton.mp z) (Nat.ne_of_lt (Nat.lt_succ_of_lt lb))
    · rcases r with e | fl
      · exact hr
      cases fl with
      | ret y =>
        obtain ⟨rfl, ht⟩ := hr
        have ht' := ht
        obtain ⟨g, tk, c, rfl, _⟩ := ht
        repeat (any_goals (first | assumption | wp_step))
        exact k _ ht'
      | _ => exact hr.elim
  | _ => exact hr.elim
end
def tSortSet (K : PySem.W.Frag) (ta : TE) : TE := fun σ H Q => ta σ H fun x H1 => ∃ (l : Addr) (ns : List Int), x = .ref l ∧ SqL K H1 l (ns.map V.int) ∧ ns.length < 64 ∧ ∀ (ms : List Int) (p : Addr), ms.Pairwise (· < ·) → (∀ k : Int, k ∈ ms ↔ k ∈ ns) → ms.length ≤ ns.length → H1 p = none → Q (.ref p) (upd H1 p (.lst (ms.map V.int)))
theorem pe_sortSet {X : Cx} {a : Expr} {ta : TE} {p p2 q pos : Pos} (g1 : Gl X "sorted") (m1 : X.mg "sorted" = none) (g2 : Gl X "set") (m2 : X.mg "set" = none) (ha : PE X a ta) (hc : X.calm = true := by rfl)
    (st : starEach [a] X.env = (false, eval a X.env) :: starEach [] X.env := by rfl) : PE X (.Call (.Name "sorted" p) [.Call (.Name "set" p2) [a] [] q] [] pos) (tSortSet X.K ta) := by
  refine ⟨fun pins s σ H Q I h => PyProof.Rows.Call_ (ld_blt I g1 m1 PyProof.Rows.boot_sorted (PyProof.Rows.callWith_builtin1 (PyProof.Rows.args_cons ?_ rfl) rfl rfl))⟩
  refine PyProof.Rows.Call_ (ld_blt I g2 m2 PyProof.Rows.boot_set (PyProof.Rows.callWith_type1 (PyProof.Rows.args_cons (thn (ha.run pins s σ H _ I h) fun v s1 ⟨x, H1, I1, r1, q1⟩ => PyProof.Rows.args_nil ?_) st) st rfl))
  obtain ⟨l, ns, rfl, hq, h64, q1⟩ := q1
  cases r1
  obtain ⟨its, r, pl, hz⟩ := I1.list hq
  refine call_set_ints (I1.ok.hd hc) pl.isList (ns := ns) (by simpa using r.ints) (by unfold scanBound; omega) fun t ht => ?_
  obtain ⟨g, tk, c, rfl, hS, cn, keep⟩ := ht
  have I2 : Inv X pins σ H1 { s1 with heap := g, toks := tk } := I1.kept keep
  refine PyProof.Rows.args_nil (sorted_set hS (I1.ok.hd hc) (by omega) fun s' p out z ms k g o hp hg hi hs hm hl => ?_)
  have hn : H1 p = none := I2.hok.fresh hp
  have room : (ms.map V.int).length ≤ sizeLine := by rw [List.length_map, hl, sizeLine_eq]; omega
  exact ⟨.ref p, _, I2.call' (ch := []) o (Un.laid k hp hn) (I2.hok.laid (o := .lst (ms.map V.int)) k hp ⟨room, out.toList, z, vals_of_ints hi, hg⟩) (by rw [g]; exact I2.bare) (fun _ z => nomatch z), rfl, q1 ms p hs (fun k => (hm k).trans (by simp)) (by omega) hn⟩
section
variable {K : PySem.W.Frag} {C : Cc K} {ρ : List Sl} {te : TE}
theorem ev_sortSet {R : Sl → List Sl → Prop} (h : EvD C te ρ fun x ρ1 => ∃ ns : List Int, x = .lst (ns.map Dt.int) ∧ ns.length < 64 ∧ ∀ ms : List Int, ms.Pairwise (· < ·) → (∀ k : Int, k ∈ ms ↔ k ∈ ns) → ms.length ≤ ns.length → R (.l (ms.map Dt.int)) ρ1) : Ev C (tSortSet K te) ρ R := fun G H σ fp O Q q =>
  h G H σ fp O _ fun v G1 H1 x ρ1 fp1 e1 O1 D1 r => by
    obtain ⟨ns, rfl, r1, r2⟩ := r
    cases D1 with
    | lst a1 a2 =>
      have e := a2.ints_is
      subst e
      exact ⟨_, ns, rfl, .inl (.inl (O1.e1 _ _ a1)), r1, fun ms p hs hm hl hp => q _ G1 _ _ ρ1 fp1 [p] e1 (O1.newL hp (Dvs.ints ms)) (r2 ms hs hm hl)⟩
theorem evd_sortSet {R : Dt → List Sl → Prop} (h : EvD C te ρ fun x ρ1 => ∃ ns : List Int, x = .lst (ns.map Dt.int) ∧ ns.length < 64 ∧ ∀ ms : List Int, ms.Pairwise (· < ·) → (∀ k : Int, k ∈ ms ↔ k ∈ ns) → ms.length ≤ ns.length → R (.lst (ms.map Dt.int)) ρ1) : EvD C (tSortSet K te) ρ R :=
  evd_l (ev_sortSet (evd_imp h fun x ρ1 r => by
    obtain ⟨ns, e, r1, r2⟩ := r
    exact ⟨ns, e, r1, fun ms hs hm hl => ⟨_, rfl, r2 ms hs hm hl⟩⟩))
end
/-! comprehensions whose elements are some of many, with a state -/
section
variable {K : PySem.W.Frag} {C : Cc K} {ρ : List Sl} {te tl : TE}
theorem ev_lcZ (β γ : Type) {R : Sl → List Sl → Prop} {wi : TI} {g : TG} {vs : List Nat} (hT : TgOnly g vs)
    (h : WkD C wi ρ fun n Y ρ1 => ∃ (B : γ → Dt) (P : Nat → γ → Prop) (st : β → List Sl) (b0 : β), wipeOk ρ1 vs = true ∧ n ≤ 1000000 ∧ dropW ρ1 vs = st b0 ∧
      (∀ (C' : Cc K) b i, i < n → GgD C' g (Y i) (st b) fun ρ2 => EvD C' te ρ2 fun d ρ4 => wipeOk ρ4 vs = true ∧ ∃ b' y, dropW ρ4 vs = st b' ∧ d = B y ∧ P i y) ∧
      ∀ (ys : List γ) b, ys.length = n → (∀ i (hi : i < ys.length), P i ys[i]) → R (.l (ys.map B)) (backW ρ1 (st b) vs)) : Ev C (tLc wi g tYes te vs) ρ R := by
  refine ev_lc hT ?_
  intro G H σ fp O Rr qq
  refine h G H σ fp O Rr fun J G1 H1 n Y ρ1 fp1 e1 O1 it r => qq J G1 H1 n Y ρ1 fp1 e1 O1 it ?_
  obtain ⟨B, P, st, b0, w1, hn, e0, step, fin⟩ := r
  refine ⟨w1, hn, fun i acc ρ' => ∃ (ys : List γ) (b : β), ys.length = i ∧ acc = ys.map B ∧ (∀ i (hi : i < ys.length), P i ys[i]) ∧ ρ' = st b, ⟨[], b0, rfl, rfl, (fun i hi => absurd hi (Nat.not_lt_zero _)), e0⟩, ?_, ?_⟩
  · rintro C' i acc ρ' hi _ ⟨ys, b, hl, rfl, hP, rfl⟩
    intro G H σ fp v O D Q q
    refine step C' b i hi G H σ fp v O D Q fun G' H' σ' ρ2 fp' e O' k => q G' H' σ' ρ2 fp' e O' ?_
    refine evt_yes ⟨fun _ => evd_imp k ?_, fun z => nomatch z⟩
    rintro d ρ4 ⟨w4, b', y, e4, rfl, hy⟩
    refine ⟨w4, ys ++ [y], b', by simp [hl], by simp, fun j hj => ?_, e4⟩
    rw [List.getElem_append]
    split
    · exact hP j _
    · rename_i c
      have : j = i := by rw [List.length_append, List.length_singleton] at hj; omega
      subst this
      simpa using hy
  · rintro acc ρ' ha ⟨ys, b, hl, rfl, hP, rfl⟩ _
    exact fin ys b hl hP
theorem evd_lcZ (β γ : Type) {R : Dt → List Sl → Prop} {wi : TI} {g : TG} {vs : List Nat} (hT : TgOnly g vs)
    (h : WkD C wi ρ fun n Y ρ1 => ∃ (B : γ → Dt) (P : Nat → γ → Prop) (st : β → List Sl) (b0 : β), wipeOk ρ1 vs = true ∧ n ≤ 1000000 ∧ dropW ρ1 vs = st b0 ∧
      (∀ (C' : Cc K) b i, i < n → GgD C' g (Y i) (st b) fun ρ2 => EvD C' te ρ2 fun d ρ4 => wipeOk ρ4 vs = true ∧ ∃ b' y, dropW ρ4 vs = st b' ∧ d = B y ∧ P i y) ∧
      ∀ (ys : List γ) b, ys.length = n → (∀ i (hi : i < ys.length), P i ys[i]) → R (.lst (ys.map B)) (backW ρ1 (st b) vs)) : EvD C (tLc wi g tYes te vs) ρ R := by
  refine evd_l (ev_lcZ β γ hT ?_)
  intro G H σ fp O Rr qq
  refine h G H σ fp O Rr fun J G1 H1 n Y ρ1 fp1 e1 O1 it r => qq J G1 H1 n Y ρ1 fp1 e1 O1 it ?_
  obtain ⟨B, P, st, b0, w1, hn, e0, step, fin⟩ := r
  exact ⟨B, P, st, b0, w1, hn, e0, step, fun ys b h1 h2 => ⟨_, rfl, fin ys b h1 h2⟩⟩
theorem evd_lcN {β γ : Type} {R : Dt → List Sl → Prop} {wi : TI} {g : TG} {vs : List Nat} (hT : TgOnly g vs) (B : γ → Dt) (P : Nat → γ → Prop) (st : β → List Sl) (b0 : β)
    (h : WkD C wi ρ fun n Y ρ1 => wipeOk ρ1 vs = true ∧ n ≤ 1000000 ∧ dropW ρ1 vs = st b0 ∧
      (∀ (C' : Cc K) b i, i < n → GgD C' g (Y i) (st b) fun ρ2 => EvD C' te ρ2 fun d ρ4 => wipeOk ρ4 vs = true ∧ ∃ b' y, dropW ρ4 vs = st b' ∧ d = B y ∧ P i y) ∧
      ∀ (ys : List γ) b, ys.length = n → (∀ i (hi : i < ys.length), P i ys[i]) → R (.lst (ys.map B)) (backW ρ1 (st b) vs)) : EvD C (tLc wi g tYes te vs) ρ R := by
  refine evd_lcZ β γ hT ?_
  intro G H σ fp O Rr qq
  exact h G H σ fp O Rr fun J G1 H1 n Y ρ1 fp1 e1 O1 it r => qq J G1 H1 n Y ρ1 fp1 e1 O1 it ⟨B, P, st, b0, r⟩
/-- over a list or tuple; nothing else changes -/
theorem evd_lcR {α γ : Type} {R : Dt → List Sl → Prop} {g : TG} {vs : List Nat} (hT : TgOnly g vs) (xs : List α) (A : α → Dt) (B : γ → Dt) (P : α → γ → Prop) {ρ0 : List Sl} (e0 : dropW ρ vs = ρ0)
    (h : EvD C tl ρ fun x ρ1 => ρ1 = ρ ∧ wipeOk ρ vs = true ∧ asQ (fun ds => ds = xs.map A ∧ xs.length ≤ 1000000 ∧
      (∀ (C' : Cc K) a, a ∈ xs → GgD C' g (A a) ρ0 fun ρ2 => EvD C' te ρ2 fun d ρ4 => wipeOk ρ4 vs = true ∧ ∃ y, dropW ρ4 vs = ρ0 ∧ d = B y ∧ P a y) ∧
      ∀ ys : List γ, ys.length = xs.length → (∀ i (hi : i < xs.length) (hj : i < ys.length), P xs[i] ys[i]) → R (.lst (ys.map B)) (backW ρ ρ0 vs)) x) : EvD C (tLc (iSeq K tl) g tYes te vs) ρ R := by
  refine evd_lcN hT B (fun i y => ∀ hi : i < xs.length, P xs[i] y) (fun _ : Unit => ρ0) () (wk_seq (evd_imp h ?_))
  rintro x ρ1 ⟨rfl, hw, hx⟩
  have main : ∀ ds : List Dt, (ds = xs.map A ∧ xs.length ≤ 1000000 ∧
      (∀ (C' : Cc K) a, a ∈ xs → GgD C' g (A a) ρ0 fun ρ2 => EvD C' te ρ2 fun d ρ4 => wipeOk ρ4 vs = true ∧ ∃ y, dropW ρ4 vs = ρ0 ∧ d = B y ∧ P a y) ∧
      ∀ ys : List γ, ys.length = xs.length → (∀ i (hi : i < xs.length) (hj : i < ys.length), P xs[i] ys[i]) → R (.lst (ys.map B)) (backW ρ1 ρ0 vs)) →
      wipeOk ρ1 vs = true ∧ ds.length ≤ 1000000 ∧ dropW ρ1 vs = ρ0 ∧
      (∀ (C' : Cc K) (b : Unit) i, i < ds.length → GgD C' g ((ds[i]?).getD .non) ρ0 fun ρ2 => EvD C' te ρ2 fun d ρ4 => wipeOk ρ4 vs = true ∧ ∃ (b' : Unit) (y : γ), dropW ρ4 vs = ρ0 ∧ d = B y ∧ ∀ hi : i < xs.length, P xs[i] y) ∧
      ∀ (ys : List γ) (b : Unit), ys.length = ds.length → (∀ i (hi : i < ys.length), ∀ hi : i < xs.length, P xs[i] ys[i]) → R (.lst (ys.map B)) (backW ρ1 ρ0 vs) := by
    rintro ds ⟨rfl, h1, h2, h3⟩
    refine ⟨hw, by rw [List.length_map]; exact h1, e0, fun C' _ i hi => ?_, fun ys _ hl hP => h3 ys (by rw [hl, List.length_map]) fun i hi hj => hP i hj hi⟩
    rw [List.length_map] at hi
    rw [List.getElem?_map, List.getElem?_eq_getElem hi]
    intro G H σ fp v O D Q q
    refine h2 C' xs[i] (List.getElem_mem hi) G H σ fp v O D Q fun G' H' σ' ρ2 fp' e O' k => q G' H' σ' ρ2 fp' e O' (evd_imp k ?_)
    rintro d ρ4 ⟨w4, y, e4, e5, hy⟩
    exact ⟨w4, (), y, e4, e5, fun _ => hy⟩
  cases x with
  | lst ds => exact main ds hx
  | tup ds => exact main ds hx
  | _ => exact hx.elim
end

end
section
/-! DL, part D: errors: raised, let through, caught, asked for their class. -/
theorem exV_ok {P : Program} {w : World} {H : Hp} {h : Heap} {a C : Addr} {oe : Obj} {vs : Array Value} (e : h.get? a = some oe) (z : Zc (.ref C) none oe) (d : oe.data = .fields vs) : ObjOk P w H h a (exV C a) :=
  ⟨⟨oe, vs, e, z, d⟩, ⟨oe, e⟩, fun _ _ x k => let ⟨o, v, q, r⟩ := x; ⟨o, v, k o q, r⟩⟩
section
open PySem.Spec PyProof.Rows
/-- a caught error is known from the suite on -/
theorem inv_caught {X : Cx} {pins : List (Addr × Obj)} {σ : L2.St} {H : Hp} {sI s : Shared} {B : Heap} {a C : Addr} {oe : Obj} {vs : Array Value} (J : Inv X pins σ H sI) (nb : ∀ b o, sI.heap.get? b = some o → b ∉ frs X.stack → B.get? b = some o)
    (I : Inv X pins σ H s) (ha : s.heap.get? a = some oe) (hz : Zc (.ref C) none oe) (hd : oe.data = .fields vs) (na : H a = none) (nB : B.get? a = none) (nfr : a ∉ frs X.stack) (nL : a ≠ X.env.locals) :
    Inv (X.suite a (X.pn ++ pins)) [] σ (upd H a (exV C a)) s := by
  have old : ∀ {b : Addr} {o : Obj}, sI.heap.get? b = some o → b ≠ a := fun {b o} e z => by
    subst z
    exact absurd ((nb _ _ e nfr).symm.trans nB) (fun q => by cases q)
  have neH : ∀ {b : Addr} {u : HO}, H b = some u → b ≠ a := fun {b u} e z => by
    rw [z, na] at e
    cases e
  refine ⟨I.ok.suite _ _, I.os, I.bare, ⟨I.base.keep, I.base.slot, fun b o e n hx => ?_, I.base.there, fun b xs e => ?_, fun b o u e => ?_, fun b ps e => ?_⟩, I.loc, I.cell, ?_, fun y c e => ?_, fun p hp => ?_, fun b u e => ?_, I.len⟩
  · obtain ⟨o', q⟩ := J.base.there b o e hx
    rw [upd_ne (old q)]
    exact I.base.free b o e n hx
  · have q := I.base.tups b xs e
    rw [upd_ne (neH q)]; exact q
  · have q := I.base.frzs b o u e
    rw [upd_ne (neH q)]; exact q
  · obtain ⟨m, q⟩ := I.base.tbls b ps e
    exact ⟨m, by rw [upd_ne (neH q)]; exact q⟩
  · show upd H a _ X.env.locals = none
    rw [upd_ne (Ne.symm nL)]; exact I.free
  · obtain ⟨v, o, ho, hv⟩ := I.cell y c e
    have ne : c ≠ a := fun z => by
      subst z
      rw [ha] at ho
      cases ho
      rw [hd] at hv
      cases hv
    show upd H a _ c = none
    rw [upd_ne ne]; exact I.freeC y c e
  · have hp' : p ∈ X.pn ++ pins := by simpa using hp
    obtain ⟨e, n, r⟩ := I.pin p hp'
    refine ⟨e, ?_, r⟩
    rw [upd_ne (old (J.pin p hp').1)]; exact n
  · by_cases hb : b = a
    · subst hb
      rw [upd_same] at e
      cases e
      exact exV_ok ha hz hd
    · rw [upd_ne hb] at e
      exact (I.hok b u e).stay (fun _ _ _ q => q) (fun c q => by rw [upd_ne (neH q)]; exact q) fun c xs q => by rw [upd_ne (neH q)]; exact q
theorem inv_past {X : Cx} {pins pn : List (Addr × Obj)} {σ : L2.St} {H : Hp} {s : Shared} {a : Addr} (I : Inv (X.suite a (X.pn ++ pins)) pn σ H s) (ok : X.Ok) : Inv X pins σ H s :=
  ⟨ok, I.os, I.bare, I.base, I.loc, I.cell, I.free, I.freeC, fun p hp => I.pin p (List.mem_append_left _ hp), I.hok, I.len⟩
/-- what 'except x as n' wishes of an error of the body; slot i is n's -/
def wTry (K : PySem.W.Frag) (c : Value) (i : Nat) (t : TS) (Wo : WX) (D : Ends) : WX := fun cls d σ H =>
  ∃ Cl b, cls = .ref Cl ∧ d = none ∧ PySem.W.exmOne K cls c = some b ∧ (b = true → ∀ a, H a = none → t ⟨fun σ' H' => D.nx (σ'.set i none) H', D.rt, fun σ' H' => D.bk (σ'.set i none) H', fun σ' H' => D.ct (σ'.set i none) H'⟩ (σ.set i (some (.ref a))) (upd H a (exV Cl a))) ∧ (b = false → Wo cls d σ H)
def tTryX (K : PySem.W.Frag) (c : Value) (i : Nat) (tb : WX → TS) (t : TS) (Wo : WX) : TS := fun D σ H => tb (wTry K c i t Wo D) D σ H
section
variable {X : Cx} {x n : Str} {c : Value} {i : Nat} {body suite : List Stmt} {b₀ : Stmt} {np pos pos' : Pos} {tb : WX → TS} {t : TS} {Wo : WX}
/-- from the handler's look on -/
theorem try_look (hs : X.stack = X.env :: X.outer) (hf : X.env.frame = some X.env.locals) (hN : X.N.Nodup) (hi : X.N[i]? = some n) (hl : X.env.kindOf n = some .local) (hc : Names X x c) (tk : Takes X Wo)
    (hsu : ∀ (a : Addr) (pn : List (Addr × Obj)), PSs (X.suite a pn) (b₀ :: suite) t) {pins : List (Addr × Obj)} (ok : X.Ok) (D : Ends) {u : Value} {s : Shared} {xe : Value → Shared → Prop} (x1 : XE (X.tr (X.pn ++ pins) xe) (wTry X.K c i t Wo D) u s) :
    wpAny (model X.prog X.w) X.A (noteFrame u X.env) (fun _ s2 => wpAny (model X.prog X.w) X.A (setFlight u none) (fun _ s3 => wpAny (model X.prog X.w) X.A (handleBy u X.env [.ExceptHandler (some (.Name x np)) (some n) (b₀ :: suite) pos']) (SP X pins D) X.xe s3) X.xe s2) X.xe s := by
  obtain ⟨a, B, sI, pn', σ1, H1, cls, d, rfl, J', nb, up, sky, na, os, ag, Cl, b, rfl, rfl, m1, hy, hn⟩ := x1
  have J : Inv X pins σ1 H1 sI := Inv.ofTry J' ok
  have sky1 : Sky B (X.env :: X.outer) a (Zc (.ref Cl) none) X.env.locals s.heap := hs ▸ sky
  have fr : X.A.frames = some (X.env :: X.outer) := ok.frames.trans (congrArg some hs)
  refine Sky.land Zc.steady fr hf sky1 fun h3 f3 up3 => ?_
  have I3 : Inv X pins σ1 H1 { s with heap := h3 } := J.landed nb f3.1 (up.trans up3) os ag
  obtain ⟨oe3, vs3, g3, z3, d3⟩ := f3.there
  have nfr : a ∉ frs (X.env :: X.outer) := fun hm => by
    obtain ⟨_, o', e', nf⟩ := f3.2.2.1.mem hm
    rw [g3] at e'; cases e'
    exact nf _ d3
  have nfr' : a ∉ frs X.stack := hs ▸ nfr
  have nL : a ≠ X.env.locals := fun z => nfr (List.mem_filterMap.mpr ⟨X.env, List.mem_cons_self, hf.trans (congrArg some z.symm)⟩)
  have S3 := inv_caught J nb I3 g3 z3 d3 na f3.2.1 nfr' nL
  refine wpAny_handleBy_cons (codeAny_handlers_test ?_) (fun q => by cases q)
  have ty : PySem.W.Looks (model X.prog X.w) h3 (typeOf (.ref a)) (.ref Cl) := fun A Q E s k q => wpAny_typeOf_ref (k _ _ g3) (z3.1 ▸ q)
  have lk := PySem.W.exm_one (M := model X.prog X.w) I3.kIn ty m1
  have nm : ∀ {Q : Value → Shared → Prop} {E : Value → Shared → Prop}, Q c { s with heap := h3 } → wpAny (model X.prog X.w) (X.A.mark (some (.ref a))) (eval (.Name x np) X.env) Q E { s with heap := h3 } := fun {Q E} q => by
    obtain ⟨hg, hdb, e | ⟨e, hv, hnn⟩⟩ := hc
    · exact ld_glob (X := X.suite a (X.pn ++ pins)) S3 hg e q hdb
    · exact ld_blt (X := X.suite a (X.pn ++ pins)) S3 hg e hv q hnn hdb
  refine nm (lk.here ?_)
  cases b with
  | true =>
    refine codeAny_handlers_suite_as (HandSPX.lands_againZ f3 fun h4 f4 up4 => ?_)
    have I4 : Inv X pins σ1 H1 { s with heap := h4 } := J.landed nb f4.1 ((up.trans up3).trans up4) os ag
    obtain ⟨oe4, vs4, g4, z4, d4⟩ := f4.there
    refine store_ok (X := X.suite a (X.pn ++ pins)) (v := .ref a) (inv_caught J nb I4 g4 z4 d4 na f4.2.1 nfr' nL) hN hi (.inl hl) rfl (fun s5 S5 => ?_) (.inr hl)
    refine wpAny_mono ((hsu a (X.pn ++ pins)).run [] s5 _ _ _ S5 (hy rfl a na)) (fun f s6 q6 => ?_) (fun _ _ z => False.elim z)
    have fin : ∀ {σ6 : L2.St} {H6 : Hp} {Q : Shared → Prop}, Inv (X.suite a (X.pn ++ pins)) [] σ6 H6 s6 → (∀ s7, Inv X pins (σ6.set i none) H6 s7 → Q s7) → wpAny (model X.prog X.w) X.A (do bindName X.env n .none; unbindBehindTheSuite X.env n pos') (fun _ s7 => Q s7) X.xe s6 :=
      fun S6 hq => gone_ok (inv_past S6 ok) hN hi hl hq
    cases f with
    | ret v => obtain ⟨w, σ6, H6, S6, r6, e6⟩ := q6; exact fin S6 fun s7 J7 => ⟨w, _, _, J7, r6, e6⟩
    | next => obtain ⟨σ6, H6, S6, e6⟩ := q6; exact fin S6 fun s7 J7 => ⟨_, _, J7, e6⟩
    | brk => obtain ⟨σ6, H6, S6, e6⟩ := q6; exact fin S6 fun s7 J7 => ⟨_, _, J7, e6⟩
    | cont => obtain ⟨σ6, H6, S6, e6⟩ := q6; exact fin S6 fun s7 J7 => ⟨_, _, J7, e6⟩
  | false =>
    refine wpAny_handleBy_nil ?_
    obtain ⟨_, _, _, oe, vs, T, oT, ts', he, _, hd, h1, _⟩ := id f3
    unfold PySem.passOn
    refine wpAny_bind (wpAny_field he hd h1 ?_)
    rw [if_neg (show ¬ ((Value.ref T == Value.none) = true) from fun z => by simp at z)]
    have out : wpAny (model X.prog X.w) X.A (setFlight (.ref a) X.env.frame) (fun _ s4 => wpAny (model X.prog X.w) X.A (throw (.ref a) : Sem Flow) (SP X pins D) X.xe s4) X.xe { s with heap := h3 } := by
      rw [hf]
      exact HandSPX.setFlight_upZ f3 fun h4 hh up4 => wpAny_throw (tk _ _ ⟨a, B, sI, pins, σ1, H1, _, none, rfl, J, nb, (up.trans up3).trans up4, .inr (.inr (hs ▸ hh)), na, os, ag, hn rfl⟩)
    first
      | exact wpAny_bind (wpAny_pure (wpAny_bind out))
      | exact wpAny_bind out
theorem ps_tryX (hs : X.stack = X.env :: X.outer) (hf : X.env.frame = some X.env.locals) (hN : X.N.Nodup) (hi : X.N[i]? = some n) (hl : X.env.kindOf n = some .local) (hc : Names X x c) (tk : Takes X Wo)
    (hb : ∀ (W : WX) (pn : List (Addr × Obj)) (xe : Value → Shared → Prop), Takes (X.tr pn xe) W → PassesOwn (model X.prog X.w) X.A X.env xe → PSs (X.tr pn xe) body (tb W))
    (hsu : ∀ (a : Addr) (pn : List (Addr × Obj)), PSs (X.suite a pn) (b₀ :: suite) t) :
    PS X (.Try body [.ExceptHandler (some (.Name x np)) (some n) (b₀ :: suite) pos'] [] [] pos) (tTryX X.K c i tb t Wo) := by
  refine ⟨fun pins s σ H D I h => wpAny_Try_except ?_⟩
  have run := (hb (wTry X.K c i t Wo D) (X.pn ++ pins) (fun e s1 => wpAny (model X.prog X.w) X.A (noteFrame e X.env) (fun _ s2 => wpAny (model X.prog X.w) X.A (setFlight e none) (fun _ s3 => wpAny (model X.prog X.w) X.A (handleBy e X.env [.ExceptHandler (some (.Name x np)) (some n) (b₀ :: suite) pos']) (SP X pins D) X.xe s3) X.xe s2) X.xe s1)
    (fun u s' x1 => try_look hs hf hN hi hl hc tk hsu I.ok D x1) PassesOwn.looking).run [] s σ H D (I.toTry _) h
  refine wpAny_mono run (fun f s1 q => ?_) (fun _ _ z => z)
  cases f with
  | ret u => obtain ⟨v, σ', H', J, r, e⟩ := q; exact ⟨v, σ', H', J.ofTry I.ok, r, e⟩
  | next => obtain ⟨σ', H', J, e⟩ := q; exact wpAny_execs_nil ⟨σ', H', J.ofTry I.ok, e⟩
  | brk => obtain ⟨σ', H', J, e⟩ := q; exact ⟨σ', H', J.ofTry I.ok, e⟩
  | cont => obtain ⟨σ', H', J, e⟩ := q; exact ⟨σ', H', J.ofTry I.ok, e⟩
end
end
theorem bt_ValueError : bootBuiltins "ValueError" = some (.type "ValueError") := by decide +kernel
/-! isinstance of a caught error -/
def rIsX (K : PySem.W.Frag) : List V → Hp → VK → Prop := fun xs H Q => ∃ (a Cl : Addr) (c : V) (u : Value) (b : Bool), xs = [.ref a, c] ∧ H a = some (exV Cl a) ∧ ClsV c u ∧ ExcC K Cl ∧ PySem.W.kitOne K (.ref Cl) u = some b ∧ Q (.bl b) H
def rIsXT (K : PySem.W.Frag) : List V → Hp → VK → Prop := fun xs H Q => ∃ (a Cl tp : Addr) (cs : List V) (us : List Value) (b : Bool), xs = [.ref a, .ref tp] ∧ H a = some (exV Cl a) ∧ H tp = some (.tup cs) ∧ Paired ClsV cs us ∧ ExcC K Cl ∧ PySem.W.kitAny K (.ref Cl) us = some b ∧ Q (.bl b) H
theorem exV_at {P : Program} {w : World} {H : Hp} {h : Heap} {a Cl : Addr} (x : ObjOk P w H h a (exV Cl a)) : ∃ oe, PySem.W.InstAt h a oe Cl none := by
  obtain ⟨⟨oe, vs, g, z, d⟩, _⟩ := x
  obtain ⟨oc, od, oda, osl⟩ := oe
  obtain ⟨z1, z2⟩ := z
  dsimp only at z1 z2 d
  subst z1 z2 d
  exact ⟨_, g, rfl, rfl, trivial⟩
section
variable {X : Cx}
theorem call_isX : CallR X (.builtin "isinstance") (rIsX X.K) := fun pn s σ H xs us Q I r h => by
  obtain ⟨a, Cl, c, u, b, rfl, g, k, E, e, q⟩ := h
  obtain ⟨u1, u2, rfl, r1, r2⟩ := vals2 r
  obtain rfl := k.eq r2
  obtain rfl : u1 = Value.ref a := r1
  obtain ⟨oe, J⟩ := exV_at (I.hok a _ g)
  exact PySem.W.kia_one (PySem.W.handS_kitx_exc E.hg E.hk E.hs E.hd E.ha E.hn E.ht E.hm) I.kIn J e (fun z => nomatch z) fun tk => ⟨.bl b, H, I.tok tk, rfl, q⟩
theorem call_isXT : CallR X (.builtin "isinstance") (rIsXT X.K) := fun pn s σ H xs us Q I r h => by
  obtain ⟨a, Cl, tp, cs, ws, b, rfl, g, hT, k, E, e, q⟩ := h
  obtain ⟨u1, u2, rfl, r1, r2⟩ := vals2 r
  obtain rfl : u1 = Value.ref a := r1
  obtain rfl : u2 = Value.ref tp := r2
  obtain ⟨oe, J⟩ := exV_at (I.hok a _ g)
  obtain ⟨_, its, rv, ⟨oc, od, dt, sl⟩, h1, h2, n, h3⟩ := (show ObjOk X.prog X.w H s.heap tp (.tup cs) from I.hok tp _ hT)
  obtain rfl := ClsV.all k rv
  simp only at h2 h3
  subst h2 h3
  exact PySem.W.kia_tup (PySem.W.handS_kitx_exc E.hg E.hk E.hs E.hd E.ha E.hn E.ht E.hm) I.kIn J h1 e (fun z => nomatch z) fun tk => ⟨.bl b, H, I.tok tk, rfl, q⟩
end
/-! the classes of errors of the text: those that are raised (rs), those that are asked for (ds); LineError stands over all others -/
def isSub (r d : Str) : Bool := decide (r = d) || decide (d = "LineError")
structure ErrT (K : PySem.W.Frag) (ex : Str → Addr) (rs ds : List Str) : Prop where
  c : ∀ r ∈ rs, ExcC K (ex r)
  k : ∀ r ∈ rs, ∀ d ∈ ds, PySem.W.kitOne K (.ref (ex r)) (.ref (ex d)) = some (isSub r d)
  v : ∀ r ∈ rs, PySem.W.kitOne K (.ref (ex r)) (.type "ValueError") = some true
  m : ∀ r ∈ rs, ∀ d ∈ ds, PySem.W.exmOne K (.ref (ex r)) (.ref (ex d)) = some (isSub r d)
/-- the table of what isinstance and except say of them -/
def errTab (K : PySem.W.Frag) (ex : Str → Addr) (rs ds : List Str) : Bool := rs.all fun r => (PySem.W.kitOne K (.ref (ex r)) (.type "ValueError") == some true) && ds.all fun d =>
  (PySem.W.kitOne K (.ref (ex r)) (.ref (ex d)) == some (isSub r d)) && (PySem.W.exmOne K (.ref (ex r)) (.ref (ex d)) == some (isSub r d))
theorem err_mk {K : PySem.W.Frag} {ex : Str → Addr} {rs ds : List Str} (h : errTab K ex rs ds = true) (c : ∀ r ∈ rs, ExcC K (ex r)) : ErrT K ex rs ds := by
  unfold errTab at h
  have h1 : ∀ r ∈ rs, PySem.W.kitOne K (.ref (ex r)) (.type "ValueError") = some true ∧ ∀ d ∈ ds, PySem.W.kitOne K (.ref (ex r)) (.ref (ex d)) = some (isSub r d) ∧ PySem.W.exmOne K (.ref (ex r)) (.ref (ex d)) = some (isSub r d) := fun r hr => by
    have z := List.all_eq_true.mp h r hr
    simp only [Bool.and_eq_true, beq_iff_eq] at z
    refine ⟨z.1, fun d hd => ?_⟩
    have y := List.all_eq_true.mp z.2 d hd
    simpa only [Bool.and_eq_true, beq_iff_eq] using y
  exact ⟨c, fun r hr d hd => ((h1 r hr).2 d hd).1, fun r hr => (h1 r hr).1, fun r hr d hd => ((h1 r hr).2 d hd).2⟩
/-- the class x of errors, at a place that raises it -/
structure Rai (K : PySem.W.Frag) (mg : Str → Option Value) (x : Str) (Cl : Addr) : Prop where
  g : mg x = some (.ref Cl)
  q : PySem.W.excIn K Cl [.type "ValueError", .type "Exception", .type "BaseException", .type "object"] "ValueError.__new__" = true
  kp : PySem.W.keepIn K (.ref Cl) = true
  sb : PySem.W.subIn K (.ref Cl) (.type "BaseException") = some true
  ty : PySem.W.typeIn K (.ref Cl) = some (.type "type")
/-! what a def wishes of errors -/
def XW {K : PySem.W.Frag} (C : Cc K) (W : WX) (Er : Addr → List Sl → Prop) : Prop := ∀ Cl ρ, Er Cl ρ → ∀ G H σ fp, Ok C G H σ ρ fp → W (.ref Cl) none σ H
def tCallW (sp : Sp) (W : WX) (t : TA) : TE := fun σ H Q => t σ H fun vs H1 => sp vs H1 Q fun c d H' => W c d σ H'
def tRaise (W : WX) (Cl : Addr) : TS := fun _ σ H => W (.ref Cl) none σ H
/-- a contract: what comes back, or which class is raised -/
def CW {α : Type} (emb : α → List Dt) (pre : α → Prop) (res : α → Sl → Prop) (err : α → Addr → Prop) : Ctr := fun as R E => ∃ a, as = (emb a).map Sl.d ∧ pre a ∧ (∀ s, res a s → R s as) ∧ ∀ Cl, err a Cl → E Cl as
theorem CW.mono {α : Type} {emb : α → List Dt} {pre : α → Prop} {res : α → Sl → Prop} {err : α → Addr → Prop} : (CW emb pre res err).Mono := by
  rintro as R R' E E' k k' ⟨a, h1, h2, h3, h4⟩
  exact ⟨a, h1, h2, fun s hs => k _ _ (h3 s hs), fun Cl hs => k' _ _ (h4 Cl hs)⟩
theorem CW.len {α : Type} {emb : α → List Dt} {pre : α → Prop} {res : α → Sl → Prop} {err : α → Addr → Prop} {n : Nat} (h : ∀ a, (emb a).length = n) : ∀ as R E, CW emb pre res err as R E → as.length = n := by
  rintro as R E ⟨a, rfl, _⟩
  rw [List.length_map]
  exact h a
section
variable {K : PySem.W.Frag} {C : Cc K} {ρ : List Sl} {P : En} {te : TE} {t : TA} {W : WX} {Er : Addr → List Sl → Prop}
theorem ev_callW {R : Sl → List Sl → Prop} {c : Ctr} (m : c.Mono) (hx : XW C W Er) (h : EvA C t ρ fun ds ρ1 => c (ds.map Sl.d) (fun s _ => notTrue s = true ∧ R s ρ1) (fun Cl _ => Er Cl ρ1)) : Ev C (tCallW (c.sp K) W t) ρ R := fun G H σ fp O Q q =>
  h G H σ fp O _ fun vs G1 H1 ds ρ1 fp1 e1 O1 D1 h1 => by
    refine ⟨G1, ds.map Sl.d, [], fun _ => [], ok_args O1.e1 D1, m _ _ _ _ _ (fun s as' z v G' H' fp' fv O' => q v G' H' s ρ1 fp1 fv (e1.trans O'.ok.e0) (okv_call0 O1 O' z.1) z.2) (fun Cl as' er G' H' fp' O' => hx Cl ρ1 er G' H' σ fp1 (ok_call0 O1 O')) h1⟩
/-- f(e, ..), f may raise -/
theorem evd_callW {α : Type} {emb : α → List Dt} {pre : α → Prop} {res : α → Sl → Prop} {err : α → Addr → Prop} {R : Dt → List Sl → Prop} (hx : XW C W Er) (h : EvA C t ρ fun ds ρ1 => ∃ a, ds = emb a ∧ pre a ∧ (∀ s, res a s → asF (fun d => R d ρ1) s) ∧ ∀ Cl, err a Cl → Er Cl ρ1) :
    EvD C (tCallW ((CW emb pre res err).sp K) W t) ρ R := by
  refine evd_f (ev_callW CW.mono hx ?_)
  intro G H σ fp O Q q
  refine h G H σ fp O Q fun vs G' H' ds ρ' fp' e O' D r => q vs G' H' ds ρ' fp' e O' D ?_
  obtain ⟨a, rfl, r1, r2, r3⟩ := r
  refine ⟨a, rfl, r1, fun s hs => ⟨?_, r2 s hs⟩, r3⟩
  rcases r2 s hs with ⟨d, rfl, _⟩ | ⟨ds, rfl, _⟩ <;> rfl
theorem sj_raise {Cl : Addr} (hx : XW C W Er) (h : Er Cl ρ) : Sj C (tRaise W Cl) ρ P := fun G H σ fp O D E => hx Cl ρ h G H σ fp O
/-- isinstance(e, X), e a caught error -/
def clsV : V → Value
  | .ref D => .ref D
  | .ty n => .type n
  | _ => .none
theorem evd_isX {R : Dt → List Sl → Prop} {D : Addr} (h : EvD C te ρ fun x ρ1 => ∃ Cl b, x = .ob (.exc Cl) ∧ ExcC K Cl ∧ PySem.W.kitOne K (.ref Cl) (.ref D) = some b ∧ R (.bl b) ρ1) : EvD C (tCB (rIsX K) (tCons te (tCons (tC (.ref D)) tNil))) ρ R := fun G H σ fp O Q q =>
  h G H σ fp O _ fun v G1 H1 x ρ1 fp1 e1 O1 D1 h1 => by
    obtain ⟨Cl, b, rfl, h2, h3, h4⟩ := h1
    cases D1 with
    | ob g => exact ⟨_, Cl, .ref D, .ref D, b, rfl, O1.e1 _ _ g, .own D, h2, h3, q _ G1 H1 _ ρ1 fp1 e1 O1 (.bl b) h4⟩
theorem evd_isXv {R : Dt → List Sl → Prop} {n : String} (h : EvD C te ρ fun x ρ1 => ∃ Cl b, x = .ob (.exc Cl) ∧ ExcC K Cl ∧ PySem.W.kitOne K (.ref Cl) (.type n) = some b ∧ R (.bl b) ρ1) : EvD C (tCB (rIsX K) (tCons te (tCons (tC (.ty n)) tNil))) ρ R := fun G H σ fp O Q q =>
  h G H σ fp O _ fun v G1 H1 x ρ1 fp1 e1 O1 D1 h1 => by
    obtain ⟨Cl, b, rfl, h2, h3, h4⟩ := h1
    cases D1 with
    | ob g => exact ⟨_, Cl, .ty n, .type n, b, rfl, O1.e1 _ _ g, .ty n, h2, h3, q _ G1 H1 _ ρ1 fp1 e1 O1 (.bl b) h4⟩
def tCls : List V → TA
  | [] => tNil
  | c :: cs => tCons (tC c) (tCls cs)
theorem tCls_run {cs : List V} {σ : L2.St} {H : Hp} {Q : List V → Hp → Prop} (q : Q cs H) : tCls cs σ H Q := by
  induction cs generalizing Q with
  | nil => exact q
  | cons c cs ih => exact ih (Q := fun xs H2 => Q (c :: xs) H2) q
theorem evd_isXT {R : Dt → List Sl → Prop} {cs : List Addr} (h : EvD C te ρ fun x ρ1 => ∃ Cl b, x = .ob (.exc Cl) ∧ ExcC K Cl ∧ cs.length ≤ 1000 ∧ PySem.W.kitAny K (.ref Cl) (cs.map Value.ref) = some b ∧ R (.bl b) ρ1) :
    EvD C (tCB (rIsXT K) (tCons te (tCons (tTup (tCls (cs.map V.ref))) tNil))) ρ R := fun G H σ fp O Q q =>
  h G H σ fp O _ fun v G1 H1 x ρ1 fp1 e1 O1 D1 h1 => by
    obtain ⟨Cl, b, rfl, h2, h0, h3, h4⟩ := h1
    cases D1 with
    | @ob a k g =>
      refine tCls_run ⟨by rw [List.length_map]; exact Nat.le_trans h0 (by decide), fun p hp => ?_⟩
      have O2 := O1.scr (o := .tup (cs.map V.ref)) hp
      have pr : ∀ l : List Addr, Paired ClsV (l.map V.ref) (l.map Value.ref) := fun l => by
        induction l with
        | nil => exact .nil
        | cons c l ih => exact .cons (.own c) ih
      exact ⟨a, Cl, p, cs.map V.ref, cs.map Value.ref, b, rfl, O2.e1 _ _ g, upd_same, pr cs, h2, h3, q _ G1 _ _ ρ1 fp1 e1 O2 (.bl b) h4⟩
theorem kitAny_err {ex : Str → Addr} {rs ds : List Str} {r : Str} (T : ErrT K ex rs ds) (hr : r ∈ rs) : ∀ l : List Str, (∀ d ∈ l, d ∈ ds) → PySem.W.kitAny K (.ref (ex r)) ((l.map ex).map Value.ref) = some (l.any (isSub r))
  | [], _ => rfl
  | d :: l, h => by
    have ih := kitAny_err T hr l fun x hx => h x (List.mem_cons_of_mem _ hx)
    refine kitAny_cons (T.k r hr d (h d (List.mem_cons_self ..))) (fun hb => ?_) fun hb => ?_
    · rw [ih, List.any_cons, hb]; rfl
    · rw [List.any_cons, hb]; rfl
/-! try .. except X as n -/
theorem Ok.base {G H : Hp} {σ : L2.St} {fp : Nat → List Addr} (O : Ok C G H σ ρ fp) : Ok ({ C with G0 := G } : Cc K) G H σ ρ fp := ⟨Same.refl G, O.e1, fun _ _ z => .inl z, O.fr, O.dm, O.len, O.sl, O.em, O.dj, O.fo⟩
theorem Ok.unbase {G G' H H' : Hp} {σ σ' : L2.St} {ρ' : List Sl} {fp fp' : Nat → List Addr} (O : Ok C G H σ ρ fp) (O' : Ok ({ C with G0 := G } : Cc K) G' H' σ' ρ' fp') : Ok C G' H' σ' ρ' fp' :=
  ⟨O.e0.trans O'.e0, O'.e1, fun a o z => (O'.nw a o z).elim (fun y => O.nw a o y) .inr, O'.fr, O'.dm, O'.len, O'.sl, O'.em, O'.dj, O'.fo⟩
theorem OkV.unbase {G G' H H' : Hp} {σ σ' : L2.St} {ρ' : List Sl} {fp fp' : Nat → List Addr} {v : V} {fv : List Addr} {s : Sl} (O : Ok C G H σ ρ fp) (O' : OkV ({ C with G0 := G } : Cc K) G' H' σ' ρ' fp' v fv s) : OkV C G' H' σ' ρ' fp' v fv s :=
  ⟨O.unbase O'.ok, O'.va, O'.dj, O'.fo⟩
/-- a name goes -/
theorem Ok.clear {G H : Hp} {σ : L2.St} {fp : Nat → List Addr} (O : Ok C G H σ ρ fp) (i : Nat) : Ok C G H (σ.set i none) (ρ.set i .no) (fpSet fp i []) where
  e0 := O.e0
  e1 := O.e1
  nw := O.nw
  fr := O.fr
  dm := O.dm
  len := by rw [List.length_set, List.length_set]; exact O.len
  sl := fun j s hs => by
    by_cases e : j = i
    · subst e
      have hj : j < ρ.length := by
        have := (List.getElem?_eq_some_iff.mp hs).1
        rwa [List.length_set] at this
      rw [List.getElem?_set_self hj] at hs
      cases hs
      exact trivial
    · rw [List.getElem?_set_ne (Ne.symm e)] at hs
      have z := O.sl j s hs
      have g : (σ.set i none)[j]? = σ[j]? := List.getElem?_set_ne (Ne.symm e)
      unfold fpSet
      rw [if_neg e]
      cases s with
      | no => exact trivial
      | d d => obtain ⟨u, h1, h2⟩ := z; exact ⟨u, g.trans h1, h2⟩
      | w q W => obtain ⟨u, h1, h2⟩ := z; exact ⟨u, g.trans h1, h2⟩
  em := fun j hj => by
    unfold fpSet
    by_cases e : j = i
    · rw [if_pos e]
    · rw [if_neg e]
      refine O.em j fun q W z => hj q W ?_
      rw [List.getElem?_set_ne (Ne.symm e)]
      exact z
  dj := fun j l a ha hb => by
    unfold fpSet at ha hb
    by_cases e1 : j = i
    · rw [if_pos e1] at ha; cases ha
    · by_cases e2 : l = i
      · rw [if_pos e2] at hb; cases hb
      · rw [if_neg e1] at ha
        rw [if_neg e2] at hb
        exact O.dj j l a ha hb
  fo := fun j a ha => by
    unfold fpSet at ha
    by_cases e : j = i
    · rw [if_pos e] at ha; cases ha
    · rw [if_neg e] at ha
      exact O.fo j a ha
theorem sj_try {c : Value} {i : Nat} {tb : WX → TS} {ts : TS} {EO : Addr → List Sl → Prop} (ho : XW C W EO) (Er : Addr → List Sl → Prop) (hb : ∀ (C' : Cc K) (W' : WX), XW C' W' Er → Sj C' (tb W') ρ P)
    (hs : ∀ Cl ρ', Er Cl ρ' → ∃ b, PySem.W.exmOne K (.ref Cl) c = some b ∧ (b = true → asgOk ρ' i = true ∧ Sj C ts (ρ'.set i (.d (.ob (.exc Cl)))) ⟨fun ρ => P.nx (ρ.set i .no), fun ρ => P.bk (ρ.set i .no), fun ρ => P.ct (ρ.set i .no), P.rt⟩) ∧ (b = false → EO Cl ρ')) :
    Sj C (tTryX K c i tb ts W) ρ P := fun G H σ fp O D E => by
  refine hb ({ C with G0 := G }) _ ?_ G H σ fp O.base D ⟨?_, ?_, ?_, ?_⟩
  · intro Cl ρ' er G' H' σ' fp' O'
    have O1 := O.unbase O'
    obtain ⟨b, h1, h2, h3⟩ := hs Cl ρ' er
    refine ⟨Cl, b, rfl, rfl, h1, fun e a ha => ?_, fun e => ho Cl ρ' (h3 e) G' H' σ' fp' O1⟩
    obtain ⟨g1, g2⟩ := h2 e
    have s1 : Same G' (upd G' a (exV Cl a)) := same_new (O1.e1.free ha)
    have O2 := O1.new (o := exV Cl a) ha
    have O3 := (O2.dv (d := .ob (.exc Cl)) (v := .ref a) (.ob upd_same)).store g1 (fun _ z => nomatch z)
    have sG : Same G (upd G' a (exV Cl a)) := O'.e0.trans s1
    exact g2 _ _ _ _ O3 _ ⟨fun G4 H4 σ4 ρ4 fp4 e4 O4 z => E.nx G4 H4 _ _ _ (sG.trans e4) (O4.clear i) z, fun G4 H4 σ4 ρ4 fp4 e4 O4 z => E.bk G4 H4 _ _ _ (sG.trans e4) (O4.clear i) z, fun G4 H4 σ4 ρ4 fp4 e4 O4 z => E.ct G4 H4 _ _ _ (sG.trans e4) (O4.clear i) z,
      fun v G4 H4 σ4 ρ4 fp4 fv s e4 O4 z => E.rt v G4 H4 σ4 ρ4 fp4 fv s (sG.trans e4) O4 z⟩
  · exact fun G4 H4 σ4 ρ4 fp4 e4 O4 z => E.nx G4 H4 σ4 ρ4 fp4 e4 (O.unbase O4) z
  · exact fun G4 H4 σ4 ρ4 fp4 e4 O4 z => E.bk G4 H4 σ4 ρ4 fp4 e4 (O.unbase O4) z
  · exact fun G4 H4 σ4 ρ4 fp4 e4 O4 z => E.ct G4 H4 σ4 ρ4 fp4 e4 (O.unbase O4) z
  · exact fun v G4 H4 σ4 ρ4 fp4 fv s e4 O4 z => E.rt v G4 H4 σ4 ρ4 fp4 fv s e4 (OkV.unbase O O4) z
/-- try .. except X: without a name -/
def tTryO (K : PySem.W.Frag) (c : Value) (tb : WX → TS) (t : TS) (Wo : WX) : TS := fun D σ H => tb (wOnly K c (fun _ _ _ => t) Wo D) D σ H
theorem sj_tryO {c : Value} {tb : WX → TS} {ts : TS} {EO : Addr → List Sl → Prop} (ho : XW C W EO) (Er : Addr → List Sl → Prop) (hb : ∀ (C' : Cc K) (W' : WX), XW C' W' Er → Sj C' (tb W') ρ P)
    (hs : ∀ Cl ρ', Er Cl ρ' → ∃ b, PySem.W.exmOne K (.ref Cl) c = some b ∧ (b = true → Sj C ts ρ' P) ∧ (b = false → EO Cl ρ')) : Sj C (tTryO K c tb ts W) ρ P := fun G H σ fp O D E => by
  refine hb ({ C with G0 := G }) _ ?_ G H σ fp O.base D ⟨?_, ?_, ?_, ?_⟩
  · intro Cl ρ' er G' H' σ' fp' O'
    have O1 := O.unbase O'
    obtain ⟨b, h1, h2, h3⟩ := hs Cl ρ' er
    exact ⟨b, h1, fun e a ha => h2 e _ _ _ _ O1 _ (E.up O'.e0), fun e => ho Cl ρ' (h3 e) G' H' σ' fp' O1⟩
  · exact fun G4 H4 σ4 ρ4 fp4 e4 O4 z => E.nx G4 H4 σ4 ρ4 fp4 e4 (O.unbase O4) z
  · exact fun G4 H4 σ4 ρ4 fp4 e4 O4 z => E.bk G4 H4 σ4 ρ4 fp4 e4 (O.unbase O4) z
  · exact fun G4 H4 σ4 ρ4 fp4 e4 O4 z => E.ct G4 H4 σ4 ρ4 fp4 e4 (O.unbase O4) z
  · exact fun v G4 H4 σ4 ρ4 fp4 fv s e4 O4 z => E.rt v G4 H4 σ4 ρ4 fp4 fv s e4 (OkV.unbase O O4) z
end
/-- nothing is let out -/
abbrev W0 : WX := fun _ _ _ _ => False
theorem xw0 {K : PySem.W.Frag} {C : Cc K} : XW C W0 (fun _ _ => False) := fun _ _ z => z.elim
/-! defs that may raise, by name -/
def GdW (P : Program) (w : World) (K : PySem.W.Frag) (mg : Str → Option Value) (base : Heap) (x : Str) (ps : List Str) (L : Nat) (c : Ctr) : Prop :=
  ∃ f fd, mg x = some (.ref f) ∧ PySem.W.keepIn K (.ref f) = true ∧ BA fd ps ∧ FnOk P w K mg base (L2.CX P w) L f fd ps (c.sp K)
section
variable {X : Cx} {W : WX}
theorem pe_gdW {x : Str} {ps : List Str} {L : Nat} {c : Ctr} {e : Expr} {es : List Expr} {t : TA} {p pos : Pos} (G : GdW X.prog X.w X.K X.mg X.base x ps L c) (tk : Takes X W) (hr : Room L X.A) (hg : Gl X x) (ha : PA X (e :: es) t)
    (hdb : (x == ("__debug__" : Str)) = false := by decide) (he : starEach (e :: es) X.env = (false, eval e X.env) :: starEach es X.env := by rfl) (hpl : (backTo pos (starEach es X.env)).any (·.1) = false := by rfl) :
    PE X (.Call (.Name x p) (e :: es) [] pos) (tCallW (c.sp X.K) W t) := by
  obtain ⟨f, fd, h1, h2, h3, h4⟩ := G
  exact pe_callS h4 hr hg h1 h2 h3.b (fun σ => passAt tk σ) ha hdb he hpl
theorem ps_raiseW {x m : Str} {Cl : Addr} {j : Nat} {p p2 p3 pos : Pos} (hc : X.calm = true) (tk : Takes X W) (r : Rai X.K X.mg x Cl) (hg : Gl X x) (hd : (x == ("__debug__" : Str)) = false := by decide) :
    PS X (.Raise (some (.Call (.Name x p) [.Constant (.str m) j p2] [] p3)) none pos) (tRaise W Cl) := ps_raise hc tk (pmk_own PySem.F.excBase_ValueError r.q r.g r.kp (raises_own r.sb r.ty) hg hd)
theorem ps_tryOW {x : Str} {c : Value} {body suite : List Stmt} {b₀ : Stmt} {np pos pos' : Pos} {tb : WX → TS} {t : TS} (hs : X.stack = X.env :: X.outer) (hf : X.env.frame = some X.env.locals) (hc : Names X x c) (tk : Takes X W)
    (hb : ∀ (W : WX) (pn : List (Addr × Obj)) (xe : Value → Shared → Prop), Takes (X.tr pn xe) W → PassesOwn (model X.prog X.w) X.A X.env xe → PSs (X.tr pn xe) body (tb W)) (hsu : ∀ (a : Addr) (pn : List (Addr × Obj)), PSs (X.suite a pn) (b₀ :: suite) t) :
    PS X (.Try body [.ExceptHandler (some (.Name x np)) none (b₀ :: suite) pos'] [] [] pos) (tTryO X.K c tb t W) := ps_try_only hs hf hc tk hb fun a oe cls d pn _ _ => hsu a _
end
section
variable {P : Program} {w : World} {K : PySem.W.Frag} {mg : Str → Option Value} {base : Heap}
theorem gdW_cw {α : Type} {emb : α → List Dt} {pre : α → Prop} {res : α → Sl → Prop} {err : α → Addr → Prop} {x : Str} {st : Stmt} {N ps : List Str} {k : Nat} (F : Df K mg x st ps) (S : FnScope N ps (defScope st)) (len : ∀ a, (emb a).length = ps.length) (t : WX → TS)
    (hb : ∀ (f : Addr) (cdv : Value) (A : Around) (fs : List Env) (s : Shared) (H : Hp) (E : XK), Room k (A.deeper (PyProof.Rows.envOfC x (defScope st) s.heap.objs.size f cdv)) → Takes (cxOf (L2.CX P w) P w K mg base N x (defScope st) f cdv A fs s H E) (fun c d _ H => E c d H) →
      PSs (cxOf (L2.CX P w) P w K mg base N x (defScope st) f cdv A fs s H E) (defBody st) (t fun c d _ H => E c d H))
    (hs : ∀ (C : Cc K) (W : WX) a, pre a → XW C W (fun Cl _ => err a Cl) → Sj C (t W) ((emb a).map Sl.d ++ List.replicate (N.length - ps.length) .no) (finR (res a))) : GdW P w K mg base x ps (k + 1) (CW emb pre res err) := by
  obtain ⟨f, fd, h1, h2, h3⟩ := F
  refine ⟨f, fd, h2, h1.kp, h3, h1.okX S (fun vs H Q E h => ?_) fun cdv A fs s H vs Q E hr h => ⟨_, hb f cdv A fs s H E hr (takes_of rfl rfl rfl rfl), ?_⟩⟩
  · obtain ⟨G, as, bs, fp, O, h⟩ := h
    have l := O.len
    rw [List.length_map] at l
    rw [← l]
    exact CW.len len _ _ _ h
  · obtain ⟨G, as, bs, fp, O, a, rfl, hp, hR, hE⟩ := h
    obtain ⟨b1, b2⟩ : (∀ ρ, back ((emb a).map Sl.d) ρ = (emb a).map Sl.d) ∧ ∀ ρ, backOk ((emb a).map Sl.d) ρ = true := ⟨fun ρ => (back_data (ds := emb a) (ρ := ρ)).1, fun ρ => (back_data (ds := emb a) (ρ := ρ)).2⟩
    have B : ∀ {G' H' : Hp} {σ' : L2.St} {ρ : List Sl} {fp' : Nat → List Addr}, Ok (⟨bs, [], vs, G, H⟩ : Cc K) G' H' σ' ρ fp' → Ok (⟨bs, [], vs, G, H⟩ : Cc K) G' H' (vs.map some) ((emb a).map Sl.d) (backFp ((emb a).map Sl.d) fp') := fun {G' H' σ' ρ fp'} O' => by
      have z := Ok.back O O' (b2 ρ)
      rwa [b1 ρ] at z
    have l := O.len
    rw [List.length_map, List.length_map] at l
    have z := hs ⟨bs, [], vs, G, H⟩ (fun c d _ H => E c d H) a hp (fun Cl ρ er G' H' σ' fp' O' => hE Cl er G' H' _ (B O'))
    have st0 := ok_start (N := N) O
    rw [List.length_map, len a] at st0
    refine z G H (L2.start N vs) fp st0 _ ⟨?_, fun _ _ _ _ _ _ _ y => y.elim, fun _ _ _ _ _ _ _ y => y.elim, ?_⟩
    · intro G' H' σ' ρ' fp' e O' r
      exact hR _ r .non G' H' _ [] ((B O').dv .non)
    · intro v G' H' σ' ρ' fp' fv s e O' r
      have y := OkV.back O O' (b2 ρ')
      rw [b1 ρ'] at y
      exact hR _ r v G' H' _ fv y
end

end
section
/-! DL, part E: repr of data, empty dicts among them. -/
mutual
inductive Dq (H : Hp) : V → PyData → Prop
  | non : Dq H .non .none
  | bl (b : Bool) : Dq H (.bl b) (.bool b)
  | int (i : Int) : Dq H (.int i) (.int i)
  | str (x : Str) : Dq H (.str x) (.str x)
  | lst {a : Addr} {xs : List V} {ds : List PyData} : H a = some (.lst xs) → Dqs H xs ds → Dq H (.ref a) (.list ds)
  | tup {a : Addr} {xs : List V} {ds : List PyData} : H a = some (.tup xs) → Dqs H xs ds → Dq H (.ref a) (.tuple ds)
  | dic {a : Addr} : H a = some (.dK []) → Dq H (.ref a) (.dict [])
inductive Dqs (H : Hp) : List V → List PyData → Prop
  | nil : Dqs H [] []
  | cons {v : V} {vs : List V} {d : PyData} {ds : List PyData} : Dq H v d → Dqs H vs ds → Dqs H (v :: vs) (d :: ds)
end
section
variable {X : Cx} {pins : List (Addr × Obj)} {σ : L2.St} {H : Hp} {s : Shared} {a : Addr}
/-- an empty dict's object -/
theorem dic_at (I : Inv X pins σ H s) (g : H a = some (.dK [])) : ∃ (o : Obj) (es : Array DictEntry) (ep : Nat), s.heap.get? a = some o ∧ o.cls = .type "dict" ∧ o.data = .dict es ep ∧ es.toList = [] := by
  obtain ⟨_, _, vs, kv, o, es, ep, h1, h2, h3, _, h5, _⟩ := (show ObjOk X.prog X.w H s.heap a (.dK []) from I.hok a _ g)
  have ev : vs = [] := by
    cases kv
    rfl
  subst ev
  refine ⟨o, es, ep, h1, h2.1, h3, ?_⟩
  cases q : es.toList with
  | nil => rfl
  | cons x l =>
    rw [q] at h5
    cases h5
theorem dic_sys (I : Inv X pins σ H s) (g : H a = some (.dK [])) : (a == sysModules) = false := (show ObjOk X.prog X.w H s.heap a (.dK []) from I.hok a _ g).2.1
end
section
variable {X : Cx} {pins : List (Addr × Obj)} {σ : L2.St} {H : Hp} {s : Shared}
mutual
theorem Dq.reads (I : Inv X pins σ H s) : ∀ (d : PyData) (v : V) (u : Value), Dq H v d → RelV v u → ∃ as, Reads s.heap u d as
  | .none, _, _, h, r => by
    cases h
    obtain rfl : _ = Value.none := r
    exact ⟨_, .none⟩
  | .bool b, _, _, h, r => by
    cases h
    obtain rfl : _ = Value.bool b := r
    exact ⟨_, .bool b⟩
  | .int i, _, _, h, r => by
    cases h
    obtain ⟨t, rfl⟩ := r
    exact ⟨_, .int i t⟩
  | .str x, _, _, h, r => by
    cases h
    obtain ⟨t, rfl⟩ := r
    exact ⟨_, .str x t⟩
  | .list ds, _, _, h, r => by
    cases h with
    | @lst a xs _ g k =>
      obtain rfl : _ = Value.ref a := r
      obtain ⟨_, its, n, rv, ho⟩ := (show ObjOk X.prog X.w H s.heap a (.lst xs) from I.hok a _ g)
      obtain ⟨as, q1⟩ := Dqs.reads I ds xs its k rv
      exact ⟨_, .list ho rfl rfl (by simpa using q1)⟩
  | .tuple ds, _, _, h, r => by
    cases h with
    | @tup a xs _ g k =>
      obtain rfl : _ = Value.ref a := r
      obtain ⟨_, its, rv, o, h1, h2, n, h3⟩ := (show ObjOk X.prog X.w H s.heap a (.tup xs) from I.hok a _ g)
      obtain ⟨as, q1⟩ := Dqs.reads I ds xs its k rv
      exact ⟨_, .tuple h1 h2 h3 (by simpa using q1)⟩
  | .dict [], _, _, h, r => by
    cases h with
    | @dic a g =>
      obtain rfl : _ = Value.ref a := r
      obtain ⟨o, es, ep, h1, h2, h3, h4⟩ := dic_at I g
      exact ⟨_, .dict (kvs := []) h1 h2 h3 (by rw [h4]; exact .nil) (by rw [h4]; exact .nil)⟩
  | .dict (_ :: _), _, _, h, _ => nomatch h
theorem Dqs.reads (I : Inv X pins σ H s) : ∀ (ds : List PyData) (vs : List V) (us : List Value), Dqs H vs ds → Vals vs us → ∃ as, ReadsAll s.heap us ds as
  | [], _, _, h, r => by
    cases h
    cases r
    exact ⟨_, .nil⟩
  | d :: ds, _, _, h, r => by
    cases h with
    | cons h1 h2 =>
      cases r with
      | cons r1 r2 =>
        obtain ⟨as, q1⟩ := Dq.reads I d _ _ h1 r1
        obtain ⟨bs, q3⟩ := Dqs.reads I ds _ _ h2 r2
        exact ⟨_, .cons q1 q3⟩
end
/-- how repr writes what stands within -/
abbrev Wri (X : Cx) (h : Heap) (d : PyData) (u : Value) : Prop := ∃ bs, ReadAtMost h d.depth bs ∧ ReprK X.prog X.w bs h d.depth u d.shown
mutual
theorem Dq.wri (I : Inv X pins σ H s) : ∀ (d : PyData) (v : V) (u : Value), Dq H v d → RelV v u → d.showable = true → d.shown.length ≤ sizeLine → Wri X s.heap d u
  | .none, _, _, h, r, _, _ => by
    cases h
    obtain rfl : _ = Value.none := r
    exact ⟨[], (fun _ z => nomatch z), by simp only [PyData.shown]; exact .of_is ReprIs.none _ _ _⟩
  | .bool b, _, _, h, r, _, _ => by
    cases h
    obtain rfl : _ = Value.bool b := r
    exact ⟨[], (fun _ z => nomatch z), by simp only [PyData.shown]; exact .of_is (ReprIs.bool b) _ _ _⟩
  | .int i, _, _, h, r, w, _ => by
    cases h
    obtain ⟨t, rfl⟩ := r
    exact ⟨[], (fun _ z => nomatch z), by simp only [PyData.shown]; exact .of_is (ReprIs.int t (of_decide_eq_true w)) _ _ _⟩
  | .str x, _, _, h, r, _, z => by
    cases h
    obtain ⟨t, rfl⟩ := r
    exact ⟨[], (fun _ z => nomatch z), by simp only [PyData.shown] at z ⊢; exact .of_is (ReprIs.str x t z) _ _ _⟩
  | .list ds, _, _, h, r, w, z => by
    obtain ⟨as, rd⟩ := Dq.reads I _ _ _ h r
    cases h with
    | @lst a xs _ g k =>
      obtain rfl : _ = Value.ref a := r
      obtain ⟨_, its, n, rv, ho⟩ := (show ObjOk X.prog X.w H s.heap a (.lst xs) from I.hok a _ g)
      have z' : (listText (PyData.shownAll ds)).length ≤ sizeLine := by simpa only [PyData.shown] using z
      obtain ⟨bs, m1, m2⟩ := Dqs.wri I ds xs its k rv (by simpa only [PyData.showable] using w) fun t ht => Nat.le_trans (listText_mem_le ht) z'
      have na : a ∉ bs := not_mem_of_deeper rd (by simp only [PyData.depth]; omega) m1
      refine ⟨a :: bs, .cons rd (by simp only [PyData.depth]; omega) m1, ?_⟩
      simp only [PyData.depth, PyData.shown]
      cases its with
      | nil =>
        cases rv
        cases k
        simp only [PyData.shownAll, listText_nil]
        exact .listEmpty ho rfl rfl
      | cons y l => exact .list ho rfl rfl na (by simpa using m2.length_eq) fun i y e => m2.item i y (by simpa using e)
  | .tuple ds, _, _, h, r, w, z => by
    obtain ⟨as, rd⟩ := Dq.reads I _ _ _ h r
    cases h with
    | @tup a xs _ g k =>
      obtain rfl : _ = Value.ref a := r
      obtain ⟨_, its, rv, o, h1, h2, n, h3⟩ := (show ObjOk X.prog X.w H s.heap a (.tup xs) from I.hok a _ g)
      have z' : (tupleText (PyData.shownAll ds)).length ≤ sizeLine := by simpa only [PyData.shown] using z
      obtain ⟨bs, m1, m2⟩ := Dqs.wri I ds xs its k rv (by simpa only [PyData.showable] using w) fun t ht => Nat.le_trans (tupleText_mem_le ht) z'
      have na : a ∉ bs := not_mem_of_deeper rd (by simp only [PyData.depth]; omega) m1
      refine ⟨a :: bs, .cons rd (by simp only [PyData.depth]; omega) m1, ?_⟩
      simp only [PyData.depth, PyData.shown]
      exact .tuple h1 h2 h3 na (by simpa using m2)
  | .dict [], _, _, h, r, w, z => by
    obtain ⟨as, rd⟩ := Dq.reads I _ _ _ h r
    cases h with
    | @dic a g =>
      obtain rfl : _ = Value.ref a := r
      obtain ⟨o, es, ep, h1, h2, h3, h4⟩ := dic_at I g
      refine ⟨[a], fun b hb => ?_, ?_⟩
      · rw [List.mem_singleton.mp hb]
        exact ⟨_, _, rd, Nat.le_refl _⟩
      · simp only [PyData.depth, PyData.depthKv, PyData.shown, PyData.shownKv]
        exact ReprK.dict h1 h2 h3 (dic_sys I g) (fun z => nomatch z) (by rw [h4]; exact .nil)
  | .dict (_ :: _), _, _, h, _, _, _ => nomatch h
theorem Dqs.wri (I : Inv X pins σ H s) : ∀ (ds : List PyData) (vs : List V) (us : List Value), Dqs H vs ds → Vals vs us → PyData.showableAll ds = true → (∀ t ∈ PyData.shownAll ds, t.length ≤ sizeLine) → ∃ bs, ReadAtMost s.heap (PyData.depthAll ds) bs ∧ ReprAllK X.prog X.w bs s.heap (PyData.depthAll ds) us (PyData.shownAll ds)
  | [], _, _, h, r, _, _ => by
    cases h
    cases r
    exact ⟨[], (fun _ z => nomatch z), by simp only [PyData.shownAll]; exact .nil⟩
  | d :: ds, _, _, h, r, w, z => by
    cases h with
    | cons h1 h2 =>
      cases r with
      | cons r1 r2 =>
        have w' : d.showable = true ∧ PyData.showableAll ds = true := by simpa only [PyData.showableAll, Bool.and_eq_true] using w
        obtain ⟨b1, m1, k1⟩ := Dq.wri I d _ _ h1 r1 w'.1 (z _ (by simp only [PyData.shownAll]; exact List.mem_cons_self ..))
        obtain ⟨b2, m2, k2⟩ := Dqs.wri I ds _ _ h2 r2 w'.2 fun t ht => z t (by simp only [PyData.shownAll]; exact List.mem_cons_of_mem _ ht)
        simp only [PyData.depthAll, PyData.shownAll]
        refine ⟨b1 ++ b2, (m1.mono (Nat.le_max_left _ _)).append (m2.mono (Nat.le_max_right _ _)), .cons ((k1.more fun b hb => List.mem_append_left _ hb).level_le (Nat.le_max_left _ _)) (k2.more_le (fun b hb => List.mem_append_right _ hb) (Nat.le_max_right _ _))⟩
end
end
def rReprE : List V → Hp → VK → Prop := fun xs H Q => ∃ v d, xs = [v] ∧ Dq H v d ∧ d.showable = true ∧ d.depth ≤ 60 ∧ d.shown.length ≤ sizeLine ∧ Q (.str d.shown) H
theorem cr_reprE {X : Cx} (gd : X.A.guards = some []) (hu : X.A.units + 65 < cLine) : CallR X (.builtin "repr") rReprE := fun pn s σ H xs us Q I rx h => by
  obtain ⟨v, d, rfl, dp, s1, s3, s4, q⟩ := h
  obtain ⟨u, rfl, ru⟩ := vals1 rx
  have fin : ∀ (h' : Heap) (tu : Tok) (tk : Tok), (∀ b o, s.heap.get? b = some o → h'.get? b = some o) → EP X pn σ Q (.str d.shown tu) { s with heap := h', toks := tk } := fun h' tu tk kp => ⟨.str _, H, I.kept (t' := tk) kp, ⟨_, rfl⟩, q⟩
  obtain ⟨as, rd⟩ := Dq.reads I d v u dp ru
  have g1 : X.A.in1.guards = some [] := gd
  have nil : ∀ b : Addr, Clear [] b := fun b => Clear.nil b
  have dp0 := dp
  cases dp with
  | non =>
    obtain rfl : u = Value.none := ru
    exact PySem.P.repr_of_none (fin _ _ _ fun _ _ e => e)
  | bl b =>
    obtain rfl : u = Value.bool b := ru
    exact PySem.P.repr_of_bool (fin _ _ _ fun _ _ e => e)
  | int i =>
    obtain ⟨t, rfl⟩ := ru
    exact PySem.P.repr_of_int (of_decide_eq_true s1) (fin _ _ _ fun _ _ e => e)
  | str x =>
    obtain ⟨t, rfl⟩ := ru
    exact PySem.P.repr_of_str (fin _ _ _ fun _ _ e => e) s4
  | @lst a xs ds g k =>
    obtain rfl : u = Value.ref a := ru
    obtain ⟨_, its, n, rv, ho⟩ := (show ObjOk X.prog X.w H s.heap a (.lst xs) from I.hok a _ g)
    have z' : (listText (PyData.shownAll ds)).length ≤ sizeLine := by simpa only [PyData.shown] using s4
    obtain ⟨bs, m1, m2⟩ := Dqs.wri I ds xs its k rv (by simpa only [PyData.showable] using s1) fun t ht => Nat.le_trans (listText_mem_le ht) z'
    have na : a ∉ bs := not_mem_of_deeper rd (by simp only [PyData.depth]; omega) m1
    simp only [PyData.depth] at s3
    refine call_repr_slot (by omega) ⟨_, ho, rfl⟩ PySem.F.slot_list_repr.toG ?_
    simp only [PyData.shown] at fin
    cases its with
    | nil =>
      cases rv
      cases k
      simp only [PyData.shownAll, listText_nil] at fin
      exact call_list_repr_empty ⟨_, ho, rfl⟩ ho rfl ⟨_, _, rfl, fin _ _ _ fun _ _ e => e⟩
    | cons y l => exact call_list_reprK ho rfl rfl na (by simpa using m2.length_eq) (fun i y e => m2.item i y (by simpa using e)) g1 (fun b _ => nil b) (by show X.A.units + 1 + _ < cLine; omega) (fun _ _ e => e) (fun h' tu tk kp => ⟨_, _, rfl, fin h' tu tk kp⟩) z'
  | @tup a xs ds g k =>
    obtain rfl : u = Value.ref a := ru
    obtain ⟨_, its, rv, o, h1, h2, n, h3⟩ := (show ObjOk X.prog X.w H s.heap a (.tup xs) from I.hok a _ g)
    have z' : (tupleText (PyData.shownAll ds)).length ≤ sizeLine := by simpa only [PyData.shown] using s4
    obtain ⟨bs, m1, m2⟩ := Dqs.wri I ds xs its k rv (by simpa only [PyData.showable] using s1) fun t ht => Nat.le_trans (tupleText_mem_le ht) z'
    have na : a ∉ bs := not_mem_of_deeper rd (by simp only [PyData.depth]; omega) m1
    simp only [PyData.depth] at s3
    simp only [PyData.shown] at fin
    refine call_repr_slot (by omega) ⟨o, h1, h2⟩ PySem.F.slot_tuple_repr ?_
    exact call_tuple_reprK h1 h2 h3 na (by simpa using m2) g1 (fun b _ => nil b) (by show X.A.units + 1 + _ < cLine; omega) (fun _ _ e => e) (fun h' tu tk kp => ⟨_, _, rfl, fin h' tu tk kp⟩) z'
  | @dic a g =>
    obtain rfl : u = Value.ref a := ru
    obtain ⟨o, es, ep, h1, h2, h3, h4⟩ := dic_at I g
    simp only [PyData.shown, PyData.shownKv] at fin s4
    refine call_repr_slot (by omega) ⟨o, h1, h2⟩ PySem.F.slot_dict_repr ?_
    exact call_dict_reprK (as := []) (d := 0) h1 h2 h3 (dic_sys I g) (fun z => nomatch z) (by rw [h4]; exact .nil) g1 (fun b _ => nil b) (by show X.A.units + 1 + _ < cLine; omega) (fun _ _ e => e) (fun h' tu tk kp => ⟨_, _, rfl, fin h' tu tk kp⟩) s4
/-! data that repr can write: at most so many things a level, whole numbers of at most eighty figures -/
def bOf : List Nat → Nat
  | [] => 12
  | m :: ms => max 12 (m * (bOf ms + 1))
def Rw : List Nat → Dt → Prop
  | _, .non => True
  | _, .bl _ => True
  | _, .int i => i.natAbs < 10 ^ 75
  | _, .str x => PyData.strOk x = true ∧ x.cps.size ≤ 12
  | m :: ms, .lst ds => ds.length ≤ m ∧ ∀ d ∈ ds, Rw ms d
  | m :: ms, .tup ds => ds.length ≤ m ∧ ∀ d ∈ ds, Rw ms d
  | _, .ob .dic => True
  | _, _ => False
theorem rw_non {ms : List Nat} : Rw ms .non := by unfold Rw; trivial
theorem rw_bl {ms : List Nat} {b : Bool} : Rw ms (.bl b) := by unfold Rw; trivial
theorem rw_int {ms : List Nat} {i : Int} (h : i.natAbs < 10 ^ 75) : Rw ms (.int i) := by unfold Rw; exact h
theorem rw_str {ms : List Nat} {x : Str} (h : PyData.strOk x = true) (k : x.cps.size ≤ 12) : Rw ms (.str x) := by unfold Rw; exact ⟨h, k⟩
theorem rw_dic {ms : List Nat} : Rw ms (.ob .dic) := by unfold Rw; trivial
theorem rw_lst {m : Nat} {ms : List Nat} {ds : List Dt} (h : ds.length ≤ m) (k : ∀ d ∈ ds, Rw ms d) : Rw (m :: ms) (.lst ds) := by unfold Rw; exact ⟨h, k⟩
theorem rw_tup {m : Nat} {ms : List Nat} {ds : List Dt} (h : ds.length ≤ m) (k : ∀ d ∈ ds, Rw ms d) : Rw (m :: ms) (.tup ds) := by unfold Rw; exact ⟨h, k⟩
theorem ge40 (ms : List Nat) : 12 ≤ bOf ms := by cases ms <;> simp only [bOf] <;> omega
theorem int_shown {i : Int} (h : i.natAbs < 10 ^ 75) : (PyData.shown (.int i)).length ≤ 81 ∧ i.natAbs.log2 < 1920 := by
  refine ⟨?_, ?_⟩
  · unfold PyData.shown
    rw [ofString_length]
    exact Nat.le_trans (int_text_length_le10 (k := 75) (by decide) h) (by decide)
  · by_cases e : i.natAbs = 0
    · rw [e]; decide
    · exact Nat.lt_of_lt_of_le ((Nat.log2_lt e).mpr (Nat.lt_of_lt_of_le h (by decide : 10 ^ 75 ≤ 2 ^ 250))) (by decide)
theorem pys_len : ∀ ds : List Dt, (Dt.pys ds).length = ds.length
  | [] => rfl
  | _ :: ds => by unfold Dt.pys; rw [List.length_cons, List.length_cons, pys_len ds]
section
variable {G H : Hp} {K : PySem.W.Frag}
mutual
theorem Rw.ok : ∀ (d : Dt) (ms : List Nat), Rw ms d → d.py.showable = true ∧ d.py.depth ≤ ms.length + 1 ∧ d.py.leavesShort 81 = true ∧ d.py.bulk ≤ bOf ms
  | .non, ms, _ => by unfold Dt.py; exact ⟨rfl, by simp [PyData.depth], rfl, by simp [PyData.bulk]⟩
  | .bl b, ms, _ => by unfold Dt.py; exact ⟨rfl, by simp [PyData.depth], rfl, by simp [PyData.bulk]⟩
  | .int i, ms, h => by
    have h' : i.natAbs < 10 ^ 75 := by cases ms <;> (unfold Rw at h; exact h)
    obtain ⟨h1, h2⟩ := int_shown h'
    unfold Dt.py
    exact ⟨by simp [PyData.showable, h2], by simp [PyData.depth], by simp [PyData.leavesShort, h1], by simp [PyData.bulk]⟩
  | .str x, ms, h => by
    obtain ⟨h1, h2⟩ : PyData.strOk x = true ∧ x.cps.size ≤ 12 := by cases ms <;> (unfold Rw at h; exact h)
    have g := ge40 ms
    unfold Dt.py
    refine ⟨by simp [PyData.showable], by simp [PyData.depth], ?_, by simp only [PyData.bulk]; omega⟩
    simp only [PyData.leavesShort]
    unfold PyData.strOk at h1
    rw [List.all_eq_true]
    intro c hc
    have h3 := Array.all_eq_true_iff_forall_mem.mp h1 c (by simpa using hc)
    simp at h3 ⊢
    omega
  | .lst ds, ms, h => by
    cases ms with
    | nil => unfold Rw at h; exact h.elim
    | cons m ms =>
      unfold Rw at h
      obtain ⟨h1, h2, h3, h4⟩ := Rws.ok ds ms h.2
      unfold Dt.py
      have z := Nat.mul_le_mul_right (bOf ms + 1) h.1
      refine ⟨by simp only [PyData.showable]; exact h1, by simp only [PyData.depth, List.length_cons]; omega, by simp only [PyData.leavesShort]; exact h3, ?_⟩
      simp only [PyData.bulk, bOf]
      omega
  | .tup ds, ms, h => by
    cases ms with
    | nil => unfold Rw at h; exact h.elim
    | cons m ms =>
      unfold Rw at h
      obtain ⟨h1, h2, h3, h4⟩ := Rws.ok ds ms h.2
      unfold Dt.py
      have z := Nat.mul_le_mul_right (bOf ms + 1) h.1
      refine ⟨by simp only [PyData.showable]; exact h1, by simp only [PyData.depth, List.length_cons]; omega, by simp only [PyData.leavesShort]; exact h3, ?_⟩
      simp only [PyData.bulk, bOf]
      omega
  | .ins _ _ _, ms, h => by cases ms <;> (unfold Rw at h; exact h.elim)
  | .ob k, ms, _ => by unfold Dt.py; exact ⟨by simp [PyData.showable, PyData.showableKv], by simp [PyData.depth, PyData.depthKv], by simp [PyData.leavesShort, PyData.leavesShortKv], by simp [PyData.bulk, PyData.bulkKv]⟩
theorem Rws.ok : ∀ (ds : List Dt) (ms : List Nat), (∀ d ∈ ds, Rw ms d) → PyData.showableAll (Dt.pys ds) = true ∧ PyData.depthAll (Dt.pys ds) ≤ ms.length + 1 ∧ PyData.leavesShortAll 81 (Dt.pys ds) = true ∧ PyData.bulkAll (Dt.pys ds) ≤ ds.length * (bOf ms + 1)
  | [], ms, _ => by unfold Dt.pys; exact ⟨rfl, by simp [PyData.depthAll], rfl, by simp [PyData.bulkAll]⟩
  | d :: ds, ms, h => by
    obtain ⟨h1, h2, h3, h4⟩ := Rw.ok d ms (h d (List.mem_cons_self ..))
    obtain ⟨k1, k2, k3, k4⟩ := Rws.ok ds ms fun x hx => h x (List.mem_cons_of_mem _ hx)
    unfold Dt.pys
    refine ⟨by simp [PyData.showableAll, h1, k1], by simp only [PyData.depthAll]; omega, by simp [PyData.leavesShortAll, h3, k3], ?_⟩
    simp only [PyData.bulkAll, List.length_cons, Nat.add_mul]
    omega
end
mutual
theorem Dv.dq (e : Same G H) : ∀ (d : Dt) (ms : List Nat) (v : V), Rw ms d → Dv K G v d → Dq H v d.py
  | .non, _, _, _, h => by cases h; unfold Dt.py; exact .non
  | .bl b, _, _, _, h => by cases h; unfold Dt.py; exact .bl b
  | .int i, _, _, _, h => by cases h; unfold Dt.py; exact .int i
  | .str x, _, _, _, h => by cases h; unfold Dt.py; exact .str x
  | .lst ds, ms, _, r, h => by
    cases h with
    | lst g k =>
      cases ms with
      | nil => unfold Rw at r; exact r.elim
      | cons m ms =>
        unfold Rw at r
        unfold Dt.py
        exact .lst (e _ _ g) (Dvs.dq e ds ms _ r.2 k)
  | .tup ds, ms, _, r, h => by
    cases h with
    | tup g k =>
      cases ms with
      | nil => unfold Rw at r; exact r.elim
      | cons m ms =>
        unfold Rw at r
        unfold Dt.py
        exact .tup (e _ _ g) (Dvs.dq e ds ms _ r.2 k)
  | .ins _ _ _, ms, _, r, _ => by cases ms <;> (unfold Rw at r; exact r.elim)
  | .ob .dic, ms, _, _, h => by
    cases h with
    | ob g => unfold Dt.py; exact .dic (e _ _ g)
  | .ob (.exc _), ms, _, r, _ => by cases ms <;> (unfold Rw at r; exact r.elim)
theorem Dvs.dq (e : Same G H) : ∀ (ds : List Dt) (ms : List Nat) (vs : List V), (∀ d ∈ ds, Rw ms d) → Dvs K G vs ds → Dqs H vs (Dt.pys ds)
  | [], _, _, _, h => by cases h; unfold Dt.pys; exact .nil
  | d :: ds, ms, _, r, h => by
    cases h with
    | cons h1 h2 =>
      unfold Dt.pys
      exact .cons (Dv.dq e d ms _ (r d (List.mem_cons_self ..)) h1) (Dvs.dq e ds ms _ (fun x hx => r x (List.mem_cons_of_mem _ hx)) h2)
end
end
section
variable {K : PySem.W.Frag} {C : Cc K} {ρ : List Sl} {te : TE}
def mOk (ms : List Nat) : Bool := decide (ms.length ≤ 50) && decide (83 * bOf ms + 81 ≤ 16777216)
/-- repr(e) -/
theorem evd_repr {R : Dt → List Sl → Prop} (h : EvD C te ρ fun x ρ1 => ∃ ms, mOk ms = true ∧ Rw ms x ∧ R (.str x.py.shown) ρ1) : EvD C (tCB rReprE (tCons te tNil)) ρ R := fun G H σ fp O Q q =>
  h G H σ fp O _ fun v G1 H1 x ρ1 fp1 e1 O1 D1 h1 => by
    obtain ⟨ms, h2, h3, h4⟩ := h1
    unfold mOk at h2
    simp only [Bool.and_eq_true, decide_eq_true_eq] at h2
    obtain ⟨k1, k2, k3, k4⟩ := Rw.ok x ms h3
    refine ⟨v, x.py, rfl, Dv.dq O1.e1 x ms v h3 D1, k1, by omega, ?_, q _ G1 H1 _ ρ1 fp1 e1 O1 (.str _) h4⟩
    have z := PyData.shown_le_bulk 81 (by decide) x.py k3
    have y := Nat.mul_le_mul_left 83 k4
    show x.py.shown.length ≤ 16777216
    omega
/-- texts that are the same or not -/
theorem opd_eqT {x y : Str} {R : Dt → Prop} (k : R (.bl (decide (x = y)))) : OpD C rEq (.str x) (.str y) ρ R :=
  opd_s (.bl _) _ (fun _ _ => .bl _) (fun G H σ fp O v w hv hw Q q => by
    cases hv
    cases hw
    refine ⟨rfl, ?_⟩
    have e : decide (V.str x = V.str y) = decide (x = y) := by
      by_cases z : x = y
      · rw [decide_eq_true z, z]; simp
      · rw [decide_eq_false z, decide_eq_false fun w => z (V.str.inj w)]
    rw [e]
    exact q) k
theorem opd_neT {x y : Str} {R : Dt → Prop} (k : R (.bl (!decide (x = y)))) : OpD C rNe (.str x) (.str y) ρ R :=
  opd_s (.bl _) _ (fun _ _ => .bl _) (fun G H σ fp O v w hv hw Q q => by
    cases hv
    cases hw
    refine ⟨rfl, ?_⟩
    have e : decide (V.str x = V.str y) = decide (x = y) := by
      by_cases z : x = y
      · rw [decide_eq_true z, z]; simp
      · rw [decide_eq_false z, decide_eq_false fun w => z (V.str.inj w)]
    rw [e]
    exact q) k
/-- {} -/
theorem evd_dic {R : Dt → List Sl → Prop} (k : R (.ob .dic) ρ) : EvD C tDNewK ρ R := fun G H σ fp O Q q => by
  intro p hp
  have s1 : Same G (upd G p (.dK [])) := same_new (O.e1.free hp)
  exact q _ _ _ _ ρ fp s1 (O.new hp) (.ob upd_same) k
end
/-! list.count, flat items -/
def rCnt (K : PySem.W.Frag) : V → List V → Hp → VK → Prop := fun x xs H Q => ∃ (a : Addr) (ys : List V) (y : V), x = .ref a ∧ xs = [y] ∧ SqL K H a ys ∧ flatV y = true ∧ ys.all flatV = true ∧ Q (.int (ys.countP (fun z => eqV z y) : Nat)) H
theorem eqU_count {y : V} {uy : Value} (fy : flatV y = true) (ry : RelV y uy) : ∀ {ys : List V} {us : List Value}, Vals ys us → ys.all flatV = true → us.countP (eqU y) = ys.countP fun z => eqV z y
  | _, _, .nil, _ => rfl
  | _, _, .cons (a := z) r t, f => by
    rw [List.all_cons, Bool.and_eq_true] at f
    rw [List.countP_cons, List.countP_cons, eqU_count fy ry t f.2, eqU_of r f.1]
theorem mt_cnt {X : Cx} : MtR X "list.count" (rCnt X.K) := fun pn s σ H x xs v us Q I rx rs h => by
  obtain ⟨a, ys, y, rfl, rfl, g, fy, fs, q⟩ := h
  obtain rfl : v = Value.ref a := rx
  obtain ⟨uy, rfl, ry⟩ := rs.one
  obtain ⟨its, rv, ⟨⟨cls, dd, data, sl⟩, n, ho, hc, hdn, hd⟩, hl⟩ := I.list g
  simp only at hc hd
  subst hc hd
  have e : its.toArray.toList.countP (eqU y) = ys.countP fun z => eqV z y := eqU_count fy ry rv fs
  refine PySem.call_meets PySem.F.slot_list_count ⟨_, ho, rfl⟩ PySem.F.entry_list_count (PySem.F.args_list_count_2 _ _) (SeqAt.list_countAt a its.toArray n dd sl uy (eqU y)) ⟨ho, fun u m => mem_eqAt ry fy rv fs u (by simpa using m), ?_⟩
  rw [e]
  exact ⟨.int (ys.countP (fun z => eqV z y) : Nat), H, I.tok _, ⟨_, rfl⟩, q⟩
section
variable {K : PySem.W.Frag} {C : Cc K} {ρ : List Sl} {ta tb : TE}
theorem count_bls {b : Bool} : ∀ bs : List Bool, (bs.map V.bl).countP (fun z => eqV z (.bl b)) = bs.count b
  | [] => rfl
  | c :: bs => by
    rw [List.map_cons, List.countP_cons, List.count_cons, count_bls bs]
    rfl
/-- x.count(b), truths -/
theorem evd_cntB {R : Dt → List Sl → Prop} (h : EvD C ta ρ fun x ρ1 => asL (fun ds => EvD C tb ρ1 fun y ρ2 => ∃ (bs : List Bool) (b : Bool), ds = bs.map Dt.bl ∧ y = .bl b ∧ R (.int (bs.count b : Nat)) ρ2) x) :
    EvD C (tBM K "list" (rCnt K) ta (tCons tb tNil)) ρ R := fun G H σ fp O Q qq =>
  h G H σ fp O _ fun v G1 H1 x ρ1 fp1 e1 O1 D1 r1 => by
    cases D1 with
    | @lst p xs ds a1 a2 =>
      refine ⟨.inl ⟨rfl, _, .inl (.inl (O1.e1 _ _ a1))⟩, r1 G1 H1 σ fp1 O1 _ fun w G2 H2 y ρ2 fp2 e2 O2 D2 r2 => ?_⟩
      obtain ⟨bs, b, rfl, rfl, r3⟩ := r2
      cases D2
      have e := a2.bls
      subst e
      refine ⟨_, _, .bl b, rfl, rfl, .inl (.inl (O2.e1 _ _ (e2 _ _ a1))), rfl, List.all_eq_true.mpr fun x hx => ?_, ?_⟩
      · obtain ⟨z, _, rfl⟩ := List.mem_map.mp hx
        rfl
      · rw [count_bls]
        exact qq _ G2 H2 _ ρ2 fp2 (e1.trans e2) O2 (.int _) r3
    | _ => exact r1.elim
theorem room65 {k : Nat} {A : Around} (h : Room k A) : A.units + 65 < cLine := by
  have := h.un
  omega
end

end
section
/-! An error raised that is told nothing; comprehensions over pairs, some left out. -/
section
variable {X : Cx} {W : WX}
theorem pmk_bare {bmB : List Value} {B newId initId : String} {x : Str} {Cl : Addr} {p pos : Pos} (F : ExcBaseFacts B newId initId bmB) (q : PySem.W.excIn X.K Cl bmB newId = true) (gC : X.mg x = some (.ref Cl)) (kC : PySem.W.keepIn X.K (.ref Cl) = true) (r : Raises X (.ref Cl)) (hg : Gl X x)
    (hdb : (x == ("__debug__" : Str)) = false := by decide) : PMk X (.Call (.Name x p) [] [] pos) (fun _ H Q => Q (.ref Cl) none H) := by
  intro pins s σ H Q I h
  refine wpAny_Call_Name_kw (ld_glob I hg gC ?_ hdb)
  refine PySem.W.callWith_K0 I.kIn kC ?_
  show wpAny _ _ (call (.ref Cl) []) _ _ _
  obtain ⟨bm, N, nm, qn, bs, hdct, sn, sub, ab, col, dd, k0, k1, k2, k3, k5, mN, hC, hN, hni, T⟩ := exc_obj I.kIn q
  refine wpAny_call_exc_subT F T hC hN hni (fun h' e hm => ?_) (Nat.zero_le _)
  exact mk_of I hm r h (I.hok.gone hm.new)
theorem ps_raiseW0 {x : Str} {Cl : Addr} {p p3 pos : Pos} (hc : X.calm = true) (tk : Takes X W) (r : Rai X.K X.mg x Cl) (hg : Gl X x) (hd : (x == ("__debug__" : Str)) = false := by decide) :
    PS X (.Raise (some (.Call (.Name x p) [] [] p3)) none pos) (tRaise W Cl) := ps_raise hc tk (pmk_bare PySem.F.excBase_ValueError r.q r.g r.kp (raises_own r.sb r.ty) hg hd)
end
def onPairO (g : Dt → Dt → Option Dt) : Dt → Option Dt
  | .tup [a, b] => g a b
  | .lst [a, b] => g a b
  | _ => none
section
variable {K : PySem.W.Frag} {C : Cc K} {ρ : List Sl} {tl te : TE} {t : TT}
/-- [e for x, y in xs if t] -/
theorem ev_lcPG {R : Sl → List Sl → Prop} {j l : Nat} (g : Dt → Dt → Option Dt) (hjl : j ≠ l) (h : EvD C tl ρ fun x ρ1 => ρ1 = ρ ∧ wipeOk ρ [j, l] = true ∧ asQ (fun ds => ds.length ≤ 1000000 ∧
    (∀ d ∈ ds, ∃ a b, d = .tup [a, b] ∨ d = .lst [a, b]) ∧
    (∀ (C' : Cc K) d a b, d ∈ ds → (d = .tup [a, b] ∨ d = .lst [a, b]) → EvT C' t ((ρ.set j (.d a)).set l (.d b)) fun bb ρ3 => ρ3 = (ρ.set j (.d a)).set l (.d b) ∧ (bb = true → EvD C' te ((ρ.set j (.d a)).set l (.d b)) fun y ρ4 => ρ4 = (ρ.set j (.d a)).set l (.d b) ∧ g a b = some y) ∧ (bb = false → g a b = none)) ∧
    R (.l (ds.filterMap (onPairO g))) ρ) x) : Ev C (tLc (iSeq K tl) (gSeq K 2 (gCons (gName j) (gCons (gName l) gNil))) t te [j, l]) ρ R := by
  refine ev_lcF (tg_seq (tgs_cons (List.mem_cons_self ..) (tgs_cons (List.mem_cons_of_mem _ (List.mem_singleton.mpr rfl)) tgs_nil))) (wk_seq (evd_imp h ?_))
  rintro x ρ1 ⟨rfl, hw, hx⟩
  have lj : ∀ i ∈ [j, l], i < ρ1.length := fun i hi => by
    have := (List.all_eq_true.mp hw) i hi
    cases e : ρ1[i]? with
    | none => rw [e] at this; cases this
    | some s => exact (List.getElem?_eq_some_iff.mp e).1
  have hj := lj j (List.mem_cons_self ..)
  have hl := lj l (List.mem_cons_of_mem _ (List.mem_singleton.mpr rfl))
  let gg : Dt → Option Dt := onPairO g
  have main : ∀ ds : List Dt, (ds.length ≤ 1000000 ∧ (∀ d ∈ ds, ∃ a b, d = .tup [a, b] ∨ d = .lst [a, b]) ∧ (∀ (C' : Cc K) d a b, d ∈ ds → (d = .tup [a, b] ∨ d = .lst [a, b]) → EvT C' t ((ρ1.set j (.d a)).set l (.d b)) fun bb ρ3 => ρ3 = (ρ1.set j (.d a)).set l (.d b) ∧ (bb = true → EvD C' te ((ρ1.set j (.d a)).set l (.d b)) fun y ρ4 => ρ4 = (ρ1.set j (.d a)).set l (.d b) ∧ g a b = some y) ∧ (bb = false → g a b = none)) ∧ R (.l (ds.filterMap gg)) ρ1) →
      ρ1 = ρ1 ∧ wipeOk ρ1 [j, l] = true ∧ ds.length ≤ 1000000 ∧ ∃ f : Nat → Option Dt, (∀ (C' : Cc K) i, i < ds.length → GgD C' (gSeq K 2 (gCons (gName j) (gCons (gName l) gNil))) ((ds[i]?).getD .non) (dropW ρ1 [j, l]) fun ρ2 => EvT C' t ρ2 fun b ρ3 =>
        (b = true → EvD C' te ρ3 fun d ρ4 => wipeOk ρ4 [j, l] = true ∧ dropW ρ4 [j, l] = dropW ρ1 [j, l] ∧ f i = some d) ∧ (b = false → wipeOk ρ3 [j, l] = true ∧ dropW ρ3 [j, l] = dropW ρ1 [j, l] ∧ f i = none)) ∧ R (.l ((List.range ds.length).filterMap f)) ρ1 := by
    rintro ds ⟨h1, h0, h2, h3⟩
    refine ⟨rfl, hw, h1, fun i => gg ((ds[i]?).getD .non), ?_, by rw [range_fmap]; exact h3⟩
    intro C' i hi
    have e0 : dropW ρ1 [j, l] = (ρ1.set l .no).set j .no := rfl
    have e1 : ∀ a b, (((ρ1.set l Sl.no).set j Sl.no).set j (.d a)).set l (.d b) = (ρ1.set j (.d a)).set l (.d b) := fun a b => by
      rw [List.set_set, List.set_comm _ _ (Ne.symm hjl), List.set_set]
    have w2 : ∀ a b, wipeOk ((ρ1.set j (.d a)).set l (.d b)) [j, l] = true := fun a b => by
      refine List.all_eq_true.mpr fun i hi => ?_
      rcases List.mem_cons.mp hi with rfl | hi
      · rw [List.getElem?_set_ne (Ne.symm hjl), List.getElem?_set_self hj]
      · rw [List.mem_singleton.mp hi, List.getElem?_set_self (by rw [List.length_set]; exact hl)]
    have d2 : ∀ a b, dropW ((ρ1.set j (.d a)).set l (.d b)) [j, l] = dropW ρ1 [j, l] := fun a b => by
      show (((ρ1.set j (.d a)).set l (.d b)).set l .no).set j .no = (ρ1.set l .no).set j .no
      rw [List.set_set, List.set_comm _ _ hjl, List.set_set]
    have hm := get_mem (d := Dt.non) hi
    obtain ⟨a, b, hab⟩ := h0 _ hm
    have fin : GgsD C' (gCons (gName j) (gCons (gName l) gNil)) [a, b] (dropW ρ1 [j, l]) fun ρ2 => EvT C' t ρ2 fun b ρ3 =>
        (b = true → EvD C' te ρ3 fun d ρ4 => wipeOk ρ4 [j, l] = true ∧ dropW ρ4 [j, l] = dropW ρ1 [j, l] ∧ gg ((ds[i]?).getD .non) = some d) ∧ (b = false → wipeOk ρ3 [j, l] = true ∧ dropW ρ3 [j, l] = dropW ρ1 [j, l] ∧ gg ((ds[i]?).getD .non) = none) := by
      refine ggs_cons (gg_name ?_ (ggs_cons (gg_name ?_ (ggs_nil ?_))))
      · rw [e0]
        unfold asgOk
        rw [List.getElem?_set_self (by rw [List.length_set]; exact hj)]
      · rw [e0]
        unfold asgOk
        rw [List.set_set, List.getElem?_set_ne hjl, List.getElem?_set_self hl]
      · rw [e0, e1]
        have eg : gg ((ds[i]?).getD .non) = g a b := by rcases hab with e | e <;> rw [e] <;> rfl
        refine evt_imp (h2 C' _ a b hm hab) ?_
        rintro bb ρ3 ⟨rfl, r1, r2⟩
        refine ⟨fun hb => evd_imp (r1 hb) ?_, fun hb => ⟨w2 _ _, d2 _ _, eg.trans (r2 hb)⟩⟩
        rintro y ρ4 ⟨rfl, r⟩
        exact ⟨w2 _ _, d2 _ _, eg.trans r⟩
    rcases hab with e | e
    · rw [e]; exact gg_seqT rfl fin
    · rw [e]; exact gg_seqL rfl fin
  cases x with
  | lst ds => exact main ds hx
  | tup ds => exact main ds hx
  | _ => exact hx.elim
theorem evd_lcPG {R : Dt → List Sl → Prop} {j l : Nat} (g : Dt → Dt → Option Dt) (hjl : j ≠ l) (h : EvD C tl ρ fun x ρ1 => ρ1 = ρ ∧ wipeOk ρ [j, l] = true ∧ asQ (fun ds => ds.length ≤ 1000000 ∧
    (∀ d ∈ ds, ∃ a b, d = .tup [a, b] ∨ d = .lst [a, b]) ∧
    (∀ (C' : Cc K) d a b, d ∈ ds → (d = .tup [a, b] ∨ d = .lst [a, b]) → EvT C' t ((ρ.set j (.d a)).set l (.d b)) fun bb ρ3 => ρ3 = (ρ.set j (.d a)).set l (.d b) ∧ (bb = true → EvD C' te ((ρ.set j (.d a)).set l (.d b)) fun y ρ4 => ρ4 = (ρ.set j (.d a)).set l (.d b) ∧ g a b = some y) ∧ (bb = false → g a b = none)) ∧
    R (.lst (ds.filterMap (onPairO g))) ρ) x) : EvD C (tLc (iSeq K tl) (gSeq K 2 (gCons (gName j) (gCons (gName l) gNil))) t te [j, l]) ρ R := by
  refine evd_l (ev_lcPG g hjl (evd_imp h ?_))
  rintro x ρ1 ⟨h1, h2, h3⟩
  refine ⟨h1, h2, ?_⟩
  cases x with
  | lst ds => exact ⟨h3.1, h3.2.1, h3.2.2.1, _, rfl, h3.2.2.2⟩
  | tup ds => exact ⟨h3.1, h3.2.1, h3.2.2.1, _, rfl, h3.2.2.2⟩
  | _ => exact h3.elim
end

end
section
/-! A place of an owned list stored as a target (swaps); list.extend; an owned list lent to what only looks at it. -/
section
variable {K : PySem.W.Frag} {C : Cc K} {ρ : List Sl} {P : En} {ta tb te : TE} {t u : TT} {ts us : TS} {nx bk ct : List Sl → Prop} {rt : Sl → List Sl → Prop}
/-- x[e] as a target -/
theorem gg_subO {i : Nat} {d : Dt} {R : List Sl → Prop} {q : Bool} {W : Wd} (hw : ρ[i]? = some (.w q W)) (h : EvD C tb ρ fun y ρ' => asI (fun j => ∃ q ds n, ρ'[i]? = some (.w q (lw ds)) ∧ ixN ds.length j = some n ∧ R (ρ'.set i (.w q (lw (ds.set n d))))) y) :
    GgD C (gSub (tVar i) tb rSetL) d ρ R := fun G H σ fp v O D Q q => by
  obtain ⟨w, h1, _⟩ := O.sl i _ hw
  refine ⟨w, h1, ?_⟩
  refine h G H σ fp O _ fun z G2 H2 y ρ2 fp2 e2 O2 D2 r => ?_
  cases y with
  | int j =>
    cases D2
    obtain ⟨q', ds, n, r1, r2, r3⟩ := r
    obtain ⟨p', ys, g1, g2, g3⟩ := own_l O2 r1
    rw [h1] at g1
    cases g1
    obtain ⟨fp3, O3⟩ := O2.writeL (ds' := ds.set n d) r1 h1 g2 (g3.set (Dv.up e2 d v D) n)
    exact ⟨p', ys, j, n, rfl, rfl, g2, by rw [g3.len]; exact r2, q G2 _ σ _ fp3 e2 O3 r3⟩
  | _ => exact r.elim
/-! x.extend(e) -/
theorem sj_extend {i : Nat} {q : Bool} {W : Wd} {ds0 : List Dt} (hw : ρ[i]? = some (.w q (lw ds0))) (h : EvD C te ρ fun d ρ' => asL (fun es => ∃ q ds, ρ'[i]? = some (.w q (lw ds)) ∧ ds.length + es.length ≤ 1000000 ∧ P.nx (ρ'.set i (.w q (lw (ds ++ es))))) d) : Sj C (tDrop (tBM K "list" rExtend (tVar i) (tCons te tNil))) ρ P := fun G H σ fp O D E => by
  obtain ⟨p, xs, h1, h2, h3⟩ := own_l O hw
  refine ⟨_, h1, .inl ⟨rfl, _, .inl (.inl h2)⟩, ?_⟩
  refine h G H σ fp O _ fun v G' H' d ρ' fp' e O' D' r => ?_
  cases d with
  | lst es =>
    cases D' with
    | lst hb hv =>
      obtain ⟨q', ds, r1, r2, r3⟩ := r
      obtain ⟨p', ys, g1, g2, g3⟩ := own_l O' r1
      rw [h1] at g1
      cases g1
      obtain ⟨fp2, O2⟩ := O'.writeL (ds' := ds ++ es) r1 h1 g2 (g3.app hv)
      exact ⟨p, _, ys, _, rfl, rfl, g2, O'.e1 _ _ hb, by rw [g3.len, hv.len]; exact Nat.le_trans r2 (by decide), E.nx G' _ σ _ fp2 e O2 r3⟩
  | _ => exact r.elim
theorem sq_extend {i : Nat} {q : Bool} {ds0 : List Dt} (hw : ρ[i]? = some (.w q (lw ds0))) (h : EvD C te ρ fun d ρ' => asL (fun es => ∃ q ds, ρ'[i]? = some (.w q (lw ds)) ∧ ds.length + es.length ≤ 1000000 ∧ Sj C us (ρ'.set i (.w q (lw (ds ++ es)))) P) d) : Sj C (tSeq (tDrop (tBM K "list" rExtend (tVar i) (tCons te tNil))) us) ρ P :=
  sj_seq (sj_extend (W := lw ds0) hw h)
theorem y_extend {i : Nat} {q : Bool} {ds0 : List Dt} (hw : ρ[i]? = some (.w q (lw ds0))) (h : EvD C te ρ fun d ρ' => asL (fun es => ∃ q ds, ρ'[i]? = some (.w q (lw ds)) ∧ ds.length + es.length ≤ 1000000 ∧ nx (ρ'.set i (.w q (lw (ds ++ es))))) d) : Sj C (tDrop (tBM K "list" rExtend (tVar i) (tCons te tNil))) ρ ⟨nx, bk, ct, rt⟩ :=
  sj_extend (W := lw ds0) hw h
/-! an owned list is lent: what looks at it changes nothing, and comes to a plain value -/
def lendS : Sl → Sl
  | .w _ _ => .no
  | s => s
def lendL (ρ : List Sl) (i : Nat) (d : Dt) : List Sl := (ρ.map lendS).set i (.d d)
def scal : Dt → Bool
  | .non => true
  | .bl _ => true
  | .int _ => true
  | .str _ => true
  | _ => false
theorem lend_ok {G H : Hp} {σ : St} {fp : Nat → List Addr} {i : Nat} {q : Bool} {ds : List Dt} (O : Ok C G H σ ρ fp) (hw : ρ[i]? = some (.w q (lw ds))) :
    ∃ (G1 : Hp), Ok (⟨[], [], C.vs, G1, H⟩ : Cc K) G1 H σ (lendL ρ i (.lst ds)) (fun _ => []) ∧ ∀ G2 H2 ρ2 fp2, Same G1 G2 → Ok (⟨[], [], C.vs, G1, H⟩ : Cc K) G2 H2 σ ρ2 fp2 → ∃ G3, Same G G3 ∧ Ok C G3 H2 σ ρ fp := by
  obtain ⟨p, xs, h1, h2, h3⟩ := own_l O hw
  have hm : p ∈ fp i := by
    obtain ⟨v, g1, ⟨p', ys, rfl, hf, _, _⟩, _⟩ := O.sl i _ hw
    rw [h1] at g1
    cases g1
    rw [hf]
    exact List.mem_singleton.mpr rfl
  obtain ⟨gp, _, _⟩ := O.fo i p hm
  have s1 : Same G (upd G p (.lst xs)) := same_new gp
  have hi := (List.getElem?_eq_some_iff.mp hw).1
  refine ⟨upd G p (.lst xs), ?_, ?_⟩
  · exact {
      e0 := Same.refl _
      e1 := fun a o z => by
        by_cases e : a = p
        · subst e; rw [upd_same] at z; cases z; exact h2
        · rw [upd_ne e] at z; exact O.e1 a o z
      nw := fun a o z => .inl z
      fr := fun a o _ z => z
      dm := fun a z => z
      len := by unfold lendL; rw [List.length_set, List.length_map]; exact O.len
      sl := fun j s h => by
        unfold lendL at h
        by_cases e : j = i
        · subst e
          rw [List.getElem?_set_self (by rw [List.length_map]; exact hi)] at h
          cases h
          exact ⟨_, h1, .lst upd_same (h3.up s1)⟩
        · rw [List.getElem?_set_ne (Ne.symm e), List.getElem?_map] at h
          cases q : ρ[j]? with
          | none => rw [q] at h; cases h
          | some s0 =>
            rw [q] at h
            cases h
            have z := O.sl j s0 q
            cases s0 with
            | no => exact trivial
            | d d => obtain ⟨v, g1, g2⟩ := z; exact ⟨v, g1, Dv.up s1 d v g2⟩
            | w q W => exact trivial
      em := fun _ _ => rfl
      dj := fun _ _ _ z => nomatch z
      fo := fun _ _ z => nomatch z }
  · intro G2 H2 ρ2 fp2 e2 O2
    have keep : ∀ a o, H a = some o → H2 a = some o := fun a o h => O2.fr a o (fun z => nomatch z) h
    have e3 : Same G fun a => if a = p then none else G2 a := fun a o h => by
      have ne : a ≠ p := ne_of_none h gp
      show (if a = p then none else G2 a) = some o
      rw [if_neg ne]
      exact e2 a o (s1 a o h)
    have from2 : ∀ a u, (if a = p then none else G2 a) = some u → a ≠ p ∧ G2 a = some u := fun a u h => by
      by_cases e : a = p
      · rw [if_pos e] at h; cases h
      · rw [if_neg e] at h; exact ⟨e, h⟩
    have old : ∀ a u, a ≠ p → G2 a = some u → G a = some u ∨ H a = none := fun a u ne h => by
      rcases O2.nw a u h with z | z
      · left
        have z : upd G p (.lst xs) a = some u := z
        rw [upd_ne ne] at z
        exact z
      · rcases z with z | z
        · exact .inr z
        · exact nomatch z
    exact ⟨_, e3, {
      e0 := O.e0.trans e3
      e1 := fun a o h => O2.e1 a o (from2 a o h).2
      nw := fun a o h => by
        obtain ⟨ne, h⟩ := from2 a o h
        rcases old a o ne h with z | z
        · exact O.nw a o z
        · exact .inr (.inl (O.dm a z))
      fr := fun a o h1 h2 => keep a o (O.fr a o h1 h2)
      dm := fun a h => O.dm a (O2.dm a h)
      len := O.len
      sl := fun j s h => (O.sl j s h).up e3 fun a _ o z => keep a o z
      em := O.em
      dj := O.dj
      fo := fun j a h => by
        obtain ⟨f1, ⟨o, f2⟩, f3⟩ := O.fo j a h
        refine ⟨?_, ⟨o, keep a o f2⟩, f3⟩
        cases z : (if a = p then none else G2 a) with
        | none => rfl
        | some u =>
          obtain ⟨ne, z⟩ := from2 a u z
          rcases old a u ne z with y | y
          · rw [f1] at y; cases y
          · rw [f2] at y; cases y }⟩
theorem scal_dv {G G' : Hp} {v : V} {d : Dt} (h : scal d = true) (D : Dv K G v d) : Dv K G' v d := by
  cases d <;> first | (cases h; done) | (cases D; constructor)
theorem evd_lend {R : Dt → List Sl → Prop} (i : Nat) {q : Bool} {ds : List Dt} (hw : ρ[i]? = some (.w q (lw ds))) (h : ∀ C' : Cc K, EvD C' te (lendL ρ i (.lst ds)) fun d _ => scal d = true ∧ R d ρ) : EvD C te ρ R := fun G H σ fp O Q k => by
  obtain ⟨G1, O1, back⟩ := lend_ok O hw
  refine h _ G1 H σ _ O1 Q fun v G2 H2 d ρ2 fp2 e2 O2 D2 r => ?_
  obtain ⟨G3, e3, O3⟩ := back G2 H2 ρ2 fp2 e2 O2
  exact k v G3 H2 d ρ fp e3 O3 (scal_dv r.1 D2) r.2
theorem evt_lend {R : Bool → List Sl → Prop} (i : Nat) {q : Bool} {ds : List Dt} (hw : ρ[i]? = some (.w q (lw ds))) (h : ∀ C' : Cc K, EvT C' t (lendL ρ i (.lst ds)) fun b _ => R b ρ) : EvT C t ρ R := fun G H σ fp O Q k => by
  obtain ⟨G1, O1, back⟩ := lend_ok O hw
  refine h _ G1 H σ _ O1 Q fun b G2 H2 ρ2 fp2 e2 O2 r => ?_
  obtain ⟨G3, e3, O3⟩ := back G2 H2 ρ2 fp2 e2 O2
  exact k b G3 H2 ρ fp e3 O3 r
/-- f(e, x, ..), x owned, what comes back too -/
theorem ev_callM {α β : Type} {W : β → Wd} {e0 : α → Dt} {emb : α → List Dt} {pre : β → α → Prop} {post : β → α → Sl → β → Prop} {R : Sl → List Sl → Prop} {E : XK} {ta : TE} {t : TA} {i : Nat}
    (h : EvD C ta ρ fun x ρ0 => (∃ q W0, ρ0[i]? = some (.w q W0)) ∧ EvA C t ρ0 fun ds ρ1 => ∃ b a q, ρ1[i]? = some (.w q (W b)) ∧ x = e0 a ∧ ds = emb a ∧ pre b a ∧ ∀ s b', post b a s b' → notTrue s = true ∧ R s (ρ1.set i (.w q (W b')))) : Ev C (tCall ((CM W e0 emb pre post).sp K) [] E (tCons ta (tCons (tVar i) t))) ρ R := by
  refine ev_call1 CM.mono xok0 (evb_d (evd_imp h fun x ρ0 r => ?_))
  obtain ⟨⟨q0, W0, hw⟩, r⟩ := r
  refine evb_o hw (evb_ds ?_)
  intro G H σ fp O Q qq
  refine r G H σ fp O Q fun vs G' H' ds ρ' fp' e O' D r => qq vs G' H' ds ρ' fp' e O' D ?_
  obtain ⟨b, a, q', r1, rfl, rfl, r2, r3⟩ := r
  refine ⟨[e0 a], emb a, i, q', W b, rfl, r1, b, a, rfl, r2, fun s b' hs => ?_⟩
  exact ⟨(r3 s b' hs).1, W b', rfl, (r3 s b' hs).2⟩
theorem opd_inT {neg : Bool} {x : Dt} {ds : List Dt} {R : Dt → Prop} (hx : Fn 0 x) (hs : ∀ d ∈ ds, Fn 0 d) (k : R (.bl (if neg then !ds.any (fun y => dEq y x) else ds.any fun y => dEq y x))) : OpD C (rIn K neg) x (.tup ds) ρ R := by
  have flat : ∀ {H : Hp} {v : V} {d : Dt}, Fn 0 d → Dv K H v d → flatV v = true := fun {H v d} f h => by
    cases h with
    | non => rfl
    | bl b => rfl
    | int b => rfl
    | str b => rfl
    | lst a b => unfold Fn at f; exact f.elim
    | tup a b => unfold Fn at f; exact f.elim
    | ins a b c => unfold Fn at f; exact f.elim
    | ob a => unfold Fn at f; exact f.elim
  have eqs : ∀ {H : Hp} {v w : V} {d e : Dt}, Fn 0 d → Fn 0 e → Dv K H v d → Dv K H w e → eqV v w = dEq d e := fun {H v w d e} f f' h h' => by
    cases h <;> first | (unfold Fn at f; exact f.elim) | skip
    all_goals (cases h' <;> first | (unfold Fn at f'; exact f'.elim) | (unfold dEq; simp [Dt.py, PyData.eqv, eqV]))
  have alls : ∀ {H : Hp} {vs : List V} {ds : List Dt}, (∀ d ∈ ds, Fn 0 d) → Dvs K H vs ds → vs.all flatV = true := fun {H} => by
    intro vs ds f h
    induction ds generalizing vs with
    | nil => cases h; rfl
    | cons d ds ih =>
      cases h with
      | cons h1 h2 => rw [List.all_cons, flat (f d (List.mem_cons_self ..)) h1, ih (fun x hx => f x (List.mem_cons_of_mem _ hx)) h2]; rfl
  have anys : ∀ {H : Hp} {w : V} {vs : List V} {ds : List Dt}, (∀ d ∈ ds, Fn 0 d) → Dvs K H vs ds → Dv K H w x → inV w vs = ds.any fun y => dEq y x := fun {H w} => by
    intro vs ds f h hw
    unfold inV
    induction ds generalizing vs with
    | nil => cases h; rfl
    | cons d ds ih =>
      cases h with
      | cons h1 h2 => rw [List.any_cons, List.any_cons, eqs (f d (List.mem_cons_self ..)) hx h1 hw, ih (fun x hx => f x (List.mem_cons_of_mem _ hx)) h2]
  refine opd_s (.bl _) _ (fun _ _ => .bl _) (fun G H σ fp O v w hv hw Q q => ?_) k
  cases hw with
  | tup h1 h2 => exact ⟨_, _, rfl, .inr (.inl (.inl (O.e1 _ _ h1))), flat hx hv, alls hs h2, by rw [anys hs h2 hv]; exact q⟩
end
section
variable {X : Cx}
/-- a list, whatever it holds, and the empty list -/
def rEq0 (K : PySem.W.Frag) : R2 := fun x y H Q => ∃ a b xs, x = .ref a ∧ y = .ref b ∧ SqL K H a xs ∧ SqL K H b [] ∧ Q (.bl xs.isEmpty) H
def rNe0 (K : PySem.W.Frag) : R2 := fun x y H Q => ∃ a b xs, x = .ref a ∧ y = .ref b ∧ SqL K H a xs ∧ SqL K H b [] ∧ Q (.bl (!xs.isEmpty)) H
theorem vals_emp : ∀ {xs : List V} {us : List Value}, Vals xs us → us.isEmpty = xs.isEmpty
  | _, _, .nil => rfl
  | _, _, .cons _ _ => rfl
theorem op_eq0 (hu : X.A.units + 64 < cLine) : OpR X (compareOp .Eq) (rEq0 X.K) := by
  intro pins s σ H x y v u Q I rx ry h
  obtain ⟨a, b, xs, rfl, rfl, ha, hb, q⟩ := h
  cases (show v = Value.ref a from rx)
  cases (show u = Value.ref b from ry)
  obtain ⟨us, r1, p1, _⟩ := I.list ha
  obtain ⟨ws, r2, p2, _⟩ := I.list hb
  cases r2
  cases xs with
  | nil =>
    cases r1
    refine SeqAt.RcAt.lists (e := fun _ => true) p1.isList p2.isList rfl (by omega) (fun j h1 h2 => absurd h1 (Nat.not_lt_zero j)) _ _ _ _ ⟨.bl true, H, I, rfl, q⟩
  | cons x xs =>
    cases r1 with
    | cons r t =>
      refine SeqAt.RcAt.lists_lengths p1.isList p2.isList (by simp) (by omega) _ _ _ _ ⟨.bl false, H, I, rfl, q⟩
theorem op_ne0 (hu : X.A.units + 64 < cLine) : OpR X (compareOp .NotEq) (rNe0 X.K) := by
  intro pins s σ H x y v u Q I rx ry h
  obtain ⟨a, b, xs, rfl, rfl, ha, hb, q⟩ := h
  cases (show v = Value.ref a from rx)
  cases (show u = Value.ref b from ry)
  obtain ⟨us, r1, p1, _⟩ := I.list ha
  obtain ⟨ws, r2, p2, _⟩ := I.list hb
  cases r2
  cases xs with
  | nil =>
    cases r1
    refine SeqAt.RcNeAt.lists (e := fun _ => true) p1.isList p2.isList rfl (by omega) (fun j h1 h2 => absurd h1 (Nat.not_lt_zero j)) _ _ _ _ ⟨.bl false, H, I, rfl, q⟩
  | cons x xs =>
    cases r1 with
    | cons r t =>
      refine SeqAt.RcNeAt.lists_lengths p1.isList p2.isList (by simp) (by omega) _ _ _ _ ⟨.bl true, H, I, rfl, q⟩
end
section
variable {K : PySem.W.Frag} {C : Cc K} {ρ : List Sl}
theorem dvs_emp {G : Hp} : ∀ {vs : List V} {es : List Dt}, Dvs K G vs es → vs.isEmpty = es.isEmpty := by
  intro vs es h
  cases h <;> rfl
theorem opd_eq0 {ds : List Dt} {R : Dt → Prop} (k : R (.bl ds.isEmpty)) : OpD C (rEq0 K) (.lst ds) (.lst []) ρ R := fun G H σ fp O v w D1 D2 Q q => by
  cases D1 with
  | lst h1 d1 =>
    cases D2 with
    | lst h2 d2 =>
      cases d2
      exact ⟨_, _, _, rfl, rfl, .inl (.inl (O.e1 _ _ h1)), .inl (.inl (O.e1 _ _ h2)), by rw [dvs_emp d1]; exact q _ G H _ (Same.refl G) O (.bl _) k⟩
theorem opd_ne0 {ds : List Dt} {R : Dt → Prop} (k : R (.bl (!ds.isEmpty))) : OpD C (rNe0 K) (.lst ds) (.lst []) ρ R := fun G H σ fp O v w D1 D2 Q q => by
  cases D1 with
  | lst h1 d1 =>
    cases D2 with
    | lst h2 d2 =>
      cases d2
      exact ⟨_, _, _, rfl, rfl, .inl (.inl (O.e1 _ _ h1)), .inl (.inl (O.e1 _ _ h2)), by rw [dvs_emp d1]; exact q _ G H _ (Same.refl G) O (.bl _) k⟩
/-! repr, by how much there is in all -/
def bk (d : Dt) : Nat := d.py.bulk
def bks (ds : List Dt) : Nat := PyData.bulkAll (Dt.pys ds)
theorem bk_lst (ds : List Dt) : bk (.lst ds) = bks ds := by unfold bk bks Dt.py; simp only [PyData.bulk]
theorem bk_tup (ds : List Dt) : bk (.tup ds) = bks ds := by unfold bk bks Dt.py; simp only [PyData.bulk]
theorem bks_nil : bks [] = 0 := by unfold bks Dt.pys; simp only [PyData.bulkAll]
theorem bks_cons (d : Dt) (ds : List Dt) : bks (d :: ds) = bk d + 1 + bks ds := by unfold bks bk; conv => lhs; unfold Dt.pys; simp only [PyData.bulkAll]
theorem bks_app : ∀ ds es : List Dt, bks (ds ++ es) = bks ds + bks es
  | [], es => by rw [bks_nil]; simp
  | d :: ds, es => by rw [List.cons_append, bks_cons, bks_cons, bks_app ds es]; omega
theorem bks_le {n : Nat} : ∀ {ds : List Dt}, (∀ d ∈ ds, bk d ≤ n) → bks ds ≤ ds.length * (n + 1)
  | [], _ => by rw [bks_nil]; omega
  | d :: ds, h => by
    rw [bks_cons, List.length_cons, Nat.add_mul]
    have := h d (List.mem_cons_self ..)
    have := bks_le (n := n) fun x hx => h x (List.mem_cons_of_mem _ hx)
    omega
theorem bk_rw {d : Dt} {ms : List Nat} (h : Rw ms d) : bk d ≤ bOf ms := (Rw.ok d ms h).2.2.2
theorem evd_reprS {te : TE} {R : Dt → List Sl → Prop} (h : EvD C te ρ fun x ρ1 => ∃ ms, ms.length ≤ 50 ∧ Rw ms x ∧ bk x ≤ 200000 ∧ R (.str x.py.shown) ρ1) : EvD C (tCB rReprE (tCons te tNil)) ρ R := fun G H σ fp O Q q =>
  h G H σ fp O _ fun v G1 H1 x ρ1 fp1 e1 O1 D1 h1 => by
    obtain ⟨ms, h2, h3, h5, h4⟩ := h1
    obtain ⟨k1, k2, k3, _⟩ := Rw.ok x ms h3
    refine ⟨v, x.py, rfl, Dv.dq O1.e1 x ms v h3 D1, k1, by omega, ?_, q _ G1 H1 _ ρ1 fp1 e1 O1 (.str _) h4⟩
    have z := PyData.shown_le_bulk 81 (by decide) x.py k3
    have y := Nat.mul_le_mul_left 83 h5
    show x.py.shown.length ≤ 16777216
    unfold bk at y
    omega
def leB : List Nat → List Nat → Bool
  | [], _ => true
  | m :: ms, n :: ns => decide (m ≤ n) && leB ms ns
  | _ :: _, [] => false
theorem rw_le : ∀ {ms ns : List Nat} {d : Dt}, leB ms ns = true → Rw ms d → Rw ns d
  | ms, ns, .non, _, _ => rw_non
  | ms, ns, .bl _, _, _ => rw_bl
  | ms, ns, .int i, _, h => rw_int (by cases ms <;> (unfold Rw at h; exact h))
  | ms, ns, .str x, _, h => by
    have z : PyData.strOk x = true ∧ x.cps.size ≤ 12 := by cases ms <;> (unfold Rw at h; exact h)
    exact rw_str z.1 z.2
  | ms, ns, .ob .dic, _, _ => rw_dic
  | ms, ns, .ob (.exc _), _, h => by cases ms <;> (unfold Rw at h; exact h.elim)
  | ms, ns, .ins _ _ _, _, h => by cases ms <;> (unfold Rw at h; exact h.elim)
  | [], _, .lst ds, _, h => by unfold Rw at h; exact h.elim
  | [], _, .tup ds, _, h => by unfold Rw at h; exact h.elim
  | m :: ms, [], .lst ds, l, _ => by cases l
  | m :: ms, [], .tup ds, l, _ => by cases l
  | m :: ms, n :: ns, .lst ds, l, h => by
    unfold Rw at h
    unfold leB at l
    simp only [Bool.and_eq_true, decide_eq_true_eq] at l
    exact rw_lst (Nat.le_trans h.1 l.1) fun d hd => rw_le l.2 (h.2 d hd)
  | m :: ms, n :: ns, .tup ds, l, h => by
    unfold Rw at h
    unfold leB at l
    simp only [Bool.and_eq_true, decide_eq_true_eq] at l
    exact rw_tup (Nat.le_trans h.1 l.1) fun d hd => rw_le l.2 (h.2 d hd)
theorem opd_isB {a b : Bool} {R : Dt → Prop} (k : R (.bl (decide (a = b)))) : OpD C rIsB (.bl a) (.bl b) ρ R :=
  opd_s (.bl _) _ (fun _ _ => .bl _) (fun G H σ fp O v w hv hw Q q => by
    cases hv
    cases hw
    exact ⟨a, b, rfl, rfl, q⟩) k
end

end
section
/-! len of an instance by its own __len__; a list comprehension over a field; two instances made for two names. -/
open PySem PySem.Spec PyProof.Rows L2
section
variable {X : Cx}
theorem special_own {prog : Program} {w : World} {A : Around} {E : Value → Shared → Prop} {s : Shared} {K : PySem.W.Frag} {a C f : Addr} {ox : Obj} {od : Option Obj} {name : Str} {args : List Value} {Q : Option Value → Shared → Prop} (X : K.In s.heap) (I : PySem.W.InstAt s.heap a ox C od)
    (hs : PySem.W.findIn K (.ref C) name = some (some (.ref f))) (hf : PySem.W.isFn K (.ref f) = true) (h : wpAny (model prog w) A (call (.ref f) (.ref a :: args)) (fun v s' => Q (some v) s') E s) : wpAny (model prog w) A (callSpecial? (.ref a) name args) Q E s := by
  unfold callSpecial? specialOf
  refine wpAny_bind (wpAny_bind (I.type.here ((PySem.W.looks_findIn X hs).here ?_)))
  refine wpAny_holding (wpAny_bind ((PySem.W.bind_fn X _ (beq_iff_eq.mp hf)).here ?_))
  exact wpAny_bind (wpAny_mono h (fun v s' z => wpAny_pure z) fun _ _ z => z)
/-- len(x), x an instance whose class says how long it is -/
def rLenM (Cl : Addr) (sp : Sp) : List V → Hp → VK → Prop := fun xs H Q => ∃ a dx fs, xs = [.ref a] ∧ H a = some (.ins Cl dx fs) ∧ sp [.ref a] H (fun v H' => ∃ n : Int, v = .int n ∧ 0 ≤ n ∧ n < 2 ^ 63 ∧ Q (.int n) H') E0
theorem cr_lenM {Cl : Addr} {ps : List Str} {L : Nat} {c : Ctr} (D : GdM X.prog X.w X.K X.mg X.base Cl "__len__" ps L c) (room : Room (L + 1) X.A) : CallR X (.builtin "len") (rLenM Cl (c.sp X.K)) := by
  intro pins s σ H xs us Q I r h
  obtain ⟨a, dx, fs, rfl, ha, h⟩ := h
  obtain ⟨f, fd, g1, g2, g3⟩ := D
  obtain ⟨u, rfl, ru⟩ := vals1 r
  obtain rfl : u = Value.ref a := ru
  obtain ⟨mA, J, _⟩ := ins_get I.hok ha
  obtain ⟨od, J, _⟩ := J.look
  refine Calls.call_function_entry kind_len plain_len entry_len (args_len1 _) ?_
  unfold Builtin.«len»
  refine wpAny_bind (m := oneArg "len" _) (wpAny_pure ?_)
  refine wpAny_bind (m := callSpecial? (.ref a) (Str.ofString "__len__")) (special_own I.kIn J g1.at_ g1.fn (wpAny_mono (Q := fun r s' => ∃ (n : Int) (u : Tok), r = .int n u ∧ 0 ≤ n ∧ n < 2 ^ 63 ∧ ∃ H', Inv X pins σ H' s' ∧ Q (.int n) H') ?_ (fun r s' hr => ?_) fun _ _ y => y))
  · have hl := g3.len _ _ _ _ h
    have b := g2.b (K := X.K) s [.ref a] I.kIn (by simpa using hl)
    rw [List.append_nil] at b
    have e := I.env0
    have e0 : Env0 X.prog X.w X.K X.mg X.base X.A.in1 X.stack s H := ⟨e.frames, e.mod, e.bs, e.bsz, e.funs, e.frf, e.hok, e.bare⟩
    refine wpAny_call (codeAny_mono (g3.run X.A.in1 X.stack s H ⟨[.ref a], []⟩ [.ref a] [.ref a] _ E0 room.in1 e0 b (.cons rfl .nil) h) fun r s' hq => ?_)
    cases r with
    | error e => exact (pass0 (X := X) pins σ H s e s' I hq)
    | ok fl =>
      cases fl with
      | ret u =>
        obtain ⟨z, H', I', rz, n, ez, n0, n1, q⟩ := I.after hq
        subst ez
        obtain ⟨t, rfl⟩ := rz
        exact ⟨n, t, rfl, n0, n1, H', I', q⟩
      | next => exact False.elim hq
      | brk => exact False.elim hq
      | cont => exact False.elim hq
  · obtain ⟨n, u, rfl, h0, h1, H', I', q⟩ := hr
    refine wpAny_bind (wpAny_holding (wpAny_pure ?_))
    refine wpAny_bind (wpAny_letGo ?_)
    show wpAny _ _ (if n < 0 then _ else _) _ _ _
    rw [if_neg (by omega)]
    show wpAny _ _ (if n ≥ 2 ^ 63 then _ else _) _ _ _
    rw [if_neg (by omega)]
    exact wpAny_bind (wpAny_mkInt (wpAny_pure ⟨_, rfl, .int n, H', I'.tok _, ⟨_, rfl⟩, q⟩))
end
section
variable {K : PySem.W.Frag} {C : Cc K} {ρ : List Sl} {P : En} {ta tb te : TE} {t : TT} {i : Nat} {q : Bool} {Cl : Addr} {b0 : In}
theorem evd_lenI {β α : Type} {W : β → Wd} {emb : α → List Dt} {pre : β → α → Prop} {post : β → α → Sl → β → Prop} {R : Dt → List Sl → Prop} (hi : ρ[i]? = some (.w q (inW Cl b0)))
    (h : ∃ b a q, ρ[i]? = some (.w q (W b)) ∧ [] = emb a ∧ pre b a ∧ ∀ s b', post b a s b' → ∃ n : Int, s = .d (.int n) ∧ 0 ≤ n ∧ n < 2 ^ 63 ∧ R (.int n) (ρ.set i (.w q (W b')))) : EvD C (tCB (rLenM Cl ((CB W emb pre post).sp K)) (tCons (tVar i) tNil)) ρ R := fun G H σ fp O Q z => by
  obtain ⟨v, h1, ⟨rfl, dx, cs, ha, _⟩, _⟩ := O.sl i _ hi
  refine ⟨_, h1, b0.a, dx, b0.vs, rfl, ha, ?_⟩
  obtain ⟨b, a, q', r1, r2, r3, r4⟩ := h
  have run := evd_callB (C := C) (ρ := ρ) (W := W) (emb := emb) (pre := pre) (post := post) (R := fun d ρ' => ∃ n : Int, d = .int n ∧ 0 ≤ n ∧ n < 2 ^ 63 ∧ R (.int n) ρ') (E := E0) (t := tNil) hi
    (eva_nil ⟨b, a, q', r1, r2, r3, fun s b' hp => by
      obtain ⟨n, rfl, n0, n1, k⟩ := r4 s b' hp
      exact asF_d ⟨n, rfl, n0, n1, k⟩⟩) G H σ fp O (fun v H' => ∃ n : Int, v = .int n ∧ 0 ≤ n ∧ n < 2 ^ 63 ∧ Q (.int n) H') fun v G1 H1 d ρ1 fp1 e1 O1 D1 r => by
      obtain ⟨n, rfl, n0, n1, k⟩ := r
      cases D1
      exact ⟨n, rfl, n0, n1, z _ G1 H1 _ ρ1 fp1 e1 O1 (.int n) k⟩
  obtain ⟨w, g1, g2⟩ := run
  rw [h1] at g1
  cases g1
  exact g2
/-- a, b = x, y, both new instances -/
theorem sj_mk2 {i j : Nat} (hij : i ≠ j) (hb : ∀ σ σ' H Q, tb σ H Q → tb σ' H Q) (h : Ev C ta ρ fun s ρ1 => ∃ W, s = .w false W ∧ j < ρ1.length ∧ asgOk ρ1 i = true ∧ asgOk ρ1 j = true ∧ i < ρ1.length ∧ Ev C tb (ρ1 ++ [s]) fun u ρ2 => ρ2 = ρ1 ++ [s] ∧ notTrue u = true ∧ P.nx ((ρ1.set i s).set j u)) :
    Sj C (tAsg (tTup (tCons ta (tCons tb tNil))) (gSeq K 2 (gCons (gName i) (gCons (gName j) gNil)))) ρ P := fun G H σ fp O D E =>
  h G H σ fp O _ fun v1 G1 H1 s ρ1 fp1 fv1 e1 O1 r => by
    obtain ⟨W, rfl, hj, ai, aj, hi, r⟩ := r
    refine hb (σ ++ [some v1]) σ H1 _ (r G1 H1 _ _ (O1.push fun W' z => by cases z) _ fun v2 G2 H2 u ρ2 fp2 fv2 e2 O2 r2 => ?_)
    obtain ⟨rfl, nt, nx⟩ := r2
    have ll := O1.ok.len
    refine ⟨(by show 2 ≤ sizeLine; rw [sizeLine_eq]; decide), fun p hp => ?_⟩
    refine .inl ⟨p, [v1, v2], rfl, .inl (.inl upd_same), rfl, v1, [v2], rfl, v2, [], rfl, rfl, ?_⟩
    have aj' : asgOk (ρ1 ++ [Sl.w false W]) j = true := by
      unfold asgOk at aj ⊢
      rw [List.getElem?_append_left hj]
      exact aj
    have O4 := O2.store (i := j) aj' (notTrue_ne nt)
    have es : (σ ++ [some v1]).set j (some v2) = σ.set j (some v2) ++ [some v1] := List.set_append_left _ _ (by omega)
    have er : (ρ1 ++ [Sl.w false W]).set j u = ρ1.set j u ++ [.w false W] := List.set_append_left _ _ hj
    rw [es, er] at O4
    have O5 := Ok.popL (by rw [List.length_set, List.length_set, ll]) O4
    have O6 := O5.store (i := i) (by
      unfold asgOk at ai ⊢
      rw [List.getElem?_set_ne (Ne.symm hij)]
      exact ai) fun W' z => by cases z
    rw [List.set_comm _ _ (Ne.symm hij), List.set_comm _ _ (Ne.symm hij)] at O6
    exact E.nx _ _ _ _ _ (e1.trans e2) (O6.scr (o := .tup [v1, v2]) hp) nx
end
section
variable {K : PySem.W.Frag} {C : Cc K} {ρ : List Sl} {te : TE} {t : TT} {i0 : Nat} {q0 : Bool} {Cl a0 : Addr} {us0 : List (Str × V)} {fs0 : List (Str × Fl)}
/-- [e for .. in x.f if ..], x.f a list of an owned instance -/
theorem ev_lcFld {R : Sl → List Sl → Prop} {g : TG} {vs : List Nat} {f : Str} {ds : List Dt} (hT : TgOnly g vs) (hi0 : ρ[i0]? = some (.w q0 (iwA Cl a0 us0 fs0))) (ok : FldOk K Cl f) (ef : fs0.lookup f = some (.l ds)) (h : wipeOk ρ vs = true ∧ ds.length ≤ 1000000 ∧ ∃ Iv : Nat → List Dt → List Sl → Prop,
    (∀ i acc ρ', Iv i acc ρ' → ∃ q, ρ'[i0]? = some (.w q (iwA Cl a0 us0 fs0))) ∧ Iv 0 [] (dropW ρ vs) ∧
    (∀ (C' : Cc K) i acc ρ' d, ds[i]? = some d → acc.length ≤ i → Iv i acc ρ' → GgD C' g d ρ' fun ρ2 => EvT C' t ρ2 fun b ρ3 =>
      (b = true → EvD C' te ρ3 fun d ρ4 => wipeOk ρ4 vs = true ∧ Iv (i + 1) (acc ++ [d]) (dropW ρ4 vs)) ∧ (b = false → wipeOk ρ3 vs = true ∧ Iv (i + 1) acc (dropW ρ3 vs))) ∧
    ∀ acc ρ', acc.length ≤ ds.length → Iv ds.length acc ρ' → (∀ i ∈ vs, ∀ q W, ρ'[i]? ≠ some (.w q W)) → R (.l acc) (backW ρ ρ' vs)) : Ev C (tLc (iSeq K (tFld K (tVar i0) f)) g t te vs) ρ R := fun G1 H1 σ fp1 O1 Q q => by
    obtain ⟨w1, hn, Iv, ih, iz, is, ie⟩ := h
    obtain ⟨p0, ys0, l0, hp0, _⟩ := fldL O1 hi0 ef
    have look : ∀ {G' H' : Hp} {σ' : L2.St} {ρ' : List Sl} {fp' : Nat → List Addr} {i : Nat} {acc : List Dt}, Ok C G' H' σ' ρ' fp' → Iv i acc ρ' → ∃ ys, H' p0 = some (.lst ys) ∧ Dvs K G' ys ds := fun {G' H' σ' ρ' fp' i acc} O' iv => by
      obtain ⟨q1, h1⟩ := ih _ _ _ iv
      obtain ⟨p1, ys1, l1, hp1, d1⟩ := fldL O' h1 ef
      rw [l0] at l1
      cases l1
      exact ⟨ys1, hp1, d1⟩
    unfold tLc iSeq
    refine fld_run O1 hi0 ok l0 ?_
    refine ⟨p0, rfl, .inl ⟨⟨ys0, .inl (.inl hp0)⟩, ?_⟩⟩
    have e1 : Same G1 G1 := Same.refl G1
    let n := ds.length
    let ρ1 := ρ
    intro D hD
    let M : Nat → Hp → Prop := fun i H' => ∃ G' ρ' fp' acc xs, Same G1 G' ∧ Ok C G' H' (L2.wipe σ vs) ρ' fp' ∧ H' D = some (.lst xs) ∧ Dvs K G' xs acc ∧ G' D = none ∧ C.H0 D = none ∧ (∀ j, D ∉ fp' j) ∧ acc.length ≤ i ∧ (∀ j ∈ vs, ∀ q W, ρ'[j]? ≠ some (.w q W)) ∧ Iv i acc ρ'
    refine ⟨fun i m H' => m = n - i ∧ i ≤ n ∧ M i H', ⟨n, by simp, Nat.zero_le _, ?_⟩, ?_⟩
    · have O2 := (O1.wipe w1).scr (o := .lst []) hD
      refine ⟨G1, _, fp1, [], [], Same.refl G1, O2, upd_same, .nil, O1.e1.free hD, O1.dm D hD, fun j hj => ?_, Nat.le_refl _, fun j hj => dropW_in hj, iz⟩
      obtain ⟨_, ⟨o, ho⟩, _⟩ := O1.fo j D hj
      rw [hD] at ho
      cases ho
    · rintro i m H' ⟨rfl, hi, G', ρ', fp', acc, xs, e', O', hd, ha, gD, h0D, nD, hl, hr, iv⟩
      obtain ⟨ys, hys, dys⟩ := look O' iv
      by_cases hlt : i < n
      · have hly : i < ys.length := by rw [dys.len]; exact hlt
        refine .inr ⟨⟨ys, ys[i], .inl (.inl hys), by simp [hly]⟩, fun H2 => M (i + 1) H2, fun H2 z => ⟨n - (i + 1), by omega, rfl, hlt, z⟩, fun x H2 y => ?_⟩
        obtain ⟨y0, y1⟩ := y
        have y2 := y0.symm
        subst y2
        obtain ⟨dd, hdd, D2⟩ := dys.getV (y1 ys (.inl (.inl hys)))
        have e2 : Same G' G' := Same.refl G'
        have O2 := O'
        have kD := hd
        have kG : G' D = G' D := rfl
        have tr := is (C.at ρ' fp' G' H') i acc ρ' dd hdd hl iv G' H' (L2.wipe σ vs) fp' x O2.from D2
        have oD : ∀ {G3 H3 : Hp} {σ3 : L2.St} {ρ3 : List Sl} {fp3 : Nat → List Addr}, Ok (C.at ρ' fp' G' H') G3 H3 σ3 ρ3 fp3 → H3 D = some (.lst xs) ∧ G3 D = none ∧ ∀ j, D ∉ fp3 j := fun {G3 H3 σ3 ρ3 fp3} O3 => by
          have n1 : D ∉ allFp ρ' fp' := fun z => by
            obtain ⟨j, hj⟩ := mem_of_all z
            exact nD j hj
          have n2 : D ∉ ownFp ρ' fp' := fun z => by
            obtain ⟨j, W, _, hj⟩ := mem_of_own z
            exact nD j hj
          refine ⟨O3.fr D _ n1 kD, ?_, fun j hj => ?_⟩
          · cases z : G3 D with
            | none => rfl
            | some u =>
              rcases O3.nw D u z with y | y | y
              · have y' : G' D = some u := y
                rw [kG, gD] at y'; cases y'
              · have y' : H' D = none := y
                rw [kD] at y'; cases y'
              · exact absurd y n2
          · rcases (O3.fo j D hj).2.2 with y | y
            · have y' : H' D = none := y
              rw [kD] at y'; cases y'
            · exact n1 y
        have fin : ∀ {G4 H4 : Hp} {σ4 : L2.St} {ρ4 : List Sl} {fp4 : Nat → List Addr} {xs4 : List V} {acc4 : List Dt}, Same G' G4 → Ok (C.at ρ' fp' G' H') G4 H4 σ4 ρ4 fp4 → L2.wipe σ4 vs = L2.wipe σ vs → wipeOk ρ4 vs = true → Dvs K G4 xs4 acc4 → acc4.length ≤ i + 1 → Iv (i + 1) acc4 (dropW ρ4 vs) →
            M (i + 1) (upd H4 D (.lst xs4)) := fun {G4 H4 σ4 ρ4 fp4 xs4 acc4} e4 O4 ew w4 d4 l4 iv4 => by
          obtain ⟨z1, z2, z3⟩ := oD O4
          have O5 : Ok C G4 H4 (L2.wipe σ4 vs) (dropW ρ4 vs) fp4 := (O2.to O4).wipe w4
          rw [ew] at O5
          refine ⟨G4, _, fp4, acc4, xs4, (e'.trans e2).trans e4, ?_, upd_same, d4, z2, h0D, z3, l4, fun j hj => dropW_in hj, iv4⟩
          exact {
            e0 := O5.e0
            e1 := fun a u z => by rw [upd_ne (ne_of_none z z2)]; exact O5.e1 a u z
            nw := O5.nw
            fr := fun a o h1 h2 => by rw [upd_ne (ne_of_none h2 h0D)]; exact O5.fr a o h1 h2
            dm := fun a z => by
              by_cases e : a = D
              · subst e; exact h0D
              · rw [upd_ne e] at z; exact O5.dm a z
            len := O5.len
            sl := fun j s hs => (O5.sl j s hs).up (Same.refl G4) fun a ha o z => by
              have ne : a ≠ D := fun y => z3 j (y ▸ ha)
              rw [upd_ne ne]; exact z
            em := O5.em
            dj := O5.dj
            fo := fun j a ha => by
              obtain ⟨y1, ⟨o, y2⟩, y3⟩ := O5.fo j a ha
              have ne : a ≠ D := fun y => z3 j (y ▸ ha)
              exact ⟨y1, ⟨o, by rw [upd_ne ne]; exact y2⟩, y3⟩ }
        have up : ∀ {H4 : Hp} {xs4 : List V}, H4 D = some (.lst xs4) → upd H4 D (.lst xs4) = H4 := fun {H4 xs4} z => by
          funext a
          by_cases e : a = D
          · subst e; rw [upd_same]; exact z.symm
          · rw [upd_ne e]
        have tr2 := hT x (L2.wipe σ vs) H' _ (tr (fun σ3 H3 => L2.wipe σ3 vs = L2.wipe (L2.wipe σ vs) vs → t σ3 H3 fun b H4 => if b = true then te σ3 H4 fun y H5 => ∃ acc, H5 D = some (.lst acc) ∧ acc.length < sizeLine ∧ M (i + 1) (upd H5 D (.lst (acc ++ [y]))) else M (i + 1) H4) fun G3 H3 σ3 ρ3 fp3 e3 O3 s3 ew => ?_)
        · rw [wipe_wipe] at tr2
          exact tr2
        · rw [wipe_wipe] at ew
          refine s3 G3 H3 σ3 fp3 O3 _ fun b G4 H4 ρ4 fp4 e4 O4 s4 => ?_
          cases b with
          | true =>
            show te σ3 H4 _
            refine s4.1 rfl G4 H4 σ3 fp4 O4 _ fun y G5 H5 d ρ5 fp5 e5 O5 D5 r5 => ?_
            obtain ⟨z1, z2, z3⟩ := oD O5
            have dx : Dvs K G5 xs acc := ha.up (((e2.trans e3).trans e4).trans e5)
            refine ⟨xs, z1, ?_, fin ((e3.trans e4).trans e5) O5 ew r5.1 (dx.app (.one D5)) (by rw [List.length_append]; exact Nat.add_le_add_right hl 1) r5.2⟩
            rw [dx.len]
            have : (1000000 : Nat) < sizeLine := by decide
            omega
          | false =>
            show M (i + 1) H4
            obtain ⟨z1, z2, z3⟩ := oD O4
            have m := fin (xs4 := xs) (acc4 := acc) (e3.trans e4) O4 ew (s4.2 rfl).1 (ha.up ((e2.trans e3).trans e4)) (Nat.le_succ_of_le hl) (s4.2 rfl).2
            rw [up z1] at m
            exact m
      · have e : i = n := by omega
        subst e
        refine .inl ⟨⟨ys, .inl (.inl hys), by rw [dys.len]; exact Nat.le_refl _⟩, ?_⟩
        have O3 := O1.unwipe w1 e' O' hr
        refine q (.ref D) G' H' (.l acc) _ fp' [D] (e1.trans e') ⟨O3, ⟨⟨D, xs, rfl, rfl, hd, ha⟩, fun _ a z => ?_⟩, fun j a h1 h2 => ?_, fun a z => ?_⟩ (ie acc ρ' hl iv hr)
        · rw [List.mem_singleton.mp z]; exact .inl h0D
        · rw [List.mem_singleton.mp h2] at h1; exact nD j h1
        · rw [List.mem_singleton.mp z]; exact ⟨gD, ⟨_, hd⟩, .inl h0D⟩
end
section
variable {K : PySem.W.Frag} {C : Cc K} {ρ : List Sl} {P : En} {ts : TS} {i : Nat} {q : Bool} {Cl a : Addr} {vs : List (Str × V)} {fs : List (Str × Fl)}
theorem FO.flen {G H : Hp} {cs : List Addr} (h : FO K G H vs fs cs) : vs.length = fs.length := by
  induction h with
  | nil => rfl
  | d _ _ ih => rw [List.length_cons, List.length_cons, ih]
  | l _ _ _ ih => rw [List.length_cons, List.length_cons, ih]
  | m _ _ _ ih => rw [List.length_cons, List.length_cons, ih]
  | w _ _ ih => rw [List.length_cons, List.length_cons, ih]
/-- an instance has as many values as fields -/
theorem sj_flen (hi : ρ[i]? = some (.w q (iwA Cl a vs fs))) (k : vs.length = fs.length → Sj C ts ρ P) : Sj C ts ρ P := fun G H σ fp O D E => by
  obtain ⟨u, h1, ⟨rfl, dx, cs, h2, h3, h4, h5, h6⟩, _⟩ := O.sl i _ hi
  exact k h4.flen G H σ fp O D E
theorem evd_eq0F {R : Dt → List Sl → Prop} {f : Str} {ds : List Dt} (hi : ρ[i]? = some (.w q (iwA Cl a vs fs))) (ok : FldOk K Cl f) (e : fs.lookup f = some (.l ds)) (k : R (.bl ds.isEmpty) ρ) : EvD C (tOp (rEq0 K) (tFld K (tVar i) f) (tLst tNil)) ρ R := fun G H σ fp O Q z => by
  obtain ⟨p, xs, h1, h2, h3⟩ := fldL O hi e
  unfold tOp
  refine fld_run O hi ok h1 ?_
  refine ⟨Nat.zero_le _, fun b hb => ?_⟩
  refine ⟨p, b, xs, rfl, rfl, .inl (.inl (by rw [upd_ne (ne_of_none h2 hb)]; exact h2)), .inl (.inl upd_same), ?_⟩
  rw [dvs_emp h3]
  exact z _ G _ _ ρ fp (Same.refl G) (O.scr hb) (.bl _) k
end

end
section
/-! Within an except suite: a list's end, pairs unpacked, a comprehension over pairs; defs that are called there. -/
open PySem PySem.Spec PyProof.Rows L2 HotX
section
variable {prog : Program} {w : World} {A : Around} {E : Value → Shared → Prop} {s : Shared} {x1 : Addr}
/-- a StopIteration raised there: something new, all else stands -/
theorem stop_hot {α : Type} {Q : α → Shared → Prop} (hot : HotAt A x1 s.heap)
    (k : ∀ a h', (∃ o, h'.get? a = some o ∧ o.cls = .type "StopIteration") → (∀ b o, s.heap.get? b = some o → h'.get? b = some o) → E (.ref a) { s with heap := h' }) :
    wpAny (model prog w) A (newExc (.type "StopIteration") [] >>= fun e => (raiseNew e : Sem α)) Q E s := by
  obtain ⟨hh, o1, us, at1, f1, n1⟩ := hot
  have kept : ∀ (h : Heap) (p q : Obj) (b : Addr) (o : Obj), h.get? b = some o → ((h.push p).push q).get? b = some o := fun h p q b o e => Heap.get?_push_of_some _ (Heap.get?_push_of_some _ e)
  refine wpAny_bind ?_
  unfold newExc newTuple
  refine wpAny_bind (wpAny_newObj_type ?_ (by size_fits))
  refine wpAny_bind (m := firstArgMember _ _) (wpAny_of_eq (a := Value.none) (by first | rfl | (simp only [firstArgMember]; rfl)) ?_)
  refine wpAny_newObj_type ?_ (by size_fits)
  have there := kept s.heap { cls := .type "tuple", data := .seq ([] : List Value).toArray } default x1 o1 at1
  refine raiseNew_hot ⟨hh, o1, us, Heap.get?_push_of_some _ (Heap.get?_push_of_some _ at1), f1, n1⟩ (Nat.ne_of_lt (Heap.lt_size (Heap.get?_push_of_some _ at1))) (Heap.get?_push_size _ rfl) rfl (by first | (simp; done) | (simp; omega) | (simp only [Array.size_append]; simp; omega)) ?_
  refine k _ _ ⟨_, Heap.get?_update_self _ (Heap.get?_push_size _ rfl) rfl, rfl⟩ fun b o e => ?_
  rw [Heap.get?_update_other _ _ (Nat.ne_of_gt (Heap.lt_size (Heap.get?_push_of_some _ e)))]
  exact Heap.get?_push_of_some _ (Heap.get?_push_of_some _ e)
/-- a list is gone through -/
theorem listEnd_hot {it l : Addr} {i : Nat} {items : Array Value} {Q : Option Value → Shared → Prop} (hot : HotAt A x1 s.heap) (ne : x1 ≠ it) (at_ : s.heap.IsListIter it l i) (isl : s.heap.IsList l items) (out : items[i]? = none)
    (k : ∀ h', Heap.ExtBut it s.heap h' → Q none { s with heap := h' }) : wpAny (model prog w) A (pyNext (.ref it)) Q E s := by
  obtain ⟨o, h1, h2, h3⟩ := id at_
  obtain ⟨ol, g1, _, n, g2⟩ := isl
  obtain ⟨hh, o1, us, at1, f1, n1⟩ := hot
  unfold pyNext
  refine wpAny_bind (wpAny_attempt (wpAny_callSpecial?_slot (name := Str.ofString "__next__") at_.typeIs slot_listiter_next (wpAny_call_entry slot_listiter_next at_.typeIs entry_listiter_next ?_ (args_listiter_next _))))
  refine wpAny_bind (m := field (.ref it) 0) (wpAny_field h1 h3 (x := .ref l) rfl ?_)
  show wpAny _ _ (if (Value.ref l == Value.none) = true then _ else _) _ _ s
  have nn : (Value.ref l == Value.none) = false := rfl
  rw [nn, if_neg Bool.false_ne_true]
  refine wpAny_bind (m := field (.ref it) 1) (wpAny_field h1 h3 (x := .int i 0) rfl ?_)
  refine wpAny_bind (m := seqItems? (.ref l)) (wpAny_seqItems g1 g2 ?_)
  simp only [Int.toNat_natCast, out]
  refine wpAny_bind (wpAny_rule (wpAny_bind (wpAny_setField h1 h3 (by simp) ?_)))
  show wpAny _ _ (newExc (.type "StopIteration") [] >>= fun e => raiseNew e) _ _ _
  refine stop_hot ⟨hh, o1, us, (Heap.get?_update_other _ _ (Ne.symm ne)).trans at1, f1, n1⟩ fun a h' hcls keep => ?_
  obtain ⟨oa, e1, e2⟩ := hcls
  refine wpAny_bind (wpAny_isInstance (T := "StopIteration") (b := true) ⟨oa, e1, e2⟩ isSubtype_stop (wpAny_pure (k _ fun b ob nb e => keep b ob ?_)))
  rw [Heap.get?_update_other _ _ (Ne.symm nb)]
  exact e
theorem tupEnd_hot {it t : Addr} {i : Nat} {items : Array Value} {Q : Option Value → Shared → Prop} (hot : HotAt A x1 s.heap) (ne : x1 ≠ it) (at_ : IsTupIter s.heap it t i) (ist : IsTup s.heap t items) (out : items[i]? = none)
    (k : ∀ h', Heap.ExtBut it s.heap h' → Q none { s with heap := h' }) : wpAny (model prog w) A (pyNext (.ref it)) Q E s := by
  obtain ⟨o, h1, h2, h3⟩ := id at_
  obtain ⟨ot, g1, _, n, g2⟩ := ist
  obtain ⟨hh, o1, us, at1, f1, n1⟩ := hot
  unfold pyNext
  refine wpAny_bind (wpAny_attempt (wpAny_callSpecial?_slot (name := Str.ofString "__next__") at_.typeIs slot_tupleiter_next (wpAny_call_entry slot_tupleiter_next at_.typeIs entry_tupleiter_next ?_ (args_tupleiter_next _))))
  refine wpAny_bind (m := field (.ref it) 0) (wpAny_field h1 h3 (x := .ref t) rfl ?_)
  show wpAny _ _ (if (Value.ref t == Value.none) = true then _ else _) _ _ s
  have nn : (Value.ref t == Value.none) = false := rfl
  rw [nn, if_neg Bool.false_ne_true]
  refine wpAny_bind (m := field (.ref it) 1) (wpAny_field h1 h3 (x := .int i 0) rfl ?_)
  refine wpAny_bind (m := seqItems? (.ref t)) (wpAny_seqItems g1 g2 ?_)
  simp only [Int.toNat_natCast, out]
  refine wpAny_bind (wpAny_rule (wpAny_bind (wpAny_setField h1 h3 (by simp) ?_)))
  show wpAny _ _ (newExc (.type "StopIteration") [] >>= fun e => raiseNew e) _ _ _
  refine stop_hot ⟨hh, o1, us, (Heap.get?_update_other _ _ (Ne.symm ne)).trans at1, f1, n1⟩ fun a h' hcls keep => ?_
  obtain ⟨oa, e1, e2⟩ := hcls
  refine wpAny_bind (wpAny_isInstance (T := "StopIteration") (b := true) ⟨oa, e1, e2⟩ isSubtype_stop (wpAny_pure (k _ fun b ob nb e => keep b ob ?_)))
  rw [Heap.get?_update_other _ _ (Ne.symm nb)]
  exact e
/-- a tuple's items, as many as are asked -/
theorem items_hot {t : Addr} {items : Array Value} {Q : List Value → Shared → Prop} (hot : HotAt A x1 s.heap) (ist : IsTup s.heap t items)
    (k : ∀ h', (∀ b o, s.heap.get? b = some o → h'.get? b = some o) → Q items.toList { s with heap := h' }) : wpAny (model prog w) A (unpackItems (.ref t) items.size none) Q E s := by
  obtain ⟨hh, o1, us, at1, f1, n1⟩ := hot
  have lt : t < s.heap.objs.size := by obtain ⟨o, e, _⟩ := ist; exact Heap.lt_size e
  have lx : x1 < s.heap.objs.size := Heap.lt_size at1
  unfold unpackItems notIterableAtAll
  refine wpAny_bind (wpAny_bind (wpAny_specialOf ist.typeIs slot_tuple_iter.lookup (wpAny_pure ?_)))
  simp only [Bool.false_eq_true, if_false]
  refine wpAny_bind (wpAny_holding (iter_tuple ist ?_))
  refine wpAny_bind (wpAny_holding (draw_tuple (Nat.ne_of_lt lt) items.size 0 _ _ ⟨_, Heap.get?_push_size _ rfl, rfl, rfl⟩ (ist.push _) (by omega) fun h1 i1 s1 => ?_))
  rw [show List.take items.size (List.drop 0 items.toList) = items.toList from List.take_of_length_le (by simp), if_neg (by simp)]
  have at2 : h1.get? x1 = some o1 := s1.extBut x1 o1 (Nat.ne_of_lt lx) (Heap.get?_push_of_some _ at1)
  refine wpAny_bind (wpAny_holding (tupEnd_hot ⟨hh, o1, us, at2, f1, n1⟩ (Nat.ne_of_lt lx) i1 ((ist.push _).extBut s1.extBut (Nat.ne_of_lt lt)) (by simp) fun h2 e2 => ?_))
  simp only [Option.isSome_none, Bool.false_eq_true, if_false]
  exact wpAny_pure (k h2 fun b o e => e2 b o (Nat.ne_of_lt (Heap.lt_size e)) (s1.extBut b o (Nat.ne_of_lt (Heap.lt_size e)) (Heap.get?_push_of_some _ e)))
end
/-! the handled error's place in a body's context -/
def HotS (X : Cx) : Prop := ∃ p : Addr × Obj, L2H.Hot1 X.A p ∧ X.s_0.heap.get? p.1 = some p.2 ∧ X.H_0 p.1 = none ∧ p.1 ∉ X.fs ∧ p.1 ∉ X.ex
section
variable {X : Cx} {pins : List (Addr × Obj)} {σ : L2.St} {H : Hp} {s : Shared}
theorem HotS.at (c : HotS X) (I : Inv X pins σ H s) : ∃ x1, HotAt X.A x1 s.heap ∧ x1 ∉ X.ex := by
  obtain ⟨p, ⟨hh, us, f1, n1⟩, g1, g2, g3, g4⟩ := c
  exact ⟨p.1, ⟨hh, p.2, us, I.base.keep _ _ g1 g2 g3 g4, f1, n1⟩, g4⟩
/-- (a, b, ..) = a tuple of that length, there -/
theorem pg_tupH {es : List Expr} {k : Nat} {t : TGs} {n : Nat} {pos : Pos} (hc : HotS X) (h : PGs X es t)
    (hn : (assignEach es X.env).length = n := by rfl) (hst : (assignEach es X.env).findIdx? (·.1) = none := by rfl) : PG X (.Tuple es k pos) (gTup X.K n t) := by
  constructor
  intro pins s σ H v u Q I r hw
  obtain ⟨a, xs, rfl, hq, hl, hw⟩ := hw
  cases r
  obtain ⟨its, rv, ht, hz⟩ := I.tuple hq
  obtain ⟨x1, hot, _⟩ := hc.at I
  rw [assign_Tuple]
  refine wpAny_bind (wpAny_standAt ?_)
  unfold unpack
  have hsz : (assignEach es X.env).length = its.toArray.size := by rw [hn, ← hl, rv.length, List.size_toArray]
  rw [hsz, hst]
  refine wpAny_bind (wpAny_holding (items_hot hot ht fun h' keep => ?_))
  have I1 : Inv X pins σ H { s with heap := h' } := I.kept (t' := s.toks) fun b o e => keep b o e
  exact h.run pins _ σ H xs _ Q I1 (by simpa using rv) hw
end
/-- [e for .. in x if ..], x a list; what is asked leaves the heap as it is: acc i the new list behind i turns -/
def tLcP (K : PySem.W.Frag) (tl : TE) (g : TG) (tt : TT) (te : TE) (vs : List Nat) : TE := fun σ H Q => tl σ H fun x H1 => ∃ a xs, x = .ref a ∧ SqL K H1 a xs ∧ xs.length ≤ 1000000 ∧ ∀ D, H1 D = none → ∃ acc : Nat → List V, acc 0 = [] ∧
  (∀ i v, xs[i]? = some v → (acc i).length ≤ i → g v (L2.wipe σ vs) (upd H1 D (.lst (acc i))) fun σ2 H2 => L2.wipe σ2 vs = L2.wipe σ vs ∧ H2 = upd H1 D (.lst (acc i)) ∧ tt σ2 H2 fun b H3 => H3 = H2 ∧ if b = true then te σ2 H3 fun y H4 => H4 = H3 ∧ acc (i + 1) = acc i ++ [y] else acc (i + 1) = acc i) ∧
  Q (.ref D) (upd H1 D (.lst (acc xs.length)))
section
variable {X : Cx}
/-- name = [..] there -/
theorem ps_setLcH {i : Nat} {y : Str} {py : Pos} {elt tg l : Expr} {ifs : List Expr} {scope : Scope} {own : List (Str × Nat)} {pos spos : Pos} {tl : TE} {g : TG} {tt : TT} {te : TE} (hc : L2H.HotC X) (hN : X.N.Nodup) (hy : X.N[i]? = some y) (hyl : X.env.scope.names.lookup y = some .local)
    (hsw : swapsWith (.ListComp elt [⟨tg, l, ifs, 0⟩] scope pos) (some (.Name y py)) spos.line X.env = pure true) (hl : PE X l tl) (ok : BlkOk X.N X.env.scope scope own)
    (hg : ∀ (s : Shared) (H : Hp) (C : Addr) (cl : List (Str × Addr)) (fp : List Addr), HotS (X.blk s H scope (compEnvC scope cl C X.env) fp) → PG (X.blk s H scope (compEnvC scope cl C X.env) fp) tg g)
    (ht : ∀ (s : Shared) (H : Hp) (C : Addr) (cl : List (Str × Addr)) (fp : List Addr), PTs (X.blk s H scope (compEnvC scope cl C X.env) fp) ifs tt)
    (he : ∀ (s : Shared) (H : Hp) (C : Addr) (cl : List (Str × Addr)) (fp : List Addr), PE (X.blk s H scope (compEnvC scope cl C X.env) fp) elt te) (hs : ∀ x, foldedSetIterable l X.env x = pure x := by intro _; rfl) :
    PS X (.Assign [.Name y py] (.ListComp elt [⟨tg, l, ifs, 0⟩] scope pos) spos) (tAsg (tLcP X.K tl g tt te (own.map (·.2))) (gName i)) := by
  refine ⟨fun pins s σ H D0 I h => ?_⟩
  rw [exec_Assign_Name_used _ _ _ _ hsw]
  refine wpAny_bind (wpAny_standAt (wpAny_bind ?_))
  show wpAny _ X.A (do let _ ← comprehension (.ListComp elt [⟨tg, l, ifs, 0⟩] scope pos) scope X.env (firstIterPos [⟨tg, l, ifs, 0⟩] pos) (newList []) false (eval l X.env) (some (assign (.Name y py) X.env))) _ _ s
  refine wpAny_bind (thn (Q := fun _ s' => SP X pins D0 .next s') ?_ fun _ s' hq => wpAny_pure (wpAny_pure hq))
  have clo : ∀ z ∈ scope.names, z.2 = .free → ∃ c, X.env.cells.lookup z.1 = some c := fun z hz e => (ok.free z hz e).elim (fun k => I.ok.has _ (.inl k)) fun k => I.ok.has _ (.inr k)
  refine wpAny_comprehension_free (use := some (assign (.Name y py) X.env)) rfl hs (closure_ok clo) ok.kind (fun z hz e => by rw [ok.uniq z hz, e]) (thn (hl.run pins s σ H _ I h) fun xv s1 hx => ?_)
  obtain ⟨x, H1, I1, rx, a, xs, rfl, hq, hz, loop⟩ := hx
  cases rx
  obtain ⟨its, rv, pl, _⟩ := I1.list hq
  refine wpAny_pyIter_list pl.isList ?_
  -- the iterator
  generalize hit : s1.heap.objs.size = it
  generalize e2 : ({ s1 with heap := s1.heap.push { cls := .type "list_iterator", data := .fields #[.ref a, .int 0 0] } } : Shared) = s2
  have I2 : Inv X pins σ H1 s2 := by rw [← e2]; exact I1.kept (t' := s1.toks) fun b o e => Heap.get?_push_of_some _ e
  have st2 : s2.heap.IsListIter it a 0 := by rw [← e2, ← hit]; exact ⟨_, Heap.get?_push_size _ rfl, rfl, rfl⟩
  have F2 : FpOk X pins H1 it := I1.fpOk (Nat.le_of_eq hit) (I1.hok.fresh (Nat.le_of_eq hit))
  have lt2 : it < s2.heap.objs.size := by obtain ⟨o, e, _⟩ := st2; exact Heap.lt_size e
  refine wpAny_newObj_type (newEnv_comp ?_) (by show 0 ≤ sizeLine; decide)
  -- the new list
  generalize hD : s2.heap.objs.size = D
  have nD : H1 D = none := I2.hok.fresh (Nat.le_of_eq hD)
  have itD : it ≠ D := by rw [← hD]; exact Nat.ne_of_lt lt2
  obtain ⟨acc, a0, turn, fin⟩ := loop D nD
  generalize e3 : ({ s2 with heap := s2.heap.push { cls := .type "list", data := .seq ([] : List Value).toArray } } : Shared) = s3
  have I3 : Inv X pins σ (upd H1 D (.lst (acc 0))) s3 := by
    rw [a0, ← e3]
    refine I2.laid (t' := s2.toks) (fun b o e => Heap.get?_push_of_some _ e) (Nat.le_of_eq hD) ⟨Nat.zero_le _, [], 0, .nil, ?_⟩
    rw [← hD]
    exact Heap.get?_push_size _ rfl
  have st3 : s3.heap.IsListIter it a 0 := by
    obtain ⟨o, k1, k2, k3⟩ := st2
    rw [← e3]
    exact ⟨o, Heap.get?_push_of_some _ k1, k2, k3⟩
  have lt3 : it < s3.heap.objs.size := by obtain ⟨o, e, _⟩ := st3; exact Heap.lt_size e
  have F3 : FpOk X pins (upd H1 D (.lst (acc 0))) it := ⟨by rw [upd_ne itD]; exact F2.1, F2.2⟩
  -- the block
  have B := block_start I3 ok hN (fp := [it]) fun b hb => by rw [List.mem_singleton.mp hb]; exact ⟨F3, lt3⟩
  obtain ⟨p, hot, hp⟩ := id hc
  have Pp := I3.pin p (List.mem_append_left _ hp)
  have hS : HotS (X.blk s3 (upd H1 D (.lst (acc 0))) scope (compEnvC scope (cellsFrom (s3.heap.objs.size + 1) scope.names (cloFrom X.env.cells scope.names [])) s3.heap.objs.size X.env) [it]) :=
    ⟨p, hot, Pp.1, Pp.2.1, fun z => (List.mem_cons.mp (I3.stkSub p.1 z)).elim Pp.2.2.1 Pp.2.2.2.1, fun z => F3.2.2.2.2.2 p (List.mem_append_left _ hp) (List.mem_singleton.mp z)⟩
  have pg := hg s3 (upd H1 D (.lst (acc 0))) s3.heap.objs.size (cellsFrom (s3.heap.objs.size + 1) scope.names (cloFrom X.env.cells scope.names [])) [it] hS
  have pt := ht s3 (upd H1 D (.lst (acc 0))) s3.heap.objs.size (cellsFrom (s3.heap.objs.size + 1) scope.names (cloFrom X.env.cells scope.names [])) [it]
  have pe := he s3 (upd H1 D (.lst (acc 0))) s3.heap.objs.size (cellsFrom (s3.heap.objs.size + 1) scope.names (cloFrom X.env.cells scope.names [])) [it]
  show codeAny _ _ (.compStart (.ListComp elt [⟨tg, l, ifs, 0⟩] scope pos) 0 (.ref it) (.ref D) (compEnvC scope (cellsFrom (s3.heap.objs.size + 1) scope.names (cloFrom X.env.cells scope.names [])) s3.heap.objs.size X.env)) (compPost (model X.prog X.w) X.A X.xe (some (assign (.Name y py) X.env)) (fun _ s' => SP X pins D0 .next s') (.ref D) s3.heap.objs.size) { s3 with heap := pushCells (s3.heap.push { cls := .type "dict", data := .dict #[] }) scope.names }
  have cL : (compEnvC scope (cellsFrom (s3.heap.objs.size + 1) scope.names (cloFrom X.env.cells scope.names [])) s3.heap.objs.size X.env).locals = s3.heap.objs.size := rfl
  generalize compEnvC scope (cellsFrom (s3.heap.objs.size + 1) scope.names (cloFrom X.env.cells scope.names [])) s3.heap.objs.size X.env = ce at B pg pt pe hS cL ⊢
  generalize e4 : ({ s3 with heap := pushCells (s3.heap.push { cls := .type "dict", data := .dict #[] }) scope.names } : Shared) = s4 at B ⊢
  have st4 : s4.heap.IsListIter it a 0 := by
    obtain ⟨o, k1, k2, k3⟩ := st3
    rw [← e4]
    exact ⟨o, pushCells_keeps _ _ _ _ (Heap.get?_push_of_some _ k1), k2, k3⟩
  have mem : it ∈ (X.blk s3 (upd H1 D (.lst (acc 0))) scope ce [it]).ex := List.mem_cons_self ..
  have nit : ∀ zs, (upd H1 D (.lst zs)) it = none := fun zs => by rw [upd_ne itD]; exact F2.1
  have fpk : ∀ {σ' : L2.St} {zs : List V} {s' : Shared}, Inv (X.blk s3 (upd H1 D (.lst (acc 0))) scope ce [it]) [] σ' (upd H1 D (.lst zs)) s' → FpOk (X.blk s3 (upd H1 D (.lst (acc 0))) scope ce [it]) [] (upd H1 D (.lst zs)) it := fun {σ' zs s'} I' =>
    ⟨nit _, (I'.ok.exf it mem).1, I'.ok.exfs it mem, .inl mem, fun x c e => (I'.ok.exf it mem).2 x c e, fun p hp => absurd (show p ∈ ([] : List (Addr × Obj)) ++ [] from hp) (by simp)⟩
  have loop : codeAny (model X.prog X.w) X.A (.compLoop (.ListComp elt [⟨tg, l, ifs, 0⟩] scope pos) 0 (.ref it) (.ref D) ce) (compPost (model X.prog X.w) X.A X.xe (some (assign (.Name y py) X.env)) (fun _ s' => SP X pins D0 .next s') (.ref D) s3.heap.objs.size) s4 := by
    refine compLoop_any (fun m s' => ∃ i, m = xs.length - i ∧ i ≤ xs.length ∧ (acc i).length ≤ i ∧ Inv (X.blk s3 (upd H1 D (.lst (acc 0))) scope ce [it]) [] (L2.wipe σ (own.map (·.2))) (upd H1 D (.lst (acc i))) s' ∧ s'.heap.IsListIter it a i) ?_ xs.length ⟨0, by simp, Nat.zero_le _, by rw [a0]; exact Nat.le_refl _, B, st4⟩
    rintro m s5 ⟨j, rfl, hj, hlen, I5, st5⟩
    obtain ⟨its5, rv5, pl5, _⟩ := I5.list (L2.SqL.ext hq (L2.Ext.upd nD))
    obtain ⟨f0, f1, f2, f3, f4, f5⟩ := fpk I5
    by_cases hlt : j < xs.length
    · have hx : xs[j]? = some xs[j] := List.getElem?_eq_getElem hlt
      obtain ⟨u, hu, ru⟩ := rv5.get hx
      refine wpAny_pyNext_list_item st5 pl5.isList (x := u) (by simpa using hu) fun h6 st6 sb => ?_
      have I6 : Inv (X.blk s3 (upd H1 D (.lst (acc 0))) scope ce [it]) [] (L2.wipe σ (own.map (·.2))) (upd H1 D (.lst (acc j))) { s5 with heap := h6 } := I5.turned (t' := s5.toks) (fun b o hb e => (sb.2 b hb).trans e) f0 f1 f3 f4 f5
      obtain ⟨o6, k1, k2, k3⟩ := id st6
      refine go_of (s := { s5 with heap := h6 }) k1 k2 k3 (by decide) ?_
      have I6' := I6.pinned (fp := [it]) (fun b hb => by rw [List.mem_singleton.mp hb]; exact fpk I6) (fun b hb => by rw [List.mem_singleton.mp hb]; exact ⟨o6, k1, fun v z => by rw [k3] at z; cases z⟩)
      refine thnF (pg.run _ _ _ _ xs[j] u _ I6' ru (turn j xs[j] hx hlen)) fun _ s8 ⟨σ8, H8, I8, hw8, e8, q8⟩ => ?_
      subst e8
      refine thnF (pt.run _ s8 σ8 _ _ I8 q8) fun b s9 ⟨H9, I9, e9, q9⟩ => ?_
      subst e9
      have done : ∀ {s' : Shared} {zs : List V}, Inv (X.blk s3 (upd H1 D (.lst (acc 0))) scope ce [it]) ([] ++ pinsAt [it] h6) σ8 (upd H1 D (.lst zs)) s' → acc (j + 1) = zs → zs.length ≤ j + 1 →
          ∃ m, m < xs.length - j ∧ ∃ i, m = xs.length - i ∧ i ≤ xs.length ∧ (acc i).length ≤ i ∧ Inv (X.blk s3 (upd H1 D (.lst (acc 0))) scope ce [it]) [] (L2.wipe σ (own.map (·.2))) (upd H1 D (.lst (acc i))) s' ∧ s'.heap.IsListIter it a i := fun {s' zs} I' e lz => by
        have pin := I'.pin (it, o6) (List.mem_append_right _ (List.mem_append_right _ (mem_pinsAt (List.mem_singleton.mpr rfl) k1)))
        refine ⟨xs.length - (j + 1), by omega, j + 1, rfl, hlt, by rw [e]; exact lz, ?_, ⟨o6, pin.1, k2, k3⟩⟩
        rw [e]
        refine (I'.unpinned (pins := [])).weak (by rw [← hw8, wipe_length]) fun k v z => ?_
        rw [← hw8] at z
        exact (wipe_some z).1
      cases b with
      | false =>
        simp only [Bool.false_eq_true, if_false] at q9 ⊢
        exact done I9 q9 (Nat.le_succ_of_le hlen)
      | true =>
        simp only [if_true] at q9 ⊢
        refine thnF (pe.run _ s9 σ8 _ _ I9 q9) fun z s10 ⟨yv, H10, I10, r10, e10, ea⟩ => ?_
        subst e10
        have big : (acc j).length < sizeLine := by
          have : (1000000 : Nat) < sizeLine := by decide
          omega
        refine app_ok (X := X.blk s3 (upd H1 D (.lst (acc 0))) scope ce [it]) (xs := acc j) I10 upd_same big r10 fun s11 I11 => ?_
        rw [upd_upd] at I11
        exact done I11 ea (by rw [List.length_append]; exact Nat.succ_le_succ hlen)
    · obtain rfl : j = xs.length := by omega
      obtain ⟨x1, hot1, hx1⟩ := hS.at I5
      refine listEnd_hot hot1 (fun z => hx1 (by rw [z]; exact mem)) st5 pl5.isList (by have := rv5.length; simp; omega) fun h6 eb => ?_
      have I6 : Inv (X.blk s3 (upd H1 D (.lst (acc 0))) scope ce [it]) [] (L2.wipe σ (own.map (·.2))) (upd H1 D (.lst (acc xs.length))) { s5 with heap := h6 } := I5.turned (t' := s5.toks) (fun b o hb e => eb b o hb e) f0 f1 f3 f4 f5
      have I7 : Inv X pins σ (upd H1 D (.lst (acc xs.length))) { s5 with heap := h6 } := I3.call' (ch := [it]) I6.os I6.base I6.hok I6.bare fun b hb => by
        rw [List.mem_singleton.mp hb]
        exact ⟨F3.2.2.2.1, F3.2.1, F3.2.2.2.2.1, F3.2.2.2.2.2⟩
      obtain ⟨mm, hn, _⟩ := I6.loc
      have hn : h6.Ns ce.locals mm := hn
      rw [cL] at hn
      have nC : (upd H1 D (.lst (acc xs.length))) s3.heap.objs.size = none := by
        have z : (upd H1 D (.lst (acc xs.length))) ce.locals = none := I6.free
        rw [cL] at z
        exact z
      obtain ⟨c0, c1, c2, c3, c4, c5⟩ := I3.fpOk (Nat.le_refl _) nC
      show wpAny _ _ (assign (.Name y py) X.env (.ref D)) _ _ _
      refine wpAny_assign_Name (store_ok2 (v := V.ref D) I7 hN hy (.inl hyl) rfl (fun s8 I8 ⟨b, sb, hb⟩ => ?_) (.inr hyl))
      have ne : s3.heap.objs.size ≠ b := by
        rcases hb with z | z
        · rw [z]; exact c1
        · exact fun e => c4 y b z e.symm
      exact ⟨mm, hn.sameBut sb ne, fun h9 sb9 => ⟨_, _, I8.turned (t' := s8.toks) (fun b o hb e => (sb9.2 b hb).trans e) c0 c1 c3 c4 c5, fin⟩⟩
  exact codeAny_compStart_list loop (wpAny_pyIter_listiter st4 loop)
end

end
section
/-! Defs that are called by another name than their own. -/
/-- a def that calls itself n, known as x -/
def DfN (K : PySem.W.Frag) (mg : Str → Option Value) (x n : Str) (st : Stmt) (ps : List Str) : Prop := ∃ f fd, Fun K n n st f fd ∧ mg x = some (.ref f) ∧ BA fd ps
section
variable {P : Program} {w : World} {K : PySem.W.Frag} {mg : Str → Option Value} {base : Heap} {x n : Str} {st : Stmt} {N ps : List Str} {k : Nat}
theorem gdN_of {c : Ctr} (m : c.Mono) (F : DfN K mg x n st ps) (S : FnScope N ps (defScope st)) (len : ∀ as R E, c as R E → as.length = ps.length) (t : TS)
    (body : ∀ (f : Addr) (cdv : Value) (A : Around) (outer : List Env) (s : Shared) (H : Hp) (E : XK), Room k (A.deeper (PyProof.Rows.envOfC n (defScope st) s.heap.objs.size f cdv)) → PSs (cxOf CX0 P w K mg base N n (defScope st) f cdv A outer s H E).nox (defBody st) t)
    (hs : ∀ (C : Cc K) as R Er, c as R Er → Sj C t (as ++ List.replicate (N.length - as.length) .no) (fin as R)) : Gd P w K mg base x ps (k + 1) c := by
  obtain ⟨f, fd, F1, at_, ba⟩ := F
  obtain ⟨oc, od, kV, doc, pm, an, cdv, ct, osl, _, lk, _⟩ := id F1.ex
  exact ⟨f, fd, at_, F1.kp, ba, fn_dl m F1 S len fun cdv A outer s H E room => ⟨t, body f cdv A outer s H E room, hs⟩, oc, od, osl, lk⟩
theorem gdN_ct {α : Type} {emb : α → List Dt} {pre : α → Prop} {res : α → Dt} (F : DfN K mg x n st ps) (S : FnScope N ps (defScope st)) (len : ∀ a, (emb a).length = ps.length) (t : TS)
    (body : ∀ (f : Addr) (cdv : Value) (A : Around) (outer : List Env) (s : Shared) (H : Hp) (E : XK), Room k (A.deeper (PyProof.Rows.envOfC n (defScope st) s.heap.objs.size f cdv)) → PSs (cxOf CX0 P w K mg base N n (defScope st) f cdv A outer s H E).nox (defBody st) t)
    (hs : ∀ (C : Cc K) a, pre a → Sj C t ((emb a).map Sl.d ++ List.replicate (N.length - ps.length) .no) (finT (res a))) : Gd P w K mg base x ps (k + 1) (CT emb pre res) := gdN_of CT.mono F S (CT.len len) t body (ct_fin len hs)
end
/-- .. in the written part -/
def DefInN (K : PySem.W.Frag) (x n : Str) (st : Stmt) : Prop := ∃ (f : Addr) (oc : Value) (od an : Option Addr) (kV doc pm cdv ct : Value) (osl : Array (Option Value)),
  PySem.W.nsIn K mainGlobals x = some (some (.ref f)) ∧ K.lookup f = some ⟨oc, od, .func (PySem.W.fnOf n n (defArgs st) (defBody st) (defScope st) .none kV doc pm an cdv ct), osl⟩ ∧ PySem.W.codeIn K cdv n = true ∧ PySem.W.keepIn K (.ref f) = true
theorem def_mkN {K : PySem.W.Frag} {x n : Str} {st : Stmt} {f : Addr} {oc : Value} {od an : Option Addr} {kV doc pm cdv ct : Value} {osl : Array (Option Value)}
    (a : PySem.W.nsIn K mainGlobals x = some (some (.ref f))) (l : K.lookup f = some ⟨oc, od, .func (PySem.W.fnOf n n (defArgs st) (defBody st) (defScope st) .none kV doc pm an cdv ct), osl⟩) (c : PySem.W.codeIn K cdv n = true) (k : PySem.W.keepIn K (.ref f) = true) : DefInN K x n st :=
  ⟨f, oc, od, an, kV, doc, pm, cdv, ct, osl, a, l, c, k⟩
theorem df_ofN {K : PySem.W.Frag} {h : Heap} {mg : Str → Option Value} {x n : Str} {st : Stmt} {ps : List Str} (X : K.In h) (G : h.Ns mainGlobals mg) (D : DefInN K x n st) (p : Prm n st ps) : DfN K mg x n st ps := by
  obtain ⟨f, oc, od, an, kV, doc, pm, cdv, ct, osl, a, l, c, k⟩ := D
  exact ⟨f, _, fun_mk (st := st) l c k, PySem.W.mg_of X G a, p kV doc pm an cdv ct⟩

end
section
/-! A loop over a field's list while the other fields change. -/
section
variable {K : PySem.W.Frag} {C : Cc K} {ρ : List Sl} {P : En} {ts : TS} {i0 : Nat} {q0 : Bool} {Cl a0 : Addr} {us0 : List (Str × V)} {fs0 : List (Str × Fl)}
theorem sj_forFld {g : TG} {f : Str} {ds : List Dt} (hi0 : ρ[i0]? = some (.w q0 (iwA Cl a0 us0 fs0))) (ok : FldOk K Cl f) (ef : fs0.lookup f = some (.l ds)) (h : ∃ Iv : Nat → List Sl → Prop,
    (∀ i ρ', Iv i ρ' → ∃ q fs, ρ'[i0]? = some (.w q (iwA Cl a0 us0 fs)) ∧ fs.lookup f = some (.l ds)) ∧ Iv 0 ρ ∧
    (∀ i ρ' d, ds[i]? = some d → Iv i ρ' → GgD C g d ρ' fun ρ2 => Sj C ts ρ2 { P with nx := Iv (i + 1), ct := Iv (i + 1), bk := P.nx }) ∧ ∀ ρ', Iv ds.length ρ' → P.nx ρ') : Sj C (tFor (iSeq K (tFld K (tVar i0) f)) g ts) ρ P := fun G1 H1 σ fp1 O1 D E => by
  obtain ⟨Iv, ih, iz, is, ie⟩ := h
  obtain ⟨p0, ys0, l0, hp0, _⟩ := fldL O1 hi0 ef
  have look : ∀ {G' H' : Hp} {σ' : L2.St} {ρ' : List Sl} {fp' : Nat → List Addr} {i : Nat}, Ok C G' H' σ' ρ' fp' → Iv i ρ' → ∃ ys, H' p0 = some (.lst ys) ∧ Dvs K G' ys ds := fun {G' H' σ' ρ' fp' i} O' iv => by
    obtain ⟨q1, fs1, h1, e1⟩ := ih _ _ iv
    obtain ⟨p1, ys1, l1, hp1, d1⟩ := fldL O' h1 e1
    rw [l0] at l1
    cases l1
    exact ⟨ys1, hp1, d1⟩
  unfold tFor iSeq
  refine fld_run O1 hi0 ok l0 ?_
  refine ⟨p0, rfl, .inl ⟨⟨ys0, .inl (.inl hp0)⟩, ?_⟩⟩
  refine ⟨fun i m σ' H' => m = ds.length - i ∧ i ≤ ds.length ∧ ∃ G' ρ' fp', Same G1 G' ∧ Ok C G' H' σ' ρ' fp' ∧ Iv i ρ', ⟨ds.length, by simp, Nat.zero_le _, G1, ρ, fp1, Same.refl G1, O1, iz⟩, ?_⟩
  rintro i m σ' H' ⟨rfl, hi, G', ρ', fp', e', O', iv⟩
  obtain ⟨ys, hys, dys⟩ := look O' iv
  by_cases hlt : i < ds.length
  · have hly : i < ys.length := by rw [dys.len]; exact hlt
    refine .inr ⟨⟨ys, ys[i], .inl (.inl hys), by simp [hly]⟩, fun σ2 H2 => ∃ G2 ρ2 fp2, Same G1 G2 ∧ Ok C G2 H2 σ2 ρ2 fp2 ∧ Iv (i + 1) ρ2, fun σ2 H2 z => ⟨ds.length - (i + 1), by omega, rfl, hlt, z⟩, fun x H2 y => ?_⟩
    obtain ⟨y0, y1⟩ := y
    have y2 := y0.symm
    subst y2
    obtain ⟨d, hd, D2⟩ := dys.getV (y1 ys (.inl (.inl hys)))
    refine is i ρ' d hd iv G' H' σ' fp' x O' D2 _ fun G3 H3 σ3 ρ3 fp3 e3 O3 s3 => ?_
    refine s3 G3 H3 σ3 fp3 O3 _ ⟨?_, ?_, ?_, ?_⟩
    · intro G4 H4 σ4 ρ4 fp4 e4 O4 n4
      exact ⟨G4, ρ4, fp4, (e'.trans e3).trans e4, O4, n4⟩
    · intro G4 H4 σ4 ρ4 fp4 e4 O4 n4
      exact E.nx G4 H4 σ4 ρ4 fp4 ((e'.trans e3).trans e4) O4 n4
    · intro G4 H4 σ4 ρ4 fp4 e4 O4 n4
      exact ⟨G4, ρ4, fp4, (e'.trans e3).trans e4, O4, n4⟩
    · intro v G4 H4 σ4 ρ4 fp4 fv s e4 O4 n4
      exact E.rt v G4 H4 σ4 ρ4 fp4 fv s ((e'.trans e3).trans e4) O4 n4
  · have e : i = ds.length := by omega
    subst e
    exact .inl ⟨⟨ys, .inl (.inl hys), by rw [dys.len]; exact Nat.le_refl _⟩, E.nx G' H' σ' ρ' fp' e' O' (ie ρ' iv)⟩
end

end
section
/-! Calls that are handed several owned things; contracts of that kind. -/
/-- at which place of the arguments the thing at slot i is handed -/
def posO : List Ar → Nat → Option Nat
  | [], _ => none
  | .d _ :: as, i => (posO as i).map (· + 1)
  | .o j :: as, i => if i = j then some 0 else (posO as i).map (· + 1)
def idxO : List Ar → List Nat
  | [] => []
  | .d _ :: as => idxO as
  | .o j :: as => j :: idxO as
def ArgsOk (q : Bool) (ρ : List Sl) : List Ar → List Sl → Prop
  | [], [] => True
  | .d d :: as, .d e :: ss => d = e ∧ ArgsOk q ρ as ss
  | .o i :: as, .w true W :: ss => ρ[i]? = some (.w q W) ∧ ArgsOk q ρ as ss
  | _, _ => False
def shO : List Ar → List Sl → Bool
  | [], [] => true
  | .d _ :: as, _ :: ss => shO as ss
  | .o _ :: as, .w true _ :: ss => shO as ss
  | _, _ => false
def putO (q : Bool) : List Ar → List Sl → List Sl → List Sl
  | .o i :: as, .w _ W :: ss, ρ => putO q as ss (ρ.set i (.w q W))
  | _ :: as, _ :: ss, ρ => putO q as ss ρ
  | _, _, ρ => ρ
theorem posO_some : ∀ {as : List Ar} {i k : Nat}, posO as i = some k → as[k]? = some (.o i)
  | [], _, _, h => nomatch h
  | .d _ :: as, i, k, h => by
    obtain ⟨l, h1, rfl⟩ := Option.map_eq_some_iff.mp h
    exact posO_some (as := as) (k := l) h1
  | .o j :: as, i, k, h => by
    unfold posO at h
    by_cases e : i = j
    · rw [if_pos e] at h
      cases h
      rw [e]
      rfl
    · rw [if_neg e] at h
      obtain ⟨l, h1, rfl⟩ := Option.map_eq_some_iff.mp h
      exact posO_some (as := as) (k := l) h1
theorem idxO_mem : ∀ {as : List Ar} {i k : Nat}, as[k]? = some (.o i) → i ∈ idxO as
  | [], _, _, h => nomatch h
  | .d _ :: as, i, 0, h => by cases h
  | .d _ :: as, i, k + 1, h => idxO_mem (as := as) (k := k) h
  | .o j :: as, i, 0, h => by
    cases h
    exact List.mem_cons_self ..
  | .o j :: as, i, k + 1, h => List.mem_cons_of_mem _ (idxO_mem (as := as) (k := k) h)
theorem posO_of : ∀ {as : List Ar} {i k : Nat}, (idxO as).Nodup → as[k]? = some (.o i) → posO as i = some k
  | [], _, _, _, h => nomatch h
  | .d _ :: as, i, 0, _, h => by cases h
  | .d _ :: as, i, k + 1, n, h => by
    show (posO as i).map (· + 1) = _
    rw [posO_of (as := as) (k := k) n h]
    rfl
  | .o j :: as, i, 0, _, h => by
    cases h
    unfold posO
    rw [if_pos rfl]
  | .o j :: as, i, k + 1, n, h => by
    have n' := List.nodup_cons.mp n
    have hm : i ∈ idxO as := idxO_mem (as := as) (k := k) h
    unfold posO
    rw [if_neg (fun e : i = j => n'.1 (e ▸ hm)), posO_of (as := as) (k := k) n'.2 h]
    rfl
theorem ArgsOk.len {q : Bool} {ρ : List Sl} : ∀ {as : List Ar} {ss : List Sl}, ArgsOk q ρ as ss → as.length = ss.length
  | [], [], _ => rfl
  | .d d :: as, .d e :: ss, h => congrArg (· + 1) (ArgsOk.len h.2)
  | .o i :: as, .w true W :: ss, h => congrArg (· + 1) (ArgsOk.len h.2)
  | [], _ :: _, h => h.elim
  | .d _ :: _, [], h => h.elim
  | .d _ :: _, .no :: _, h => h.elim
  | .d _ :: _, .w _ _ :: _, h => h.elim
  | .o _ :: _, [], h => h.elim
  | .o _ :: _, .no :: _, h => h.elim
  | .o _ :: _, .d _ :: _, h => h.elim
  | .o _ :: _, .w false _ :: _, h => h.elim
theorem ArgsOk.at {q : Bool} {ρ : List Sl} : ∀ {as : List Ar} {ss : List Sl} {k : Nat} {s : Sl}, ArgsOk q ρ as ss → ss[k]? = some s → (∃ d, s = .d d ∧ as[k]? = some (.d d)) ∨ ∃ i W, s = .w true W ∧ as[k]? = some (.o i) ∧ ρ[i]? = some (.w q W)
  | [], [], _, _, _, h => nomatch h
  | .d d :: as, .d e :: ss, 0, s, h, g => by
    cases g
    exact .inl ⟨_, rfl, by rw [h.1]; rfl⟩
  | .d d :: as, .d e :: ss, k + 1, s, h, g => ArgsOk.at (as := as) (ss := ss) (k := k) h.2 g
  | .o i :: as, .w true W :: ss, 0, s, h, g => by
    cases g
    exact .inr ⟨_, _, rfl, rfl, h.1⟩
  | .o i :: as, .w true W :: ss, k + 1, s, h, g => ArgsOk.at (as := as) (ss := ss) (k := k) h.2 g
  | [], _ :: _, _, _, h, _ => h.elim
  | .d _ :: _, [], _, _, h, _ => h.elim
  | .d _ :: _, .no :: _, _, _, h, _ => h.elim
  | .d _ :: _, .w _ _ :: _, _, _, h, _ => h.elim
  | .o _ :: _, [], _, _, h, _ => h.elim
  | .o _ :: _, .no :: _, _, _, h, _ => h.elim
  | .o _ :: _, .d _ :: _, _, _, h, _ => h.elim
  | .o _ :: _, .w false _ :: _, _, _, h, _ => h.elim
theorem ArgsOk.own {q : Bool} {ρ : List Sl} {as : List Ar} {ss : List Sl} {k i : Nat} (h : ArgsOk q ρ as ss) (e : as[k]? = some (.o i)) : ∃ W, ss[k]? = some (.w true W) ∧ ρ[i]? = some (.w q W) := by
  have hk : k < as.length := (List.getElem?_eq_some_iff.mp e).1
  rw [h.len] at hk
  obtain ⟨s, hs⟩ : ∃ s, ss[k]? = some s := ⟨_, List.getElem?_eq_getElem hk⟩
  rcases h.at hs with ⟨d, _, g⟩ | ⟨j, W, rfl, g, r⟩
  · rw [e] at g; cases g
  · rw [e] at g
    cases g
    exact ⟨W, hs, r⟩
theorem ArOk.len {K : PySem.W.Frag} {G : Hp} {σ : St} : ∀ {vs : List V} {as : List Ar}, ArOk K G σ vs as → vs.length = as.length
  | [], [], _ => rfl
  | v :: vs, .d d :: as, h => congrArg (· + 1) (ArOk.len h.2)
  | v :: vs, .o i :: as, h => congrArg (· + 1) (ArOk.len h.2)
  | [], _ :: _, h => h.elim
  | _ :: _, [], h => h.elim
theorem ArOk.at {K : PySem.W.Frag} {G : Hp} {σ : St} : ∀ {vs : List V} {as : List Ar} {k : Nat} {a : Ar}, ArOk K G σ vs as → as[k]? = some a → ∃ v, vs[k]? = some v ∧ match a with
    | .d d => Dv K G v d
    | .o i => σ[i]? = some (some v)
  | [], [], _, _, _, h => nomatch h
  | v :: vs, .d d :: as, 0, a, h, g => by
    cases g
    exact ⟨v, rfl, h.1⟩
  | v :: vs, .o i :: as, 0, a, h, g => by
    cases g
    exact ⟨v, rfl, h.1⟩
  | v :: vs, .d d :: as, k + 1, a, h, g => ArOk.at (vs := vs) (as := as) (k := k) h.2 g
  | v :: vs, .o i :: as, k + 1, a, h, g => ArOk.at (vs := vs) (as := as) (k := k) h.2 g
  | [], _ :: _, _, _, h, _ => h.elim
  | _ :: _, [], _, _, h, _ => h.elim
theorem shO_at : ∀ {as : List Ar} {ss : List Sl} {k i : Nat}, shO as ss = true → as[k]? = some (.o i) → ∃ W, ss[k]? = some (.w true W)
  | [], [], _, _, _, h => nomatch h
  | .d d :: as, s :: ss, 0, i, h, g => by cases g
  | .d d :: as, s :: ss, k + 1, i, h, g => shO_at (as := as) (ss := ss) (k := k) h g
  | .o j :: as, .w true W :: ss, 0, i, h, g => ⟨W, rfl⟩
  | .o j :: as, .w true W :: ss, k + 1, i, h, g => shO_at (as := as) (ss := ss) (k := k) h g
  | [], _ :: _, _, _, h, _ => nomatch h
  | .d _ :: _, [], _, _, h, _ => nomatch h
  | .o _ :: _, [], _, _, h, _ => nomatch h
  | .o _ :: _, .no :: _, _, _, h, _ => nomatch h
  | .o _ :: _, .d _ :: _, _, _, h, _ => nomatch h
  | .o _ :: _, .w false _ :: _, _, _, h, _ => nomatch h
theorem putO_len {q : Bool} : ∀ {as : List Ar} {ss ρ : List Sl}, (putO q as ss ρ).length = ρ.length
  | [], _, _ => rfl
  | .d _ :: as, [], _ => rfl
  | .o _ :: as, [], _ => rfl
  | .d _ :: as, _ :: ss, ρ => putO_len (as := as) (ss := ss)
  | .o i :: as, .w _ W :: ss, ρ => by
    show (putO q as ss (ρ.set i (.w q W))).length = _
    rw [putO_len, List.length_set]
  | .o i :: as, .no :: ss, ρ => putO_len (as := as) (ss := ss)
  | .o i :: as, .d _ :: ss, ρ => putO_len (as := as) (ss := ss)
theorem putO_out {q : Bool} : ∀ {as : List Ar} {ss ρ : List Sl} {i : Nat}, i ∉ idxO as → (putO q as ss ρ)[i]? = ρ[i]?
  | [], _, _, _, _ => rfl
  | .d _ :: as, [], _, _, _ => rfl
  | .o _ :: as, [], _, _, _ => rfl
  | .d _ :: as, _ :: ss, ρ, i, h => putO_out (as := as) (ss := ss) h
  | .o j :: as, .w _ W :: ss, ρ, i, h => by
    show (putO q as ss (ρ.set j (.w q W)))[i]? = _
    rw [putO_out (fun z => h (List.mem_cons_of_mem _ z)), List.getElem?_set_ne (fun e : j = i => h (e ▸ List.mem_cons_self ..))]
  | .o j :: as, .no :: ss, ρ, i, h => putO_out (as := as) (ss := ss) (fun z => h (List.mem_cons_of_mem _ z))
  | .o j :: as, .d _ :: ss, ρ, i, h => putO_out (as := as) (ss := ss) (fun z => h (List.mem_cons_of_mem _ z))
theorem putO_in {q : Bool} : ∀ {as : List Ar} {ss ρ : List Sl} {i k : Nat} {W : Wd}, (idxO as).Nodup → shO as ss = true → as[k]? = some (.o i) → ss[k]? = some (.w true W) → i < ρ.length → (putO q as ss ρ)[i]? = some (.w q W)
  | [], _, _, _, _, _, _, _, h, _, _ => nomatch h
  | .d d :: as, s :: ss, ρ, i, 0, W, _, _, h, _, _ => by cases h
  | .d d :: as, s :: ss, ρ, i, k + 1, W, n, sh, h, g, l => putO_in (as := as) (ss := ss) (k := k) n sh h g l
  | .o j :: as, .w true W' :: ss, ρ, i, 0, W, n, sh, h, g, l => by
    have e1 : j = i := by cases h; rfl
    have e2 : W' = W := by cases g; rfl
    subst e1
    subst e2
    show (putO q as ss (ρ.set j (.w q W')))[j]? = _
    rw [putO_out (List.nodup_cons.mp n).1, List.getElem?_set_self l]
  | .o j :: as, .w true W' :: ss, ρ, i, k + 1, W, n, sh, h, g, l => by
    show (putO q as ss (ρ.set j (.w q W')))[i]? = _
    exact putO_in (as := as) (ss := ss) (k := k) (List.nodup_cons.mp n).2 sh h g (by rw [List.length_set]; exact l)
  | .d _ :: _, [], _, _, _, _, _, h, _, _, _ => nomatch h
  | .o _ :: _, [], _, _, _, _, _, h, _, _, _ => nomatch h
  | .o _ :: _, .no :: _, _, _, _, _, _, h, _, _, _ => nomatch h
  | .o _ :: _, .d _ :: _, _, _, _, _, _, h, _, _, _ => nomatch h
  | .o _ :: _, .w false _ :: _, _, _, _, _, _, h, _, _, _ => nomatch h
def fpO (as : List Ar) (fp fp' : Nat → List Addr) : Nat → List Addr := fun i => match posO as i with
  | some k => fp' k
  | none => fp i
def fpA (as : List Ar) (fp : Nat → List Addr) : Nat → List Addr := fun k => match as[k]? with
  | some (.o i) => fp i
  | _ => []
section
variable {K : PySem.W.Frag} {C : Cc K} {ρ : List Sl}
theorem ev_callG {R : Sl → List Sl → Prop} {c : Ctr} {E : XK} {Er : Addr → List Sl → Prop} {t : TA} (m : c.Mono) (hx : XOk C E Er) (h : EvB C t ρ fun as ρ1 => ∃ (ss : List Sl) (q : Bool), ArgsOk q ρ1 as ss ∧ (idxO as).Nodup ∧
    c ss (fun s as' => notTrue s = true ∧ shO as as' = true ∧ R s (putO q as as' ρ1)) (fun Cl as' => shO as as' = true ∧ Er Cl (putO q as as' ρ1))) : Ev C (tCall (c.sp K) [] E t) ρ R := fun G H σ fp O Q q =>
  h G H σ fp O _ fun vs G1 H1 as ρ1 fp1 e1 O1 A1 h1 => by
    obtain ⟨ss, qq, ha, hn, h1⟩ := h1
    show Ctr.sp K c (vs ++ []) H1 Q E
    rw [List.append_nil]
    have lv := A1.len
    have la := ha.len
    let bs := (List.range as.length).flatMap (fpA as fp1)
    have mem_bs : ∀ {a}, a ∈ bs → ∃ k i : Nat, as[k]? = some (Ar.o i) ∧ a ∈ fp1 i := fun {a} z => by
      obtain ⟨k, _, hk⟩ := List.mem_flatMap.mp z
      unfold fpA at hk
      cases e : as[k]? with
      | none => rw [e] at hk; cases hk
      | some x =>
        rw [e] at hk
        cases x with
        | d d => cases hk
        | o i => exact ⟨k, i, e, hk⟩
    have bs_mem : ∀ {a} {k i : Nat}, as[k]? = some (Ar.o i) → a ∈ fp1 i → a ∈ bs := fun {a k i} e z => by
      refine List.mem_flatMap.mpr ⟨k, List.mem_range.mpr (List.getElem?_eq_some_iff.mp e).1, ?_⟩
      unfold fpA
      rw [e]
      exact z
    have hOk : Ok (⟨bs, [], vs, G1, H1⟩ : Cc K) G1 H1 (vs.map some) ss (fpA as fp1) := {
      e0 := Same.refl G1
      e1 := O1.e1
      nw := fun a o h => .inl h
      fr := fun a o _ h => h
      dm := fun a h => h
      len := by rw [List.length_map, lv, la]
      sl := fun k s hs => by
        rcases ha.at hs with ⟨d, rfl, g⟩ | ⟨i, W, rfl, g, r⟩
        · obtain ⟨v, z1, z2⟩ := A1.at g
          exact ⟨v, by rw [List.getElem?_map, z1]; rfl, z2⟩
        · obtain ⟨v, z1, z2⟩ := A1.at g
          obtain ⟨v', y1, y2, _⟩ := O1.sl i _ r
          have ev : v' = v := by
            have z2' : σ[i]? = some (some v) := z2
            rw [z2'] at y1
            cases y1
            rfl
          subst ev
          refine ⟨v', by rw [List.getElem?_map, z1]; rfl, ?_, fun _ => z1, fun z => by cases z⟩
          unfold fpA
          rw [g]
          exact y2
      em := fun k hk => by
        unfold fpA
        cases e : as[k]? with
        | none => rfl
        | some x =>
          cases x with
          | d d => rfl
          | o i =>
            obtain ⟨W, g, _⟩ := ha.own e
            exact absurd g (hk true W)
      dj := fun k l a h1 h2 => by
        unfold fpA at h1 h2
        cases e : as[k]? with
        | none => rw [e] at h1; cases h1
        | some x =>
          rw [e] at h1
          cases x with
          | d d => cases h1
          | o i =>
            cases e' : as[l]? with
            | none => rw [e'] at h2; cases h2
            | some y =>
              rw [e'] at h2
              cases y with
              | d d => cases h2
              | o j =>
                have ij : i = j := O1.dj i j a h1 h2
                subst ij
                have z1 := posO_of hn e
                rw [posO_of hn e'] at z1
                cases z1
                rfl
      fo := fun k a h => by
        unfold fpA at h
        cases e : as[k]? with
        | none => rw [e] at h; cases h
        | some x =>
          rw [e] at h
          cases x with
          | d d => cases h
          | o i =>
            obtain ⟨y1, y2, _⟩ := O1.fo i a h
            exact ⟨y1, y2, .inr (bs_mem e h)⟩ }
    have back : ∀ {G' H' : Hp} {as' : List Sl} {fp' : Nat → List Addr}, Ok (⟨bs, [], vs, G1, H1⟩ : Cc K) G' H' (vs.map some) as' fp' → shO as as' = true → Ok C G' H' σ (putO qq as as' ρ1) (fpO as fp1 fp') := fun {G' H' as' fp'} O' sh => by
      have cell : ∀ {k a}, a ∈ fp' k → C.H0 a = none ∨ a ∈ C.bs := fun {k a} z => by
        rcases (O'.fo k a z).2.2 with y | y
        · exact .inl (O1.dm a y)
        · obtain ⟨k', i', _, g⟩ := mem_bs y
          exact (O1.fo i' a g).2.2
      have apart : ∀ {k i : Nat} {a}, as[k]? = some (Ar.o i) → a ∈ fp' k → ∀ j, posO as j = none → a ∉ fp1 j := fun {k i a} e z j hj y => by
        obtain ⟨_, ⟨o, ho⟩, _⟩ := O1.fo j a y
        rcases (O'.fo k a z).2.2 with x | x
        · have x' : H1 a = none := x
          rw [ho] at x'; cases x'
        · obtain ⟨k', i', e', g⟩ := mem_bs x
          have := O1.dj j i' a y g
          subst this
          rw [posO_of hn e'] at hj
          cases hj
      have stay : ∀ {j a}, posO as j = none → a ∈ fp1 j → a ∉ bs := fun {j a} hj y x => by
        obtain ⟨k', i', e', g⟩ := mem_bs x
        have := O1.dj j i' a y g
        subst this
        rw [posO_of hn e'] at hj
        cases hj
      have outp : ∀ {i}, posO as i = none → i ∉ idxO as := fun {i} e z => by
        have : ∀ {as : List Ar}, i ∈ idxO as → posO as i ≠ none := fun {as} => by
          induction as with
          | nil => exact fun z => nomatch z
          | cons x as ih =>
            cases x with
            | d d =>
              intro z h
              have h' : (posO as i).map (· + 1) = none := h
              exact ih z (Option.map_eq_none_iff.mp h')
            | o j =>
              intro z h
              unfold posO at h
              by_cases c : i = j
              · rw [if_pos c] at h; cases h
              · rw [if_neg c] at h
                rcases List.mem_cons.mp z with y | y
                · exact c y
                · exact ih y (Option.map_eq_none_iff.mp h)
        exact this z e
      exact {
        e0 := O1.e0.trans O'.e0
        e1 := O'.e1
        nw := fun a o z => by
          rcases O'.nw a o z with y | y | y
          · exact O1.nw a o y
          · exact .inr (.inl (O1.dm a y))
          · cases y
        fr := fun a o z1 z2 => by
          refine O'.fr a o (fun y => ?_) (O1.fr a o z1 z2)
          obtain ⟨k, i, _, g⟩ := mem_bs y
          rcases (O1.fo i a g).2.2 with x | x
          · rw [z2] at x; cases x
          · exact z1 x
        dm := fun a z => O1.dm a (O'.dm a z)
        len := by rw [putO_len]; exact O1.len
        sl := fun i s hs => by
          cases e : posO as i with
          | none =>
            rw [putO_out (outp e)] at hs
            have z := (O1.sl i s hs).up O'.e0 fun a ha o q => O'.fr a o (stay e ha) q
            unfold fpO
            rw [e]
            exact z
          | some k =>
            have g := posO_some e
            obtain ⟨W, w1, w2⟩ := ha.own g
            obtain ⟨W', w3⟩ := shO_at sh g
            rw [putO_in hn sh g w3 (List.getElem?_eq_some_iff.mp w2).1] at hs
            cases hs
            obtain ⟨v, y1, y2, y3, y4⟩ := O1.sl i _ w2
            obtain ⟨v', x1, x2, _⟩ := O'.sl k _ w3
            obtain ⟨v'', u1, u2⟩ := A1.at g
            have u2' : σ[i]? = some (some v'') := u2
            rw [List.getElem?_map, u1] at x1
            cases x1
            rw [u2'] at y1
            cases y1
            unfold fpO
            rw [e]
            refine ⟨v, u2', x2, y3, fun hq a ha' => ?_⟩
            rcases (O'.fo k a ha').2.2 with x | x
            · exact .inl (O1.dm a x)
            · obtain ⟨k', i', e', g'⟩ := mem_bs x
              obtain ⟨W2, _, w5⟩ := ha.own e'
              obtain ⟨_, _, _, _, n4⟩ := O1.sl i' _ w5
              exact n4 hq a g'
        em := fun i hi => by
          unfold fpO
          cases e : posO as i with
          | none => exact O1.em i fun q W z => hi q W (by rw [putO_out (outp e)]; exact z)
          | some k =>
            have g := posO_some e
            obtain ⟨W, w1, w2⟩ := ha.own g
            obtain ⟨W', w3⟩ := shO_at sh g
            exact absurd (putO_in hn sh g w3 (List.getElem?_eq_some_iff.mp w2).1) (hi qq W')
        dj := fun i j a h1 h2 => by
          unfold fpO at h1 h2
          cases e : posO as i with
          | none =>
            rw [e] at h1
            cases e' : posO as j with
            | none => rw [e'] at h2; exact O1.dj i j a h1 h2
            | some l => rw [e'] at h2; exact absurd h1 (apart (posO_some e') h2 i e)
          | some k =>
            rw [e] at h1
            cases e' : posO as j with
            | none => rw [e'] at h2; exact absurd h2 (apart (posO_some e) h1 j e')
            | some l =>
              rw [e'] at h2
              have kl := O'.dj k l a h1 h2
              subst kl
              have z1 := posO_some e
              rw [posO_some e'] at z1
              cases z1
              rfl
        fo := fun i a h => by
          unfold fpO at h
          cases e : posO as i with
          | none =>
            rw [e] at h
            obtain ⟨y1, ⟨o, y2⟩, y3⟩ := O1.fo i a h
            refine ⟨?_, ⟨o, O'.fr a o (stay e h) y2⟩, y3⟩
            cases z : G' a with
            | none => rfl
            | some u =>
              rcases O'.nw a u z with x | x | x
              · have x' : G1 a = some u := x
                rw [y1] at x'; cases x'
              · have x' : H1 a = none := x
                rw [y2] at x'; cases x'
              · cases x
          | some k =>
            rw [e] at h
            obtain ⟨y1, y2, _⟩ := O'.fo k a h
            exact ⟨y1, y2, cell h⟩ }
    refine ⟨G1, ss, bs, _, hOk, m _ _ _ _ _ ?_ ?_ h1⟩
    · rintro s as' ⟨hs, sh, r⟩ v G' H' fp' fv O'
      refine q v G' H' s _ _ fv (e1.trans O'.ok.e0) ⟨back O'.ok sh, ?_, fun j a z1 z2 => ?_, fun a z => ?_⟩ r
      · have va := O'.va
        cases s with
        | no => exact va
        | d d => exact va
        | w q3 W3 =>
          refine ⟨va.1, fun hq a ha => ?_⟩
          rcases va.2 hq a ha with z | z
          · exact .inl (O1.dm a z)
          · cases z
      · unfold fpO at z1
        cases e : posO as j with
        | some k =>
          rw [e] at z1
          exact O'.dj _ a z1 z2
        | none =>
          rw [e] at z1
          obtain ⟨_, ⟨o, ho⟩, _⟩ := O1.fo j a z1
          rcases (O'.fo a z2).2.2 with y | y
          · have y' : H1 a = none := y
            rw [ho] at y'; cases y'
          · obtain ⟨k', i', e', g⟩ := mem_bs y
            have := O1.dj j i' a z1 g
            subst this
            rw [posO_of hn e'] at e
            cases e
      · obtain ⟨y1, y2, y3⟩ := O'.fo a z
        refine ⟨y1, y2, ?_⟩
        rcases y3 with y | y
        · exact .inl (O1.dm a y)
        · obtain ⟨k', i', _, g⟩ := mem_bs y
          exact (O1.fo i' a g).2.2
    · rintro Cl as' ⟨sh, er⟩ G' H' fp' O'
      exact hx Cl _ er G' H' σ _ (back O' sh)
/-- a contract over any arguments, some of them owned -/
def CN {α β : Type} (as : β → α → List Sl) (pre : β → α → Prop) (post : β → α → Sl → β → Prop) : Ctr := fun ss R _ => ∃ b a, ss = as b a ∧ pre b a ∧ ∀ s b', post b a s b' → R s (as b' a)
theorem CN.mono {α β : Type} {as : β → α → List Sl} {pre : β → α → Prop} {post : β → α → Sl → β → Prop} : (CN as pre post).Mono := fun _ _ _ _ _ h _ ⟨b, a, e, p, k⟩ => ⟨b, a, e, p, fun s b' z => h _ _ (k s b' z)⟩
theorem CN.len {α β : Type} {as : β → α → List Sl} {pre : β → α → Prop} {post : β → α → Sl → β → Prop} {n : Nat} (h : ∀ b a, (as b a).length = n) : ∀ ss R E, CN as pre post ss R E → ss.length = n := fun ss R E ⟨b, a, e, _⟩ => by
  rw [e]
  exact h b a
theorem ev_callN {α β : Type} {as : β → α → List Sl} {pre : β → α → Prop} {post : β → α → Sl → β → Prop} {R : Sl → List Sl → Prop} {E : XK} {t : TA}
    (h : EvB C t ρ fun ars ρ1 => ∃ (b : β) (a : α) (q : Bool), ArgsOk q ρ1 ars (as b a) ∧ (idxO ars).Nodup ∧ pre b a ∧ ∀ s b', post b a s b' → notTrue s = true ∧ shO ars (as b' a) = true ∧ R s (putO q ars (as b' a) ρ1)) : Ev C (tCall ((CN as pre post).sp K) [] E t) ρ R :=
  ev_callG CN.mono xok0 fun G H σ fp O Q q => h G H σ fp O Q fun vs G' H' ars ρ' fp' e O' D r => q vs G' H' ars ρ' fp' e O' D (by
    obtain ⟨b, a, qq, h1, h2, h3, h4⟩ := r
    exact ⟨_, qq, h1, h2, b, a, rfl, h3, fun s b' z => h4 s b' z⟩)
theorem evd_callN {α β : Type} {as : β → α → List Sl} {pre : β → α → Prop} {post : β → α → Sl → β → Prop} {R : Dt → List Sl → Prop} {E : XK} {t : TA}
    (h : EvB C t ρ fun ars ρ1 => ∃ (b : β) (a : α) (q : Bool), ArgsOk q ρ1 ars (as b a) ∧ (idxO ars).Nodup ∧ pre b a ∧ ∀ s b', post b a s b' → shO ars (as b' a) = true ∧ asF (fun d => R d (putO q ars (as b' a) ρ1)) s) : EvD C (tCall ((CN as pre post).sp K) [] E t) ρ R := by
  refine evd_f (ev_callN ?_)
  intro G H σ fp O Q q
  refine h G H σ fp O Q fun vs G' H' ars ρ' fp' e O' D r => q vs G' H' ars ρ' fp' e O' D ?_
  obtain ⟨b, a, qq, h1, h2, h3, h4⟩ := r
  refine ⟨b, a, qq, h1, h2, h3, fun s b' z => ?_⟩
  obtain ⟨z1, z2⟩ := h4 s b' z
  refine ⟨?_, z1, z2⟩
  rcases z2 with ⟨d, rfl, _⟩ | ⟨ds, rfl, _⟩ <;> rfl
abbrev finN {α β : Type} (as : β → α → List Sl) (post : β → α → Sl → β → Prop) (b : β) (a : α) : En := ⟨fun ρ => ∃ b', backOk (as b a) ρ = true ∧ back (as b a) ρ = as b' a ∧ post b a (.d .non) b', fun _ => False, fun _ => False, fun s ρ => ∃ b', backOk (as b a) ρ = true ∧ back (as b a) ρ = as b' a ∧ post b a s b'⟩
end
section
variable {K : PySem.W.Frag} {N ps : List Str} {t : TS}
theorem cn_fin {α β : Type} {as : β → α → List Sl} {pre : β → α → Prop} {post : β → α → Sl → β → Prop} (len : ∀ b a, (as b a).length = ps.length) (hs : ∀ (C : Cc K) b a, pre b a → Sj C t (as b a ++ List.replicate (N.length - ps.length) .no) (finN as post b a)) :
    ∀ (C : Cc K) ss R Er, CN as pre post ss R Er → Sj C t (ss ++ List.replicate (N.length - ss.length) .no) (fin ss R) := by
  rintro C ss R Er ⟨b, a, rfl, hp, hR⟩
  rw [len b a]
  have out : ∀ {u : Sl} {ρ : List Sl}, (∃ b', backOk (as b a) ρ = true ∧ back (as b a) ρ = as b' a ∧ post b a u b') → backOk (as b a) ρ = true ∧ R u (back (as b a) ρ) := by
    rintro u ρ ⟨b', e1, e2, z⟩
    exact ⟨e1, by rw [e2]; exact hR _ _ z⟩
  exact sj_imp (hs C b a hp) (fun _ z => out z) (fun _ z => z) (fun _ z => z) (fun _ _ z => out z)
variable {P : Program} {w : World} {mg : Str → Option Value} {base : Heap} {x : Str} {st : Stmt} {k : Nat}
theorem gd_cn {α β : Type} {as : β → α → List Sl} {pre : β → α → Prop} {post : β → α → Sl → β → Prop} (F : Df K mg x st ps) (S : FnScope N ps (defScope st)) (len : ∀ x : β × α, (as x.1 x.2).length = ps.length) (t : TS)
    (hbody : ∀ (f : Addr) (cdv : Value) (A : Around) (outer : List Env) (s : Shared) (H : Hp) (E : XK), Room k (A.deeper (PyProof.Rows.envOfC x (defScope st) s.heap.objs.size f cdv)) → PSs (cxOf CX0 P w K mg base N x (defScope st) f cdv A outer s H E).nox (defBody st) t)
    (hs : ∀ (C : Cc K) b a, pre b a → Sj C t (as b a ++ List.replicate (N.length - ps.length) .no) (finN as post b a)) : Gd P w K mg base x ps (k + 1) (CN as pre post) :=
  gd_of CN.mono F S (CN.len fun b a => len (b, a)) t hbody (cn_fin (fun b a => len (b, a)) hs)
end

end
section
/-! Dicts whose keys are tuples of whole numbers, owned, at a field. -/
inductive Dts (K : PySem.W.Frag) (G : Hp) : List (List Key × V) → List (List Int × Dt) → Prop
  | nil : Dts K G [] []
  | cons {k : List Int} {v : V} {d : Dt} {vs : List (List Key × V)} {m : List (List Int × Dt)} : Dv K G v d → Dts K G vs m → Dts K G ((k.map Sum.inl, v) :: vs) ((k, d) :: m)
def valT : List (List Int × Dt) → List Int → Option Dt
  | [], _ => none
  | (j, d) :: r, k => if j = k then some d else valT r k
def putT (m : List (List Int × Dt)) (k : List Int) (d : Dt) : List (List Int × Dt) := if (valT m k).isSome = true then m.map (fun kv => if kv.1 = k then (kv.1, d) else kv) else m ++ [(k, d)]
theorem valT_map (k j : List Int) (y : Dt) : ∀ m : List (List Int × Dt), valT (m.map fun kv => if kv.1 = k then (kv.1, y) else kv) j = (valT m j).map fun x => if j = k then y else x
  | [] => rfl
  | (i, d) :: r => by
    rw [List.map_cons]
    by_cases h : i = k
    · subst h
      rw [if_pos rfl]
      show (if i = j then some y else valT _ j) = ((if i = j then some d else valT r j) : Option Dt).map _
      by_cases e : i = j
      · subst e
        rw [if_pos rfl, if_pos rfl, Option.map_some, if_pos rfl]
      · rw [if_neg e, if_neg e]
        exact valT_map i j y r
    · rw [if_neg h]
      show (if i = j then some d else valT _ j) = ((if i = j then some d else valT r j) : Option Dt).map _
      by_cases e : i = j
      · subst e
        rw [if_pos rfl, if_pos rfl, Option.map_some, if_neg h]
      · rw [if_neg e, if_neg e]
        exact valT_map k j y r
theorem valT_snoc (k j : List Int) (y : Dt) : ∀ m : List (List Int × Dt), valT m k = none → valT (m ++ [(k, y)]) j = if j = k then some y else valT m j
  | [], _ => by
    show (if k = j then some y else none) = _
    by_cases h : j = k
    · rw [if_pos h.symm, if_pos h]
    · rw [if_neg (Ne.symm h), if_neg h]
      rfl
  | (i, d) :: r, h => by
    have hik : i ≠ k := fun e => by
      have : valT ((i, d) :: r) k = some d := by show (if i = k then some d else valT r k) = _; rw [if_pos e]
      rw [h] at this; cases this
    have hr : valT r k = none := by
      have : (if i = k then some d else valT r k) = none := h
      rwa [if_neg hik] at this
    show (if i = j then some d else valT (r ++ [(k, y)]) j) = if j = k then some y else if i = j then some d else valT r j
    by_cases e : i = j
    · subst e
      rw [if_pos rfl, if_neg hik, if_pos rfl]
    · rw [if_neg e, if_neg e]
      exact valT_snoc k j y r hr
theorem valT_put (m : List (List Int × Dt)) (k j : List Int) (y : Dt) : valT (putT m k y) j = if j = k then some y else valT m j := by
  unfold putT
  cases h : (valT m k).isSome with
  | true =>
    rw [if_pos rfl, valT_map]
    by_cases e : j = k
    · subst e
      rw [if_pos rfl]
      cases q : valT m j with
      | none => rw [q] at h; cases h
      | some d => rw [Option.map_some, if_pos rfl]
    · rw [if_neg e]
      cases q : valT m j with
      | none => rfl
      | some d => rw [Option.map_some, if_neg e]
  | false =>
    rw [if_neg Bool.false_ne_true]
    exact valT_snoc k j y m (by cases q : valT m k with | none => rfl | some d => rw [q] at h; cases h)
theorem putT_len (m : List (List Int × Dt)) (k : List Int) (y : Dt) : (putT m k y).length ≤ m.length + 1 := by
  unfold putT
  split
  · rw [List.length_map]; exact Nat.le_succ _
  · rw [List.length_append]; exact Nat.le_refl _
section
variable {K : PySem.W.Frag} {C : Cc K} {ρ : List Sl} {G G' : Hp}
theorem Dts.up (e : Same G G') {vs : List (List Key × V)} {m : List (List Int × Dt)} (h : Dts K G vs m) : Dts K G' vs m := by
  induction h with
  | nil => exact .nil
  | cons a _ ih => exact .cons (Dv.up e _ _ a) ih
theorem Dts.len {vs : List (List Key × V)} {m : List (List Int × Dt)} (h : Dts K G vs m) : vs.length = m.length := by
  induction h with
  | nil => rfl
  | cons a _ ih => rw [List.length_cons, List.length_cons, ih]
theorem inl_inj {j k : List Int} : (j.map (Sum.inl : Int → Key)) = k.map Sum.inl ↔ j = k := by
  constructor
  · intro h
    induction j generalizing k with
    | nil => cases k with
      | nil => rfl
      | cons _ _ => cases h
    | cons a j ih => cases k with
      | nil => cases h
      | cons b k =>
        rw [List.map_cons, List.map_cons] at h
        injection h with h1 h2
        injection h1 with h1
        rw [h1, ih h2]
  · intro h
    rw [h]
theorem Dts.val {vs : List (List Key × V)} {m : List (List Int × Dt)} (h : Dts K G vs m) (k : List Int) : (valV vs (k.map Sum.inl) = none ∧ valT m k = none) ∨ ∃ v d, valV vs (k.map Sum.inl) = some v ∧ valT m k = some d ∧ Dv K G v d := by
  induction h with
  | nil => exact .inl ⟨rfl, rfl⟩
  | @cons j v d vs m a _ ih =>
    by_cases e : j = k
    · refine .inr ⟨v, d, ?_, ?_, a⟩
      · rw [e]
        simp [valV]
      · show (if j = k then some d else valT m k) = _
        rw [if_pos e]
    · have ne : ¬ (j.map (Sum.inl : Int → Key)) = k.map Sum.inl := fun z => e (inl_inj.mp z)
      have e1 : valV ((j.map Sum.inl, v) :: vs) (k.map Sum.inl) = valV vs (k.map Sum.inl) := by
        simp [valV, ne]
      have e2 : valT ((j, d) :: m) k = valT m k := by
        show (if j = k then some d else valT m k) = _
        rw [if_neg e]
      rw [e1, e2]
      exact ih
theorem Dts.val_isSome {vs : List (List Key × V)} {m : List (List Int × Dt)} (h : Dts K G vs m) (k : List Int) : (valV vs (k.map Sum.inl)).isSome = (valT m k).isSome := by
  rcases h.val k with ⟨a, b⟩ | ⟨v, d, a, b, _⟩
  · rw [a, b]
    rfl
  · rw [a, b]
    rfl
theorem Dts.map {vs : List (List Key × V)} {m : List (List Int × Dt)} {v : V} {d : Dt} (h : Dts K G vs m) (k : List Int) (hv : Dv K G v d) : Dts K G (vs.map fun kv => if kv.1 = k.map Sum.inl then (kv.1, v) else kv) (m.map fun kv => if kv.1 = k then (kv.1, d) else kv) := by
  induction h with
  | nil => exact .nil
  | @cons j w e vs m a _ ih =>
    rw [List.map_cons, List.map_cons]
    by_cases c : j = k
    · rw [if_pos c, if_pos (by rw [c])]
      exact .cons hv ih
    · rw [if_neg c, if_neg (fun z => c (inl_inj.mp z))]
      exact .cons a ih
theorem Dts.snoc {vs : List (List Key × V)} {m : List (List Int × Dt)} {v : V} {d : Dt} (h : Dts K G vs m) (k : List Int) (hv : Dv K G v d) : Dts K G (vs ++ [(k.map Sum.inl, v)]) (m ++ [(k, d)]) := by
  induction h with
  | nil => exact .cons hv .nil
  | cons a _ ih => exact .cons a ih
theorem Dts.put {vs : List (List Key × V)} {m : List (List Int × Dt)} {v : V} {d : Dt} (h : Dts K G vs m) (k : List Int) (hv : Dv K G v d) : Dts K G (putK vs (k.map Sum.inl) v) (putT m k d) := by
  unfold putK putT
  rw [valV_any, h.val_isSome k]
  split
  · exact h.map k hv
  · exact h.snoc k hv
/-- an owned dict of tuples -/
def dtw (m : List (List Int × Dt)) : Wd where
  W := fun K G H v fp => ∃ p xs, v = .ref p ∧ fp = [p] ∧ H p = some (.dT xs) ∧ Dts K G xs m
  st := by
    rintro K G G' H H' v fp ⟨p, xs, rfl, rfl, h, hd⟩ e k
    exact ⟨p, xs, rfl, rfl, k p (List.mem_singleton.mpr rfl) _ h, hd.up e⟩
theorem dtw_nd (m : List (List Int × Dt)) {K : PySem.W.Frag} {G H : Hp} {v : V} {fp : List Addr} (h : (dtw m).W K G H v fp) : fp.Nodup := by
  obtain ⟨p, xs, _, rfl, _⟩ := h
  simp
theorem dtw_fl (m : List (List Int × Dt)) : FlOf (.w false (dtw m)) (.w (dtw m)) := .w _ fun h => dtw_nd m h
/-- {} -/
theorem ev_dnewT {R : Sl → List Sl → Prop} (k : R (.w false (dtw [])) ρ) : Ev C tDNewT ρ R := fun G H σ fp O Q q => by
  unfold tDNewT
  intro p hp
  refine q (.ref p) G _ (.w false (dtw [])) ρ fp [p] (Same.refl G) ⟨O.scr hp, ⟨⟨p, [], rfl, rfl, upd_same, .nil⟩, fun _ a z => ?_⟩, fun i a h1 h2 => ?_, fun a h2 => ?_⟩ k
  · rw [List.mem_singleton.mp z]; exact .inl (O.dm p hp)
  · have e : a = p := List.mem_singleton.mp h2
    subst e
    obtain ⟨_, ⟨o, z⟩, _⟩ := O.fo i a h1
    rw [hp] at z; cases z
  · have e : a = p := List.mem_singleton.mp h2
    subst e
    exact ⟨O.e1.free hp, ⟨_, upd_same⟩, .inl (O.dm a hp)⟩
end
section
variable {K : PySem.W.Frag} {C : Cc K} {ρ : List Sl} {P : En} {ta tb te : TE} {t u : TT} {ts us : TS} {i : Nat} {q : Bool} {Cl a : Addr} {vs : List (Str × V)} {fs : List (Str × Fl)} {f : Str}
/-- a tuple of whole numbers -/
def asK (R : List Int → Prop) (d : Dt) : Prop := ∃ k : List Int, d = .tup (k.map Dt.int) ∧ R k
theorem keys_of {G H : Hp} {xs : List V} {k : List Int} (h : Dvs K G xs (k.map Dt.int)) : xs = (k.map (Sum.inl : Int → Key)).map kV := by
  rw [Dvs.ints_is h, List.map_map]
  rfl
/-- the field's dict, as it is; and one more put into it -/
theorem fldT {G H : Hp} {σ : St} {fp : Nat → List Addr} {m : List (List Int × Dt)} (O : Ok C G H σ ρ fp) (hi : ρ[i]? = some (.w q (iwA Cl a vs fs))) (e : fs.lookup f = some (.w (dtw m))) :
    ∃ p xs, vs.lookup f = some (.ref p) ∧ H p = some (.dT xs) ∧ Dts K G xs m ∧ ∀ k v d, Dv K G v d → ∃ fp', Ok C G (upd H p (.dT (putK xs ((k : List Int).map Sum.inl) v))) σ (ρ.set i (.w q (iwA Cl a vs (putFl f (.w (dtw (putT m k d))) fs)))) fp' := by
  obtain ⟨v, fq, h1, ⟨p, xs, rfl, rfl, h2, h3⟩, h4, h5, h6⟩ := O.fieldW hi e
  refine ⟨p, xs, h1, h2, h3, fun k v d hv => ?_⟩
  have pm : p ∈ fp i := h4 p (List.mem_singleton.mpr rfl)
  obtain ⟨g, _, _⟩ := O.fo i p pm
  refine h6 (G' := G) (W' := dtw (putT m k d)) (fq' := [p]) (Same.refl G) (fun b w z => ?_) (fun _ _ z => .inl z) (fun b w nb z => ?_) (fun b z => ?_) (fun b hb => ?_) (fun b hb => ?_) (by simp) ⟨p, _, rfl, rfl, upd_same, h3.put k hv⟩
  · have ne : b ≠ p := ne_of_none z g
    rw [upd_ne ne]; exact O.e1 b w z
  · have ne : b ≠ p := fun z => nb (List.mem_singleton.mpr z)
    rw [upd_ne ne]; exact z
  · by_cases c : b = p
    · subst c; rw [upd_same] at z; cases z
    · rw [upd_ne c] at z; exact z
  · have e : b = p := List.mem_singleton.mp hb
    subst e
    exact ⟨.inl (List.mem_singleton.mpr rfl), _, upd_same⟩
  · rw [List.mem_singleton.mp hb]
    exact g
theorem key_at {G H : Hp} {v : V} {k : List Int} (e : Same G H) (h : Dv K G v (.tup (k.map Dt.int))) : ∃ b, v = .ref b ∧ H b = some (.tup ((k.map (Sum.inl : Int → Key)).map kV)) := by
  cases h with
  | tup hs ha => exact ⟨_, rfl, by rw [← keys_of (H := H) ha]; exact e _ _ hs⟩
theorem evd_dinT {R : Dt → List Sl → Prop} (ok : FldOk K Cl f) (h : EvD C tb ρ fun y ρ1 => asK (fun k => ∃ q a vs fs m, ρ1[i]? = some (.w q (iwA Cl a vs fs)) ∧ fs.lookup f = some (.w (dtw m)) ∧ R (.bl (valT m k).isSome) ρ1) y) : EvD C (tDIn tb (tFld K (tVar i) f)) ρ R := fun G H σ fp O Q z => by
  refine h G H σ fp O _ fun y G1 H1 d ρ1 fp1 e1 O1 D1 r => ?_
  obtain ⟨k, rfl, q2, a2, vs2, fs2, m2, k1, k2, k4⟩ := r
  obtain ⟨b, rfl, hb⟩ := key_at O1.e1 D1
  obtain ⟨p', xs', g1, g2, g3, _⟩ := fldT O1 k1 k2
  refine fld_run O1 k1 ok g1 ⟨p', _, rfl, .inr ⟨xs', _, b, .inl g2, rfl, hb, rfl⟩, ?_⟩
  rw [g3.val_isSome]
  exact z _ G1 H1 _ ρ1 fp1 e1 O1 (.bl _) k4
theorem evd_dninT {R : Dt → List Sl → Prop} (ok : FldOk K Cl f) (h : EvD C tb ρ fun y ρ1 => asK (fun k => ∃ q a vs fs m, ρ1[i]? = some (.w q (iwA Cl a vs fs)) ∧ fs.lookup f = some (.w (dtw m)) ∧ R (.bl (!(valT m k).isSome)) ρ1) y) : EvD C (tDNotIn tb (tFld K (tVar i) f)) ρ R := fun G H σ fp O Q z => by
  refine h G H σ fp O _ fun y G1 H1 d ρ1 fp1 e1 O1 D1 r => ?_
  obtain ⟨k, rfl, q2, a2, vs2, fs2, m2, k1, k2, k4⟩ := r
  obtain ⟨b, rfl, hb⟩ := key_at O1.e1 D1
  obtain ⟨p', xs', g1, g2, g3, _⟩ := fldT O1 k1 k2
  refine fld_run O1 k1 ok g1 ⟨p', _, rfl, .inr ⟨xs', _, b, .inl g2, rfl, hb, rfl⟩, ?_⟩
  rw [g3.val_isSome]
  exact z _ G1 H1 _ ρ1 fp1 e1 O1 (.bl _) k4
theorem evd_dgetT {R : Dt → List Sl → Prop} {m0 : List (List Int × Dt)} (hi : ρ[i]? = some (.w q (iwA Cl a vs fs))) (ok : FldOk K Cl f) (e : fs.lookup f = some (.w (dtw m0)))
    (h : EvD C tb ρ fun y ρ1 => asK (fun k => ∃ q fs m d, ρ1[i]? = some (.w q (iwA Cl a vs fs)) ∧ fs.lookup f = some (.w (dtw m)) ∧ valT m k = some d ∧ R d ρ1) y) : EvD C (tDGet (tFld K (tVar i) f) tb) ρ R := fun G H σ fp O Q z => by
  obtain ⟨p, xs, h1, _⟩ := fldT O hi e
  refine fld_run O hi ok h1 (h G H σ fp O _ fun y G1 H1 d ρ1 fp1 e1 O1 D1 r => ?_)
  obtain ⟨k, rfl, q2, fs2, m2, d2, k1, k2, k3, k4⟩ := r
  obtain ⟨b, rfl, hb⟩ := key_at O1.e1 D1
  obtain ⟨p', xs', g1, g2, g3, _⟩ := fldT O1 k1 k2
  rw [h1] at g1
  cases g1
  rcases g3.val k with ⟨_, y⟩ | ⟨w, d', w1, w2, w3⟩
  · rw [k3] at y; cases y
  · rw [k3] at w2
    cases w2
    exact ⟨p, w, rfl, .inr ⟨xs', _, b, .inl g2, rfl, hb, w1.symm⟩, z w G1 H1 d2 ρ1 fp1 e1 O1 w3 k4⟩
/-- a value beside the slots, while something else is done -/
theorem OkV.frame {G H G' H' : Hp} {σ σ' : St} {ρ' : List Sl} {fp fp' : Nat → List Addr} {v : V} {fv : List Addr} {W : Wd} (O : OkV C G H σ ρ fp v fv (.w false W)) (O' : Ok (C.at ρ fp G H) G' H' σ' ρ' fp') : OkV C G' H' σ' ρ' fp' v fv (.w false W) := by
  obtain ⟨w1, w2⟩ := O.va
  have out : ∀ a ∈ fv, a ∉ allFp ρ fp := fun a ha z => by
    obtain ⟨i, hi⟩ := mem_of_all z
    exact O.dj i a hi ha
  refine ⟨O.ok.to O', ⟨W.st w1 O'.e0 fun a ha o z => O'.fr a o (out a ha) z, w2⟩, fun i a h1 h2 => ?_, fun a ha => ?_⟩
  · obtain ⟨_, ⟨o, ho⟩, _⟩ := O.fo a h2 |>.imp id id
    rcases (O'.fo i a h1).2.2 with y | y
    · have y' : H a = none := y
      rw [ho] at y'; cases y'
    · exact out a h2 y
  · obtain ⟨x1, ⟨o, x2⟩, x3⟩ := O.fo a ha
    refine ⟨?_, ⟨o, O'.fr a o (out a ha) x2⟩, x3⟩
    cases z : G' a with
    | none => rfl
    | some u =>
      rcases O'.nw a u z with y | y | y
      · have y' : G a = some u := y
        rw [x1] at y'; cases y'
      · have y' : H a = none := y
        rw [x2] at y'; cases y'
      · obtain ⟨i, W2, _, hi⟩ := mem_of_own y
        exact absurd ha (O.dj i a hi)
/-- Cl(..).m(..): the instance is used once -/
theorem evd_methNew {α : Type} {emb : α → List Dt} {pre : In → α → Prop} {post : In → α → Sl → In → Prop} {R : Dt → List Sl → Prop} {E : XK} {t : TA} {mn : Str}
    (h : Ev C te ρ fun s ρ1 => ∃ b0 : In, s = .w false (inW Cl b0) ∧ b0.fs.lookup mn = none ∧ ∀ C' : Cc K, EvA C' t ρ1 fun ds ρ2 => ∃ a, ds = emb a ∧ pre b0 a ∧ ∀ s b', post b0 a s b' → asF (fun d => R d ρ2) s) : EvD C (tMeth Cl mn ((CB (inW Cl) emb pre post).sp K) [] E te t) ρ R := fun G H σ fp O Q q =>
  h G H σ fp O _ fun x G1 H1 s ρ1 fp1 fv e1 O1 r => by
    obtain ⟨b0, rfl, hm, r⟩ := r
    obtain ⟨⟨hx, dx, cs, h2, h3, h4, h5, h6⟩, hv⟩ := O1.va
    refine ⟨b0.a, dx, b0.vs, hx, h2, h4.none hm, ?_⟩
    refine r (C.at ρ1 fp1 G1 H1) G1 H1 σ fp1 O1.ok.from _ fun vs G2 H2 ds ρ2 fp2 e2 O2 D2 r2 => ?_
    obtain ⟨a, rfl, rp, rk⟩ := r2
    have OV := O1.frame O2
    have O3 := OV.push (fun W z => by cases z)
    have hn : (ρ2 ++ [Sl.w false (inW Cl b0)])[ρ2.length]? = some (.w false (inW Cl b0)) := by simp
    let raw : TA := fun _ H Q => Q (x :: vs) H
    have O4 := O3.from
    have raws : EvB (C.at (ρ2 ++ [Sl.w false (inW Cl b0)]) (fpSet fp2 ρ2.length fv) G2 H2) raw (ρ2 ++ [Sl.w false (inW Cl b0)]) fun as ρ3 => as = .o ρ2.length :: (emb a).map Ar.d ∧ ρ3 = ρ2 ++ [Sl.w false (inW Cl b0)] := fun G5 H5 σ5 fp5 O5 Q5 z5 => by
      obtain ⟨v, k1, ⟨k2, _⟩, _⟩ := O5.sl _ _ hn
      subst k2
      subst hx
      refine z5 (.ref b0.a :: vs) G5 H5 (.o ρ2.length :: (emb a).map Ar.d) _ fp5 (Same.refl G5) O5 ⟨k1, ?_⟩ ⟨rfl, rfl⟩
      have D5 : Dvs K G5 vs (emb a) := D2.up O5.e0
      have go : ∀ {vs : List V} {ds : List Dt}, Dvs K G5 vs ds → ArOk K G5 σ5 vs (ds.map Ar.d) := by
        intro vs ds h
        induction ds generalizing vs with
        | nil => cases h; exact trivial
        | cons d ds ih =>
          cases h with
          | cons h1 h2 => exact ⟨h1, ih h2⟩
      exact go D5
    have run := evd_call1 (R := fun d ρ3 => R d ρ2 ∧ ∃ W, ρ3 = ρ2 ++ [Sl.w false W]) (E := E) (Er := fun _ _ => False) CB.mono xok0 (t := raw) (c := CB (inW Cl) emb pre post) (fun G5 H5 σ5 fp5 O5 Q5 z5 => raws G5 H5 σ5 fp5 O5 Q5 fun us G6 H6 as ρ6 fp6 e6 O6 A6 r6 => z5 us G6 H6 as ρ6 fp6 e6 O6 A6 (by
        obtain ⟨rfl, rfl⟩ := r6
        refine ⟨[], emb a, ρ2.length, false, _, rfl, hn, b0, a, rfl, rp, fun s b' hp => ?_⟩
        refine ⟨_, rfl, ?_⟩
        have e : (ρ2 ++ [Sl.w false (inW Cl b0)]).set ρ2.length (.w false (inW Cl b')) = ρ2 ++ [Sl.w false (inW Cl b')] := by
          rw [List.set_append_right _ _ (Nat.le_refl _), Nat.sub_self]
          rfl
        rcases rk s b' hp with ⟨d, rfl, k⟩ | ⟨ds, rfl, k⟩
        · exact .inl ⟨d, rfl, k, _, e⟩
        · exact .inr ⟨ds, rfl, k, _, e⟩)) G2 _ _ _ O4 Q fun v G6 H6 d ρ6 fp6 e6 O6 D6 r6 => by
      obtain ⟨k, W, rfl⟩ := r6
      have O7 := (O3.to O6).popL OV.ok.len
      exact q v G6 H6 d ρ2 _ ((e1.trans O2.e0).trans e6) O7.ok D6 k
    exact run
/-- self.f[e] = e' -/
theorem sj_dputT (ok : FldOk K Cl f) (h : EvD C te ρ fun d ρ1 => ∃ q a vs fs m0, ρ1[i]? = some (.w q (iwA Cl a vs fs)) ∧ fs.lookup f = some (.w (dtw m0)) ∧ EvD C tb ρ1 fun y ρ' => asK (fun k => ∃ q fs m, ρ'[i]? = some (.w q (iwA Cl a vs fs)) ∧ fs.lookup f = some (.w (dtw m)) ∧ m.length < 1000000 ∧ P.nx (ρ'.set i (.w q (iwA Cl a vs (putFl f (.w (dtw (putT m k d))) fs))))) y) :
    Sj C (sDPut (tFld K (tVar i) f) tb te) ρ P := fun G H σ fp O D E => by
  refine h G H σ fp O _ fun v G1 H1 d ρ1 fp1 e1 O1 D1 r => ?_
  obtain ⟨q0, a, vs, fs, m0, k1, k2, r⟩ := r
  obtain ⟨p, xs, h1, _⟩ := fldT O1 k1 k2
  refine fld_run O1 k1 ok h1 (r G1 H1 σ fp1 O1 _ fun y G2 H2 d2 ρ2 fp2 e2 O2 D2 r2 => ?_)
  obtain ⟨k, rfl, q2, fs2, m2, l1, l2, l3, l4⟩ := r2
  obtain ⟨b, rfl, hb⟩ := key_at O2.e1 D2
  obtain ⟨p', xs', g1, g2, g3, g4⟩ := fldT O2 l1 l2
  rw [h1] at g1
  cases g1
  obtain ⟨fp3, O3⟩ := g4 k v d (Dv.up e2 d v D1)
  exact ⟨p, _, rfl, .inr ⟨xs', _, b, g2, rfl, hb, by rw [g3.len]; exact Nat.lt_of_lt_of_le l3 (by decide), rfl⟩, E.nx G2 _ σ _ fp3 (e1.trans e2) O3 l4⟩
end

end
section
/-! A function whose first argument is owned, called with a thing that is just made. -/
/-- pinned to a value -/
def pinW (x : V) (W : Wd) : Wd where
  W := fun K G H v fp => v = x ∧ W.W K G H v fp
  st := fun h e k => ⟨h.1, W.st h.2 e k⟩
section
variable {K : PySem.W.Frag} {C : Cc K} {ρ : List Sl} {te : TE}
theorem Ok.unpin {G H : Hp} {σ : St} {fp : Nat → List Addr} {x : V} {W : Wd} (O : Ok C G H σ (ρ ++ [.w false (pinW x W)]) fp) : Ok C G H σ (ρ ++ [.w false W]) fp where
  e0 := O.e0
  e1 := O.e1
  nw := O.nw
  fr := O.fr
  dm := O.dm
  len := by have := O.len; rw [List.length_append] at this ⊢; exact this
  sl := fun i s h => by
    by_cases c : i < ρ.length
    · rw [List.getElem?_append_left c] at h
      exact O.sl i s (by rw [List.getElem?_append_left c]; exact h)
    · have hl := (List.getElem?_eq_some_iff.mp h).1
      rw [List.length_append, List.length_singleton] at hl
      obtain rfl : i = ρ.length := by omega
      have e : (ρ ++ [Sl.w false W])[ρ.length]? = some (.w false W) := by simp
      rw [e] at h
      cases h
      obtain ⟨v, k1, ⟨_, k2⟩, k3, k4⟩ := O.sl ρ.length (.w false (pinW x W)) (by simp)
      exact ⟨v, k1, k2, k3, k4⟩
  em := fun i h => by
    by_cases c : i < ρ.length
    · refine O.em i fun q W' z => h q W' ?_
      rw [List.getElem?_append_left c] at z ⊢
      exact z
    · by_cases d : i = ρ.length
      · subst d
        exact absurd (by simp) (h false W)
      · refine O.em i fun q W' z => ?_
        have hl := (List.getElem?_eq_some_iff.mp z).1
        rw [List.length_append, List.length_singleton] at hl
        omega
  dj := O.dj
  fo := O.fo
/-- f(a new thing, ..) -/
theorem evd_callNew {α β : Type} {W : β → Wd} {emb : α → List Dt} {pre : β → α → Prop} {post : β → α → Sl → β → Prop} {R : Dt → List Sl → Prop} {E : XK} {t : TA}
    (h : Ev C te ρ fun s ρ1 => ∃ b0 : β, s = .w false (W b0) ∧ ∀ C' : Cc K, EvA C' t ρ1 fun ds ρ2 => ∃ a, ds = emb a ∧ pre b0 a ∧ ∀ s b', post b0 a s b' → asF (fun d => R d ρ2) s) : EvD C (tCall ((CB W emb pre post).sp K) [] E (tCons te t)) ρ R := fun G H σ fp O Q q =>
  h G H σ fp O _ fun x G1 H1 s ρ1 fp1 fv e1 O1 r => by
    obtain ⟨b0, rfl, r⟩ := r
    refine r (C.at ρ1 fp1 G1 H1) G1 H1 σ fp1 O1.ok.from _ fun vs G2 H2 ds ρ2 fp2 e2 O2 D2 r2 => ?_
    obtain ⟨a, rfl, rp, rk⟩ := r2
    have O1p : OkV C G1 H1 σ ρ1 fp1 x fv (.w false (pinW x (W b0))) := ⟨O1.ok, ⟨⟨rfl, O1.va.1⟩, O1.va.2⟩, O1.dj, O1.fo⟩
    have OV := O1p.frame O2
    have O3 := OV.push (fun W z => by cases z)
    have hn : (ρ2 ++ [Sl.w false (pinW x (W b0))])[ρ2.length]? = some (.w false (pinW x (W b0))) := by simp
    have hn2 : (ρ2 ++ [Sl.w false (W b0)])[ρ2.length]? = some (.w false (W b0)) := by simp
    let raw : TA := fun _ H Q => Q (x :: vs) H
    have O4 := O3.from
    have raws : EvB (C.at (ρ2 ++ [Sl.w false (pinW x (W b0))]) (fpSet fp2 ρ2.length fv) G2 H2) raw (ρ2 ++ [Sl.w false (pinW x (W b0))]) fun as ρ3 => as = .o ρ2.length :: (emb a).map Ar.d ∧ ρ3 = ρ2 ++ [Sl.w false (W b0)] := fun G5 H5 σ5 fp5 O5 Q5 z5 => by
      obtain ⟨v, k1, ⟨k2, _⟩, _⟩ := O5.sl _ _ hn
      subst k2
      refine z5 (v :: vs) G5 H5 (.o ρ2.length :: (emb a).map Ar.d) _ fp5 (Same.refl G5) O5.unpin ⟨k1, ?_⟩ ⟨rfl, rfl⟩
      have D5 : Dvs K G5 vs (emb a) := D2.up O5.e0
      have go : ∀ {vs : List V} {ds : List Dt}, Dvs K G5 vs ds → ArOk K G5 σ5 vs (ds.map Ar.d) := by
        intro vs ds h
        induction ds generalizing vs with
        | nil => cases h; exact trivial
        | cons d ds ih =>
          cases h with
          | cons h1 h2 => exact ⟨h1, ih h2⟩
      exact go D5
    have run := evd_call1 (R := fun d ρ3 => R d ρ2 ∧ ∃ W, ρ3 = ρ2 ++ [Sl.w false W]) (E := E) (Er := fun _ _ => False) CB.mono xok0 (t := raw) (c := CB W emb pre post) (fun G5 H5 σ5 fp5 O5 Q5 z5 => raws G5 H5 σ5 fp5 O5 Q5 fun us G6 H6 as ρ6 fp6 e6 O6 A6 r6 => z5 us G6 H6 as ρ6 fp6 e6 O6 A6 (by
        obtain ⟨rfl, rfl⟩ := r6
        refine ⟨[], emb a, ρ2.length, false, _, rfl, hn2, b0, a, rfl, rp, fun s b' hp => ?_⟩
        refine ⟨_, rfl, ?_⟩
        have e : (ρ2 ++ [Sl.w false (W b0)]).set ρ2.length (.w false (W b')) = ρ2 ++ [Sl.w false (W b')] := by
          rw [List.set_append_right _ _ (Nat.le_refl _), Nat.sub_self]
          rfl
        rcases rk s b' hp with ⟨d, rfl, k⟩ | ⟨ds, rfl, k⟩
        · exact .inl ⟨d, rfl, k, _, e⟩
        · exact .inr ⟨ds, rfl, k, _, e⟩)) G2 _ _ _ O4 Q fun v G6 H6 d ρ6 fp6 e6 O6 D6 r6 => by
      obtain ⟨k, W', rfl⟩ := r6
      have O7 := (O3.to O6).popL OV.ok.len
      exact q v G6 H6 d ρ2 _ ((e1.trans O2.e0).trans e6) O7.ok D6 k
    exact run
end

end
section
/-! Chained comparisons of three and more operators, as tests. -/
open PySem PySem.Spec PyProof.Rows L2
/-- the rest of a chain, by what stands on its left -/
abbrev TC := V → TT
def tcLast (r : R2) (tb : TE) : TC := fun x σ H Q => tb σ H fun y H2 => r x y H2 fun z H3 => ∃ k, z = .bl k ∧ Q k H3
def tcLink (r : R2) (tb : TE) (t : TC) : TC := fun x σ H Q => tb σ H fun y H2 => r x y H2 fun z H3 => ∃ k, z = .bl k ∧ (if k = true then t y σ H3 Q else Q false H3)
def tChT (ta : TE) (t : TC) : TT := fun σ H Q => ta σ H fun x H1 => t x σ H1 Q
section
variable {X : Cx} {a b c : Expr} {ta tb : TE} {pos : Pos} {op op' : CmpOp} {r : R2} {ops : List CmpOp} {es : List Expr} {t : TC}
structure PC (X : Cx) (ops : List CmpOp) (es : List Expr) (pos : Pos) (t : TC) : Prop where
  run : ∀ (pins : List (Addr × Obj)) (s : Shared) (σ : L2.St) (H : Hp) (x : V) (v : Value) (Q : Bool → Hp → Prop), Inv X pins σ H s → RelV x v → t x σ H Q → wpAny (model X.prog X.w) X.A (testChain pos v ops (evalEach es X.env)) (TP X pins σ Q) X.xe s
theorem pc_last (ho : OpR X (compareOp op) r) (hb : PE X b tb) : PC X [op] [b] pos (tcLast r tb) := ⟨fun pins s σ H x v Q I rx h =>
  test_last (thn (hb.run pins s σ H _ I h) fun u s2 ⟨y, H2, I2, r2, q2⟩ => thn (ho pins s2 σ H2 x y v u _ I2 rx r2 q2) fun d s3 ⟨z, H3, I3, r3, k, e, q3⟩ => by
    subst e
    cases r3
    exact wpAny_truthy_bool ⟨H3, I3, q3⟩)⟩
theorem pc_link (ho : OpR X (compareOp op) r) (hb : PE X b tb) (hc : PC X (op' :: ops) (c :: es) pos t) : PC X (op :: op' :: ops) (b :: c :: es) pos (tcLink r tb t) := ⟨fun pins s σ H x v Q I rx h =>
  test_link (thn (hb.run pins s σ H _ I h) fun u s2 ⟨y, H2, I2, r2, q2⟩ => thn (ho pins s2 σ H2 x y v u _ I2 rx r2 q2) fun d s3 ⟨z, H3, I3, r3, k, e, q3⟩ => by
    subst e
    cases r3
    refine wpAny_truthy_bool ?_
    cases k with
    | false => exact ite_ff ⟨H3, I3, q3⟩
    | true => exact ite_tt (hc.run pins s3 σ H3 y u Q I3 r2 q3))⟩
theorem pt_chainN (ha : PE X a ta) (hc : PC X (op :: op' :: ops) (b :: c :: es) pos t) (hm : lastMarks (op :: op' :: ops) (b :: c :: es) = false := by with_unfolding_all rfl) : PT X (.Compare a (op :: op' :: ops) (b :: c :: es) pos) (tChT ta t) := ⟨fun pins s σ H Q I h =>
  isTrue_chain (thn (ha.run pins s σ H _ I h) fun v s1 ⟨x, H1, I1, r1, q1⟩ => hc.run pins s1 σ H1 x v Q I1 r1 q1) hm⟩
end
section
variable {K : PySem.W.Frag} {C : Cc K} {ρ : List Sl} {ta tb : TE} {r : R2} {t : TC} {x : Dt}
def EvC {K : PySem.W.Frag} (C : Cc K) (t : TC) (x : Dt) (ρ : List Sl) (R : Bool → List Sl → Prop) : Prop :=
  ∀ G H σ fp, Ok C G H σ ρ fp → ∀ v, Dv K G v x → ∀ Q : Bool → Hp → Prop, (∀ b G' H' ρ' fp', Same G G' → Ok C G' H' σ ρ' fp' → R b ρ' → Q b H') → t v σ H Q
theorem evc_last {R : Bool → List Sl → Prop} (h : EvD C tb ρ fun y ρ1 => OpD C r x y ρ1 fun z => asB (fun b => R b ρ1) z) : EvC C (tcLast r tb) x ρ R := fun G H σ fp O v D Q q =>
  h G H σ fp O _ fun w G1 H1 y ρ1 fp1 e1 O1 D1 h1 => h1 G1 H1 σ fp1 O1 v w (Dv.up e1 x v D) D1 _ fun z G2 H2 d e2 O2 D2 h2 => by
    cases d with
    | bl c =>
      cases D2
      exact ⟨c, rfl, q c G2 H2 ρ1 fp1 (e1.trans e2) O2 h2⟩
    | _ => exact h2.elim
theorem evc_link {R : Bool → List Sl → Prop} (h : EvD C tb ρ fun y ρ1 => OpD C r x y ρ1 fun z => asB (fun b => (b = true → EvC C t y ρ1 R) ∧ (b = false → R false ρ1)) z) : EvC C (tcLink r tb t) x ρ R := fun G H σ fp O v D Q q =>
  h G H σ fp O _ fun w G1 H1 y ρ1 fp1 e1 O1 D1 h1 => h1 G1 H1 σ fp1 O1 v w (Dv.up e1 x v D) D1 _ fun z G2 H2 d e2 O2 D2 h2 => by
    cases d with
    | bl c =>
      cases D2
      refine ⟨c, rfl, ?_⟩
      cases c with
      | true =>
        show t w σ H2 Q
        exact h2.1 rfl G2 H2 σ fp1 O2 w (Dv.up e2 y w D1) Q fun b G3 H3 ρ3 fp3 e3 O3 r3 => q b G3 H3 ρ3 fp3 ((e1.trans e2).trans e3) O3 r3
      | false =>
        show Q false H2
        exact q false G2 H2 ρ1 fp1 (e1.trans e2) O2 (h2.2 rfl)
    | _ => exact h2.elim
theorem evt_chN {R : Bool → List Sl → Prop} (h : EvD C ta ρ fun x ρ1 => EvC C t x ρ1 R) : EvT C (tChT ta t) ρ R := fun G H σ fp O Q q =>
  h G H σ fp O _ fun v G1 H1 x ρ1 fp1 e1 O1 D1 h1 => h1 G1 H1 σ fp1 O1 v D1 Q fun b G2 H2 ρ2 fp2 e2 O2 r => q b G2 H2 ρ2 fp2 (e1.trans e2) O2 r
theorem opd_notB {a b : Bool} {R : Dt → Prop} (k : R (.bl (!decide (a = b)))) : OpD C rNotB (.bl a) (.bl b) ρ R :=
  opd_s (.bl _) _ (fun _ _ => .bl _) (fun G H σ fp O v w hv hw Q q => by
    cases hv
    cases hw
    exact ⟨a, b, rfl, rfl, q⟩) k
end

end
section
/-! DL, part P: within an except suite: defs called there, comprehensions, pairs, sums. -/
open PySem PySem.Spec PyProof.Rows L2 HotX L2H
/-- the handled error stands, out of the reach of what is tracked and of what turns -/
def Warm (X : Cx) : Prop := ∀ {pins : List (Addr × Obj)} {σ : L2.St} {H : Hp} {s : Shared}, Inv X pins σ H s → ∃ p : Addr × Obj, Hot1 X.A p ∧ PinOk X.stack H s p ∧ ∀ b, FpOk X pins H b → p.1 ≠ b
theorem warm_C {X : Cx} (c : HotC X) : Warm X := fun {pins σ H s} I => by
  obtain ⟨p, hot, hp⟩ := c
  have P1 := I.pin p (List.mem_append_left _ hp)
  exact ⟨p, hot, ⟨P1.1, P1.2.1, fun hm => (List.mem_cons.mp (I.stkSub p.1 hm)).elim P1.2.2.1 P1.2.2.2.1, P1.2.2.2.2⟩, fun b f => f.2.2.2.2.2 p (List.mem_append_left _ hp)⟩
theorem warm_S {X : Cx} (c : HotS X) : Warm X := fun {pins σ H s} I => by
  obtain ⟨p, hot, g1, g2, g3, g4⟩ := c
  obtain ⟨hh, us, f1, n1⟩ := id hot
  have lt : p.1 < X.s_0.heap.objs.size := Heap.lt_size g1
  refine ⟨p, hot, ⟨I.base.keep _ _ g1 g2 g3 g4, I.base.free _ _ g1 g2 g4, fun hm => (List.mem_cons.mp (I.stkSub p.1 hm)).elim (fun e => ?_) g3, fun v z => ?_⟩, fun b f e => ?_⟩
  · have h2 := I.ok.above
    rw [← e] at h2
    exact absurd (Nat.lt_of_lt_of_le lt h2) (Nat.lt_irrefl _)
  · rw [f1] at z
    cases z
  · subst e
    rcases f.2.2.2.1 with z | z
    · exact g4 z
    · exact absurd (Nat.lt_of_lt_of_le lt z) (Nat.lt_irrefl _)
theorem Warm.at {X : Cx} {pins : List (Addr × Obj)} {σ : L2.St} {H : Hp} {s : Shared} (c : Warm X) (I : Inv X pins σ H s) : ∃ x1, HotAt X.A x1 s.heap ∧ H x1 = none ∧ ∀ b, FpOk X pins H b → x1 ≠ b := by
  obtain ⟨p, ⟨hh, us, f1, n1⟩, k, f⟩ := c I
  exact ⟨p.1, ⟨hh, p.2, us, k.get, f1, n1⟩, k.free, f⟩
theorem Warm.blk {X : Cx} {pins : List (Addr × Obj)} {σ : L2.St} {H : Hp} {s : Shared} {scope : Scope} {env : Env} {fp : List Addr} (c : Warm X) (I : Inv X pins σ H s) (hf : ∀ b ∈ fp, FpOk X pins H b) : Warm (X.blk s H scope env fp) := by
  obtain ⟨p, hot, k, f⟩ := c I
  exact warm_S (X := X.blk s H scope env fp) ⟨p, hot, k.get, k.free, k.nofs, fun z => f p.1 (hf p.1 z) rfl⟩
/-! iterators -/
structure TurnW (P : Program) (w : World) (K : PySem.W.Frag) (tg : Expr) (J : It) (fp : List Addr) (it : Addr) (tn : Nat → Heap → Prop) : Prop where
  mem : it ∈ fp
  obj : ∀ i h, tn i h → ∀ b ∈ fp, ∃ o, h.get? b = some o ∧ ∀ v, o.data ≠ .cell v
  keep : ∀ i h h', tn i h → (∀ b ∈ fp, ∀ o, h.get? b = some o → h'.get? b = some o) → tn i h'
  item : ∀ (X : Cx), X.prog = P → X.w = w → X.K = K → Warm X → ∀ (i : Nat) (pins : List (Addr × Obj)) (s : Shared) (σ : L2.St) (H : Hp) (E : Value → Shared → Prop), Inv X pins σ H s → (∀ b ∈ fp, FpOk X pins H b) → tn i s.heap → J.go i H →
    wpAny (model P w) X.A (pyNext (.ref it)) (fun r s1 => ∃ u, r = some u ∧
      wpAny (model P w) X.A (letOwnedTupleGo tg (.ref it) u) (fun _ s2 => ∃ x H', Inv X pins σ H' s2 ∧ RelV x u ∧ J.yld i H x H' ∧ tn (i + 1) s2.heap ∧ ∀ b ∈ fp, H' b = none) E s1) E s
  done : ∀ (X : Cx), X.prog = P → X.w = w → X.K = K → Warm X → ∀ (i : Nat) (pins : List (Addr × Obj)) (s : Shared) (σ : L2.St) (H : Hp) (E : Value → Shared → Prop), Inv X pins σ H s → (∀ b ∈ fp, FpOk X pins H b) → tn i s.heap → J.stop i H →
    wpAny (model P w) X.A (pyNext (.ref it)) (fun r s1 => r = none ∧ Inv X pins σ H s1) E s
  self : ∀ (A : Around) (i : Nat) (s : Shared) (Q : Value → Shared → Prop) (E : Value → Shared → Prop), tn i s.heap → Q (.ref it) s → wpAny (model P w) A (pyIter (.ref it)) Q E s
theorem turnW_list {P : Program} {w : World} {K : PySem.W.Frag} {tg : Expr} (a it : Addr) : TurnW P w K tg (Itl K a) [it] it (fun i h => h.IsListIter it a i) where
  mem := List.mem_singleton.mpr rfl
  obj := (turn_list (P := P) (w := w) (K := K) (tg := tg) a it).obj
  keep := (turn_list (P := P) (w := w) (K := K) (tg := tg) a it).keep
  item := by
    rintro X rfl rfl rfl hc i pins s σ H E I hf st ⟨xs, x, hq, hx⟩
    obtain ⟨its, rv, p, hz⟩ := I.list hq
    obtain ⟨u, hu, ru⟩ := rv.get hx
    obtain ⟨f0, f1, f2, f3, f4, f5⟩ := hf it (List.mem_singleton.mpr rfl)
    refine wpAny_pyNext_list_item st p.isList (x := u) (by simpa using hu) fun h' st' sb => ?_
    obtain ⟨o, e, c, d⟩ := id st'
    refine ⟨u, rfl, go_of (s := { s with heap := h' }) e c d (by decide) ⟨x, H, I.turned (t' := s.toks) (fun b o hb e => (sb.2 b hb).trans e) f0 f1 f3 f4 f5, ru, ⟨rfl, fun ys hy => ?_⟩, st', fun b hb => (hf b hb).1⟩⟩
    rw [I.list_inj hy hq]; exact hx
  done := by
    rintro X rfl rfl rfl hc i pins s σ H E I hf st ⟨xs, hq, hx⟩
    obtain ⟨its, rv, p, hz⟩ := I.list hq
    obtain ⟨x1, hot, _, ne⟩ := hc.at I
    have F := hf it (List.mem_singleton.mpr rfl)
    have hl := rv.length
    exact listEnd_hot hot (ne it F) st p.isList (by simp; omega) fun h' eb => ⟨rfl, I.turned (t' := s.toks) (fun b o hb e => eb b o hb e) F.1 F.2.1 F.2.2.2.1 F.2.2.2.2.1 F.2.2.2.2.2⟩
  self := fun _ _ _ _ _ st h => wpAny_pyIter_listiter st h
theorem tupEnd_warm {prog : Program} {w : World} {A : Around} {E : Value → Shared → Prop} {s : Shared} {x1 it t : Addr} {i : Nat} {items : Array Value} {Q : Option Value → Shared → Prop} (hot : HotAt A x1 s.heap) (ne : x1 ≠ it) (at_ : s.heap.IsTupleIter it t i) (ist : s.heap.IsTuple t items) (out : items[i]? = none)
    (k : ∀ h', Heap.ExtBut it s.heap h' → Q none { s with heap := h' }) : wpAny (model prog w) A (pyNext (.ref it)) Q E s := by
  obtain ⟨o, h1, h2, h3⟩ := id at_
  obtain ⟨ot, g1, _, n, g2⟩ := ist
  obtain ⟨hh, o1, us, at1, f1, n1⟩ := hot
  unfold pyNext
  refine wpAny_bind (wpAny_attempt (wpAny_callSpecial?_slot (name := Str.ofString "__next__") at_.typeIs slot_tupleiter_next (wpAny_call_entry slot_tupleiter_next at_.typeIs entry_tupleiter_next ?_ (args_tupleiter_next _))))
  refine wpAny_bind (m := field (.ref it) 0) (wpAny_field h1 h3 (x := .ref t) rfl ?_)
  show wpAny _ _ (if (Value.ref t == Value.none) = true then _ else _) _ _ s
  have nn : (Value.ref t == Value.none) = false := rfl
  rw [nn, if_neg Bool.false_ne_true]
  refine wpAny_bind (m := field (.ref it) 1) (wpAny_field h1 h3 (x := .int i 0) rfl ?_)
  refine wpAny_bind (m := seqItems? (.ref t)) (wpAny_seqItems g1 g2 ?_)
  simp only [Int.toNat_natCast, out]
  refine wpAny_bind (wpAny_rule (wpAny_bind (wpAny_setField h1 h3 (by simp) ?_)))
  show wpAny _ _ (newExc (.type "StopIteration") [] >>= fun e => raiseNew e) _ _ _
  refine stop_hot ⟨hh, o1, us, (Heap.get?_update_other _ _ (Ne.symm ne)).trans at1, f1, n1⟩ fun a h' hcls keep => ?_
  obtain ⟨oa, e1, e2⟩ := hcls
  refine wpAny_bind (wpAny_isInstance (T := "StopIteration") (b := true) ⟨oa, e1, e2⟩ isSubtype_stop (wpAny_pure (k _ fun b ob nb e => keep b ob ?_)))
  rw [Heap.get?_update_other _ _ (Ne.symm nb)]
  exact e
theorem turnW_tuple {P : Program} {w : World} {K : PySem.W.Frag} {tg : Expr} (a it : Addr) : TurnW P w K tg (Itt K a) [it] it (fun i h => h.IsTupleIter it a i) where
  mem := List.mem_singleton.mpr rfl
  obj := (turn_tuple (P := P) (w := w) (K := K) (tg := tg) a it).obj
  keep := (turn_tuple (P := P) (w := w) (K := K) (tg := tg) a it).keep
  item := by
    rintro X rfl rfl rfl hc i pins s σ H E I hf st ⟨xs, x, hq, hx⟩
    obtain ⟨its, rv, p, hz⟩ := I.tuple hq
    obtain ⟨u, hu, ru⟩ := rv.get hx
    obtain ⟨f0, f1, f2, f3, f4, f5⟩ := hf it (List.mem_singleton.mpr rfl)
    refine wpAny_pyNext_tuple_item st (show s.heap.IsTuple a its.toArray from p) (x := u) (by simpa using hu) fun h' st' sb => ?_
    obtain ⟨o, e, c, d⟩ := id st'
    refine ⟨u, rfl, go_of (s := { s with heap := h' }) e c d (by decide) ⟨x, H, I.turned (t' := s.toks) (fun b o hb e => (sb.2 b hb).trans e) f0 f1 f3 f4 f5, ru, ⟨rfl, fun ys hy => ?_⟩, st', fun b hb => (hf b hb).1⟩⟩
    rw [I.tuple_inj hy hq]; exact hx
  done := by
    rintro X rfl rfl rfl hc i pins s σ H E I hf st ⟨xs, hq, hx⟩
    obtain ⟨its, rv, p, hz⟩ := I.tuple hq
    obtain ⟨x1, hot, _, ne⟩ := hc.at I
    have F := hf it (List.mem_singleton.mpr rfl)
    have hl := rv.length
    exact tupEnd_warm hot (ne it F) st (show s.heap.IsTuple a its.toArray from p) (by simp; omega) fun h' eb => ⟨rfl, I.turned (t' := s.toks) (fun b o hb e => eb b o hb e) F.1 F.2.1 F.2.2.2.1 F.2.2.2.2.1 F.2.2.2.2.2⟩
  self := fun _ _ _ _ _ st h => wpAny_pyIter_tupleiter st h
def PIEW (X : Cx) (pins : List (Addr × Obj)) (σ : L2.St) (tg : Expr) (R : It → Hp → Prop) (itv : Value) (s2 : Shared) : Prop :=
  ∃ (it : Addr) (fp : List Addr) (tn : Nat → Heap → Prop) (J : It) (H' : Hp), itv = .ref it ∧ Inv X pins σ H' s2 ∧ TurnW X.prog X.w X.K tg J fp it tn ∧ tn 0 s2.heap ∧ (∀ b ∈ fp, FpOk X pins H' b) ∧ R J H'
structure PIW (X : Cx) (tg iter : Expr) (wi : TI) : Prop where
  run : ∀ (pins : List (Addr × Obj)) (s : Shared) (σ : L2.St) (H : Hp) (R : It → Hp → Prop), Inv X pins σ H s → wi σ H R →
    wpAny (model X.prog X.w) X.A (eval iter X.env) (fun v s1 => wpAny (model X.prog X.w) X.A (pyIter v) (PIEW X pins σ tg R) X.xe s1) X.xe s
theorem piW_seq {X : Cx} {tg l : Expr} {tl : TE} (hl : PE X l tl) : PIW X tg l (iSeq X.K tl) := by
  constructor
  intro pins s σ H R I h
  refine thn (hl.run pins s σ H _ I h) fun v s1 hv => ?_
  obtain ⟨x, H1, I1, r1, a, rfl, hc⟩ := hv
  cases r1
  have fresh : ∀ b ∈ [s1.heap.objs.size], FpOk X pins H1 b := fun b hb => by
    rw [List.mem_singleton.mp hb]
    exact I1.fpOk (Nat.le_refl _) (I1.hok.fresh (Nat.le_refl _))
  rcases hc with ⟨⟨xs, hq⟩, q⟩ | ⟨⟨xs, hq⟩, q⟩
  · obtain ⟨its, rv, p, hz⟩ := I1.list hq
    refine wpAny_pyIter_list p.isList ⟨s1.heap.objs.size, [s1.heap.objs.size], _, _, H1, rfl, ?_, turnW_list a _, ?_, fresh, q⟩
    · exact I1.kept (t' := s1.toks) fun b o e => Heap.get?_push_of_some _ e
    · exact ⟨_, Heap.get?_push_size _ rfl, rfl, rfl⟩
  · obtain ⟨its, rv, p, hz⟩ := I1.tuple hq
    refine wpAny_pyIter_tuple (show s1.heap.IsTuple a its.toArray from p) ⟨s1.heap.objs.size, [s1.heap.objs.size], _, _, H1, rfl, ?_, turnW_tuple a _, ?_, fresh, q⟩
    · exact I1.kept (t' := s1.toks) fun b o e => Heap.get?_push_of_some _ e
    · exact ⟨_, Heap.get?_push_size _ rfl, rfl, rfl⟩
/-! pairs -/
theorem kun_warm {prog : Program} {w : World} {A : Around} {E : Value → Shared → Prop} {s : Shared} {x1 l : Addr} {items : Array Value} {Q : List Value → Shared → Prop} (hot : HotAt A x1 s.heap) (isl : s.heap.IsList l items)
    (k : ∀ h', (∀ b o, s.heap.get? b = some o → h'.get? b = some o) → Q items.toList { s with heap := h' }) : wpAny (model prog w) A (unpackItems (.ref l) items.size none) Q E s := by
  obtain ⟨hh, o1, us, at1, f1, n1⟩ := hot
  have lt : l < s.heap.objs.size := by obtain ⟨o, e, _⟩ := isl; exact Heap.lt_size e
  have lx : x1 < s.heap.objs.size := Heap.lt_size at1
  unfold unpackItems notIterableAtAll
  refine wpAny_bind (wpAny_bind (wpAny_specialOf isl.typeIs slot_list_iter.lookup (wpAny_pure ?_)))
  simp only [Bool.false_eq_true, if_false]
  refine wpAny_bind (wpAny_holding (wpAny_pyIter_list isl ?_))
  refine wpAny_bind (wpAny_holding (PySem.W.kun_draw (Nat.ne_of_lt lt) items.size 0 _ _ ⟨_, Heap.get?_push_size _ rfl, rfl, rfl⟩ (isl.push _) (by omega) fun h1 i1 s1 => ?_))
  rw [show List.take items.size (List.drop 0 items.toList) = items.toList from List.take_of_length_le (by simp), if_neg (by simp)]
  have at2 : h1.get? x1 = some o1 := s1.extBut x1 o1 (Nat.ne_of_lt lx) (Heap.get?_push_of_some _ at1)
  refine wpAny_bind (wpAny_holding (listEnd_hot ⟨hh, o1, us, at2, f1, n1⟩ (Nat.ne_of_lt lx) i1 ((isl.push _).extBut s1.extBut (Nat.ne_of_lt lt)) (by simp) fun h2 e2 => ?_))
  simp only [Option.isSome_none, Bool.false_eq_true, if_false]
  exact wpAny_pure (k h2 fun b o e => e2 b o (Nat.ne_of_lt (Heap.lt_size e)) (s1.extBut b o (Nat.ne_of_lt (Heap.lt_size e)) (Heap.get?_push_of_some _ e)))
section
variable {X : Cx}
theorem pgW_seq {es : List Expr} {k : Nat} {t : TGs} {n : Nat} {pos : Pos} (hc : Warm X) (h : PGs X es t)
    (hn : (assignEach es X.env).length = n := by rfl) (hst : (assignEach es X.env).findIdx? (·.1) = none := by rfl) : PG X (.Tuple es k pos) (gSeq X.K n t) := by
  constructor
  intro pins s σ H v u Q I r hw
  obtain ⟨x1, hot, _⟩ := hc.at I
  rcases hw with ⟨a, xs, rfl, hq, hl, hw⟩ | ⟨a, xs, rfl, hq, hl, hw⟩
  · cases r
    obtain ⟨its, rv, ht, hz⟩ := I.tuple hq
    rw [assign_Tuple]
    refine wpAny_bind (wpAny_standAt ?_)
    unfold unpack
    have hsz : (assignEach es X.env).length = its.toArray.size := by rw [hn, ← hl, rv.length, List.size_toArray]
    rw [hsz, hst]
    refine wpAny_bind (wpAny_holding (items_hot hot ht fun h' keep => ?_))
    have I1 : Inv X pins σ H { s with heap := h' } := I.kept (t' := s.toks) fun b o e => keep b o e
    exact h.run pins _ σ H xs _ Q I1 (by simpa using rv) hw
  · cases r
    obtain ⟨its, rv, ht, hz⟩ := I.list hq
    rw [assign_Tuple]
    refine wpAny_bind (wpAny_standAt ?_)
    unfold unpack
    have hsz : (assignEach es X.env).length = its.toArray.size := by rw [hn, ← hl, rv.length, List.size_toArray]
    rw [hsz, hst]
    refine wpAny_bind (wpAny_holding (kun_warm hot ht.isList fun h' keep => ?_))
    have I1 : Inv X pins σ H { s with heap := h' } := I.kept (t' := s.toks) fun b o e => keep b o e
    exact h.run pins _ σ H xs _ Q I1 (by simpa using rv) hw
/-! comprehensions -/
theorem lcW {pins : List (Addr × Obj)} {s : Shared} {σ : L2.St} {H : Hp} {Q : VK} {elt tg iter : Expr} {ifs : List Expr} {scope : Scope} {own : List (Str × Nat)} {pos pos' : Pos} {wi : TI} {g : TG} {tt : TT} {te : TE} {use : Option (Value → Sem Unit)} {Qf : Value → Shared → Prop}
    (hc : Warm X) (hN : X.N.Nodup) (I : Inv X pins σ H s) (hi : PIW X tg iter wi) (ok : BlkOk X.N X.env.scope scope own)
    (hg : ∀ (s : Shared) (H : Hp) (C : Addr) (cl : List (Str × Addr)) (fp : List Addr), Warm (X.blk s H scope (compEnvC scope cl C X.env) fp) → PG (X.blk s H scope (compEnvC scope cl C X.env) fp) tg g)
    (ht : ∀ (s : Shared) (H : Hp) (C : Addr) (cl : List (Str × Addr)) (fp : List Addr), Warm (X.blk s H scope (compEnvC scope cl C X.env) fp) → PTs (X.blk s H scope (compEnvC scope cl C X.env) fp) ifs tt)
    (he : ∀ (s : Shared) (H : Hp) (C : Addr) (cl : List (Str × Addr)) (fp : List Addr), Warm (X.blk s H scope (compEnvC scope cl C X.env) fp) → PE (X.blk s H scope (compEnvC scope cl C X.env) fp) elt te) (hs : ∀ x, foldedSetIterable iter X.env x = pure x)
    (h : tLc wi g tt te (own.map (·.2)) σ H Q)
    (hRR : ∀ D C s' m H', Inv X pins σ H' s' → Q (.ref D) H' → s'.heap.Ns C m → FpOk X pins H' C → compPost (model X.prog X.w) X.A X.xe use Qf (.ref D) C (.ok .next) s') :
    wpAny (model X.prog X.w) X.A (comprehension (.ListComp elt [⟨tg, iter, ifs, 0⟩] scope pos) scope X.env pos' (newList []) false (eval iter X.env) use) Qf X.xe s := by
  have clo : ∀ z ∈ scope.names, z.2 = .free → ∃ c, X.env.cells.lookup z.1 = some c := fun z hz e => (ok.free z hz e).elim (fun k => I.ok.has _ (.inl k)) fun k => I.ok.has _ (.inr k)
  refine wpAny_comprehension_free (use := use) rfl hs (closure_ok clo) ok.kind (fun z hz e => by rw [ok.uniq z hz, e]) (thn (hi.run pins s σ H _ I h) fun xv s1 hx => thn hx fun itv s2 h2 => ?_)
  obtain ⟨it, fp, tn, J, H2, rfl, I2, T, st2, f2, q⟩ := h2
  refine wpAny_newObj_type (newEnv_comp ?_) (by show 0 ≤ sizeLine; decide)
  generalize hD : s2.heap.objs.size = D
  have nD : H2 D = none := I2.hok.fresh (Nat.le_of_eq hD)
  obtain ⟨W, ⟨m0, w0⟩, turn⟩ := q D nD
  have lt2 : ∀ b ∈ fp, b < D := fun b hb => by
    obtain ⟨o, e, _⟩ := T.obj _ _ st2 b hb
    rw [← hD]
    exact Heap.lt_size e
  -- the new list
  generalize e3 : ({ s2 with heap := s2.heap.push { cls := .type "list", data := .seq ([] : List Value).toArray } } : Shared) = s3
  have h3 : s3.heap = s2.heap.push { cls := .type "list", data := .seq ([] : List Value).toArray } := by rw [← e3]
  have I3 : Inv X pins σ (upd H2 D (.lst [])) s3 := by
    rw [← e3]
    refine I2.laid (t' := s2.toks) (fun b o e => Heap.get?_push_of_some _ e) (Nat.le_of_eq hD) ⟨Nat.zero_le _, [], 0, .nil, ?_⟩
    rw [← hD]
    exact Heap.get?_push_size _ rfl
  have F3 : ∀ b ∈ fp, FpOk X pins (upd H2 D (.lst [])) b := fun b hb => ⟨by rw [upd_ne (Nat.ne_of_lt (lt2 b hb))]; exact (f2 b hb).1, (f2 b hb).2⟩
  have st3 : tn 0 s3.heap := T.keep _ _ _ st2 fun b _ o e => by rw [h3]; exact Heap.get?_push_of_some _ e
  -- the block
  have B := block_start I3 ok hN (fp := fp) fun b hb => ⟨F3 b hb, by rw [h3, Heap.size_push, hD]; exact Nat.lt_succ_of_lt (lt2 b hb)⟩
  have hS : Warm (X.blk s3 (upd H2 D (.lst [])) scope (compEnvC scope (cellsFrom (s3.heap.objs.size + 1) scope.names (cloFrom X.env.cells scope.names [])) s3.heap.objs.size X.env) fp) := hc.blk I3 F3
  have pg := hg s3 (upd H2 D (.lst [])) s3.heap.objs.size (cellsFrom (s3.heap.objs.size + 1) scope.names (cloFrom X.env.cells scope.names [])) fp hS
  have pt := ht s3 (upd H2 D (.lst [])) s3.heap.objs.size (cellsFrom (s3.heap.objs.size + 1) scope.names (cloFrom X.env.cells scope.names [])) fp hS
  have pe := he s3 (upd H2 D (.lst [])) s3.heap.objs.size (cellsFrom (s3.heap.objs.size + 1) scope.names (cloFrom X.env.cells scope.names [])) fp hS
  show codeAny _ _ (.compStart (.ListComp elt [⟨tg, iter, ifs, 0⟩] scope pos) 0 (.ref it) (.ref D) (compEnvC scope (cellsFrom (s3.heap.objs.size + 1) scope.names (cloFrom X.env.cells scope.names [])) s3.heap.objs.size X.env)) (compPost (model X.prog X.w) X.A X.xe use Qf (.ref D) s3.heap.objs.size) { s3 with heap := pushCells (s3.heap.push { cls := .type "dict", data := .dict #[] }) scope.names }
  have cL : (compEnvC scope (cellsFrom (s3.heap.objs.size + 1) scope.names (cloFrom X.env.cells scope.names [])) s3.heap.objs.size X.env).locals = s3.heap.objs.size := rfl
  have n3 : ∀ b ∈ fp, (upd H2 D (.lst [])) b = none := fun b hb => (F3 b hb).1
  generalize compEnvC scope (cellsFrom (s3.heap.objs.size + 1) scope.names (cloFrom X.env.cells scope.names [])) s3.heap.objs.size X.env = ce at B pg pt pe hS cL ⊢
  generalize upd H2 D (.lst []) = H3 at I3 B pg pt pe hS w0 n3 F3
  generalize e4 : ({ s3 with heap := pushCells (s3.heap.push { cls := .type "dict", data := .dict #[] }) scope.names } : Shared) = s4 at B ⊢
  have st4 : tn 0 s4.heap := T.keep _ _ _ st3 fun b _ o e => by rw [← e4]; exact pushCells_keeps _ _ _ _ (Heap.get?_push_of_some _ e)
  have fpk : ∀ {σ' : L2.St} {H' : Hp} {s' : Shared}, Inv (X.blk s3 H3 scope ce fp) [] σ' H' s' → (∀ b ∈ fp, H' b = none) → ∀ b ∈ fp, FpOk (X.blk s3 H3 scope ce fp) [] H' b := fun {σ' H' s'} I' hn b hb =>
    ⟨hn b hb, (I'.ok.exf b hb).1, I'.ok.exfs b hb, .inl hb, fun x c e => (I'.ok.exf b hb).2 x c e, fun p hp => absurd (show p ∈ ([] : List (Addr × Obj)) ++ [] from hp) (by simp)⟩
  have loop : codeAny (model X.prog X.w) X.A (.compLoop (.ListComp elt [⟨tg, iter, ifs, 0⟩] scope pos) 0 (.ref it) (.ref D) ce) (compPost (model X.prog X.w) X.A X.xe use Qf (.ref D) s3.heap.objs.size) s4 := by
    refine compLoop_any (fun n s' => ∃ i H', Inv (X.blk s3 H3 scope ce fp) [] (L2.wipe σ (own.map (·.2))) H' s' ∧ tn i s'.heap ∧ (∀ b ∈ fp, H' b = none) ∧ W i n H') ?_ m0 ⟨0, H3, B, st4, n3, w0⟩
    rintro n s5 ⟨i, H5, I5, st5, n5, w5⟩
    rcases turn i n H5 w5 with ⟨stop, qq⟩ | ⟨go, Nx, hNx, step⟩
    · refine thnF (T.done (X.blk s3 H3 scope ce fp) rfl rfl rfl hS i [] s5 _ H5 (fun _ _ => False) I5 (fpk I5 n5) st5 stop) fun r s6 ⟨hr, I6⟩ => ?_
      subst hr
      have I7 : Inv X pins σ H5 s6 := I3.call' (ch := fp) I6.os I6.base I6.hok I6.bare fun b hb => ⟨(F3 b hb).2.2.2.1, (F3 b hb).2.1, (F3 b hb).2.2.2.2.1, (F3 b hb).2.2.2.2.2⟩
      have nC : H5 s3.heap.objs.size = none := by
        have z : H5 ce.locals = none := I6.free
        rw [cL] at z
        exact z
      obtain ⟨m, hn, _⟩ := I6.loc
      have hn : s6.heap.Ns ce.locals m := hn
      rw [cL] at hn
      exact hRR D s3.heap.objs.size s6 m H5 I7 qq hn (I3.fpOk (Nat.le_refl _) nC)
    · refine thnF (T.item (X.blk s3 H3 scope ce fp) rfl rfl rfl hS i [] s5 _ H5 (fun _ _ => False) I5 (fpk I5 n5) st5 go) fun r s6 ⟨u, hr, h6⟩ => ?_
      subst hr
      refine thnF h6 fun _ s7 ⟨x, H7, I7, r7, y7, st7, n7⟩ => ?_
      refine thnF (pg.run _ s7 _ H7 x u _ (I7.pinned (fpk I7 n7) (T.obj _ _ st7)) r7 (step x H7 y7)) fun _ s8 ⟨σ8, H8, I8, hw8, q8⟩ => ?_
      refine thnF (pt.run _ s8 σ8 H8 _ I8 q8) fun b s9 ⟨H9, I9, q9⟩ => ?_
      have fin : ∀ {s' : Shared} {H' : Hp}, Inv (X.blk s3 H3 scope ce fp) ([] ++ pinsAt fp s7.heap) σ8 H' s' → Nx H' → ∃ m, m < n ∧ ∃ i H', Inv (X.blk s3 H3 scope ce fp) [] (L2.wipe σ (own.map (·.2))) H' s' ∧ tn i s'.heap ∧ (∀ b ∈ fp, H' b = none) ∧ W i m H' := fun {s' H'} I' nx => by
        obtain ⟨m', hm, w'⟩ := hNx H' nx
        have pin : ∀ b ∈ fp, ∀ o, s7.heap.get? b = some o → s'.heap.get? b = some o ∧ H' b = none := fun b hb o e =>
          let z := I'.pin (b, o) (List.mem_append_right _ (List.mem_append_right _ (mem_pinsAt hb e)))
          ⟨z.1, z.2.1⟩
        refine ⟨m', hm, i + 1, H', (I'.unpinned (pins := [])).weak (by rw [← hw8, wipe_length]) (fun j v e => ?_), T.keep _ _ _ st7 fun b hb o e => (pin b hb o e).1, fun b hb => ?_, w'⟩
        · rw [← hw8] at e
          exact (wipe_some e).1
        · obtain ⟨o, e, _⟩ := T.obj _ _ st7 b hb
          exact (pin b hb o e).2
      cases b with
      | false =>
        simp only [Bool.false_eq_true, if_false] at q9 ⊢
        exact fin I9 q9
      | true =>
        simp only [if_true] at q9 ⊢
        refine thnF (pe.run _ s9 σ8 H9 _ I9 q9) fun z s10 ⟨yv, H10, I10, r10, acc, hD10, hz10, nx⟩ => ?_
        exact app_ok (X := X.blk s3 H3 scope ce fp) I10 hD10 hz10 r10 fun s11 I11 => fin I11 nx
  exact codeAny_compStart_list loop (T.self X.A 0 _ _ _ st4 loop)
theorem peW_lc {elt tg iter : Expr} {ifs : List Expr} {scope : Scope} {own : List (Str × Nat)} {pos : Pos} {wi : TI} {g : TG} {tt : TT} {te : TE} (hc : Warm X) (hN : X.N.Nodup) (hi : PIW X tg iter wi) (ok : BlkOk X.N X.env.scope scope own)
    (hg : ∀ (s : Shared) (H : Hp) (C : Addr) (cl : List (Str × Addr)) (fp : List Addr), Warm (X.blk s H scope (compEnvC scope cl C X.env) fp) → PG (X.blk s H scope (compEnvC scope cl C X.env) fp) tg g)
    (ht : ∀ (s : Shared) (H : Hp) (C : Addr) (cl : List (Str × Addr)) (fp : List Addr), Warm (X.blk s H scope (compEnvC scope cl C X.env) fp) → PTs (X.blk s H scope (compEnvC scope cl C X.env) fp) ifs tt)
    (he : ∀ (s : Shared) (H : Hp) (C : Addr) (cl : List (Str × Addr)) (fp : List Addr), Warm (X.blk s H scope (compEnvC scope cl C X.env) fp) → PE (X.blk s H scope (compEnvC scope cl C X.env) fp) elt te) (hs : ∀ x, foldedSetIterable iter X.env x = pure x := by intro _; rfl) :
    PE X (.ListComp elt [⟨tg, iter, ifs, 0⟩] scope pos) (tLc wi g tt te (own.map (·.2))) := by
  constructor
  intro pins s σ H Q I h
  rw [eval_ListComp]
  refine lcW hc hN I hi ok hg ht he hs h fun D C s' m H' I' q hn f => ⟨m, hn, fun h'' sb => ⟨.ref D, H', I'.turned (t' := s'.toks) (fun b o hb e => (sb.2 b hb).trans e) f.1 f.2.1 f.2.2.2.1 f.2.2.2.2.1 f.2.2.2.2.2, rfl, q⟩⟩
theorem psW_setLc {i : Nat} {y : Str} {py : Pos} {elt tg iter : Expr} {ifs : List Expr} {scope : Scope} {own : List (Str × Nat)} {pos spos : Pos} {wi : TI} {g : TG} {tt : TT} {te : TE} (hc : Warm X) (hN : X.N.Nodup) (hy : X.N[i]? = some y) (hyl : X.env.scope.names.lookup y = some .local)
    (hsw : swapsWith (.ListComp elt [⟨tg, iter, ifs, 0⟩] scope pos) (some (.Name y py)) spos.line X.env = pure true) (hi : PIW X tg iter wi) (ok : BlkOk X.N X.env.scope scope own)
    (hg : ∀ (s : Shared) (H : Hp) (C : Addr) (cl : List (Str × Addr)) (fp : List Addr), Warm (X.blk s H scope (compEnvC scope cl C X.env) fp) → PG (X.blk s H scope (compEnvC scope cl C X.env) fp) tg g)
    (ht : ∀ (s : Shared) (H : Hp) (C : Addr) (cl : List (Str × Addr)) (fp : List Addr), Warm (X.blk s H scope (compEnvC scope cl C X.env) fp) → PTs (X.blk s H scope (compEnvC scope cl C X.env) fp) ifs tt)
    (he : ∀ (s : Shared) (H : Hp) (C : Addr) (cl : List (Str × Addr)) (fp : List Addr), Warm (X.blk s H scope (compEnvC scope cl C X.env) fp) → PE (X.blk s H scope (compEnvC scope cl C X.env) fp) elt te) (hs : ∀ x, foldedSetIterable iter X.env x = pure x := by intro _; rfl) :
    PS X (.Assign [.Name y py] (.ListComp elt [⟨tg, iter, ifs, 0⟩] scope pos) spos) (tAsg (tLc wi g tt te (own.map (·.2))) (gName i)) := by
  constructor
  intro pins s σ H D I h
  rw [exec_Assign_Name_used _ _ _ _ hsw]
  refine wpAny_bind (wpAny_standAt (wpAny_bind ?_))
  show wpAny _ X.A (do let _ ← comprehension (.ListComp elt [⟨tg, iter, ifs, 0⟩] scope pos) scope X.env (firstIterPos [⟨tg, iter, ifs, 0⟩] pos) (newList []) false (eval iter X.env) (some (assign (.Name y py) X.env))) _ _ s
  have h : tLc wi g tt te (own.map (·.2)) σ H (fun x H1 => gName i x σ H1 D.nx) := h
  refine wpAny_bind (thn (lcW (Qf := fun _ s' => SP X pins D .next s') hc hN I hi ok hg ht he hs h fun L C s' m H' I' q hn f => ?_) fun _ s' hq => wpAny_pure (wpAny_pure hq))
  show wpAny _ _ (assign (.Name y py) X.env (.ref L)) _ _ _
  refine wpAny_assign_Name (store_ok2 (v := V.ref L) I' hN hy (.inl hyl) rfl (fun s2 I2 ⟨a, sb, ha⟩ => ?_) (.inr hyl))
  have ne : C ≠ a := by
    rcases ha with z | z
    · rw [z]; exact f.2.1
    · exact fun e => f.2.2.2.2.1 y a z e.symm
  exact ⟨m, hn.sameBut sb ne, fun h3 sb3 => ⟨_, H', I2.turned (t' := s2.toks) (fun b o hb e => (sb3.2 b hb).trans e) f.1 f.2.1 f.2.2.2.1 f.2.2.2.2.1 f.2.2.2.2.2, q⟩⟩
end
/-! sums, all: lists gone through there -/
theorem walksW {prog : Program} {w : World} {A : Around} {x1 : Addr} {o1 : Obj} {us : Array Value} (hh : A.handled = some (.ref x1)) (f1 : o1.data = .fields us) (n1 : us[2]? = some .none) (I ax : Addr) (hne : ax ≠ I) (hx : x1 ≠ I) (items : Array Value) :
    Walks prog w A I [I, ax, x1] [I] items.size (fun i v => items[i]? = some v) (fun i h => h.IsListIter I ax i ∧ h.IsList ax items ∧ h.get? x1 = some o1) where
  sub := fun b hb => by simp at hb; simp [hb]
  frame := fun _ _ _ st hk => ⟨st.1.at fun o e => hk I (by simp) o e, st.2.1.at fun o e => hk ax (by simp) o e, hk x1 (by simp) _ st.2.2⟩
  item := fun i s Q E hi st hQ => by
    refine wpAny_pyNext_list_item st.1 st.2.1 (x := items[i]) (by simp [hi]) fun h' hit' hs' => ?_
    exact hQ _ h' s.toks (by simp [hi]) ⟨hit', st.2.1.extBut hs'.extBut hne, hs'.extBut _ _ hx st.2.2⟩ fun b o hb e => hs'.extBut b o (fun h => hb (by simp [h])) e
  done := fun s Q E st hQ => listEnd_hot ⟨hh, o1, us, st.2.2, f1, n1⟩ hx st.1 st.2.1 (by simp) fun h' he' => hQ h' s.toks fun b o hb e => he' b o (fun h => hb (by simp [h])) e
  self := fun _ _ _ _ st hQ => wpAny_pyIter_listiter st.1 hQ
section
variable {X : Cx}
theorem crW_all (hc : Warm X) : CallR X (.builtin "all") (rAll X.K) := by
  intro pins s σ H vs us Q I r h
  obtain ⟨a, bs, rfl, hs, q⟩ := h
  obtain ⟨its, rv, hl, _⟩ := I.list hs
  obtain ⟨x1, ⟨hh, o1, vs1, at1, f1, n1⟩, nx, _⟩ := hc.at I
  rw [Vals.ref1 r]
  have hb := rv.bls
  refine call_all_walk (iter_any hl.isList fun s₂ e2 st hne => ?_)
  subst e2
  refine ⟨_, _, _, _, _, _, _, rfl, walksW (A := X.A.in1) (o1 := o1) hh f1 n1 _ a hne (Nat.ne_of_lt (Heap.lt_size at1)) its.toArray, ⟨st.1, st.2, Heap.get?_push_of_some _ at1⟩, truth_bools hb, fun h' tk hk => ?_⟩
  refine ⟨.bl _, H, I.kept fun b o eo => hk b o (fun hmem => ?_) (Heap.get?_push_of_some _ eo), ?_, q⟩
  · rcases List.mem_cons.mp hmem with e1 | hmem
    · exact absurd (e1 ▸ Heap.lt_size eo) (Nat.lt_irrefl _)
    · cases hmem
  · show Value.bool _ = Value.bool _
    rw [← L2.all_range, hb, List.size_toArray, List.length_map]
theorem crW_sum (hc : Warm X) : CallR X (.builtin "sum") (rSum X.K) := by
  intro pins s σ H vs us Q I r h
  obtain ⟨a, ns, rfl, hs, q⟩ := h
  obtain ⟨its, rv, hl, _⟩ := I.list hs
  obtain ⟨x1, ⟨hh, o1, vs1, at1, f1, n1⟩, nx, _⟩ := hc.at I
  rw [Vals.ref1 r]
  have hi := rv.ints
  obtain ⟨xs, e⟩ := hi.allInts.items
  have hn : numsOf (intItems xs).toList = ns := by rw [← e]; exact hi.numsOf
  rw [nums_intItems] at hn
  have hl' := hl.isList
  rw [e] at hl'
  have e3 : preSum (numAt xs) (intItems xs).size = ns.sum := by rw [show (intItems xs).size = xs.size by simp [intItems], preSum_eq, List.take_of_length_le (by simp), hn]
  refine call_sum_walkG (iter_intList hl' fun s₂ e2 st hfp hlI => ?_)
  subst e2
  refine ⟨_, _, _, _, _, _, numAt xs, rfl, walksW (A := X.A.in1) (o1 := o1) hh f1 n1 _ a hlI (Nat.ne_of_lt (Heap.lt_size at1)) (intItems xs), ⟨st.1, st.2, Heap.get?_push_of_some _ at1⟩, fun b hb => ?_, (fun _ _ => intItems_at), fun h' tk t' hk => ?_⟩
  · simp only [List.mem_cons, List.not_mem_nil, or_false] at hb
    rcases hb with rfl | rfl | rfl
    · exact hfp _ (by simp)
    · exact hfp _ (by simp)
    · exact Heap.lt_size (Heap.get?_push_of_some _ at1)
  · rw [e3]
    exact ⟨.int _, H, I.kept (old_kept hk), ⟨_, rfl⟩, q⟩
end
theorem _root_.L2H.RoomH.units {k : Nat} {A : Around} (r : RoomH k A) : A.units + 64 < cLine := by have := r.un; omega
theorem roomH_mark {k : Nat} {A : Around} {e : Option Value} (r : RoomH k A) : RoomH k (A.mark e) := ⟨r.dp, r.un⟩
/-! defs called there -/
structure FnW (P : Program) (w : World) (K : PySem.W.Frag) (mg : Str → Option Value) (base : Heap) (k : Nat) (f : Addr) (fd : FuncData) (ps : List Str) (sp : Addr × Obj → Sp) : Prop where
  len : ∀ p vs H Q E, sp p vs H Q E → vs.length = ps.length
  run : ∀ (A : Around) (outer : List Env) (s : Shared) (H : Hp) (args : Args) (us : List Value) (vs : List V) (Q : VK) (E : XK) (p : Addr × Obj), RoomH k A → Hot1 A p → PinOk outer H s p → Env0 P w K mg base A outer s H → BindsTo s fd args (ps.zip us) → Vals vs us → sp p vs H Q E →
    codeAny (model P w) A (.call (.ref f) args) (L2.CR CX0 outer P w H s Q E) s
section
variable {P : Program} {w : World} {K : PySem.W.Frag} {mg : Str → Option Value} {base : Heap}
theorem fnW_of {x qual : Str} {st : Stmt} {f : Addr} {fd : FuncData} {N ps : List Str} {k : Nat} {sp : Addr × Obj → Sp} (F : Fun K x qual st f fd) (S : FnScope N ps (defScope st)) (len : ∀ p vs H Q E, sp p vs H Q E → vs.length = ps.length)
    (hbody : ∀ (cdv : Value) (A : Around) (outer : List Env) (s : Shared) (H : Hp) (vs : List V) (Q : VK) (E : XK) (p : Addr × Obj), Hot1 A p → RoomH k (A.deeper (PyProof.Rows.envOfC qual (defScope st) s.heap.objs.size f cdv)) → sp p vs H Q E →
      ∃ t, PSs (cxH CX0 P w K mg base N qual (defScope st) f cdv A outer s H E p) (defBody st) t ∧ t { nx := fun _ H' => Q .non H', rt := Q } (L2.start N vs) H) : FnW P w K mg base (k + 1) f fd ps sp := by
  obtain ⟨oc, od, kV, doc, pm, an, cdv, ct, osl, rfl, lk, hcd⟩ := F.ex
  refine ⟨len, fun A outer s H args us vs Q E p hr hot hpin e0 hb r hsp => ?_⟩
  have ext := fun (b : Addr) (o : Obj) (e : base.get? b = some o) => (e0.bs b o e).1
  have KX : K.In s.heap := e0.mod.kin.keeps ext
  have kinds : ∀ y ∈ ps.zip us, (defScope st).names.lookup y.1 = some .local ∨ ((defScope st).names.lookup y.1 = some .cell ∧ ((cellsFrom (s.heap.objs.size + 1) (defScope st).names []).lookup y.1).isSome = true) := by
    rintro ⟨n, v⟩ hy
    rcases S.par n (List.of_mem_zip hy).1 with q | q
    · exact .inl q
    · exact .inr ⟨q, PySem.W.cellsFrom_some _ _ _ (.inl q)⟩
  refine codeAny_call_function hr.depth (KX _ _ lk) rfl S.co S.gen rfl (PySem.W.codeRec_of KX hcd) (hb _ _ _ _ (wpAny_newFunctionEnv_cells S.kind kinds fun env he s1 x => ?_))
  subst he
  refine ⟨(e0.mod.nolimit.keeps ext).keeps x.toInCall.keep, codeAny_func ?_⟩
  obtain ⟨t, ht, hq⟩ := hbody cdv A outer s H vs Q E p hot (hr.deeper _) hsp
  have fin : ∀ {σ' : L2.St} {H' : Hp} {v : V} {u : Value} {s' : Shared}, Inv (cxH CX0 P w K mg base N qual (defScope st) f cdv A outer s H E p) [] σ' H' s' → RelV v u → Q v H' → L2.CE outer P w H s Q u s' := fun {σ' H' v u s'} J rv q => ⟨v, H', J.os, J.bare, J.base, J.hok, rv, q⟩
  refine wpAny_mono (ht.run [] s1 (L2.start N vs) H _ (inv_startH S hpin e0 (len _ _ _ _ _ hsp) r x) hq) (fun fl s' hs => ?_) fun e s' hs => hs
  cases fl with
  | ret u => obtain ⟨v, σ', H', J, rv, q⟩ := hs; exact fin J rv q
  | next => obtain ⟨σ', H', J, q⟩ := hs; exact fin (v := V.non) (u := Value.none) J rfl q
  | brk => obtain ⟨_, _, _, q⟩ := hs; exact q.elim
  | cont => obtain ⟨_, _, _, q⟩ := hs; exact q.elim
theorem fnW_dl {ι : Type} {cond : Addr × Obj → ι → Prop} {c : Addr × Obj → ι → Ctr} {x qual : Str} {st : Stmt} {f : Addr} {fd : FuncData} {N ps : List Str} {k : Nat} (F : Fun K x qual st f fd) (S : FnScope N ps (defScope st)) (len : ∀ p i as R E, c p i as R E → as.length = ps.length)
    (hbody : ∀ (cdv : Value) (A : Around) (outer : List Env) (s : Shared) (H : Hp) (E : XK) (p : Addr × Obj) (i : ι), Hot1 A p → cond p i → RoomH k (A.deeper (PyProof.Rows.envOfC qual (defScope st) s.heap.objs.size f cdv)) →
      ∃ t, PSs (cxH CX0 P w K mg base N qual (defScope st) f cdv A outer s H E p) (defBody st) t ∧ ∀ (C : Cc K) as R Er, c p i as R Er → Sj C t (as ++ List.replicate (N.length - as.length) .no) (fin as R)) :
    FnW P w K mg base (k + 1) f fd ps (fun p vs H Q E => ∃ i, cond p i ∧ (c p i).sp K vs H Q E) := by
  refine fnW_of F S (fun p vs H Q E h => ?_) (fun cdv A outer s H vs Q E p hot hr h => ?_)
  · obtain ⟨i, _, G, as, bs, fp, O, h⟩ := h
    have l := O.len
    rw [List.length_map] at l
    rw [← l]
    exact len _ _ _ _ _ h
  · obtain ⟨i, hi, h⟩ := h
    obtain ⟨t, ht, hs⟩ := hbody cdv A outer s H E p i hot hi hr
    refine ⟨t, ht, ?_⟩
    obtain ⟨G, as, bs, fp, O, h⟩ := h
    refine hs ⟨bs, [], vs, G, H⟩ as _ _ h G H (L2.start N vs) fp (ok_start O) _ ⟨?_, ?_, ?_, ?_⟩
    · rintro G' H' σ' ρ' fp' e O' ⟨hb, r⟩
      exact r .non G' H' (backFp as fp') [] ((Ok.back O O' hb).dv .non)
    · rintro G' H' σ' ρ' fp' e O' z
      exact z.elim
    · rintro G' H' σ' ρ' fp' e O' z
      exact z.elim
    · rintro v G' H' σ' ρ' fp' fv s e O' ⟨hb, r⟩
      exact r v G' H' (backFp as fp') fv (OkV.back O O' hb)
/-- a def that is called there -/
def GdH (P : Program) (w : World) (K : PySem.W.Frag) (mg : Str → Option Value) (base : Heap) (x : Str) (ps : List Str) (L : Nat) (c : Ctr) : Prop :=
  ∃ f fd, mg x = some (.ref f) ∧ PySem.W.keepIn K (.ref f) = true ∧ BA fd ps ∧ FnW P w K mg base L f fd ps (fun _ vs H Q E => ∃ _ : Unit, True ∧ c.sp K vs H Q E)
/-- the class and the fields of the handled error -/
def ExcAt (p : Addr × Obj) (Cl : Addr) : Prop := Zc (.ref Cl) none p.2 ∧ ∃ vs, p.2.data = .fields vs
/-- .. with the handled error, by its class and place -/
def GdE (P : Program) (w : World) (K : PySem.W.Frag) (mg : Str → Option Value) (base : Heap) (x : Str) (ps : List Str) (L : Nat) (c : Addr → Addr → Ctr) : Prop :=
  ∃ f fd, mg x = some (.ref f) ∧ PySem.W.keepIn K (.ref f) = true ∧ BA fd ps ∧ FnW P w K mg base L f fd ps (fun p vs H Q E => ∃ Cl : Addr, ExcAt p Cl ∧ (c Cl p.1).sp K vs H Q E)
theorem gdH_of {x : Str} {st : Stmt} {N ps : List Str} {k : Nat} {c : Ctr} (F : Df K mg x st ps) (S : FnScope N ps (defScope st)) (len : ∀ as R E, c as R E → as.length = ps.length) (t : TS)
    (hbody : ∀ (f : Addr) (cdv : Value) (A : Around) (outer : List Env) (s : Shared) (H : Hp) (E : XK) (p : Addr × Obj), Hot1 A p → RoomH k (A.deeper (PyProof.Rows.envOfC x (defScope st) s.heap.objs.size f cdv)) → Warm (cxH CX0 P w K mg base N x (defScope st) f cdv A outer s H E p) → PSs (cxH CX0 P w K mg base N x (defScope st) f cdv A outer s H E p) (defBody st) t)
    (hs : ∀ (C : Cc K) as R Er, c as R Er → Sj C t (as ++ List.replicate (N.length - as.length) .no) (fin as R)) : GdH P w K mg base x ps (k + 1) c := by
  obtain ⟨f, fd, h1, h2, h3⟩ := F
  exact ⟨f, fd, h2, h1.kp, h3, fnW_dl (cond := fun _ _ => True) (c := fun _ _ => c) h1 S (fun _ _ => len) fun cdv A outer s H E p _ hot _ hr => ⟨t, hbody f cdv A outer s H E p hot hr (warm_C ⟨p, hot, List.mem_singleton.mpr rfl⟩), hs⟩⟩
theorem gdE_of {x : Str} {st : Stmt} {N ps : List Str} {k : Nat} {c : Addr → Addr → Ctr} (F : Df K mg x st ps) (S : FnScope N ps (defScope st)) (len : ∀ Cl a as R E, c Cl a as R E → as.length = ps.length) (t : Addr → Addr → TS)
    (hbody : ∀ (f : Addr) (cdv : Value) (A : Around) (outer : List Env) (s : Shared) (H : Hp) (E : XK) (p : Addr × Obj) (Cl : Addr), Hot1 A p → ExcAt p Cl → RoomH k (A.deeper (PyProof.Rows.envOfC x (defScope st) s.heap.objs.size f cdv)) → Warm (cxH CX0 P w K mg base N x (defScope st) f cdv A outer s H E p) → PSs (cxH CX0 P w K mg base N x (defScope st) f cdv A outer s H E p) (defBody st) (t Cl p.1))
    (hs : ∀ Cl a (C : Cc K) as R Er, c Cl a as R Er → Sj C (t Cl a) (as ++ List.replicate (N.length - as.length) .no) (fin as R)) : GdE P w K mg base x ps (k + 1) c := by
  obtain ⟨f, fd, h1, h2, h3⟩ := F
  exact ⟨f, fd, h2, h1.kp, h3, fnW_dl (cond := ExcAt) (c := fun p Cl => c Cl p.1) h1 S (fun p Cl => len Cl p.1) fun cdv A outer s H E p Cl hot he hr => ⟨t Cl p.1, hbody f cdv A outer s H E p Cl hot he hr (warm_C ⟨p, hot, List.mem_singleton.mpr rfl⟩), hs Cl p.1⟩⟩
end
section
variable {X : Cx}
theorem run_fnW {k : Nat} {f : Addr} {fd : FuncData} {ps : List Str} {sp : Addr × Obj → Sp} {pins : List (Addr × Obj)} {σ : L2.St} {H : Hp} {s : Shared} {Q : VK} {us : List Value} {vs : List V} (F : FnW X.prog X.w X.K X.mg X.base k f fd ps sp) (hr : RoomH k X.A) (hb : Binds X.K fd ps []) {p : Addr × Obj} (hot : Hot1 X.A p) (hp : PinOk X.stack H s p)
    (I : Inv X pins σ H s) (r : Vals vs us) (h : sp p vs H Q E0) : wpAny (model X.prog X.w) X.A (call (.ref f) us) (EP X pins σ Q) X.xe s := by
  have b := hb s us I.kIn (by rw [List.append_nil, ← r.length]; exact F.len _ _ _ _ _ h)
  rw [List.append_nil] at b
  refine wpAny_call (codeAny_mono (F.run X.A X.stack s H ⟨us, []⟩ us vs Q E0 p hr hot hp I.env0 b r h) fun r s' hq => ?_)
  cases r with
  | error e => exact hq.elim
  | ok fl =>
    cases fl with
    | ret u => exact I.after hq
    | next => exact hq.elim
    | brk => exact hq.elim
    | cont => exact hq.elim
theorem peW_gd {x : Str} {ps : List Str} {L : Nat} {c : Ctr} {e : Expr} {es : List Expr} {t : TA} {p pos : Pos} (G : GdH X.prog X.w X.K X.mg X.base x ps L c) (hc : Warm X) (hr : RoomH L X.A) (hg : Gl X x) (ha : PA X (e :: es) t)
    (hdb : (x == ("__debug__" : Str)) = false := by decide) (he : starEach (e :: es) X.env = (false, eval e X.env) :: starEach es X.env := by rfl) (hpl : (backTo pos (starEach es X.env)).any (·.1) = false := by rfl) :
    PE X (.Call (.Name x p) (e :: es) [] pos) (tCall (c.sp X.K) [] E0 t) := by
  obtain ⟨f, fd, h1, h2, h3, h4⟩ := G
  refine ⟨fun pins s σ H Q I h => wpAny_Call_Name_kw (ld_glob I hg h1 ?_ hdb)⟩
  refine PySem.W.callWith_K (h₀ := X.base) I.ok.mod.kin h2 (thn (ha.run pos pins s σ H _ I h) fun us s1 ⟨vs, H1, I1, r, q⟩ => ⟨I1.kIn, ?_⟩) he hpl
  obtain ⟨p, hot, hp, _⟩ := hc I1
  have q : Ctr.sp X.K c (vs ++ []) H1 Q E0 := q
  rw [List.append_nil] at q
  exact run_fnW h4 hr h3.b hot hp I1 r ⟨(), trivial, q⟩
theorem peW_gdE {x : Str} {ps : List Str} {L : Nat} {c : Addr → Addr → Ctr} {a Cl : Addr} {oe : Obj} {e : Expr} {es : List Expr} {t : TA} {p pos : Pos} (G : GdE X.prog X.w X.K X.mg X.base x ps L c) (hot : Hot1 X.A (a, oe)) (hp : (a, oe) ∈ X.pn) (hx : ExcAt (a, oe) Cl) (hr : RoomH L X.A) (hg : Gl X x) (ha : PA X (e :: es) t)
    (hdb : (x == ("__debug__" : Str)) = false := by decide) (he : starEach (e :: es) X.env = (false, eval e X.env) :: starEach es X.env := by rfl) (hpl : (backTo pos (starEach es X.env)).any (·.1) = false := by rfl) :
    PE X (.Call (.Name x p) (e :: es) [] pos) (tCall ((c Cl a).sp X.K) [] E0 t) := by
  obtain ⟨f, fd, h1, h2, h3, h4⟩ := G
  refine ⟨fun pins s σ H Q I h => wpAny_Call_Name_kw (ld_glob I hg h1 ?_ hdb)⟩
  refine PySem.W.callWith_K (h₀ := X.base) I.ok.mod.kin h2 (thn (ha.run pos pins s σ H _ I h) fun us s1 ⟨vs, H1, I1, r, q⟩ => ⟨I1.kIn, ?_⟩) he hpl
  have P1 := I1.pin (a, oe) (List.mem_append_left _ hp)
  have q : Ctr.sp X.K (c Cl a) (vs ++ []) H1 Q E0 := q
  rw [List.append_nil] at q
  exact run_fnW h4 hr h3.b hot ⟨P1.1, P1.2.1, fun hm => (List.mem_cons.mp (I1.stkSub a hm)).elim P1.2.2.1 P1.2.2.2.1, P1.2.2.2.2⟩ I1 r ⟨Cl, hx, q⟩
/-! the handled error, asked for its class -/
def rIsP (K : PySem.W.Frag) (x1 Cl : Addr) : List V → Hp → VK → Prop := fun xs H Q => ∃ (c : V) (u : Value) (b : Bool), xs = [.ref x1, c] ∧ ClsV c u ∧ ExcC K Cl ∧ PySem.W.kitOne K (.ref Cl) u = some b ∧ Q (.bl b) H
def rIsPT (K : PySem.W.Frag) (x1 Cl : Addr) : List V → Hp → VK → Prop := fun xs H Q => ∃ (tp : Addr) (cs : List V) (us : List Value) (b : Bool), xs = [.ref x1, .ref tp] ∧ H tp = some (.tup cs) ∧ Paired ClsV cs us ∧ ExcC K Cl ∧ PySem.W.kitAny K (.ref Cl) us = some b ∧ Q (.bl b) H
theorem instAt_of {h : Heap} {p : Addr × Obj} {Cl : Addr} (e : h.get? p.1 = some p.2) (x : ExcAt p Cl) : PySem.W.InstAt h p.1 p.2 Cl none := by
  obtain ⟨a, oc, od, oda, osl⟩ := p
  obtain ⟨⟨z1, z2⟩, vs, d⟩ := x
  dsimp only at z1 z2 d e ⊢
  subst z1 z2 d
  exact ⟨e, rfl, rfl, trivial⟩
theorem call_isP {p : Addr × Obj} {Cl : Addr} (hp : p ∈ X.pn) (x : ExcAt p Cl) : CallR X (.builtin "isinstance") (rIsP X.K p.1 Cl) := fun pn s σ H xs us Q I r h => by
  obtain ⟨c, u, b, rfl, k, E, e, q⟩ := h
  obtain ⟨u1, u2, rfl, r1, r2⟩ := vals2 r
  obtain rfl := k.eq r2
  obtain rfl : u1 = Value.ref p.1 := r1
  exact PySem.W.kia_one (PySem.W.handS_kitx_exc E.hg E.hk E.hs E.hd E.ha E.hn E.ht E.hm) I.kIn (instAt_of (I.pin p (List.mem_append_left _ hp)).1 x) e (fun z => nomatch z) fun tk => ⟨.bl b, H, I.tok tk, rfl, q⟩
theorem call_isPT {p : Addr × Obj} {Cl : Addr} (hp : p ∈ X.pn) (x : ExcAt p Cl) : CallR X (.builtin "isinstance") (rIsPT X.K p.1 Cl) := fun pn s σ H xs us Q I r h => by
  obtain ⟨tp, cs, ws, b, rfl, hT, k, E, e, q⟩ := h
  obtain ⟨u1, u2, rfl, r1, r2⟩ := vals2 r
  obtain rfl : u1 = Value.ref p.1 := r1
  obtain rfl : u2 = Value.ref tp := r2
  obtain ⟨_, its, rv, ⟨oc, od, dt, sl⟩, h1, h2, n, h3⟩ := (show ObjOk X.prog X.w H s.heap tp (.tup cs) from I.hok tp _ hT)
  obtain rfl := ClsV.all k rv
  simp only at h2 h3
  subst h2 h3
  exact PySem.W.kia_tup (PySem.W.handS_kitx_exc E.hg E.hk E.hs E.hd E.ha E.hn E.ht E.hm) I.kIn (instAt_of (I.pin p (List.mem_append_left _ hp)).1 x) h1 e (fun z => nomatch z) fun tk => ⟨.bl b, H, I.tok tk, rfl, q⟩
end
/-- the handled error as a thing -/
def exW (x1 : Addr) : Wd where
  W := fun _ _ _ v fp => v = .ref x1 ∧ fp = []
  st := fun h _ _ => h
section
variable {K : PySem.W.Frag} {C : Cc K} {ρ : List Sl} {P : En}
theorem ev_exW {i : Nat} {q : Bool} {x1 : Addr} (hi : ρ[i]? = some (.w q (exW x1))) {G H : Hp} {σ : L2.St} {fp : Nat → List Addr} (O : Ok C G H σ ρ fp) : σ[i]? = some (some (V.ref x1)) := by
  obtain ⟨v, h1, ⟨h2, _⟩, _⟩ := O.sl i _ hi
  rw [h1, h2]
theorem evd_isP {R : Dt → List Sl → Prop} {i : Nat} {q : Bool} {x1 Cl D : Addr} (hi : ρ[i]? = some (.w q (exW x1))) (h : ExcC K Cl ∧ ∃ b, PySem.W.kitOne K (.ref Cl) (.ref D) = some b ∧ R (.bl b) ρ) : EvD C (tCB (rIsP K x1 Cl) (tCons (tVar i) (tCons (tC (.ref D)) tNil))) ρ R := fun G H σ fp O Q qq => by
  obtain ⟨h2, b, h3, h4⟩ := h
  exact ⟨_, ev_exW hi O, .ref D, .ref D, b, rfl, .own D, h2, h3, qq _ G H _ ρ fp (Same.refl G) O (.bl b) h4⟩
theorem evd_isPv {R : Dt → List Sl → Prop} {i : Nat} {q : Bool} {x1 Cl : Addr} {n : String} (hi : ρ[i]? = some (.w q (exW x1))) (h : ExcC K Cl ∧ ∃ b, PySem.W.kitOne K (.ref Cl) (.type n) = some b ∧ R (.bl b) ρ) : EvD C (tCB (rIsP K x1 Cl) (tCons (tVar i) (tCons (tC (.ty n)) tNil))) ρ R := fun G H σ fp O Q qq => by
  obtain ⟨h2, b, h3, h4⟩ := h
  exact ⟨_, ev_exW hi O, .ty n, .type n, b, rfl, .ty n, h2, h3, qq _ G H _ ρ fp (Same.refl G) O (.bl b) h4⟩
theorem evd_isPT {R : Dt → List Sl → Prop} {i : Nat} {q : Bool} {x1 Cl : Addr} {cs : List Addr} (hi : ρ[i]? = some (.w q (exW x1))) (h : ExcC K Cl ∧ cs.length ≤ 1000 ∧ ∃ b, PySem.W.kitAny K (.ref Cl) (cs.map Value.ref) = some b ∧ R (.bl b) ρ) :
    EvD C (tCB (rIsPT K x1 Cl) (tCons (tVar i) (tCons (tTup (tCls (cs.map V.ref))) tNil))) ρ R := fun G H σ fp O Q qq => by
  obtain ⟨h2, h0, b, h3, h4⟩ := h
  refine ⟨_, ev_exW hi O, tCls_run ⟨by rw [List.length_map]; exact Nat.le_trans h0 (by decide), fun p hp => ?_⟩⟩
  have pr : ∀ l : List Addr, Paired ClsV (l.map V.ref) (l.map Value.ref) := fun l => by
    induction l with
    | nil => exact .nil
    | cons c l ih => exact .cons (.own c) ih
  exact ⟨p, cs.map V.ref, cs.map Value.ref, b, rfl, upd_same, pr cs, h2, h3, qq _ G _ _ ρ fp (Same.refl G) (O.scr (o := .tup (cs.map V.ref)) hp) (.bl b) h4⟩
/-! try .. except X as n, a def called in the suite -/
def tTryW (K : PySem.W.Frag) (c : Value) (i : Nat) (tb : WX → TS) (t : Addr → Addr → TS) (Wo : WX) : TS := fun D σ H => tb (wAs K c i (fun a cls d D σ H => ∃ Cl, cls = .ref Cl ∧ d = none ∧ t Cl a D σ H) Wo D) D σ H
theorem sj_tryW {c : Value} {i : Nat} {tb : WX → TS} {ts : Addr → Addr → TS} {W : WX} {EO : Addr → List Sl → Prop} (ho : XW C W EO) (Er : Addr → List Sl → Prop) (hb : ∀ (C' : Cc K) (W' : WX), XW C' W' Er → Sj C' (tb W') ρ P)
    (hs : ∀ Cl ρ', Er Cl ρ' → ∃ b, PySem.W.exmOne K (.ref Cl) c = some b ∧ (b = true → asgOk ρ' i = true ∧ ∀ a, Sj C (ts Cl a) (ρ'.set i (.w false (exW a))) ⟨fun ρ => P.nx (ρ.set i .no), fun ρ => P.bk (ρ.set i .no), fun ρ => P.ct (ρ.set i .no), P.rt⟩) ∧ (b = false → EO Cl ρ')) :
    Sj C (tTryW K c i tb ts W) ρ P := fun G H σ fp O D E => by
  refine hb ({ C with G0 := G }) _ ?_ G H σ fp O.base D ⟨?_, ?_, ?_, ?_⟩
  · intro Cl ρ' er G' H' σ' fp' O'
    have O1 := O.unbase O'
    obtain ⟨b, h1, h2, h3⟩ := hs Cl ρ' er
    refine ⟨b, h1, fun e a ha => ⟨Cl, rfl, rfl, ?_⟩, fun e => ho Cl ρ' (h3 e) G' H' σ' fp' O1⟩
    obtain ⟨g1, g2⟩ := h2 e
    have OV : OkV C G' H' σ' ρ' fp' (.ref a) [] (.w false (exW a)) := ⟨O1, ⟨⟨rfl, rfl⟩, fun _ _ z => absurd z List.not_mem_nil⟩, fun _ _ _ z => absurd z List.not_mem_nil, fun _ z => absurd z List.not_mem_nil⟩
    have O3 := OV.store g1 (fun _ z => nomatch z)
    exact g2 a _ _ _ _ O3 _ ⟨fun G4 H4 σ4 ρ4 fp4 e4 O4 z => E.nx G4 H4 _ _ _ (O'.e0.trans e4) (O4.clear i) z, fun G4 H4 σ4 ρ4 fp4 e4 O4 z => E.bk G4 H4 _ _ _ (O'.e0.trans e4) (O4.clear i) z, fun G4 H4 σ4 ρ4 fp4 e4 O4 z => E.ct G4 H4 _ _ _ (O'.e0.trans e4) (O4.clear i) z,
      fun v G4 H4 σ4 ρ4 fp4 fv s e4 O4 z => E.rt v G4 H4 σ4 ρ4 fp4 fv s (O'.e0.trans e4) O4 z⟩
  · exact fun G4 H4 σ4 ρ4 fp4 e4 O4 z => E.nx G4 H4 σ4 ρ4 fp4 e4 (O.unbase O4) z
  · exact fun G4 H4 σ4 ρ4 fp4 e4 O4 z => E.bk G4 H4 σ4 ρ4 fp4 e4 (O.unbase O4) z
  · exact fun G4 H4 σ4 ρ4 fp4 e4 O4 z => E.ct G4 H4 σ4 ρ4 fp4 e4 (O.unbase O4) z
  · exact fun v G4 H4 σ4 ρ4 fp4 fv s e4 O4 z => E.rt v G4 H4 σ4 ρ4 fp4 fv s e4 (OkV.unbase O O4) z
end
section
variable {X : Cx}
theorem ps_tryW {x n : Str} {c : Value} {i : Nat} {body suite : List Stmt} {b₀ : Stmt} {np pos pos' : Pos} {tb : WX → TS} {t : Addr → Addr → TS} {Wo : WX} (hs : X.stack = X.env :: X.outer) (hf : X.env.frame = some X.env.locals) (hN : X.N.Nodup) (hi : X.N[i]? = some n) (hl : X.env.kindOf n = some .local) (hc : Names X x c) (tk : L2N.Takes X Wo)
    (hb : ∀ (W : WX) (pn : List (Addr × Obj)) (xe : Value → Shared → Prop), L2N.Takes (X.tr pn xe) W → PassesOwn (model X.prog X.w) X.A X.env xe → PSs (X.tr pn xe) body (tb W))
    (hsu : ∀ (a : Addr) (oe : Obj) (Cl : Addr) (pn : List (Addr × Obj)), Hot1 (X.suite a ((a, oe) :: pn)).A (a, oe) → ExcAt (a, oe) Cl → PSs (X.suite a ((a, oe) :: pn)) (b₀ :: suite) (t Cl a)) :
    PS X (.Try body [.ExceptHandler (some (.Name x np)) (some n) (b₀ :: suite) pos'] [] [] pos) (tTryW X.K c i tb t Wo) :=
  L2N.ps_try_as hs hf hN hi hl hc tk hb fun a oe cls d pn z vs => ⟨fun pins s σ H D I h => by
    obtain ⟨Cl, rfl, rfl, h⟩ := h
    obtain ⟨us, e⟩ := vs
    exact (hsu a oe Cl pn ⟨rfl, us, e, z.2.2 _ e⟩ ⟨z.zc, us, e⟩).run pins s σ H D I h⟩
end
/-! defs that may raise, where what they raise is asked in a suite: its context is None -/
def GdWN (P : Program) (w : World) (K : PySem.W.Frag) (mg : Str → Option Value) (base : Heap) (x : Str) (ps : List Str) (L : Nat) (c : Ctr) : Prop :=
  ∃ f fd, mg x = some (.ref f) ∧ PySem.W.keepIn K (.ref f) = true ∧ BA fd ps ∧ FnOk P w K mg base (L2N.CX P w) L f fd ps (c.sp K)
theorem takes0N {X : Cx} : L2N.Takes X W0 := fun _ _ x => by
  obtain ⟨_, _, _, _, _, _, _, _, _, _, _, _, _, _, _, _, z⟩ := x
  exact z.elim
section
variable {X : Cx} {W : WX}
theorem pe_gdWN {x : Str} {ps : List Str} {L : Nat} {c : Ctr} {e : Expr} {es : List Expr} {t : TA} {p pos : Pos} (G : GdWN X.prog X.w X.K X.mg X.base x ps L c) (tk : L2N.Takes X W) (hr : Room L X.A) (hg : Gl X x) (ha : PA X (e :: es) t)
    (hdb : (x == ("__debug__" : Str)) = false := by decide) (he : starEach (e :: es) X.env = (false, eval e X.env) :: starEach es X.env := by rfl) (hpl : (backTo pos (starEach es X.env)).any (·.1) = false := by rfl) :
    PE X (.Call (.Name x p) (e :: es) [] pos) (tCallW (c.sp X.K) W t) := by
  obtain ⟨f, fd, h1, h2, h3, h4⟩ := G
  exact pe_callS h4 hr hg h1 h2 h3.b (fun σ => L2N.passAt tk σ) ha hdb he hpl
theorem ps_raiseWN {x m : Str} {Cl : Addr} {j : Nat} {p p2 p3 pos : Pos} (hc : X.calm = true) (tk : L2N.Takes X W) (r : Rai X.K X.mg x Cl) (hg : Gl X x) (hd : (x == ("__debug__" : Str)) = false := by decide) :
    PS X (.Raise (some (.Call (.Name x p) [.Constant (.str m) j p2] [] p3)) none pos) (tRaise W Cl) := L2N.ps_raise hc tk (L2N.pmk_own PySem.F.excBase_ValueError r.q r.g r.kp (raises_own r.sb r.ty) hg hd)
/-- try .. except X: without a name -/
def tTryON (K : PySem.W.Frag) (c : Value) (tb : WX → TS) (t : TS) (Wo : WX) : TS := fun D σ H => tb (wMany K Wo D [(c, fun _ _ _ => t)]) D σ H
theorem ps_tryOWN {x : Str} {c : Value} {body suite : List Stmt} {b₀ : Stmt} {np pos pos' : Pos} {tb : WX → TS} {t : TS} (hs : X.stack = X.env :: X.outer) (hf : X.env.frame = some X.env.locals) (hc : Names X x c) (tk : L2N.Takes X W)
    (hb : ∀ (W : WX) (pn : List (Addr × Obj)) (xe : Value → Shared → Prop), L2N.Takes (X.tr pn xe) W → PassesOwn (model X.prog X.w) X.A X.env xe → PSs (X.tr pn xe) body (tb W))
    (hsu : ∀ (a : Addr) (oe : Obj) (pn : List (Addr × Obj)), Warm (X.suite a ((a, oe) :: pn)) → PSs (X.suite a ((a, oe) :: pn)) (b₀ :: suite) t) :
    PS X (.Try body [.ExceptHandler (some (.Name x np)) none (b₀ :: suite) pos'] [] [] pos) (tTryON X.K c tb t W) :=
  L2N.ps_try_many hs hf tk hb (.cons hc (fun a oe cls d pn z vs => hsu a oe pn (by
    obtain ⟨us, e⟩ := vs
    exact warm_C ⟨(a, oe), ⟨rfl, us, e, z.2.2 _ e⟩, List.mem_cons_self ..⟩)) .nil)
end
section
variable {K : PySem.W.Frag} {C : Cc K} {ρ : List Sl} {P : En} {W : WX}
theorem sj_tryON {c : Value} {tb : WX → TS} {ts : TS} {EO : Addr → List Sl → Prop} (ho : XW C W EO) (Er : Addr → List Sl → Prop) (hb : ∀ (C' : Cc K) (W' : WX), XW C' W' Er → Sj C' (tb W') ρ P)
    (hs : ∀ Cl ρ', Er Cl ρ' → ∃ b, PySem.W.exmOne K (.ref Cl) c = some b ∧ (b = true → Sj C ts ρ' P) ∧ (b = false → EO Cl ρ')) : Sj C (tTryON K c tb ts W) ρ P := sj_tryO ho Er hb hs
end
section
variable {P : Program} {w : World} {K : PySem.W.Frag} {mg : Str → Option Value} {base : Heap}
theorem gdWN_cw {α : Type} {emb : α → List Dt} {pre : α → Prop} {res : α → Sl → Prop} {err : α → Addr → Prop} {x : Str} {st : Stmt} {N ps : List Str} {k : Nat} (F : Df K mg x st ps) (S : FnScope N ps (defScope st)) (len : ∀ a, (emb a).length = ps.length) (t : WX → TS)
    (hb : ∀ (f : Addr) (cdv : Value) (A : Around) (fs : List Env) (s : Shared) (H : Hp) (E : XK), Room k (A.deeper (PyProof.Rows.envOfC x (defScope st) s.heap.objs.size f cdv)) → L2N.Takes (cxOf (L2N.CX P w) P w K mg base N x (defScope st) f cdv A fs s H E) (fun c d _ H => E c d H) →
      PSs (cxOf (L2N.CX P w) P w K mg base N x (defScope st) f cdv A fs s H E) (defBody st) (t fun c d _ H => E c d H))
    (hs : ∀ (C : Cc K) (W : WX) a, pre a → XW C W (fun Cl _ => err a Cl) → Sj C (t W) ((emb a).map Sl.d ++ List.replicate (N.length - ps.length) .no) (finR (res a))) : GdWN P w K mg base x ps (k + 1) (CW emb pre res err) := by
  obtain ⟨f, fd, h1, h2, h3⟩ := F
  refine ⟨f, fd, h2, h1.kp, h3, ?_⟩
  obtain ⟨oc, od, kV, doc, pm, an, cdv, ct, osl, rfl, lk, hcd⟩ := h1.ex
  refine L2.fn_of lk hcd S (fun vs H Q E h => ?_) fun A fs s H vs Q E hr h => ⟨_, hb f cdv A fs s H E hr (L2N.takes_of rfl rfl rfl rfl), ?_⟩
  · obtain ⟨G, as, bs, fp, O, h⟩ := h
    have l := O.len
    rw [List.length_map] at l
    rw [← l]
    exact CW.len len _ _ _ h
  · obtain ⟨G, as, bs, fp, O, a, rfl, hp, hR, hE⟩ := h
    obtain ⟨b1, b2⟩ : (∀ ρ, back ((emb a).map Sl.d) ρ = (emb a).map Sl.d) ∧ ∀ ρ, backOk ((emb a).map Sl.d) ρ = true := ⟨fun ρ => (back_data (ds := emb a) (ρ := ρ)).1, fun ρ => (back_data (ds := emb a) (ρ := ρ)).2⟩
    have B : ∀ {G' H' : Hp} {σ' : L2.St} {ρ : List Sl} {fp' : Nat → List Addr}, Ok (⟨bs, [], vs, G, H⟩ : Cc K) G' H' σ' ρ fp' → Ok (⟨bs, [], vs, G, H⟩ : Cc K) G' H' (vs.map some) ((emb a).map Sl.d) (backFp ((emb a).map Sl.d) fp') := fun {G' H' σ' ρ fp'} O' => by
      have z := Ok.back O O' (b2 ρ)
      rwa [b1 ρ] at z
    have l := O.len
    rw [List.length_map, List.length_map] at l
    have st0 := ok_start (N := N) O
    rw [List.length_map, len a] at st0
    refine hs ⟨bs, [], vs, G, H⟩ (fun c d _ H => E c d H) a hp (fun Cl ρ er G' H' σ' fp' O' => hE Cl er G' H' _ (B O')) G H (L2.start N vs) fp st0 _ ⟨?_, fun _ _ _ _ _ _ _ y => y.elim, fun _ _ _ _ _ _ _ y => y.elim, ?_⟩
    · intro G' H' σ' ρ' fp' e O' r
      exact hR _ r .non G' H' _ [] ((B O').dv .non)
    · intro v G' H' σ' ρ' fp' fv s e O' r
      have y := OkV.back O O' (b2 ρ')
      rw [b1 ρ'] at y
      exact hR _ r v G' H' _ fv y
/-- contracts of defs that are called in a suite -/
theorem gdE_cb {α β : Type} {W : Addr → Addr → β → Wd} {emb : α → List Dt} {pre : Addr → Addr → β → α → Prop} {post : Addr → Addr → β → α → Sl → β → Prop} {x : Str} {st : Stmt} {N ps : List Str} {k : Nat} (F : Df K mg x st ps) (S : FnScope N ps (defScope st)) (len : ∀ a, (emb a).length + 1 = ps.length) (t : Addr → Addr → TS)
    (hbody : ∀ (f : Addr) (cdv : Value) (A : Around) (outer : List Env) (s : Shared) (H : Hp) (E : XK) (p : Addr × Obj) (Cl : Addr), Hot1 A p → ExcAt p Cl → RoomH k (A.deeper (PyProof.Rows.envOfC x (defScope st) s.heap.objs.size f cdv)) → Warm (cxH CX0 P w K mg base N x (defScope st) f cdv A outer s H E p) → PSs (cxH CX0 P w K mg base N x (defScope st) f cdv A outer s H E p) (defBody st) (t Cl p.1))
    (hs : ∀ Cl x1 (C : Cc K) b a, pre Cl x1 b a → Sj C (t Cl x1) (.w true (W Cl x1 b) :: (emb a).map Sl.d ++ List.replicate (N.length - ps.length) .no) (finB (W Cl x1) (post Cl x1 b a))) : GdE P w K mg base x ps (k + 1) (fun Cl x1 => CB (W Cl x1) emb (pre Cl x1) (post Cl x1)) := by
  refine gdE_of F S (fun Cl x1 => CB.len len) t hbody ?_
  rintro Cl x1 C as R Er ⟨b, a, rfl, hp, hR⟩
  rw [List.length_cons, List.length_map, len a]
  have fin2 : ∀ {s : Sl} {ρ' : List Sl}, (∃ b', ρ'.head? = some (.w true (W Cl x1 b')) ∧ post Cl x1 b a s b') → backOk (.w true (W Cl x1 b) :: (emb a).map Sl.d) ρ' = true ∧ R s (back (.w true (W Cl x1 b) :: (emb a).map Sl.d) ρ') := by
    rintro s ρ' ⟨b', e, z⟩
    obtain ⟨h1, h2⟩ := back_data (ds := emb a) (ρ := ρ'.tail)
    constructor
    · show (isQ ρ'.head? && backOk ((emb a).map Sl.d) ρ'.tail) = true
      rw [e, h2]
      rfl
    · show R s ((ρ'.head?.getD .no) :: back ((emb a).map Sl.d) ρ'.tail)
      rw [e, h1]
      exact hR _ _ z
  exact sj_imp (hs Cl x1 C b a hp) (fun ρ' z => fin2 z) (fun _ z => z) (fun _ z => z) (fun s ρ' z => fin2 z)
theorem gdH_ct {α : Type} {emb : α → List Dt} {pre : α → Prop} {res : α → Dt} {x : Str} {st : Stmt} {N ps : List Str} {k : Nat} (F : Df K mg x st ps) (S : FnScope N ps (defScope st)) (len : ∀ a, (emb a).length = ps.length) (t : TS)
    (hbody : ∀ (f : Addr) (cdv : Value) (A : Around) (outer : List Env) (s : Shared) (H : Hp) (E : XK) (p : Addr × Obj), Hot1 A p → RoomH k (A.deeper (PyProof.Rows.envOfC x (defScope st) s.heap.objs.size f cdv)) → Warm (cxH CX0 P w K mg base N x (defScope st) f cdv A outer s H E p) → PSs (cxH CX0 P w K mg base N x (defScope st) f cdv A outer s H E p) (defBody st) t)
    (hs : ∀ (C : Cc K) a, pre a → Sj C t ((emb a).map Sl.d ++ List.replicate (N.length - ps.length) .no) (finT (res a))) : GdH P w K mg base x ps (k + 1) (CT emb pre res) := by
  refine gdH_of F S (CT.len len) t hbody ?_
  rintro C as R Er ⟨a, rfl, hp, hR⟩
  rw [List.length_map, len a]
  refine sj_imp (hs C a hp) (fun ρ' z => ?_) (fun _ z => z) (fun _ z => z) (fun s ρ' z => ?_)
  · obtain ⟨h1, h2⟩ := back_data (ds := emb a) (ρ := ρ')
    have z' : Sl.d .non = .d (res a) := z
    exact ⟨h2, by rw [h1, z']; exact hR⟩
  · obtain ⟨h1, h2⟩ := back_data (ds := emb a) (ρ := ρ')
    have z' : s = .d (res a) := z
    exact ⟨h2, by rw [h1, z']; exact hR⟩
end

end
section
/-! DL, part Q: texts: joined, a number's. -/
open PySem PySem.Spec PyProof.Rows L2
theorem joinL_len (s : List Nat) : ∀ l : List (List Nat), (TL.joinL s l).length ≤ (l.map (·.length)).sum + l.length * s.length
  | [] => Nat.zero_le _
  | [p] => by
    show p.length ≤ _
    simp
  | p :: q :: r => by
    have ih := joinL_len s (q :: r)
    show (p ++ (s ++ TL.joinL s (q :: r))).length ≤ (p.length + ((q :: r).map (·.length)).sum) + ((q :: r).length + 1) * s.length
    rw [List.length_append, List.length_append, Nat.add_mul]
    omega
theorem len_join (a : Str) (ys : List Str) : (Txt.join a ys).length ≤ (ys.map (·.length)).sum + ys.length * a.length := by
  have e := SX.join_S a.cps.toList (ys.map fun y : Str => y.cps.toList)
  rw [SX.S_tl, List.map_map, show ((SX.S ∘ fun y : Str => y.cps.toList) : Str → Str) = id from funext fun y => SX.S_tl y, List.map_id] at e
  rw [e, SX.S_len]
  have h := joinL_len a.cps.toList (ys.map fun y : Str => y.cps.toList)
  rw [List.length_map, List.map_map] at h
  exact h
theorem sumL_le {B : Nat} : ∀ {l : List Nat}, (∀ x ∈ l, x ≤ B) → l.sum ≤ l.length * B
  | [], _ => Nat.zero_le _
  | x :: l, h => by
    have ih := sumL_le (l := l) fun y hy => h y (List.mem_cons_of_mem _ hy)
    have := h x (List.mem_cons_self ..)
    show x + l.sum ≤ (l.length + 1) * B
    rw [Nat.add_mul, Nat.one_mul]
    omega
def rStrI : List V → Hp → VK → Prop := fun xs H Q => ∃ i : Int, xs = [.int i] ∧ i.natAbs.log2 < 1920 ∧ Q (.str (toString i)) H
theorem call_strX {X : Cx} : CallR X (.type "str") rStrI := call_str_int
def rJoinX (K : PySem.W.Frag) : V → List V → Hp → VK → Prop := fun x xs H Q => ∃ a p, ∃ ys : List Str, x = .str a ∧ xs = [.ref p] ∧ (SqL K H p (ys.map V.str) ∨ SqT K H p (ys.map V.str)) ∧
  (ys.map (·.length)).sum + ys.length * a.length ≤ 16777216 ∧ Q (.str (Txt.join a ys)) H
theorem pe_joinX {X : Cx} {o e : Expr} {to te : TE} {apos pos : Pos} (ho : PE X o to) (he : PE X e te) (hs : starEach [e] X.env = [(false, eval e X.env)] := by rfl) (hbase : attributeBase o "join" X.env (eval o X.env) = eval o X.env := by rfl) (hline : (apos.endLine == pos.line) = true := by rfl) :
    PE X (.Call (.Attribute o "join" apos) [e] [] pos) (tM1 (rJoinX X.K) to te) := pe_join ho he hs hbase hline
section
variable {K : PySem.W.Frag} {C : Cc K} {ρ : List Sl} {to te : TE}
theorem cad_str {i : Int} {R : Dt → Prop} (h : i.natAbs.log2 < 1920) (k : R (.str (toString i))) : CaD C rStrI [.int i] ρ R :=
  cad_s (.str _) _ (fun _ _ => .str _) (fun G H σ fp O vs hv Q q => by
    rcases hv with _ | ⟨h1, _ | _⟩
    cases h1
    exact ⟨i, rfl, h, q⟩) k
theorem evd_join {R : Dt → List Sl → Prop} (h : EvD C to ρ fun x ρ1 => ∃ a : Str, x = .str a ∧ EvD C te ρ1 fun y ρ2 => ∃ ys : List Str, y = .lst (ys.map Dt.str) ∧ (ys.map (·.length)).sum + ys.length * a.length ≤ 16777216 ∧ R (.str (Txt.join a ys)) ρ2) : EvD C (tM1 (rJoinX K) to te) ρ R := fun G H σ fp O Q q =>
  h G H σ fp O _ fun v G1 H1 x ρ1 fp1 e1 O1 D1 h1 => by
    obtain ⟨a, rfl, h1⟩ := h1
    cases D1
    refine ⟨⟨a, rfl⟩, h1 G1 H1 σ fp1 O1 _ fun w G2 H2 y ρ2 fp2 e2 O2 D2 h2 => ?_⟩
    obtain ⟨ys, rfl, hz, r⟩ := h2
    cases D2 with
    | lst a1 a2 =>
      obtain rfl := a2.ofStrs
      exact ⟨a, _, ys, rfl, rfl, .inl (.inl (.inl (O2.e1 _ _ a1))), hz, q _ G2 H2 _ ρ2 fp2 (e1.trans e2) O2 (.str _) r⟩
end

end
section
/-! Owned trees: lists within lists, all one's own, none of them twice. They are made by a def that turns all to lists, lent to what only looks at them for some statements, changed in place within. -/
mutual
inductive Tw (K : PySem.W.Frag) (H : Hp) : V → Dt → List Addr → Prop
  | sc {v : V} {d : Dt} : scal d = true → Dv K (fun _ => none) v d → Tw K H v d []
  | lst {a : Addr} {xs : List V} {ds : List Dt} {fp : List Addr} : H a = some (.lst xs) → Tws K H xs ds fp → a ∉ fp → Tw K H (.ref a) (.lst ds) (a :: fp)
inductive Tws (K : PySem.W.Frag) (H : Hp) : List V → List Dt → List Addr → Prop
  | nil : Tws K H [] [] []
  | cons {v : V} {vs : List V} {d : Dt} {ds : List Dt} {f1 f2 : List Addr} : Tw K H v d f1 → Tws K H vs ds f2 → (∀ a ∈ f1, a ∉ f2) → Tws K H (v :: vs) (d :: ds) (f1 ++ f2)
end
section
variable {K : PySem.W.Frag} {G H H' : Hp}
mutual
theorem Tw.keep : ∀ (d : Dt) (v : V) (fp : List Addr), (∀ a ∈ fp, ∀ o, H a = some o → H' a = some o) → Tw K H v d fp → Tw K H' v d fp
  | .lst ds, _, _, k, h => by
    cases h with
    | sc h1 _ => cases h1
    | lst h1 h2 h3 => exact .lst (k _ (List.mem_cons_self ..) _ h1) (Tws.keep ds _ _ (fun a ha => k a (List.mem_cons_of_mem _ ha)) h2) h3
  | .non, _, _, _, h => by cases h with | sc h1 h2 => exact .sc h1 h2
  | .bl _, _, _, _, h => by cases h with | sc h1 h2 => exact .sc h1 h2
  | .int _, _, _, _, h => by cases h with | sc h1 h2 => exact .sc h1 h2
  | .str _, _, _, _, h => by cases h with | sc h1 h2 => exact .sc h1 h2
  | .tup _, _, _, _, h => by cases h with | sc h1 h2 => exact .sc h1 h2
  | .ins _ _ _, _, _, _, h => by cases h with | sc h1 h2 => exact .sc h1 h2
  | .ob _, _, _, _, h => by cases h with | sc h1 h2 => exact .sc h1 h2
theorem Tws.keep : ∀ (ds : List Dt) (vs : List V) (fp : List Addr), (∀ a ∈ fp, ∀ o, H a = some o → H' a = some o) → Tws K H vs ds fp → Tws K H' vs ds fp
  | [], _, _, _, h => by cases h; exact .nil
  | d :: ds, _, _, k, h => by
    cases h with
    | cons h1 h2 h3 => exact .cons (Tw.keep d _ _ (fun a ha => k a (List.mem_append_left _ ha)) h1) (Tws.keep ds _ _ (fun a ha => k a (List.mem_append_right _ ha)) h2) h3
end
mutual
theorem Tw.dv : ∀ (d : Dt) (v : V) (fp : List Addr), (∀ a ∈ fp, ∀ o, H a = some o → G a = some o) → Tw K H v d fp → Dv K G v d
  | .lst ds, _, _, k, h => by
    cases h with
    | sc h1 _ => cases h1
    | lst h1 h2 h3 => exact .lst (k _ (List.mem_cons_self ..) _ h1) (Tws.dv ds _ _ (fun a ha => k a (List.mem_cons_of_mem _ ha)) h2)
  | .non, _, _, _, h => by cases h with | sc h1 h2 => exact scal_dv h1 h2
  | .bl _, _, _, _, h => by cases h with | sc h1 h2 => exact scal_dv h1 h2
  | .int _, _, _, _, h => by cases h with | sc h1 h2 => exact scal_dv h1 h2
  | .str _, _, _, _, h => by cases h with | sc h1 h2 => exact scal_dv h1 h2
  | .tup _, _, _, _, h => by cases h with | sc h1 h2 => exact scal_dv h1 h2
  | .ins _ _ _, _, _, _, h => by cases h with | sc h1 h2 => exact scal_dv h1 h2
  | .ob _, _, _, _, h => by cases h with | sc h1 h2 => exact scal_dv h1 h2
theorem Tws.dv : ∀ (ds : List Dt) (vs : List V) (fp : List Addr), (∀ a ∈ fp, ∀ o, H a = some o → G a = some o) → Tws K H vs ds fp → Dvs K G vs ds
  | [], _, _, _, h => by cases h; exact .nil
  | d :: ds, _, _, k, h => by
    cases h with
    | cons h1 h2 h3 => exact .cons (Tw.dv d _ _ (fun a ha => k a (List.mem_append_left _ ha)) h1) (Tws.dv ds _ _ (fun a ha => k a (List.mem_append_right _ ha)) h2)
end
theorem Tws.len : ∀ {ds : List Dt} {vs : List V} {fp : List Addr}, Tws K H vs ds fp → vs.length = ds.length
  | [], _, _, h => by cases h; rfl
  | d :: ds, _, _, h => by
    cases h with
    | cons h1 h2 h3 => rw [List.length_cons, List.length_cons, Tws.len h2]
theorem Tws.snoc {y : V} {e : Dt} {f2 : List Addr} (hy : Tw K H y e f2) : ∀ {ds : List Dt} {vs : List V} {fp : List Addr}, Tws K H vs ds fp → (∀ a ∈ fp, a ∉ f2) → Tws K H (vs ++ [y]) (ds ++ [e]) (fp ++ f2)
  | [], _, _, h, _ => by
    cases h
    have z : Tws K H [y] [e] (f2 ++ []) := .cons hy .nil fun a _ z => nomatch z
    rw [List.append_nil] at z
    exact z
  | d :: ds, _, _, h, k => by
    cases h with
    | cons h1 h2 h3 =>
      rw [List.append_assoc]
      exact .cons h1 (Tws.snoc hy h2 fun a ha => k a (List.mem_append_right _ ha)) fun a ha z => by
        rcases List.mem_append.mp z with z | z
        · exact h3 a ha z
        · exact k a (List.mem_append_left _ ha) z
/-- one of them, and that one otherwise -/
theorem Tws.at {d1 : Dt} : ∀ {ds : List Dt} {vs : List V} {ff : List Addr} {k : Nat}, Tws K H vs ds ff → ds[k]? = some d1 → ∃ u f1, vs[k]? = some u ∧ Tw K H u d1 f1 ∧ (∀ b ∈ f1, b ∈ ff) ∧
    ∀ (H' : Hp) (d' : Dt) (f' : List Addr), Tw K H' u d' f' → (∀ b ∈ f', b ∈ f1) → (∀ b ∈ ff, b ∉ f1 → H' b = H b) → ∃ ff', Tws K H' vs (ds.set k d') ff' ∧ ∀ b ∈ ff', b ∈ ff
  | [], _, _, _, _, e => by simp at e
  | d :: ds, _, _, 0, h, e => by
    cases h with
    | @cons v vs _ _ fa fb h1 h2 h3 =>
      simp at e
      subst e
      refine ⟨v, fa, rfl, h1, fun b hb => List.mem_append_left _ hb, fun H' d' f' t hs hk => ⟨f' ++ fb, ?_, fun b hb => ?_⟩⟩
      · exact .cons t (h2.keep _ _ _ fun a ha o z => by rw [hk a (List.mem_append_right _ ha) fun y => h3 a y ha]; exact z) fun a ha => h3 a (hs a ha)
      · rcases List.mem_append.mp hb with z | z
        · exact List.mem_append_left _ (hs b z)
        · exact List.mem_append_right _ z
  | d :: ds, _, _, k + 1, h, e => by
    cases h with
    | @cons v vs _ _ fa fb h1 h2 h3 =>
      obtain ⟨u, f1, g1, g2, g3, g4⟩ := Tws.at (k := k) h2 (by simpa using e)
      refine ⟨u, f1, by simpa using g1, g2, fun b hb => List.mem_append_right _ (g3 b hb), fun H' d' f' t hs hk => ?_⟩
      obtain ⟨ff', y1, y2⟩ := g4 H' d' f' t hs fun b hb => hk b (List.mem_append_right _ hb)
      refine ⟨fa ++ ff', ?_, fun b hb => ?_⟩
      · rw [List.set_cons_succ]
        exact .cons (h1.keep _ _ _ fun a ha o z => by rw [hk a (List.mem_append_left _ ha) fun y => h3 a ha (g3 a y)]; exact z) y1 fun a ha z => h3 a ha (y2 a z)
      · rcases List.mem_append.mp hb with z | z
        · exact List.mem_append_left _ z
        · exact List.mem_append_right _ (y2 b z)
mutual
theorem Tw.cell : ∀ (d : Dt) (v : V) (fp : List Addr), Tw K H v d fp → ∀ a ∈ fp, ∃ o, H a = some o
  | .lst ds, _, _, h => by
    cases h with
    | sc h1 _ => cases h1
    | lst h1 h2 h3 =>
      intro a ha
      rcases List.mem_cons.mp ha with e | e
      · rw [e]; exact ⟨_, h1⟩
      · exact Tws.cell ds _ _ h2 a e
  | .non, _, _, h => by cases h with | sc h1 h2 => exact fun _ z => nomatch z
  | .bl _, _, _, h => by cases h with | sc h1 h2 => exact fun _ z => nomatch z
  | .int _, _, _, h => by cases h with | sc h1 h2 => exact fun _ z => nomatch z
  | .str _, _, _, h => by cases h with | sc h1 h2 => exact fun _ z => nomatch z
  | .tup _, _, _, h => by cases h with | sc h1 h2 => exact fun _ z => nomatch z
  | .ins _ _ _, _, _, h => by cases h with | sc h1 h2 => exact fun _ z => nomatch z
  | .ob _, _, _, h => by cases h with | sc h1 h2 => exact fun _ z => nomatch z
theorem Tws.cell : ∀ (ds : List Dt) (vs : List V) (fp : List Addr), Tws K H vs ds fp → ∀ a ∈ fp, ∃ o, H a = some o
  | [], _, _, h => by cases h; exact fun _ z => nomatch z
  | d :: ds, _, _, h => by
    cases h with
    | cons h1 h2 h3 =>
      intro a ha
      rcases List.mem_append.mp ha with e | e
      · exact Tw.cell d _ _ h1 a e
      · exact Tws.cell ds _ _ h2 a e
end
/-- a way into a tree: the one of each list's number -/
def valP : Dt → List Nat → Option Dt
  | d, [] => some d
  | .lst ds, k :: p => match ds[k]? with
    | some e => valP e p
    | none => none
  | _, _ :: _ => none
def putP : Dt → List Nat → List Dt → Dt
  | _, [], es => .lst es
  | .lst ds, k :: p, es => match ds[k]? with
    | some e => .lst (ds.set k (putP e p es))
    | none => .lst ds
  | d, _ :: _, _ => d
def PathV (H : Hp) : V → List Nat → V → Prop
  | v, [], w => v = w
  | v, k :: p, w => ∃ a xs u, v = .ref a ∧ H a = some (.lst xs) ∧ xs[k]? = some u ∧ PathV H u p w
theorem Tw.path {es : List Dt} : ∀ (p : List Nat) {d : Dt} {v : V} {fp : List Addr}, Tw K H v d fp → valP d p = some (.lst es) → ∃ a xs ff, PathV H v p (.ref a) ∧ H a = some (.lst xs) ∧ Tws K H xs es ff ∧ a ∈ fp ∧
    ∀ xs' es', (∃ ff', Tws K H xs' es' ff' ∧ ∀ b ∈ ff', b ∈ ff) → ∃ fp', Tw K (upd H a (.lst xs')) v (putP d p es') fp' ∧ ∀ b ∈ fp', b ∈ fp
  | [], d, v, fp, h, e => by
    cases e
    cases h with
    | sc h1 _ => cases h1
    | @lst a xs _ ff h1 h2 h3 =>
      refine ⟨a, xs, ff, rfl, h1, h2, List.mem_cons_self .., fun xs' es' ⟨ff', y1, y2⟩ => ⟨a :: ff', ?_, fun b hb => ?_⟩⟩
      · have n : a ∉ ff' := fun z => h3 (y2 a z)
        exact .lst upd_same (y1.keep _ _ _ fun b hb o z => by rw [upd_ne fun (e : b = a) => n (e ▸ hb)]; exact z) n
      · rcases List.mem_cons.mp hb with z | z
        · rw [z]; exact List.mem_cons_self ..
        · exact List.mem_cons_of_mem _ (y2 b z)
  | k :: p, .lst ds, v, fp, h, e => by
    unfold valP at e
    cases q : ds[k]? with
    | none => rw [q] at e; cases e
    | some d1 =>
      rw [q] at e
      cases h with
      | sc h1 _ => cases h1
      | @lst c ys _ ff h1 h2 h3 =>
        obtain ⟨u, f1, g1, g2, g3, g4⟩ := h2.at q
        obtain ⟨a, xs, f2, y1, y2, y3, y4, y5⟩ := Tw.path p g2 e
        refine ⟨a, xs, f2, ⟨c, ys, u, rfl, h1, g1, y1⟩, y2, y3, List.mem_cons_of_mem _ (g3 a y4), fun xs' es' hx => ?_⟩
        obtain ⟨f', z1, z2⟩ := y5 xs' es' hx
        obtain ⟨ff', w1, w2⟩ := g4 (upd H a (.lst xs')) _ f' z1 z2 fun b hb hn => upd_ne fun (e : b = a) => hn (e ▸ y4)
        have n : c ∉ ff' := fun z => h3 (w2 c z)
        refine ⟨c :: ff', ?_, fun b hb => ?_⟩
        · unfold putP
          rw [q]
          exact .lst (by rw [upd_ne fun (e : c = a) => h3 (e ▸ g3 a y4)]; exact h1) w1 n
        · rcases List.mem_cons.mp hb with z | z
          · rw [z]; exact List.mem_cons_self ..
          · exact List.mem_cons_of_mem _ (w2 b z)
  | k :: p, .non, _, _, _, e => by cases e
  | k :: p, .bl _, _, _, _, e => by cases e
  | k :: p, .int _, _, _, _, e => by cases e
  | k :: p, .str _, _, _, _, e => by cases e
  | k :: p, .tup _, _, _, _, e => by cases e
  | k :: p, .ins _ _ _, _, _, _, e => by cases e
  | k :: p, .ob _, _, _, _, e => by cases e
end
/-- an owned tree -/
def treeW (d : Dt) : Wd where
  W := fun K G H v fp => Tw K H v d fp
  st := fun h _ k => h.keep _ _ _ k
/-- a thing that is known, at a place that stays -/
def lentW (d : Dt) : Wd where
  W := fun K G H v fp => fp = [] ∧ Dv K G v d
  st := fun h e _ => ⟨h.1, h.2.up e⟩
/-- what does not ask what is known; what has no cells -/
structure GF (W : Wd) : Prop where
  gf : ∀ {K : PySem.W.Frag} {G G' H : Hp} {v : V} {fp : List Addr}, W.W K G H v fp → W.W K G' H v fp
structure FE (W : Wd) : Prop where
  fe : ∀ {K : PySem.W.Frag} {G H H' : Hp} {v : V} {fp : List Addr}, W.W K G H v fp → fp = [] ∧ W.W K G H' v []
theorem fe_sc {ns : List Int} : FE (scW ns) := ⟨fun ⟨a, e, e2, h⟩ => ⟨e2, a, e, rfl, h⟩⟩
theorem scal_dvs {K : PySem.W.Frag} {G G' : Hp} : ∀ {ds : List Dt} {xs : List V}, (∀ d ∈ ds, scal d = true) → Dvs K G xs ds → Dvs K G' xs ds
  | [], _, _, h => by cases h; exact .nil
  | d :: ds, _, hs, h => by
    cases h with
    | cons h1 h2 => exact .cons (scal_dv (hs d (List.mem_cons_self ..)) h1) (scal_dvs (fun e he => hs e (List.mem_cons_of_mem _ he)) h2)
theorem gf_lw {ds : List Dt} (hs : ∀ d ∈ ds, scal d = true) : GF (lw ds) := ⟨fun ⟨p, xs, e1, e2, h, hd⟩ => ⟨p, xs, e1, e2, h, scal_dvs hs hd⟩⟩
theorem gf_tree {d : Dt} : GF (treeW d) := ⟨fun h => h⟩
def bkB (W : Wd) : Sl → Prop
  | .w true W0 => GF W ∨ (W = W0 ∧ FE W)
  | _ => False
def bkS (s : Sl) : Sl → Prop
  | .w false W => GF W
  | .w true W => bkB W s
  | _ => True
def bkOk (ρ ρ2 : List Sl) (i : Nat) : Prop := ∀ (j : Nat) (t : Sl), j ≠ i → ρ2[j]? = some t → bkS ((ρ[j]?).getD .no) t
def bkA : List Sl → List Sl → Prop
  | s :: ss, t :: ts => bkS s t ∧ bkA ss ts
  | _, [] => True
  | [], _ :: _ => False
def bkN : Nat → List Sl → List Sl → Prop
  | 0, _ :: ss, _ :: ts => bkA ss ts
  | n + 1, s :: ss, t :: ts => bkS s t ∧ bkN n ss ts
  | _, _, _ => False
theorem bkA_at : ∀ {ρ ρ2 : List Sl}, bkA ρ ρ2 → ∀ (j : Nat) (t : Sl), ρ2[j]? = some t → bkS ((ρ[j]?).getD .no) t
  | [], [], _, _, _, e => by simp at e
  | [], _ :: _, h, _, _, _ => h.elim
  | _ :: _, [], _, _, _, e => by simp at e
  | _ :: _, _ :: _, h, 0, _, e2 => by simp at e2; subst e2; exact h.1
  | _ :: _, _ :: _, h, j + 1, _, e2 => by simpa using bkA_at h.2 j _ (by simpa using e2)
theorem bk_of : ∀ {i : Nat} {ρ ρ2 : List Sl}, bkN i ρ ρ2 → bkOk ρ ρ2 i
  | 0, [], _, h => by unfold bkN at h; exact h.elim
  | _ + 1, [], _, h => by unfold bkN at h; exact h.elim
  | 0, _ :: _, [], h => by unfold bkN at h; exact h.elim
  | _ + 1, _ :: _, [], h => by unfold bkN at h; exact h.elim
  | 0, _ :: _, _ :: _, h => fun j t hj e2 => by
    cases j with
    | zero => exact absurd rfl hj
    | succ j => simpa using bkA_at h j t (by simpa using e2)
  | i + 1, _ :: _, _ :: _, h => fun j t hj e2 => by
    cases j with
    | zero => simp at e2; subst e2; exact h.1
    | succ j => simpa using bk_of h.2 j t (fun e => hj (by rw [e])) (by simpa using e2)
def backS : Sl → Sl
  | .d d => if scal d then .d d else .no
  | s => s
def backT (i : Nat) (d : Dt) (ρ : List Sl) : List Sl := (ρ.map backS).set i (.w false (treeW d))
section
variable {K : PySem.W.Frag} {C : Cc K} {ρ : List Sl} {P : En} {ta tb te : TE} {t u : TT} {ts us : TS} {nx bk ct : List Sl → Prop} {rt : Sl → List Sl → Prop}
theorem lendT_ok {G H : Hp} {σ : St} {fp : Nat → List Addr} {i : Nat} {d : Dt} (O : Ok C G H σ ρ fp) (hw : ρ[i]? = some (.w false (treeW d))) :
    ∃ (C1 : Cc K) (G1 : Hp), Ok C1 G1 H σ (ρ.set i (.w true (lentW d))) (fpSet fp i []) ∧ ∀ G2 H2 σ2 ρ2 fp2, Same G1 G2 → ρ2[i]? = some (.w true (lentW d)) → bkOk ρ ρ2 i → Ok C1 G2 H2 σ2 ρ2 fp2 → ∃ G3 fp3, Same G G3 ∧ Ok C G3 H2 σ2 (backT i d ρ2) fp3 := by
  classical
  obtain ⟨v, h1, h2, _, h4⟩ := O.sl i _ hw
  have h2 : Tw K H v d (fp i) := h2
  have hi := (List.getElem?_eq_some_iff.mp hw).1
  have gn : ∀ a ∈ fp i, G a = none := fun a ha => (O.fo i a ha).1
  let G1 : Hp := fun a => if a ∈ fp i then H a else G a
  have gi : ∀ a ∈ fp i, G1 a = H a := fun a ha => if_pos ha
  have go : ∀ a, a ∉ fp i → G1 a = G a := fun a ha => if_neg ha
  have s1 : Same G G1 := fun a o z => by
    rw [go a fun y => by rw [gn a y] at z; cases z]
    exact z
  let vs1 : List V := (C.vs ++ List.replicate (i + 1) V.non).set i v
  have hvs : vs1[i]? = some v := List.getElem?_set_self (by rw [List.length_append, List.length_replicate]; omega)
  have hvo : ∀ j w, j ≠ i → C.vs[j]? = some w → vs1[j]? = some w := fun j w hj e => by
    show ((C.vs ++ List.replicate (i + 1) V.non).set i v)[j]? = some w
    rw [List.getElem?_set_ne (Ne.symm hj), List.getElem?_append_left (List.getElem?_eq_some_iff.mp e).1]
    exact e
  let C1 : Cc K := ⟨C.bs, C.ls, vs1, G1, C.H0⟩
  have e1 : Same G1 H := fun a o z => by
    by_cases y : a ∈ fp i
    · rw [gi a y] at z; exact z
    · rw [go a y] at z; exact O.e1 a o z
  refine ⟨C1, G1, ?_, ?_⟩
  · exact {
      e0 := Same.refl _
      e1 := e1
      nw := fun a o z => .inl z
      fr := O.fr
      dm := O.dm
      len := by rw [List.length_set]; exact O.len
      sl := fun j s h => by
        by_cases e : j = i
        · subst e
          rw [List.getElem?_set_self hi] at h
          cases h
          refine ⟨v, h1, ⟨by unfold fpSet; rw [if_pos rfl], h2.dv _ _ _ fun a ha o z => by rw [gi a ha]; exact z⟩, fun _ => hvs, fun z => nomatch z⟩
        · rw [List.getElem?_set_ne (Ne.symm e)] at h
          unfold fpSet
          rw [if_neg e]
          have z := O.sl j s h
          cases s with
          | no => exact trivial
          | d d => obtain ⟨u, g1, g2⟩ := z; exact ⟨u, g1, g2.up s1⟩
          | w q W =>
            obtain ⟨u, g1, g2, g3, g4⟩ := z
            exact ⟨u, g1, W.st g2 s1 fun a _ o z => z, fun hq => hvo j u e (g3 hq), g4⟩
      em := fun j hj => by
        unfold fpSet
        by_cases e : j = i
        · rw [if_pos e]
        · rw [if_neg e]
          refine O.em j fun q W z => hj q W ?_
          rw [List.getElem?_set_ne (Ne.symm e)]
          exact z
      dj := fun j l a ha hb => by
        unfold fpSet at ha hb
        by_cases e1 : j = i
        · rw [if_pos e1] at ha; cases ha
        · by_cases e2 : l = i
          · rw [if_pos e2] at hb; cases hb
          · rw [if_neg e1] at ha
            rw [if_neg e2] at hb
            exact O.dj j l a ha hb
      fo := fun j a ha => by
        unfold fpSet at ha
        by_cases e : j = i
        · rw [if_pos e] at ha; cases ha
        · rw [if_neg e] at ha
          obtain ⟨x1, x2, x3⟩ := O.fo j a ha
          exact ⟨by rw [go a fun z => e (O.dj j i a ha z)]; exact x1, x2, x3⟩ }
  · intro G2 H2 σ2 ρ2 fp2 e2 hw2 hb O2
    let G3 : Hp := fun a => if a ∈ fp i then none else G2 a
    have g3i : ∀ a ∈ fp i, G3 a = none := fun a ha => if_pos ha
    have g3o : ∀ a, a ∉ fp i → G3 a = G2 a := fun a ha => if_neg ha
    have from2 : ∀ a u, G3 a = some u → a ∉ fp i ∧ G2 a = some u := fun a u h => by
      by_cases e : a ∈ fp i
      · rw [g3i a e] at h; cases h
      · rw [g3o a e] at h; exact ⟨e, h⟩
    have s3 : Same G G3 := fun a o z => by
      rw [g3o a fun y => by rw [gn a y] at z; cases z]
      exact e2 a o (s1 a o z)
    have keep : ∀ a ∈ fp i, H2 a = H a := fun a ha => by
      obtain ⟨o, ho⟩ := h2.cell _ _ _ a ha
      have : G1 a = some o := by rw [gi a ha]; exact ho
      rw [ho]
      exact O2.e1 a o (e2 a o this)
    have hi2 : i < ρ2.length := (List.getElem?_eq_some_iff.mp hw2).1
    obtain ⟨v2, k1, _, k3, _⟩ := O2.sl i _ hw2
    have ev : v2 = v := by
      have := k3 rfl
      have z : vs1[i]? = some v2 := this
      rw [hvs] at z
      cases z
      rfl
    subst ev
    have known2 : ∀ a ∈ fp i, ∃ o, G2 a = some o := fun a ha => by
      obtain ⟨o, ho⟩ := h2.cell _ _ _ a ha
      exact ⟨o, e2 a o (by rw [gi a ha]; exact ho)⟩
    have at2 : ∀ j s, j ≠ i → (backT i d ρ2)[j]? = some s → ∃ t, ρ2[j]? = some t ∧ s = backS t := fun j s hj h => by
      unfold backT at h
      rw [List.getElem?_set_ne (Ne.symm hj), List.getElem?_map] at h
      cases q : ρ2[j]? with
      | none => rw [q] at h; cases h
      | some t => rw [q] at h; cases h; exact ⟨t, rfl, rfl⟩
    refine ⟨G3, fpSet fp2 i (fp i), s3, ?_⟩
    exact {
      e0 := O.e0.trans s3
      e1 := fun a o h => O2.e1 a o (from2 a o h).2
      nw := fun a o h => by
        obtain ⟨n, h⟩ := from2 a o h
        rcases O2.nw a o h with z | z
        · have z : G1 a = some o := z
          rw [go a n] at z
          exact O.nw a o z
        · exact .inr z
      fr := O2.fr
      dm := O2.dm
      len := by unfold backT; rw [List.length_set, List.length_map]; exact O2.len
      sl := fun j s h => by
        by_cases e : j = i
        · subst e
          unfold backT at h
          rw [List.getElem?_set_self (by rw [List.length_map]; exact hi2)] at h
          cases h
          refine ⟨v2, k1, ?_, fun z => (nomatch z), fun _ a ha => ?_⟩
          · unfold fpSet
            rw [if_pos rfl]
            exact h2.keep _ _ _ fun a ha o z => by rw [keep a ha]; exact z
          · unfold fpSet at ha
            rw [if_pos rfl] at ha
            exact h4 rfl a ha
        · obtain ⟨t, q, rfl⟩ := at2 j s e h
          have z := O2.sl j t q
          unfold fpSet
          rw [if_neg e]
          cases t with
          | no => exact trivial
          | d d1 =>
            obtain ⟨u, y1, y2⟩ := z
            show SlotOk C G3 H2 σ2 j (fp2 j) (if scal d1 = true then .d d1 else .no)
            by_cases hs : scal d1 = true
            · rw [if_pos hs]; exact ⟨u, y1, scal_dv hs y2⟩
            · rw [if_neg hs]; exact trivial
          | w q2 W =>
            obtain ⟨u, y1, y2, y3, y4⟩ := z
            have b := hb j _ e q
            cases q2 with
            | false => exact ⟨u, y1, (show GF W from b).gf y2, (fun z => nomatch z), y4⟩
            | true =>
              cases q0 : ρ[j]? with
              | none => rw [q0] at b; exact b.elim
              | some s0 =>
                rw [q0] at b
                cases s0 with
                | no => exact b.elim
                | d _ => exact b.elim
                | w qq W0 =>
                  cases qq with
                  | false => exact b.elim
                  | true =>
                    obtain ⟨u0, _, w0, w1, _⟩ := O.sl j _ q0
                    have eu : u = u0 := by
                      have z1 : vs1[j]? = some u := y3 rfl
                      rw [hvo j u0 e (w1 rfl)] at z1
                      cases z1
                      rfl
                    subst eu
                    refine ⟨u, y1, ?_, (fun _ => w1 rfl), (fun z => nomatch z)⟩
                    rcases b with b | ⟨rfl, b⟩
                    · exact b.gf y2
                    · rw [(b.fe (H' := H2) y2).1]
                      exact W.st (b.fe (H' := H2) w0).2 s3 fun a z => nomatch z
      em := fun j hj => by
        unfold fpSet
        by_cases e : j = i
        · subst e
          refine absurd ?_ (hj false (treeW d))
          unfold backT
          exact List.getElem?_set_self (by rw [List.length_map]; exact hi2)
        · rw [if_neg e]
          refine O2.em j fun q W z => hj q W ?_
          unfold backT
          rw [List.getElem?_set_ne (Ne.symm e), List.getElem?_map, z]
          rfl
      dj := fun j l a ha hb => by
        have n : ∀ j, a ∈ fp2 j → a ∉ fp i := fun j ha z => by
          obtain ⟨o, ho⟩ := known2 a z
          rw [(O2.fo j a ha).1] at ho
          cases ho
        unfold fpSet at ha hb
        by_cases e1 : j = i
        · by_cases e2 : l = i
          · rw [e1, e2]
          · rw [if_pos e1] at ha
            rw [if_neg e2] at hb
            exact absurd ha (n l hb)
        · by_cases e2 : l = i
          · rw [if_neg e1] at ha
            rw [if_pos e2] at hb
            exact absurd hb (n j ha)
          · rw [if_neg e1] at ha
            rw [if_neg e2] at hb
            exact O2.dj j l a ha hb
      fo := fun j a ha => by
        unfold fpSet at ha
        by_cases e : j = i
        · rw [if_pos e] at ha
          obtain ⟨_, ⟨o, x2⟩, x3⟩ := O.fo i a ha
          exact ⟨g3i a ha, ⟨o, by rw [keep a ha]; exact x2⟩, x3⟩
        · rw [if_neg e] at ha
          obtain ⟨x1, x2, x3⟩ := O2.fo j a ha
          refine ⟨?_, x2, x3⟩
          cases z : G3 a with
          | none => rfl
          | some u =>
            rw [(from2 a u z).2] at x1
            cases x1 }
/-! ### lent -/
theorem evd_lent {R : Dt → List Sl → Prop} {i : Nat} {d : Dt} (h : ρ[i]? = some (.w true (lentW d))) (k : R d ρ) : EvD C (tVar i) ρ R := fun G H σ fp O Q q => by
  obtain ⟨v, h1, ⟨_, h2⟩, _⟩ := O.sl i _ h
  exact ⟨v, h1, q v G H d ρ fp (Same.refl G) O h2 k⟩
/-- the end of what is done while i is lent -/
def Lt (i : Nat) (d : Dt) (ρ : List Sl) (Q : List Sl → Prop) (ρ2 : List Sl) : Prop := ρ2[i]? = some (.w true (lentW d)) ∧ bkN i ρ ρ2 ∧ Q (backT i d ρ2)
theorem sj_lend (i : Nat) {d : Dt} (hw : ρ[i]? = some (.w false (treeW d))) (h : ∀ C' : Cc K, Sj C' ts (ρ.set i (.w true (lentW d)))
    ⟨Lt i d ρ P.nx, Lt i d ρ P.bk, Lt i d ρ P.ct, fun s ρ2 => ∃ z, s = .d z ∧ scal z = true ∧ Lt i d ρ (P.rt s) ρ2⟩) : Sj C ts ρ P := fun G H σ fp O D E => by
  obtain ⟨C1, G1, O1, back⟩ := lendT_ok O hw
  refine h C1 G1 H σ _ O1 D ⟨fun G2 H2 σ2 ρ2 fp2 e2 O2 r => ?_, fun G2 H2 σ2 ρ2 fp2 e2 O2 r => ?_, fun G2 H2 σ2 ρ2 fp2 e2 O2 r => ?_, fun v G2 H2 σ2 ρ2 fp2 fv s e2 O2 r => ?_⟩
  · obtain ⟨G3, fp3, s3, O3⟩ := back G2 H2 σ2 ρ2 fp2 e2 r.1 (bk_of r.2.1) O2
    exact E.nx G3 H2 σ2 _ fp3 s3 O3 r.2.2
  · obtain ⟨G3, fp3, s3, O3⟩ := back G2 H2 σ2 ρ2 fp2 e2 r.1 (bk_of r.2.1) O2
    exact E.bk G3 H2 σ2 _ fp3 s3 O3 r.2.2
  · obtain ⟨G3, fp3, s3, O3⟩ := back G2 H2 σ2 ρ2 fp2 e2 r.1 (bk_of r.2.1) O2
    exact E.ct G3 H2 σ2 _ fp3 s3 O3 r.2.2
  · obtain ⟨z, rfl, hs, r⟩ := r
    obtain ⟨G3, fp3, s3, O3⟩ := back G2 H2 σ2 ρ2 fp2 e2 r.1 (bk_of r.2.1) O2.ok
    exact E.rt v G3 H2 σ2 _ fp3 [] _ s3 (O3.dv (scal_dv hs O2.va.2)) r.2.2
theorem sq_lend (i : Nat) {d : Dt} (hw : ρ[i]? = some (.w false (treeW d))) (h : ∀ C' : Cc K, Sj C' ts (ρ.set i (.w true (lentW d)))
    ⟨Lt i d ρ fun ρ2 => Sj C us ρ2 P, Lt i d ρ P.bk, Lt i d ρ P.ct, fun s ρ2 => ∃ z, s = .d z ∧ scal z = true ∧ Lt i d ρ (P.rt s) ρ2⟩) : Sj C (tSeq ts us) ρ P := sj_seq (sj_lend i hw h)
/-- two statements at once -/
theorem sj_as2 {t1 t2 : TS} (h : Sj C (tSeq (tSeq t1 t2) us) ρ P) : Sj C (tSeq t1 (tSeq t2 us)) ρ P := h
theorem sj_fgt (i : Nat) (h : Sj C ts ρ { P with nx := fun ρ' => P.nx (ρ'.set i .no) }) : Sj C ts ρ P := fun G H σ fp O D E => by
  refine h G H σ fp O D ⟨fun G2 H2 σ2 ρ2 fp2 e2 O2 r => ?_, E.bk, E.ct, E.rt⟩
  refine E.nx G2 H2 σ2 _ (fpSet fp2 i []) e2 ?_ r
  exact {
    e0 := O2.e0
    e1 := O2.e1
    nw := O2.nw
    fr := O2.fr
    dm := O2.dm
    len := by rw [List.length_set]; exact O2.len
    sl := fun j s hs => by
      by_cases e : j = i
      · subst e
        have hl : j < ρ2.length := by
          have := (List.getElem?_eq_some_iff.mp hs).1
          rw [List.length_set] at this
          exact this
        rw [List.getElem?_set_self hl] at hs
        cases hs
        exact trivial
      · rw [List.getElem?_set_ne (Ne.symm e)] at hs
        unfold fpSet
        rw [if_neg e]
        exact O2.sl j s hs
    em := fun j hj => by
      unfold fpSet
      by_cases e : j = i
      · rw [if_pos e]
      · rw [if_neg e]
        refine O2.em j fun q W z => hj q W ?_
        rw [List.getElem?_set_ne (Ne.symm e)]
        exact z
    dj := fun j l a ha hb => by
      unfold fpSet at ha hb
      by_cases e1 : j = i
      · rw [if_pos e1] at ha; cases ha
      · by_cases e2 : l = i
        · rw [if_pos e2] at hb; cases hb
        · rw [if_neg e1] at ha
          rw [if_neg e2] at hb
          exact O2.dj j l a ha hb
    fo := fun j a ha => by
      unfold fpSet at ha
      by_cases e : j = i
      · rw [if_pos e] at ha; cases ha
      · rw [if_neg e] at ha
        exact O2.fo j a ha }
/-! ### changed within -/
def Nav (te : TE) (i : Nat) (p : List Nat) : Prop := ∀ (σ : St) (H : Hp) (v w : V) (Q : VK), σ[i]? = some (some v) → PathV H v p w → Q w H → te σ H Q
theorem nav_var {i : Nat} : Nav (tVar i) i [] := fun σ H v w Q h e q => by
  cases e
  exact ⟨v, h, q⟩
theorem pathV_app {H : Hp} : ∀ {p : List Nat} {v w : V} {k : Nat}, PathV H v (p ++ [k]) w → ∃ u a xs, PathV H v p u ∧ u = .ref a ∧ H a = some (.lst xs) ∧ xs[k]? = some w
  | [], v, w, k, h => by
    obtain ⟨a, xs, u, h1, h2, h3, h4⟩ := h
    cases h4
    exact ⟨v, a, xs, rfl, h1, h2, h3⟩
  | m :: p, v, w, k, h => by
    obtain ⟨a, xs, u, h1, h2, h3, h4⟩ := h
    obtain ⟨u', a', xs', y1, y2, y3, y4⟩ := pathV_app h4
    exact ⟨u', a', xs', ⟨a, xs, u, h1, h2, h3, y1⟩, y2, y3, y4⟩
theorem nav_ix {i : Nat} {p : List Nat} {j : Int} {k : Nat} (e : j = k) (h : Nav te i p) : Nav (tOp (rIx K) te (tC (.int j))) i (p ++ [k]) := fun σ H v w Q hs hp q => by
  obtain ⟨u, a, xs, h1, rfl, h3, h4⟩ := pathV_app hp
  refine h σ H v _ _ hs h1 ?_
  show rIx K (.ref a) (.int j) H Q
  subst e
  refine .inl ⟨a, xs, k, w, rfl, rfl, .inl (.inl h3), ?_, q⟩
  exact atI_nat h4
theorem Tws.setS {H : Hp} {w : V} {y : Dt} (hs : scal y = true) (hw : Dv K (fun _ => none) w y) : ∀ {es : List Dt} {xs : List V} {ff : List Addr} (k : Nat), Tws K H xs es ff → ∃ ff', Tws K H (xs.set k w) (es.set k y) ff' ∧ ∀ b ∈ ff', b ∈ ff
  | [], _, _, k, h => by cases h; exact ⟨[], .nil, fun _ z => nomatch z⟩
  | e :: es, _, _, 0, h => by
    cases h with
    | @cons v vs _ _ f1 f2 h1 h2 h3 =>
      exact ⟨[] ++ f2, .cons (.sc hs hw) h2 (fun _ z => nomatch z), fun b hb => List.mem_append_right _ hb⟩
  | e :: es, _, _, k + 1, h => by
    cases h with
    | @cons v vs _ _ f1 f2 h1 h2 h3 =>
      obtain ⟨ff', y1, y2⟩ := Tws.setS hs hw k h2
      refine ⟨f1 ++ ff', .cons h1 y1 fun a ha z => h3 a ha (y2 a z), fun b hb => ?_⟩
      rcases List.mem_append.mp hb with z | z
      · exact List.mem_append_left _ z
      · exact List.mem_append_right _ (y2 b z)
theorem Ok.writeT {G H : Hp} {σ : St} {fp : Nat → List Addr} {i : Nat} {q : Bool} {d : Dt} {v : V} {p : List Nat} {es : List Dt} (O : Ok C G H σ ρ fp) (hw : ρ[i]? = some (.w q (treeW d))) (hv : σ[i]? = some (some v)) (he : valP d p = some (.lst es)) :
    ∃ a xs ff, PathV H v p (.ref a) ∧ H a = some (.lst xs) ∧ Tws K H xs es ff ∧ ∀ xs' es', (∃ ff', Tws K H xs' es' ff' ∧ ∀ b ∈ ff', b ∈ ff) → ∃ fp', Ok C G (upd H a (.lst xs')) σ (ρ.set i (.w q (treeW (putP d p es')))) fp' := by
  obtain ⟨v', h1, h2, _⟩ := O.sl i _ hw
  rw [hv] at h1
  cases h1
  obtain ⟨a, xs, ff, y1, y2, y3, y4, y5⟩ := Tw.path p h2 he
  refine ⟨a, xs, ff, y1, y2, y3, fun xs' es' hx => ?_⟩
  obtain ⟨fp', z1, z2⟩ := y5 xs' es' hx
  obtain ⟨ga, _, _⟩ := O.fo i a y4
  refine ⟨_, O.write (G' := G) (W' := treeW (putP d p es')) (fv' := fp') hw (Same.refl G) (fun b u z => ?_) (fun _ _ z => .inl z) (fun b o hb z => ?_) (fun b z => ?_) (fun b hb => ?_) (fun b hb => ?_) fun v' hv' => ?_⟩
  · rw [upd_ne (ne_of_none z ga)]; exact O.e1 b u z
  · rw [upd_ne fun (e : b = a) => hb (e ▸ y4)]; exact z
  · by_cases e : b = a
    · subst e; rw [upd_same] at z; cases z
    · rw [upd_ne e] at z; exact z
  · obtain ⟨_, ⟨o, ho⟩, _⟩ := O.fo i b (z2 b hb)
    refine ⟨.inl (z2 b hb), ?_⟩
    by_cases e : b = a
    · subst e; exact ⟨_, upd_same⟩
    · exact ⟨o, by rw [upd_ne e]; exact ho⟩
  · exact (O.fo i b (z2 b hb)).1
  · rw [hv] at hv'
    cases hv'
    exact z1
theorem sj_setT {i : Nat} {p : List Nat} {j : Int} (hN : Nav ta i p) (h : EvD C te ρ fun y ρ' => scal y = true ∧ ∃ q d es k, ρ'[i]? = some (.w q (treeW d)) ∧ valP d p = some (.lst es) ∧ ixN es.length j = some k ∧ P.nx (ρ'.set i (.w q (treeW (putP d p (es.set k y)))))) : Sj C (tAsg te (gSub ta (tC (.int j)) rSetL)) ρ P := fun G H σ fp O D E =>
  h G H σ fp O _ fun w G' H' y ρ' fp' e O' D' r => by
    obtain ⟨hs, q, d, es, k, h1, h2, h3, h4⟩ := r
    obtain ⟨v, hv, _⟩ := O'.sl i _ h1
    obtain ⟨a, xs, ff, y1, y2, y3, y4⟩ := O'.writeT h1 hv h2
    refine hN σ H' v _ _ hv y1 ?_
    obtain ⟨fp2, O2⟩ := y4 (xs.set k w) (es.set k y) (Tws.setS hs (scal_dv hs D') k y3)
    exact ⟨a, xs, j, k, rfl, rfl, y2, by rw [y3.len]; exact h3, E.nx G' _ σ _ fp2 e O2 h4⟩
theorem sq_setT {i : Nat} {p : List Nat} {j : Int} (hN : Nav ta i p) (h : EvD C te ρ fun y ρ' => scal y = true ∧ ∃ q d es k, ρ'[i]? = some (.w q (treeW d)) ∧ valP d p = some (.lst es) ∧ ixN es.length j = some k ∧ Sj C us (ρ'.set i (.w q (treeW (putP d p (es.set k y))))) P) : Sj C (tSeq (tAsg te (gSub ta (tC (.int j)) rSetL)) us) ρ P := sj_seq (sj_setT hN h)
theorem sj_appT {i : Nat} {p : List Nat} {c : V} {y : Dt} {q : Bool} {d : Dt} {es : List Dt} (hN : Nav ta i p) (hs : scal y = true) (hc : Dv K (fun _ => none) c y) (hw : ρ[i]? = some (.w q (treeW d))) (he : valP d p = some (.lst es)) (hl : es.length ≤ 1000000) (k : P.nx (ρ.set i (.w q (treeW (putP d p (es ++ [y])))))) : Sj C (tDrop (tBM K "list" rAppend ta (tCons (tC c) tNil))) ρ P := fun G H σ fp O D E => by
  obtain ⟨v, hv, _⟩ := O.sl i _ hw
  obtain ⟨a, xs, ff, y1, y2, y3, y4⟩ := O.writeT hw hv he
  refine hN σ H v _ _ hv y1 ⟨.inl ⟨rfl, _, .inl (.inl y2)⟩, ?_⟩
  obtain ⟨fp2, O2⟩ := y4 (xs ++ [c]) (es ++ [y]) ⟨ff ++ [], y3.snoc (.sc hs hc) (fun _ _ z => (nomatch z)), fun b hb => by rw [List.append_nil] at hb; exact hb⟩
  refine ⟨a, xs, c, rfl, rfl, y2, ?_, E.nx G _ σ _ fp2 (Same.refl G) O2 k⟩
  rw [y3.len]
  exact Nat.lt_of_le_of_lt hl (by decide)
theorem sq_appT {i : Nat} {p : List Nat} {c : V} {y : Dt} {q : Bool} {d : Dt} {es : List Dt} (hN : Nav ta i p) (hs : scal y = true) (hc : Dv K (fun _ => none) c y) (hw : ρ[i]? = some (.w q (treeW d))) (he : valP d p = some (.lst es)) (hl : es.length ≤ 1000000) (k : Sj C us (ρ.set i (.w q (treeW (putP d p (es ++ [y]))))) P) : Sj C (tSeq (tDrop (tBM K "list" rAppend ta (tCons (tC c) tNil))) us) ρ P := sj_seq (sj_appT hN hs hc hw he hl k)
/-! ### given up -/
theorem OkV.freezeT {G H : Hp} {σ : St} {fp : Nat → List Addr} {v : V} {fv : List Addr} {d : Dt} (O : OkV C G H σ ρ fp v fv (.w false (treeW d))) : ∃ G', Same G G' ∧ Ok C G' H σ ρ fp ∧ Dv K G' v d := by
  classical
  obtain ⟨ht, hn⟩ := O.va
  have ht : Tw K H v d fv := ht
  have gn : ∀ a ∈ fv, G a = none := fun a ha => (O.fo a ha).1
  let G1 : Hp := fun a => if a ∈ fv then H a else G a
  have gi : ∀ a ∈ fv, G1 a = H a := fun a ha => if_pos ha
  have go : ∀ a, a ∉ fv → G1 a = G a := fun a ha => if_neg ha
  have s1 : Same G G1 := fun a o z => by
    rw [go a fun y => by rw [gn a y] at z; cases z]
    exact z
  refine ⟨G1, s1, ?_, ht.dv _ _ _ fun a ha o z => by rw [gi a ha]; exact z⟩
  exact {
    e0 := O.ok.e0.trans s1
    e1 := fun a u z => by
      by_cases e : a ∈ fv
      · rw [gi a e] at z; exact z
      · rw [go a e] at z; exact O.ok.e1 a u z
    nw := fun a u z => by
      by_cases e : a ∈ fv
      · exact .inr (hn rfl a e)
      · rw [go a e] at z; exact O.ok.nw a u z
    fr := O.ok.fr
    dm := O.ok.dm
    len := O.ok.len
    sl := fun i s h => (O.ok.sl i s h).up s1 fun a _ o q => q
    em := O.ok.em
    dj := O.ok.dj
    fo := fun i a h => by
      obtain ⟨h1, h2, h3⟩ := O.ok.fo i a h
      exact ⟨by rw [go a (O.dj i a h)]; exact h1, h2, h3⟩ }
def asT (R : Dt → Prop) (s : Sl) : Prop := ∃ d, s = .w false (treeW d) ∧ R d
theorem asT_i {R : Dt → Prop} {d : Dt} (h : R d) : asT R (.w false (treeW d)) := ⟨d, rfl, h⟩
theorem evd_fT {R : Dt → List Sl → Prop} (h : Ev C te ρ fun s ρ' => asT (fun d => R d ρ') s) : EvD C te ρ R := fun G H σ fp O Q q =>
  h G H σ fp O Q fun v G' H' s ρ' fp' fv e O' r => by
    obtain ⟨d, rfl, r⟩ := r
    obtain ⟨G2, s2, O2, D2⟩ := O'.freezeT
    exact q v G2 H' d ρ' fp' (e.trans s2) O2 D2 r
/-- a plain value as a tree -/
theorem ev_scT {R : Sl → List Sl → Prop} (h : EvD C te ρ fun d ρ' => scal d = true ∧ R (.w false (treeW d)) ρ') : Ev C te ρ R := fun G H σ fp O Q q =>
  h G H σ fp O Q fun v G' H' d ρ' fp' e O' D r => q v G' H' (.w false (treeW d)) ρ' fp' [] e ⟨O', ⟨Tw.sc r.1 (scal_dv r.1 D), fun _ _ z => (nomatch z)⟩, (fun _ _ _ z => (nomatch z)), fun _ z => (nomatch z)⟩ r.2
/-! ### made -/
theorem ev_lcT {R : Sl → List Sl → Prop} {wi : TI} {g : TG} {vs : List Nat} (hT : TgOnly g vs) (hn : ∀ (i : Nat) q W, ρ[i]? ≠ some (.w q W)) (h : WkD C wi ρ fun n Y ρ1 => ρ1 = ρ ∧ wipeOk ρ vs = true ∧ n ≤ 1000000 ∧ ∃ f : Nat → Dt,
    (∀ (C' : Cc K) i, i < n → GgD C' g (Y i) (dropW ρ vs) fun ρ2 => Ev C' te ρ2 fun s ρ3 => s = .w false (treeW (f i)) ∧ (∀ (i : Nat) q W, ρ3[i]? ≠ some (.w q W)) ∧ wipeOk ρ3 vs = true ∧ dropW ρ3 vs = dropW ρ vs) ∧
    R (.w false (treeW (.lst ((List.range n).map f)))) (backW ρ (dropW ρ vs) vs)) : Ev C (tLc wi g tYes te vs) ρ R := fun G H σ fp O Q q =>
  h G H σ fp O _ fun J G1 H1 n Y ρ1 fp1 e1 O1 it r => by
    obtain ⟨rfl, w1, hl, f, is, ie⟩ := r
    intro D hD
    have none1 : ∀ {C' : Cc K} {G' H' : Hp} {σ' : St} {ρ' : List Sl} {fp' : Nat → List Addr}, (∀ (i : Nat) q W, ρ'[i]? ≠ some (.w q W)) → Ok C' G' H' σ' ρ' fp' → fp' = fun _ => [] := fun hn O' => by
      funext j
      exact O'.em j fun q W => hn j q W
    have nd : ∀ (i : Nat) q W, (dropW ρ1 vs)[i]? ≠ some (.w q W) := fun i q W z => by
      by_cases hi : i ∈ vs
      · exact dropW_in hi q W z
      · rw [dropW_out hi] at z
        exact hn i q W z
    have e1' := none1 hn O1
    subst e1'
    let M : Nat → Hp → Prop := fun i H' => ∃ G' xs fps, Same G1 G' ∧ Ok C G' H' (L2.wipe σ vs) (dropW ρ1 vs) (fun _ => []) ∧ H' D = some (.lst xs) ∧ Tws K H' xs ((List.range i).map f) fps ∧ (∀ a ∈ D :: fps, G' a = none ∧ C.H0 a = none) ∧ D ∉ fps
    refine ⟨fun i m H' => m = n - i ∧ i ≤ n ∧ M i H', ⟨n, by simp, Nat.zero_le _, ?_⟩, ?_⟩
    · have O2 := (O1.wipe w1).scr (o := .lst []) hD
      exact ⟨G1, [], [], Same.refl G1, O2, upd_same, .nil, fun a ha => by
        rw [List.mem_singleton.mp ha]
        exact ⟨O1.e1.free hD, O1.dm D hD⟩, fun z => nomatch z⟩
    · rintro i m H' ⟨rfl, hi, G', xs, fps, e', O', hd, ht, hg, nD⟩
      have it' := it.up e'
      by_cases hlt : i < n
      · refine .inr ⟨it'.go i H' O'.e1 hlt, fun H2 => M (i + 1) H2, fun H2 z => ⟨n - (i + 1), by omega, rfl, hlt, z⟩, fun x H2 y => ?_⟩
        obtain ⟨G2, e2, O2, D2, keep⟩ := it'.item O' hlt y
        obtain ⟨kD, kG⟩ := keep D _ hd
        have t2 : Tws K H2 xs ((List.range i).map f) fps := ht.keep _ _ _ fun a _ o z => (keep a o z).1
        have g2 : ∀ a ∈ D :: fps, G2 a = none ∧ ∃ o, H2 a = some o := fun a ha => by
          have : ∃ o, H' a = some o := by
            rcases List.mem_cons.mp ha with z | z
            · rw [z]; exact ⟨_, hd⟩
            · exact ht.cell _ _ _ a z
          obtain ⟨o, ho⟩ := this
          obtain ⟨y1, y2⟩ := keep a o ho
          exact ⟨by rw [y2]; exact (hg a ha).1, o, y1⟩
        have tr := is (C.at (dropW ρ1 vs) (fun _ => []) G2 H2) i hlt G2 H2 (L2.wipe σ vs) (fun _ => []) x O2.from D2
        have tr2 := hT x (L2.wipe σ vs) H2 _ (tr (fun σ3 H3 => L2.wipe σ3 vs = L2.wipe (L2.wipe σ vs) vs → tYes σ3 H3 fun b H4 => if b = true then te σ3 H4 fun y H5 => ∃ acc, H5 D = some (.lst acc) ∧ acc.length < sizeLine ∧ M (i + 1) (upd H5 D (.lst (acc ++ [y]))) else M (i + 1) H4) fun G3 H3 σ3 ρ3 fp3 e3 O3 s3 ew => ?_)
        · rw [wipe_wipe] at tr2
          exact tr2
        · rw [wipe_wipe] at ew
          show te σ3 H3 _
          refine s3 G3 H3 σ3 fp3 O3 _ fun y G5 H5 s ρ5 fp5 fv e5 O5 r5 => ?_
          obtain ⟨rfl, n5, w5, d5⟩ := r5
          have e5' := none1 n5 O5.ok
          subst e5'
          have hall : ∀ a, a ∉ allFp (dropW ρ1 vs) (fun _ => []) := fun a z => by
            obtain ⟨_, z⟩ := mem_of_all z
            exact nomatch z
          have hown : ∀ a, a ∉ ownFp (dropW ρ1 vs) (fun _ => []) := fun a z => by
            obtain ⟨_, _, _, z⟩ := mem_of_own z
            exact nomatch z
          have k5 : ∀ a o, H2 a = some o → H5 a = some o := fun a o z => O5.ok.fr a o (hall a) z
          have old5 : ∀ a u, G5 a = some u → G2 a = some u ∨ H2 a = none := fun a u z => by
            rcases O5.ok.nw a u z with y | y | y
            · exact .inl y
            · exact .inr y
            · exact absurd y (hown a)
          have g5 : ∀ a ∈ D :: fps, G5 a = none := fun a ha => by
            obtain ⟨y1, o, y2⟩ := g2 a ha
            cases z : G5 a with
            | none => rfl
            | some u =>
              rcases old5 a u z with y | y
              · rw [y1] at y; cases y
              · rw [y2] at y; cases y
          have fresh : ∀ a ∈ fv, H2 a = none := fun a ha => by
            rcases (O5.fo a ha).2.2 with z | z
            · exact z
            · exact absurd z (hall a)
          have nf : ∀ a ∈ D :: fps, a ∉ fv := fun a ha z => by
            obtain ⟨_, o, y2⟩ := g2 a ha
            rw [fresh a z] at y2
            cases y2
          have tv : Tw K H5 y (f i) fv := O5.va.1
          have t5 : Tws K H5 xs ((List.range i).map f) fps := t2.keep _ _ _ fun a _ o z => k5 a o z
          have t6 : Tws K H5 (xs ++ [y]) ((List.range (i + 1)).map f) (fps ++ fv) := by
            rw [List.range_succ, List.map_append]
            exact t5.snoc tv fun a ha => nf a (List.mem_cons_of_mem _ ha)
          have nD6 : D ∉ fps ++ fv := fun z => by
            rcases List.mem_append.mp z with z | z
            · exact nD z
            · exact nf D (List.mem_cons_self ..) z
          refine ⟨xs, k5 D _ kD, ?_, ?_⟩
          · rw [t5.len, List.length_map, List.length_range]
            have : (1000000 : Nat) < sizeLine := by decide
            omega
          have O6 : Ok C G5 H5 (L2.wipe σ3 vs) (dropW ρ5 vs) (fun _ => []) := (O2.to O5.ok).wipe w5
          rw [ew, d5] at O6
          have h0 : ∀ a ∈ fv, C.H0 a = none := fun a ha => O2.dm a (fresh a ha)
          refine ⟨G5, _, fps ++ fv, ((e'.trans e2).trans e3).trans e5, ?_, upd_same, t6.keep _ _ _ fun a ha o z => by rw [upd_ne fun (e : a = D) => nD6 (e ▸ ha)]; exact z, fun a ha => ?_, nD6⟩
          · have gD := g5 D (List.mem_cons_self ..)
            have h0D := (hg D (List.mem_cons_self ..)).2
            exact {
              e0 := O6.e0
              e1 := fun a u z => by rw [upd_ne (ne_of_none z gD)]; exact O6.e1 a u z
              nw := O6.nw
              fr := fun a o h1 h2 => by rw [upd_ne (ne_of_none h2 h0D)]; exact O6.fr a o h1 h2
              dm := fun a z => by
                by_cases e : a = D
                · subst e; exact h0D
                · rw [upd_ne e] at z; exact O6.dm a z
              len := O6.len
              sl := fun j s hs => (O6.sl j s hs).up (Same.refl G5) fun a ha o z => nomatch ha
              em := O6.em
              dj := O6.dj
              fo := fun j a ha => nomatch ha }
          · rcases List.mem_cons.mp ha with z | z
            · exact ⟨g5 a (by rw [z]; exact List.mem_cons_self ..), by rw [z]; exact (hg D (List.mem_cons_self ..)).2⟩
            · rcases List.mem_append.mp z with z | z
              · exact ⟨g5 a (List.mem_cons_of_mem _ z), (hg a (List.mem_cons_of_mem _ z)).2⟩
              · exact ⟨(O5.fo a z).1, h0 a z⟩
      · have e : i = n := by omega
        subst e
        refine .inl ⟨it'.stop H' O'.e1, ?_⟩
        have O3 := O1.unwipe w1 e' O' fun j hj => dropW_in hj
        refine q (.ref D) G' H' (.w false (treeW (.lst ((List.range i).map f)))) _ (fun _ => []) (D :: fps) (e1.trans e') ⟨O3, ⟨Tw.lst hd ht nD, fun _ a ha => .inl (hg a ha).2⟩, fun j a h1 h2 => (nomatch h1), fun a ha => ⟨(hg a ha).1, ?_, .inl (hg a ha).2⟩⟩ ie
        rcases List.mem_cons.mp ha with z | z
        · rw [z]; exact ⟨_, hd⟩
        · exact ht.cell _ _ _ a z
theorem dropW_at {i : Nat} : ∀ {vs : List Nat}, i ∈ vs → i < ρ.length → (dropW ρ vs)[i]? = some .no
  | v :: vs, h, hl => by
    unfold dropW
    have len : (dropW ρ vs).length = ρ.length := by
      clear h
      induction vs with
      | nil => rfl
      | cons u us ih => unfold dropW; rw [List.length_set, ih]
    by_cases e : v = i
    · subst e
      exact List.getElem?_set_self (by rw [len]; exact hl)
    · rw [List.getElem?_set_ne e]
      rcases List.mem_cons.mp h with z | z
      · exact absurd z.symm e
      · exact dropW_at z hl
theorem dropW_more {us vs : List Nat} (h : ∀ v ∈ vs, v ∈ us) : dropW (dropW ρ vs) us = dropW ρ us := by
  refine List.ext_getElem? fun i => ?_
  by_cases hi : i ∈ us
  · by_cases hl : i < ρ.length
    · rw [dropW_at hi hl, dropW_at hi (by rw [dropW_len]; exact hl)]
    · rw [List.getElem?_eq_none (by rw [dropW_len, dropW_len]; omega), List.getElem?_eq_none (by rw [dropW_len]; omega)]
  · rw [dropW_out hi, dropW_out hi, dropW_out fun z => hi (h i z)]
/-- at the end several are let go, owned ones too -/
theorem sj_fgtL : ∀ (vs : List Nat) {nx : List Sl → Prop}, Sj C ts ρ { P with nx := fun ρ' => nx (dropW ρ' vs) } → Sj C ts ρ { P with nx := nx }
  | [], _, h => h
  | v :: vs, nx, h => sj_fgt (P := { P with nx := nx }) v (sj_fgtL vs (nx := fun ρ' => nx (ρ'.set v .no)) h)
end

end
section
/-! Pairs of things, each data or owned: made of what is let go, taken apart by a subscript. -/
/-- what one of the two is -/
def cmW (s : Sl) (K : PySem.W.Frag) (G H : Hp) (v : V) (fp : List Addr) : Prop := match s with
  | .no => False
  | .d d => fp = [] ∧ Dv K G v d
  | .w _ W => W.W K G H v fp
theorem cmW_st {s : Sl} {K : PySem.W.Frag} {G G' H H' : Hp} {v : V} {fp : List Addr} (h : cmW s K G H v fp) (e : Same G G') (k : ∀ a ∈ fp, ∀ o, H a = some o → H' a = some o) : cmW s K G' H' v fp := by
  cases s with
  | no => exact h
  | d d => exact ⟨h.1, h.2.up e⟩
  | w q W => exact W.st h e k
def pairW (s1 s2 : Sl) : Wd where
  W := fun K G H v fp => ∃ a v1 v2 f1 f2, v = .ref a ∧ fp = a :: (f1 ++ f2) ∧ H a = some (.tup [v1, v2]) ∧ (∀ b ∈ f1, b ∉ f2) ∧ cmW s1 K G H v1 f1 ∧ cmW s2 K G H v2 f2
  st := by
    rintro K G G' H H' v fp ⟨a, v1, v2, f1, f2, rfl, rfl, h1, h2, h3, h4⟩ e k
    exact ⟨a, v1, v2, f1, f2, rfl, rfl, k a (List.mem_cons_self ..) _ h1, h2, cmW_st h3 e fun b hb => k b (List.mem_cons_of_mem _ (List.mem_append_left _ hb)), cmW_st h4 e fun b hb => k b (List.mem_cons_of_mem _ (List.mem_append_right _ hb))⟩
section
variable {K : PySem.W.Frag} {C : Cc K} {ρ : List Sl} {ta te : TE}
/-- an owned local is let go -/
theorem Ok.move {G H : Hp} {σ : L2.St} {fp : Nat → List Addr} {i : Nat} {W : Wd} (O : Ok C G H σ ρ fp) (h : ρ[i]? = some (.w false W)) : ∃ v, σ[i]? = some (some v) ∧ OkV C G H σ (ρ.set i .no) (fpSet fp i []) v (fp i) (.w false W) := by
  obtain ⟨v, h1, h2, h3, h4⟩ := O.sl i _ h
  have hi : i < ρ.length := (List.getElem?_eq_some_iff.mp h).1
  have sub : ∀ j a, a ∈ fpSet fp i [] j → j ≠ i ∧ a ∈ fp j := fun j a z => by
    unfold fpSet at z
    by_cases e : j = i
    · rw [if_pos e] at z; cases z
    · rw [if_neg e] at z; exact ⟨e, z⟩
  have out : ∀ j, j ≠ i → fpSet fp i [] j = fp j := fun j e => by unfold fpSet; rw [if_neg e]
  refine ⟨v, h1, ?_, ⟨h2, h4⟩, fun j a ha hb => ?_, fun a ha => O.fo i a ha⟩
  · exact {
      e0 := O.e0
      e1 := O.e1
      nw := O.nw
      fr := O.fr
      dm := O.dm
      len := by rw [List.length_set]; exact O.len
      sl := fun j s hs => by
        by_cases e : j = i
        · subst e
          rw [List.getElem?_set_self hi] at hs
          cases hs
          exact trivial
        · rw [List.getElem?_set_ne (Ne.symm e)] at hs
          rw [out j e]
          exact O.sl j s hs
      em := fun j hj => by
        by_cases e : j = i
        · unfold fpSet; rw [if_pos e]
        · rw [out j e]
          exact O.em j fun q W z => hj q W (by rw [List.getElem?_set_ne (Ne.symm e)]; exact z)
      dj := fun j l a ha hb => O.dj j l a (sub j a ha).2 (sub l a hb).2
      fo := fun j a ha => O.fo j a (sub j a ha).2 }
  · obtain ⟨e, z⟩ := sub j a ha
    exact e (O.dj j i a z hb)
/-- two at once in a new tuple -/
theorem OkV.two {G H : Hp} {σ : L2.St} {fp : Nat → List Addr} {v1 v2 : V} {f1 f2 : List Addr} {s1 s2 : Sl} {p : Addr} (O1 : OkV C G H σ ρ fp v1 f1 s1) (O2 : OkV C G H σ ρ fp v2 f2 s2) (hp : H p = none) (hd : ∀ b ∈ f1, b ∉ f2)
    (n1 : cmW s1 K G H v1 f1) (n2 : cmW s2 K G H v2 f2) (u1 : ∀ a ∈ f1, C.nu a) (u2 : ∀ a ∈ f2, C.nu a) :
    OkV C G (upd H p (.tup [v1, v2])) σ ρ fp (.ref p) (p :: (f1 ++ f2)) (.w false (pairW s1 s2)) := by
  have k : ∀ a o, H a = some o → upd H p (.tup [v1, v2]) a = some o := fun a o e => same_new hp a o e
  refine ⟨O1.ok.scr hp, ⟨⟨p, v1, v2, f1, f2, rfl, rfl, upd_same, hd, cmW_st n1 (Same.refl G) fun b _ o e => k b o e, cmW_st n2 (Same.refl G) fun b _ o e => k b o e⟩, fun _ a ha => ?_⟩, fun i a h1 h2 => ?_, fun a ha => ?_⟩
  · rcases List.mem_cons.mp ha with rfl | z
    · exact .inl (O1.ok.dm a hp)
    · rcases List.mem_append.mp z with z | z
      · exact u1 a z
      · exact u2 a z
  · rcases List.mem_cons.mp h2 with rfl | z
    · obtain ⟨_, ⟨o, q⟩, _⟩ := O1.ok.fo i a h1
      rw [hp] at q; cases q
    · rcases List.mem_append.mp z with z | z
      · exact O1.dj i a h1 z
      · exact O2.dj i a h1 z
  · rcases List.mem_cons.mp ha with rfl | z
    · exact ⟨O1.ok.e1.free hp, ⟨_, upd_same⟩, .inl (O1.ok.dm a hp)⟩
    · have : ∀ {v : V} {f : List Addr} {s : Sl}, OkV C G H σ ρ fp v f s → a ∈ f → G a = none ∧ (∃ o, upd H p (.tup [v1, v2]) a = some o) ∧ (C.H0 a = none ∨ a ∈ C.bs) := fun O hf => by
        obtain ⟨g, ⟨o, ho⟩, r⟩ := O.fo a hf
        exact ⟨g, ⟨o, k a o ho⟩, r⟩
      rcases List.mem_append.mp z with z | z
      · exact this O1 z
      · exact this O2 z
/-- (x, y): x owned and let go, y data -/
theorem ev_pairOD {R : Sl → List Sl → Prop} {i j : Nat} {W : Wd} {d : Dt} (hi : ρ[i]? = some (.w false W)) (hj : ρ[j]? = some (.d d)) (k : R (.w false (pairW (.w false W) (.d d))) (ρ.set i .no)) : Ev C (tTup (tCons (tVar i) (tCons (tVar j) tNil))) ρ R := fun G H σ fp O Q q => by
  obtain ⟨v1, e1, M⟩ := O.move hi
  obtain ⟨v2, e2, D⟩ := O.sl j _ hj
  refine ⟨v1, e1, v2, e2, show 2 ≤ sizeLine by decide, fun p hp => ?_⟩
  refine q _ G _ _ _ _ _ (Same.refl G) (M.two (M.ok.dv D) hp (fun _ _ z => nomatch z) M.va.1 ⟨rfl, D⟩ (M.va.2 rfl) fun _ z => nomatch z) k
/-- (x, y): both owned and let go -/
theorem ev_pairOO {R : Sl → List Sl → Prop} {i j : Nat} {W W' : Wd} (hi : ρ[i]? = some (.w false W)) (hj : ρ[j]? = some (.w false W')) (ne : i ≠ j) (k : R (.w false (pairW (.w false W) (.w false W'))) ((ρ.set i .no).set j .no)) : Ev C (tTup (tCons (tVar i) (tCons (tVar j) tNil))) ρ R := fun G H σ fp O Q q => by
  obtain ⟨v1, e1, M⟩ := O.move hi
  obtain ⟨v2, e2, N⟩ := M.ok.move (i := j) (W := W') (by rw [List.getElem?_set_ne ne]; exact hj)
  have ef : fpSet fp i [] j = fp j := by unfold fpSet; rw [if_neg (Ne.symm ne)]
  rw [ef] at N
  have M' : OkV C G H σ ((ρ.set i .no).set j .no) (fpSet (fpSet fp i []) j []) v1 (fp i) (.w false W) := ⟨N.ok, M.va, fun l a ha hb => by
    unfold fpSet at ha
    by_cases e : l = j
    · rw [if_pos e] at ha; cases ha
    · rw [if_neg e] at ha
      exact M.dj l a ha hb, M.fo⟩
  refine ⟨v1, e1, v2, e2, show 2 ≤ sizeLine by decide, fun p hp => ?_⟩
  exact q _ G _ _ _ _ _ (Same.refl G) (M'.two N hp (fun b h1 h2 => ne (O.dj i j b h1 h2)) M'.va.1 N.va.1 (M'.va.2 rfl) (N.va.2 rfl)) k
/-- one of the two alone -/
theorem OkV.part {G H : Hp} {σ : L2.St} {fp : Nat → List Addr} {v v1 : V} {fv f1 : List Addr} {W : Wd} {s1 : Sl} (O : OkV C G H σ ρ fp v fv (.w false W)) (h1 : cmW s1 K G H v1 f1) (hs : ∀ b ∈ f1, b ∈ fv) : OkV C G H σ ρ fp v1 f1 s1 := by
  refine ⟨O.ok, ?_, fun i a ha hb => O.dj i a ha (hs a hb), fun a ha => O.fo a (hs a ha)⟩
  cases s1 with
  | no => exact h1.elim
  | d d => exact h1
  | w q W => exact ⟨h1, fun _ a ha => O.va.2 rfl a (hs a ha)⟩
theorem ev_ixP0 {R : Sl → List Sl → Prop} (h : Ev C te ρ fun s ρ1 => ∃ s1 s2, s = .w false (pairW s1 s2) ∧ R s1 ρ1) : Ev C (tOp (rIx K) te (tC (.int 0))) ρ R := fun G H σ fp O Q q =>
  h G H σ fp O _ fun x G1 H1 s ρ1 fp1 fv e1 O1 r => by
    obtain ⟨s1, s2, rfl, r⟩ := r
    obtain ⟨a, v1, v2, f1, f2, rfl, rfl, hH, hd, c1, c2⟩ := O1.va.1
    exact .inr (.inl ⟨a, [v1, v2], 0, v1, rfl, rfl, .inl (.inl hH), rfl, q _ G1 H1 s1 ρ1 fp1 f1 e1 (O1.part c1 fun b hb => List.mem_cons_of_mem _ (List.mem_append_left _ hb)) r⟩)
theorem ev_ixP1 {R : Sl → List Sl → Prop} (h : Ev C te ρ fun s ρ1 => ∃ s1 s2, s = .w false (pairW s1 s2) ∧ R s2 ρ1) : Ev C (tOp (rIx K) te (tC (.int 1))) ρ R := fun G H σ fp O Q q =>
  h G H σ fp O _ fun x G1 H1 s ρ1 fp1 fv e1 O1 r => by
    obtain ⟨s1, s2, rfl, r⟩ := r
    obtain ⟨a, v1, v2, f1, f2, rfl, rfl, hH, hd, c1, c2⟩ := O1.va.1
    exact .inr (.inl ⟨a, [v1, v2], 1, v2, rfl, rfl, .inl (.inl hH), rfl, q _ G1 H1 s2 ρ1 fp1 f2 e1 (O1.part c2 fun b hb => List.mem_cons_of_mem _ (List.mem_append_right _ hb)) r⟩)
/-! ### what only looks: owned things are read as data while an expression is gone through that changes nothing -/
inductive PureS : Sl → Sl → Prop
  | no {s : Sl} : PureS s .no
  | d {d : Dt} : PureS (.d d) (.d d)
  | l {q : Bool} {ds : List Dt} : PureS (.w q (lw ds)) (.d (.lst ds))
  | t {q : Bool} {d : Dt} : PureS (.w q (treeW d)) (.d d)
inductive PureL : List Sl → List Sl → Prop
  | nil : PureL [] []
  | cons {s t : Sl} {ss ts : List Sl} : PureS s t → PureL ss ts → PureL (s :: ss) (t :: ts)
theorem PureL.len : ∀ {ρ ρ1 : List Sl}, PureL ρ ρ1 → ρ1.length = ρ.length
  | _, _, .nil => rfl
  | _, _, .cons _ h => by rw [List.length_cons, List.length_cons, h.len]
theorem PureL.at : ∀ {ρ ρ1 : List Sl}, PureL ρ ρ1 → ∀ (j : Nat) (t : Sl), ρ1[j]? = some t → ∃ s, ρ[j]? = some s ∧ PureS s t
  | _, _, .nil, _, _, e => by simp at e
  | _, _, .cons (s := s) h1 h2, 0, t, e => ⟨s, rfl, by simp at e; rw [← e]; exact h1⟩
  | _, _, .cons h1 h2, j + 1, t, e => by simpa using h2.at j t (by simpa using e)
def Cc.pure (K : PySem.W.Frag) (H : Hp) : Cc K := ⟨[], [], [], H, H⟩
theorem Ok.pure {G H : Hp} {σ : L2.St} {fp : Nat → List Addr} {ρ1 : List Sl} (O : Ok C G H σ ρ fp) (hp : PureL ρ ρ1) : Ok (Cc.pure K H) H H σ ρ1 (fun _ => []) where
  e0 := Same.refl _
  e1 := Same.refl _
  nw := fun a o h => .inl h
  fr := fun a o _ h => h
  dm := fun a h => h
  len := by rw [hp.len]; exact O.len
  sl := fun j t h => by
    obtain ⟨s, hs, r⟩ := hp.at j t h
    cases r with
    | no => exact trivial
    | d =>
      obtain ⟨v, h1, h2⟩ := O.sl j _ hs
      exact ⟨v, h1, h2.up O.e1⟩
    | l => exact own_dv O hs
    | t =>
      obtain ⟨v, h1, h2, _⟩ := O.sl j _ hs
      exact ⟨v, h1, Tw.dv _ _ _ (fun a _ o z => z) h2⟩
  em := fun _ _ => rfl
  dj := fun i j a h => nomatch h
  fo := fun i a h => nomatch h
theorem Ok.after {G H G2 H2 : Hp} {σ : L2.St} {ρ2 : List Sl} {fp fp2 : Nat → List Addr} (O : Ok C G H σ ρ fp) (O2 : Ok (Cc.pure K H) G2 H2 σ ρ2 fp2) : Ok C G H2 σ ρ fp :=
  have S : Same H H2 := fun a o e => O2.fr a o (fun z => nomatch z) e
  O.grow (Same.refl G) (O.e1.trans S) (fun a o z => .inl z) S
theorem evd_pure {R : Dt → List Sl → Prop} {ρ1 : List Sl} (hp : PureL ρ ρ1) (h : ∀ C1 : Cc K, EvD C1 te ρ1 fun x _ => scal x = true ∧ R x ρ) : EvD C te ρ R := fun G H σ fp O Q q =>
  h (Cc.pure K H) H H σ _ (O.pure hp) Q fun v G2 H2 d ρ2 fp2 e2 O2 D2 r => q v G H2 d ρ fp (Same.refl G) (O.after O2) (scal_dv r.1 D2) r.2
theorem evt_pure {R : Bool → List Sl → Prop} {t : TT} {ρ1 : List Sl} (hp : PureL ρ ρ1) (h : ∀ C1 : Cc K, EvT C1 t ρ1 fun x _ => R x ρ) : EvT C t ρ R := fun G H σ fp O Q q =>
  h (Cc.pure K H) H H σ _ (O.pure hp) Q fun b G2 H2 ρ2 fp2 e2 O2 r => q b G H2 ρ fp (Same.refl G) (O.after O2) r
theorem ev_pureL {R : Sl → List Sl → Prop} {ρ1 : List Sl} (hp : PureL ρ ρ1) (h : ∀ C1 : Cc K, Ev C1 te ρ1 fun s _ => ∃ ds, s = .l ds ∧ (∀ d ∈ ds, scal d = true) ∧ R (.l ds) ρ) : Ev C te ρ R := fun G H σ fp O Q q =>
  h (Cc.pure K H) H H σ _ (O.pure hp) Q fun v G2 H2 s ρ2 fp2 fv e2 O2 r => by
    obtain ⟨ds, rfl, hs, r⟩ := r
    obtain ⟨⟨p, xs, rfl, rfl, h1, h2⟩, hn⟩ := O2.va
    have hp0 : H p = none := by
      rcases (O2.fo p (List.mem_singleton.mpr rfl)).2.2 with z | z
      · exact z
      · cases z
    have A := O.after O2.ok
    suffices OK : OkV C G H2 σ ρ fp (.ref p) [p] (.l ds) from q _ G H2 _ ρ fp [p] (Same.refl G) OK r
    refine ⟨A, ⟨⟨p, xs, rfl, rfl, h1, scal_dvs hs h2⟩, fun _ a ha => ?_⟩, fun i a ha hb => ?_, fun a ha => ?_⟩
    · rw [List.mem_singleton.mp ha]
      exact .inl (O.dm p hp0)
    · rw [List.mem_singleton.mp hb] at ha
      obtain ⟨_, ⟨o, ho⟩, _⟩ := O.fo i p ha
      rw [hp0] at ho; cases ho
    · rw [List.mem_singleton.mp ha]
      exact ⟨O.e1.free hp0, ⟨_, h1⟩, .inl (O.dm p hp0)⟩
/-! ### a list of two lists, all one's own -/
theorem tws_of {H : Hp} : ∀ {ds : List Dt} {xs : List V}, (∀ d ∈ ds, scal d = true) → Dvs K (fun _ => none) xs ds → Tws K H xs ds []
  | [], _, _, h => by cases h; exact .nil
  | d :: ds, _, hs, h => by
    cases h with
    | cons h1 h2 =>
      have z : Tws K H _ (d :: ds) ([] ++ []) := .cons (.sc (hs d (List.mem_cons_self ..)) h1) (tws_of (fun e he => hs e (List.mem_cons_of_mem _ he)) h2) (fun _ z => nomatch z)
      exact z
theorem tws_to {H : Hp} : ∀ {ds : List Dt} {xs : List V} {ff : List Addr}, (∀ d ∈ ds, scal d = true) → Tws K H xs ds ff → Dvs K (fun _ => none) xs ds
  | [], _, _, _, h => by cases h; exact .nil
  | d :: ds, _, _, hs, h => by
    cases h with
    | cons h1 h2 h3 =>
      refine .cons ?_ (tws_to (fun e he => hs e (List.mem_cons_of_mem _ he)) h2)
      cases h1 with
      | sc _ z => exact z
      | lst _ _ _ => cases (hs _ (List.mem_cons_self ..))
theorem tw_lw {G H : Hp} {v : V} {fp : List Addr} {ds : List Dt} (hs : ∀ d ∈ ds, scal d = true) (h : (lw ds).W K G H v fp) : Tw K H v (.lst ds) fp := by
  obtain ⟨p, xs, rfl, rfl, h1, h2⟩ := h
  exact .lst h1 (tws_of hs (scal_dvs hs h2)) (fun z => nomatch z)
theorem ev_lst2T {tb : TE} {R : Sl → List Sl → Prop} (h : Ev C ta ρ fun s ρ1 => ∃ ds, s = .l ds ∧ (∀ d ∈ ds, scal d = true) ∧ ∀ C' : Cc K, Ev C' tb ρ1 fun s2 ρ2 => ∃ es, s2 = .l es ∧ (∀ d ∈ es, scal d = true) ∧ R (.w false (treeW (.lst [.lst ds, .lst es]))) ρ2) : Ev C (tLst (tCons ta (tCons tb tNil))) ρ R := fun G H σ fp O Q q =>
  h G H σ fp O _ fun x G1 H1 s ρ1 fp1 fv e1 O1 r => by
    obtain ⟨ds, rfl, hs, r⟩ := r
    refine r (C.at ρ1 fp1 G1 H1) G1 H1 σ fp1 O1.ok.from _ fun y G2 H2 s2 ρ2 fp2 fv2 e2 O2 r2 => ?_
    obtain ⟨es, rfl, hs2, r2⟩ := r2
    have F := O1.frame O2.ok
    have t1 := tw_lw hs F.va.1
    have t2 := tw_lw hs2 O2.va.1
    have old : ∀ a ∈ fv, ∃ o, H1 a = some o := fun a ha => (O1.fo a ha).2.1
    have dj : ∀ b ∈ fv, b ∉ fv2 := fun b h1 h2 => by
      obtain ⟨o, ho⟩ := old b h1
      rcases (O2.fo b h2).2.2 with z | z
      · have z' : H1 b = none := z
        rw [ho] at z'; cases z'
      · obtain ⟨i, hi⟩ := mem_of_all z
        exact O1.dj i b hi h1
    have nu2 : ∀ a ∈ fv2, C.nu a := fun a ha => by
      rcases O2.va.2 rfl a ha with z | z
      · exact .inl (O1.ok.dm a z)
      · obtain ⟨i, W2, e, hi⟩ := mem_of_own z
        obtain ⟨v, _, _, _, h4⟩ := O1.ok.sl i _ e
        exact h4 rfl a hi
    refine ⟨show 2 ≤ sizeLine by decide, fun p hp => ?_⟩
    have k : ∀ a o, H2 a = some o → upd H2 p (.lst [x, y]) a = some o := fun a o e => same_new hp a o e
    have nfo : ∀ a ∈ fv ++ (fv2 ++ []), a ≠ p ∧ G2 a = none ∧ (∃ o, H2 a = some o) ∧ (C.H0 a = none ∨ a ∈ C.bs) ∧ C.nu a := fun a ha => by
      have key : ∀ {o : HO}, H2 a = some o → a ≠ p := fun e z => by rw [z, hp] at e; cases e
      rcases List.mem_append.mp ha with z | z
      · obtain ⟨g, ⟨o, ho⟩, b⟩ := F.fo a z
        exact ⟨key ho, g, ⟨o, ho⟩, b, F.va.2 rfl a z⟩
      · rw [List.append_nil] at z
        obtain ⟨g, ⟨o, ho⟩, b⟩ := O2.fo a z
        refine ⟨key ho, g, ⟨o, ho⟩, ?_, nu2 a z⟩
        rcases b with b | b
        · exact .inl (O1.ok.dm a b)
        · obtain ⟨i, hi⟩ := mem_of_all b
          exact (O1.ok.fo i a hi).2.2
    suffices OK : OkV C G2 (upd H2 p (.lst [x, y])) σ ρ2 fp2 (.ref p) (p :: (fv ++ (fv2 ++ []))) (.w false (treeW (.lst [.lst ds, .lst es]))) from q _ G2 _ _ ρ2 fp2 _ (e1.trans e2) OK r2
    refine ⟨F.ok.scr hp, ⟨?_, fun _ a ha => ?_⟩, fun i a h1 h2 => ?_, fun a ha => ?_⟩
    · refine Tw.lst upd_same (.cons (t1.keep _ _ _ fun a _ o z => k a o z) (.cons (t2.keep _ _ _ fun a _ o z => k a o z) .nil (fun _ _ z => nomatch z)) fun b h1 h2 => ?_) (fun z => (nfo p z).1 rfl)
      rw [List.append_nil] at h2
      exact dj b h1 h2
    · rcases List.mem_cons.mp ha with rfl | z
      · exact .inl (F.ok.dm a hp)
      · exact (nfo a z).2.2.2.2
    · rcases List.mem_cons.mp h2 with rfl | z
      · obtain ⟨_, ⟨o, ho⟩, _⟩ := F.ok.fo i a h1
        rw [hp] at ho; cases ho
      · rcases List.mem_append.mp z with z | z
        · exact F.dj i a h1 z
        · rw [List.append_nil] at z
          exact O2.dj i a h1 z
    · rcases List.mem_cons.mp ha with rfl | z
      · exact ⟨F.ok.e1.free hp, ⟨_, upd_same⟩, .inl (F.ok.dm a hp)⟩
      · obtain ⟨_, g, ⟨o, ho⟩, b, _⟩ := nfo a z
        exact ⟨g, ⟨o, k a o ho⟩, b⟩
/-- x[..].reverse() -/
theorem sj_revT {P : En} {i : Nat} {p : List Nat} {q : Bool} {d : Dt} {es : List Dt} (hN : Nav ta i p) (hs : ∀ e ∈ es, scal e = true) (hw : ρ[i]? = some (.w q (treeW d))) (he : valP d p = some (.lst es)) (k : P.nx (ρ.set i (.w q (treeW (putP d p es.reverse))))) : Sj C (tDrop (tBM0 K "list" rReverse ta)) ρ P := fun G H σ fp O D E => by
  obtain ⟨v, hv, _⟩ := O.sl i _ hw
  obtain ⟨a, xs, ff, y1, y2, y3, y4⟩ := O.writeT hw hv he
  refine hN σ H v _ _ hv y1 ⟨.inl ⟨rfl, _, .inl (.inl y2)⟩, ?_⟩
  obtain ⟨fp2, O2⟩ := y4 xs.reverse es.reverse ⟨[], tws_of (fun e he => hs e (List.mem_reverse.mp he)) (tws_to hs y3).rev, fun _ z => nomatch z⟩
  exact ⟨a, xs, rfl, rfl, y2, E.nx G _ σ _ fp2 (Same.refl G) O2 k⟩
end

end
section
/-! Local dicts whose keys are tuples of whole numbers: of lists that grow (setdefault), of data. -/
open PySem L2 PySem.Spec PyProof.Rows
section
variable {X : Cx} {pins : List (Addr × Obj)} {σ : L2.St} {H : Hp} {s : Shared} {a b : Addr} {r : Value} {d : V} {A : Around} {E : Value → Shared → Prop} {kvs : List (List Key × V)} {k : List Key}
theorem d_setdT {Q : Value → Shared → Prop} (hu : A.units + 1 < cLine) (I : Inv X pins σ H s) (e : H a = some (.dT kvs)) (eb : H b = some (.tup (k.map kV))) (rd : RelV d r) (hl : kvs.length < sizeLine)
    (h1 : ∀ v, valV kvs k = some v → ∀ (w' : Value) (s' : Shared), Inv X pins σ H s' → RelV v w' → Q w' s') (h2 : valV kvs k = none → ∀ (w' : Value) (s' : Shared), Inv X pins σ (upd H a (.dT (putK kvs k d))) s' → RelV d w' → Q w' s') :
    wpAny (model X.prog X.w) A (call (.builtin "dict.setdefault") [.ref a, .ref b, r]) Q E s := by
  obtain ⟨z, hd, xs, rel, dd⟩ := dt_of I.hok e
  have hz : xs.length ≤ sizeLine := by rw [← Paired.length rel]; exact z
  refine call_meetsIn PySem.F.slot_dict_setdefault dd.typeIs PySem.F.entry_dict_setdefault (PySem.F.args_dict_setdefault_3 _ _ _) (meetsH_dict_setdefault (tupleKind (mixKind X.prog X.w)) a b hd r) ⟨tupleKind_room_in1 hu, k, xs, key_of I.hok eb, dd, hz, fun p hp => ?_, fun hn h' dd' hs => ?_⟩
  · have q := rel.val k
    rw [hp] at q
    cases q0 : valV kvs k with
    | none =>
      rw [q0] at q
      exact (show False from q).elim
    | some v0 =>
      rw [q0] at q
      exact h1 v0 q0 _ _ (I.tok _) q
  · have q := rel.val k
    rw [hn] at q
    cases q0 : valV kvs k with
    | some v0 =>
      rw [q0] at q
      exact (show False from q).elim
    | none =>
      have hl2 : (putK kvs k d).length ≤ sizeLine := by
        have := length_putK kvs k d
        omega
      obtain ⟨q, es, ep, hq, g2, g3, g4, _, g5⟩ := dd'
      refine h2 q0 _ _ (d_write I (by rw [e]; exact True.intro) hs ⟨q, hq⟩ ⟨hl2, hd, _, (rel.put k eb rd).keeps fun c ys ec => ?_, q, es, ep, hq, g2, g3, g4, g5⟩) rd
      rw [upd_ne (ne_of ec e (fun z => nomatch z))]
      exact ec
end
/-- d.setdefault(y, z), keys tuples -/
def tSetdT (td ty tx : TE) : TE := fun σ H Q => td σ H fun x H1 => ∃ a, x = .ref a ∧ IsD H1 a ∧ ty σ H1 fun y H2 => tx σ H2 fun z H3 => ∃ (kvs : List (List Key × V)) (k : List Key) (b : Addr), H3 a = some (.dT kvs) ∧ y = .ref b ∧ H3 b = some (.tup (k.map kV)) ∧ kvs.length < sizeLine ∧
  (∀ v, valV kvs k = some v → Q v H3) ∧ (valV kvs k = none → Q z (upd H3 a (.dT (putK kvs k z))))
section
variable {X : Cx} {o e f : Expr} {td ty tx : TE} {apos cpos : Pos}
theorem pe_setdT (hu : X.A.units + 1 < cLine) (ho : PE X o td) (he : PE X e ty) (hf : PE X f tx) (m : M2 X o "setdefault" apos e f cpos) : PE X (.Call (.Attribute o "setdefault" apos) [e, f] [] cpos) (tSetdT td ty tx) := by
  refine ⟨fun pins s σ H Q I h => ?_⟩
  refine wpAny_Call_method m.base m.few m.line PySem.F.plainAttrs_dict PySem.F.slot_dict_setdefault PySem.F.type_dict_setdefault (thn (ho.run pins s σ H _ I h) fun u s1 ⟨x, H1, I1, rx, a, ex, d, q1⟩ => ?_)
  subst ex
  obtain rfl : u = Value.ref a := rx
  obtain ⟨t1, t2, _⟩ := isD_at I1 d
  refine ⟨t1, t2, ?_⟩
  rw [m.trees]
  refine Calls.callWith_builtin rfl (Calls.evalArgs_plain (Calls.spliced_cons (thn (he.run pins s1 σ H1 _ I1 q1) fun iv s2 ⟨y, H2, I2, ry, q2⟩ =>
    Calls.spliced_cons (thn (hf.run pins s2 σ H2 _ I2 q2) fun fv s3 ⟨z, H3, I3, rz, kvs, k, b, ea, ey, eb, hl, q3, q4⟩ => Calls.spliced_nil ?_))))
  subst ey
  cases (show iv = Value.ref b from ry)
  exact d_setdT hu I3 ea eb rz hl (fun v hv w' s4 I4 rw' => ⟨v, _, I4, rw', q3 v hv⟩) fun hn w' s4 I4 rw' => ⟨z, _, I4, rw', q4 hn⟩
end
/-! ### dicts of lists -/
/-- the dict's entries: each a list of its own -/
inductive Dls (K : PySem.W.Frag) (G H : Hp) : List (List Key × V) → List (List Int × List Dt) → List Addr → Prop
  | nil : Dls K G H [] [] []
  | cons {k : List Int} {a : Addr} {xs : List V} {ds : List Dt} {vs : List (List Key × V)} {m : List (List Int × List Dt)} {as : List Addr} : H a = some (.lst xs) → Dvs K G xs ds → a ∉ as → Dls K G H vs m as → Dls K G H ((k.map Sum.inl, .ref a) :: vs) ((k, ds) :: m) (a :: as)
def valL : List (List Int × List Dt) → List Int → Option (List Dt)
  | [], _ => none
  | (j, d) :: r, k => if j = k then some d else valL r k
/-- one more in the list of a key -/
def addL : List (List Int × List Dt) → List Int → Dt → List (List Int × List Dt)
  | [], k, d => [(k, [d])]
  | (j, ds) :: r, k, d => if j = k then (j, ds ++ [d]) :: r else (j, ds) :: addL r k d
section
variable {K : PySem.W.Frag} {C : Cc K} {ρ : List Sl} {G G' H H' : Hp}
theorem Dls.keep {vs : List (List Key × V)} {m : List (List Int × List Dt)} {as : List Addr} (h : Dls K G H vs m as) (e : Same G G') (k : ∀ a ∈ as, ∀ o, H a = some o → H' a = some o) : Dls K G' H' vs m as := by
  induction h with
  | nil => exact .nil
  | cons a b c _ ih => exact .cons (k _ (List.mem_cons_self ..) _ a) (b.up e) c (ih fun x hx => k x (List.mem_cons_of_mem _ hx))
theorem Dls.len {vs : List (List Key × V)} {m : List (List Int × List Dt)} {as : List Addr} (h : Dls K G H vs m as) : vs.length = m.length := by
  induction h with
  | nil => rfl
  | cons _ _ _ _ ih => rw [List.length_cons, List.length_cons, ih]
/-- a dict of lists, all one's own -/
def dlw (m : List (List Int × List Dt)) : Wd where
  W := fun K G H v fp => ∃ p vs as, v = .ref p ∧ fp = p :: as ∧ H p = some (.dT vs) ∧ p ∉ as ∧ Dls K G H vs m as
  st := by
    rintro K G G' H H' v fp ⟨p, vs, as, rfl, rfl, h, n, hd⟩ e k
    exact ⟨p, vs, as, rfl, rfl, k p (List.mem_cons_self ..) _ h, n, hd.keep e fun a ha o z => k a (List.mem_cons_of_mem _ ha) o z⟩
theorem inl_eq {j k : List Int} : ((j.map (Sum.inl : Int → Key)) = k.map Sum.inl) ↔ j = k := inl_inj
/-- the list of a key that is there grows -/
theorem Dls.grow {k : List Int} {y : V} {d : Dt} (hy : Dv K G y d) {vs : List (List Key × V)} {m : List (List Int × List Dt)} {as : List Addr} (h : Dls K G H vs m as) : ∀ {v : V}, valV vs (k.map Sum.inl) = some v → ∃ a xs, v = .ref a ∧ a ∈ as ∧ H a = some (.lst xs) ∧ xs.length < xs.length + 1 ∧ (∃ ds, valL m k = some ds ∧ xs.length = ds.length) ∧ Dls K G (upd H a (.lst (xs ++ [y]))) vs (addL m k d) as := by
  induction h with
  | nil => intro v e; cases e
  | @cons j a xs ds vs m as h1 h2 h3 h4 ih =>
    intro v e
    by_cases c : j = k
    · subst c
      have e1 : v = .ref a := by
        simp [valV] at e
        exact e.symm
      subst e1
      refine ⟨a, xs, rfl, List.mem_cons_self .., h1, Nat.lt_succ_self _, ⟨ds, by show (if j = j then _ else _) = _; rw [if_pos rfl], h2.len⟩, ?_⟩
      show Dls K G _ _ (if j = j then _ else _) _
      rw [if_pos rfl]
      refine .cons upd_same (h2.app (.one hy)) h3 (h4.keep (Same.refl G) fun b hb o z => ?_)
      rw [upd_ne fun (q : b = a) => h3 (q ▸ hb)]
      exact z
    · have ne : ¬ (j.map (Sum.inl : Int → Key)) = k.map Sum.inl := fun z => c (inl_inj.mp z)
      have e1 : valV vs (k.map Sum.inl) = some v := by
        have : valV ((j.map Sum.inl, V.ref a) :: vs) (k.map Sum.inl) = valV vs (k.map Sum.inl) := by simp [valV, ne]
        rw [← this]; exact e
      obtain ⟨a', xs', q1, q2, q3, q4, ⟨ds', q5, q6⟩, q7⟩ := ih e1
      have na : a ≠ a' := fun z => h3 (z ▸ q2)
      refine ⟨a', xs', q1, List.mem_cons_of_mem _ q2, q3, q4, ⟨ds', by show (if j = k then _ else _) = _; rw [if_neg c]; exact q5, q6⟩, ?_⟩
      show Dls K G _ _ (if j = k then _ else _) _
      rw [if_neg c]
      exact .cons (by rw [upd_ne na]; exact h1) h2 h3 q7
theorem Dls.isS {k : List Int} {vs : List (List Key × V)} {m : List (List Int × List Dt)} {as : List Addr} (h : Dls K G H vs m as) : (valV vs (k.map Sum.inl)).isSome = (valL m k).isSome := by
  induction h with
  | nil => rfl
  | @cons j a xs ds vs m as h1 h2 h3 h4 ih =>
    by_cases c : j = k
    · subst c
      show _ = (if j = j then _ else _ : Option (List Dt)).isSome
      rw [if_pos rfl]
      simp [valV]
    · have ne : ¬ (j.map (Sum.inl : Int → Key)) = k.map Sum.inl := fun z => c (inl_inj.mp z)
      show _ = (if j = k then _ else _ : Option (List Dt)).isSome
      rw [if_neg c, ← ih]
      simp [valV, ne]
/-- a key's first list -/
theorem Dls.snoc {k : List Int} {l : Addr} {y : V} {d : Dt} (hy : Dv K G y d) (hl : H l = some (.lst [y])) {vs : List (List Key × V)} {m : List (List Int × List Dt)} {as : List Addr} (h : Dls K G H vs m as) : valL m k = none → l ∉ as → Dls K G H (vs ++ [(k.map Sum.inl, .ref l)]) (addL m k d) (as ++ [l]) := by
  induction h with
  | nil => intro _ _; exact .cons hl (.one hy) (fun z => nomatch z) .nil
  | @cons j a xs ds vs m as h1 h2 h3 h4 ih =>
    intro e n
    by_cases c : j = k
    · have : (if j = k then some ds else valL m k) = none := e
      rw [if_pos c] at this
      cases this
    · have e2 : (if j = k then some ds else valL m k) = none := e
      rw [if_neg c] at e2
      show Dls K G H _ (if j = k then _ else _) _
      rw [if_neg c]
      refine .cons h1 h2 (fun z => ?_) (ih e2 fun z => n (List.mem_cons_of_mem _ z))
      rcases List.mem_append.mp z with z | z
      · exact h3 z
      · exact n (by rw [← List.mem_singleton.mp z]; exact List.mem_cons_self ..)
variable {P : En} {tk te : TE} {us : TS}
/-- d = {} -/
theorem ev_dnewL {R : Sl → List Sl → Prop} (k : R (.w false (dlw [])) ρ) : Ev C tDNewT ρ R := fun G H σ fp O Q q => by
  unfold tDNewT
  intro p hp
  refine q (.ref p) G _ (.w false (dlw [])) ρ fp [p] (Same.refl G) ⟨O.scr hp, ⟨⟨p, [], [], rfl, rfl, upd_same, (fun z => nomatch z), .nil⟩, fun _ a z => ?_⟩, fun i a h1 h2 => ?_, fun a h2 => ?_⟩ k
  · rw [List.mem_singleton.mp z]; exact .inl (O.dm p hp)
  · have e : a = p := List.mem_singleton.mp h2
    subst e
    obtain ⟨_, ⟨o, z⟩, _⟩ := O.fo i a h1
    rw [hp] at z; cases z
  · have e : a = p := List.mem_singleton.mp h2
    subst e
    exact ⟨O.e1.free hp, ⟨_, upd_same⟩, .inl (O.dm a hp)⟩
/-- d.setdefault(k, []).append(x) -/
theorem sj_setd {i j : Nat} {m : List (List Int × List Dt)} {d : Dt} (hw : ρ[i]? = some (.w false (dlw m))) (hj : ρ[j]? = some (.d d)) (hl : m.length < 1000000)
    (h : ∀ C' : Cc K, EvD C' tk ρ fun y ρ1 => ρ1 = ρ ∧ ∃ k : List Int, y = .tup (k.map Dt.int) ∧ (∀ ds, valL m k = some ds → ds.length < 1000000) ∧ P.nx (ρ.set i (.w false (dlw (addL m k d))))) :
    Sj C (tDrop (tBM K "list" rAppend (tSetdT (tVar i) tk (tLst tNil)) (tCons (tVar j) tNil))) ρ P := fun G H σ fp O D E => by
  obtain ⟨v, hv, ⟨p, vs, as, rfl, hf, hp, np, hd⟩, _, _⟩ := O.sl i _ hw
  refine ⟨_, hv, p, rfl, .inr ⟨vs, .inl hp⟩, ?_⟩
  refine h C G H σ fp O _ fun y G1 H1 y' ρ1 fp1 e1 O1 D1 r => ?_
  obtain ⟨rfl, k, rfl, hk, nx⟩ := r
  obtain ⟨b, rfl, hb⟩ := key_at O1.e1 D1
  refine ⟨Nat.zero_le _, fun l hl0 => ?_⟩
  obtain ⟨v', hv', ⟨p', vs', as', q1, hf1, hp1, np1, hd1⟩, _, hn1⟩ := O1.sl i _ hw
  rw [hv] at hv'
  cases hv'
  cases q1
  have bl : b ≠ l := fun z => by rw [z, hl0] at hb; cases hb
  have pl : p ≠ l := fun z => by rw [z, hl0] at hp1; cases hp1
  have al : ∀ a ∈ as', a ≠ l := fun a ha z => by
    obtain ⟨_, ⟨o, ho⟩, _⟩ := O1.fo i a (by rw [hf1]; exact List.mem_cons_of_mem _ ha)
    rw [z, hl0] at ho
    cases ho
  obtain ⟨w, hw1, Dw⟩ := O1.sl j _ hj
  have gp : G1 p = none := (O1.fo i p (by rw [hf1]; exact List.mem_cons_self ..)).1
  have O2 := O1.scr (o := .lst []) hl0
  refine ⟨vs', k.map Sum.inl, b, by rw [upd_ne pl]; exact hp1, rfl, by rw [upd_ne bl]; exact hb, by rw [hd1.len]; exact Nat.lt_of_lt_of_le hl (by decide), fun u hu => ?_, fun hu => ?_⟩
  · obtain ⟨a, xs, rfl, a1, a2, _, ⟨ds, a4, a5⟩, a6⟩ := hd1.grow Dw hu
    have na : a ≠ l := al a a1
    have ap : a ∈ fp1 i := by rw [hf1]; exact List.mem_cons_of_mem _ a1
    have ha2 : upd H1 l (.lst []) a = some (.lst xs) := by rw [upd_ne na]; exact a2
    refine ⟨.inl ⟨rfl, _, .inl (.inl ha2)⟩, w, hw1, a, xs, w, rfl, rfl, ha2, by rw [a5]; exact Nat.lt_of_lt_of_le (hk ds a4) (by decide), ?_⟩
    have ga : G1 a = none := (O1.fo i a ap).1
    have hpa : p ≠ a := fun z => np1 (z ▸ a1)
    have O3 := O2.write (G' := G1) (H' := upd (upd H1 l (.lst [])) a (.lst (xs ++ [w]))) (W' := dlw (addL m k d)) (fv' := p :: as') hw (Same.refl G1) (fun c u z => ?_) (fun _ _ z => .inl z) (fun c o hc z => ?_) (fun c z => ?_) (fun c hc => ?_) (fun c hc => ?_) fun v' hv' => ?_
    · exact E.nx G1 _ σ _ _ e1 O3 nx
    · rw [upd_ne (ne_of_none z ga)]; exact O2.e1 c u z
    · rw [upd_ne fun (e : c = a) => hc (e ▸ ap)]; exact z
    · by_cases e : c = a
      · subst e; rw [upd_same] at z; cases z
      · rw [upd_ne e] at z; exact z
    · refine ⟨.inl (by rw [hf1]; exact hc), ?_⟩
      obtain ⟨_, ⟨o, ho⟩, _⟩ := O2.fo i c (by rw [hf1]; exact hc)
      by_cases e : c = a
      · subst e; exact ⟨_, upd_same⟩
      · exact ⟨o, by rw [upd_ne e]; exact ho⟩
    · exact (O1.fo i c (by rw [hf1]; exact hc)).1
    · rw [hv] at hv'
      cases hv'
      refine ⟨p, vs', as', rfl, rfl, by rw [upd_ne hpa, upd_ne pl]; exact hp1, np1, a6.keep (Same.refl G1) fun c hc o z => ?_⟩
      by_cases e : c = a
      · subst e; rw [upd_same] at z ⊢; exact z
      · rw [upd_ne e] at z ⊢; rw [upd_ne (al c hc)]; exact z
  · have hm : valL m k = none := by
      have := hd1.isS (k := k)
      rw [hu] at this
      cases q : valL m k with
      | none => rfl
      | some _ => rw [q] at this; cases this
    have hl3 : upd (upd H1 l (.lst [])) p (.dT (putK vs' (k.map Sum.inl) (.ref l))) l = some (.lst []) := by rw [upd_ne (Ne.symm pl), upd_same]
    refine ⟨.inl ⟨rfl, _, .inl (.inl hl3)⟩, w, hw1, l, [], w, rfl, rfl, hl3, by decide, ?_⟩
    have gl : G1 l = none := O1.e1.free hl0
    have pp : p ∈ fp1 i := by rw [hf1]; exact List.mem_cons_self ..
    have O3 := O1.write (G' := G1) (H' := upd (upd (upd H1 l (.lst [])) p (.dT (putK vs' (k.map Sum.inl) (.ref l)))) l (.lst ([] ++ [w]))) (W' := dlw (addL m k d)) (fv' := p :: (as' ++ [l])) hw (Same.refl G1) (fun c u z => ?_) (fun _ _ z => .inl z) (fun c o hc z => ?_) (fun c z => ?_) (fun c hc => ?_) (fun c hc => ?_) fun v' hv' => ?_
    · exact E.nx G1 _ σ _ _ e1 O3 nx
    · rw [upd_ne (ne_of_none z gl), upd_ne (ne_of_none z gp), upd_ne (ne_of_none z gl)]; exact O1.e1 c u z
    · have cl : c ≠ l := fun e => by rw [e, hl0] at z; cases z
      rw [upd_ne cl, upd_ne fun (e : c = p) => hc (e ▸ pp), upd_ne cl]; exact z
    · by_cases e : c = l
      · rw [e]; exact hl0
      · rw [upd_ne e] at z
        by_cases e2 : c = p
        · subst e2; rw [upd_same] at z; cases z
        · rw [upd_ne e2, upd_ne e] at z; exact z
    · by_cases e : c = l
      · subst e; exact ⟨.inr hl0, _, upd_same⟩
      · have hc' : c ∈ fp1 i := by
          rw [hf1]
          rcases List.mem_cons.mp hc with z | z
          · rw [z]; exact List.mem_cons_self ..
          · rcases List.mem_append.mp z with z | z
            · exact List.mem_cons_of_mem _ z
            · exact absurd (List.mem_singleton.mp z) e
        refine ⟨.inl hc', ?_⟩
        obtain ⟨_, ⟨o, ho⟩, _⟩ := O1.fo i c hc'
        by_cases e2 : c = p
        · subst e2; exact ⟨_, by rw [upd_ne e, upd_same]⟩
        · exact ⟨o, by rw [upd_ne e, upd_ne e2, upd_ne e]; exact ho⟩
    · by_cases e : c = l
      · rw [e]; exact gl
      · refine (O1.fo i c ?_).1
        rw [hf1]
        rcases List.mem_cons.mp hc with z | z
        · rw [z]; exact List.mem_cons_self ..
        · rcases List.mem_append.mp z with z | z
          · exact List.mem_cons_of_mem _ z
          · exact absurd (List.mem_singleton.mp z) e
    · rw [hv] at hv'
      cases hv'
      refine ⟨p, _, as' ++ [l], rfl, rfl, by rw [upd_ne pl, upd_same], fun z => ?_, ?_⟩
      · rcases List.mem_append.mp z with z | z
        · exact np1 z
        · exact pl (List.mem_singleton.mp z)
      · rw [putK_new _ hu]
        refine (hd1.keep (H' := upd (upd (upd H1 l (.lst [])) p (.dT (vs' ++ [(k.map Sum.inl, .ref l)]))) l (.lst [w])) (Same.refl G1) fun c hc o z => ?_).snoc Dw upd_same hm fun z => al l z rfl
        rw [upd_ne (al c hc), upd_ne fun (e : c = p) => np1 (e ▸ hc), upd_ne (al c hc)]
        exact z
/-- the lists are let go: data from now on -/
def frzM (m : List (List Int × List Dt)) : List (List Int × Dt) := m.map fun x => (x.1, .lst x.2)
theorem Dls.dts {G2 : Hp} {vs : List (List Key × V)} {m : List (List Int × List Dt)} {as : List Addr} (h : Dls K G H vs m as) (e : Same G G2) (k : ∀ a ∈ as, ∀ o, H a = some o → G2 a = some o) : Dts K G2 vs (frzM m) := by
  induction h with
  | nil => exact .nil
  | cons a b c _ ih => exact .cons (.lst (k _ (List.mem_cons_self ..) _ a) (b.up e)) (ih fun x hx => k x (List.mem_cons_of_mem _ hx))
theorem sj_cvt {i : Nat} {ts : TS} {m : List (List Int × List Dt)} (hw : ρ[i]? = some (.w false (dlw m))) (h : Sj C ts (ρ.set i (.w false (dtw (frzM m)))) P) : Sj C ts ρ P := fun G H σ fp O D E => by
  classical
  obtain ⟨v, hv, ⟨p, vs, as, rfl, hf, hp, np, hd⟩, _, hn⟩ := O.sl i _ hw
  have inf : ∀ a ∈ as, a ∈ fp i := fun a ha => by rw [hf]; exact List.mem_cons_of_mem _ ha
  have gn : ∀ a ∈ as, G a = none := fun a ha => (O.fo i a (inf a ha)).1
  let G1 : Hp := fun a => if a ∈ as then H a else G a
  have gi : ∀ a ∈ as, G1 a = H a := fun a ha => if_pos ha
  have go : ∀ a, a ∉ as → G1 a = G a := fun a ha => if_neg ha
  have s1 : Same G G1 := fun a o z => by
    rw [go a fun y => by rw [gn a y] at z; cases z]
    exact z
  have hi : i < ρ.length := (List.getElem?_eq_some_iff.mp hw).1
  have sub : ∀ j a, a ∈ fpSet fp i [p] j → a ∈ fp j ∧ a ∉ as := fun j a z => by
    unfold fpSet at z
    by_cases e : j = i
    · rw [if_pos e] at z
      have : a = p := List.mem_singleton.mp z
      subst this
      rw [e]
      exact ⟨by rw [hf]; exact List.mem_cons_self .., np⟩
    · rw [if_neg e] at z
      exact ⟨z, fun y => e (O.dj j i a z (inf a y))⟩
  have out : ∀ j, j ≠ i → fpSet fp i [p] j = fp j := fun j e => by unfold fpSet; rw [if_neg e]
  have O2 : Ok C G1 H σ (ρ.set i (.w false (dtw (frzM m)))) (fpSet fp i [p]) := {
    e0 := O.e0.trans s1
    e1 := fun a u z => by
      by_cases e : a ∈ as
      · rw [gi a e] at z; exact z
      · rw [go a e] at z; exact O.e1 a u z
    nw := fun a u z => by
      by_cases e : a ∈ as
      · exact .inr (hn rfl a (inf a e))
      · rw [go a e] at z; exact O.nw a u z
    fr := O.fr
    dm := O.dm
    len := by rw [List.length_set]; exact O.len
    sl := fun j s hs => by
      by_cases e : j = i
      · subst e
        rw [List.getElem?_set_self hi] at hs
        cases hs
        refine ⟨_, hv, ⟨p, vs, rfl, by unfold fpSet; rw [if_pos rfl], hp, hd.dts s1 fun a ha o z => by rw [gi a ha]; exact z⟩, (fun z => nomatch z), fun _ a ha => hn rfl a (sub j a ha).1⟩
      · rw [List.getElem?_set_ne (Ne.symm e)] at hs
        rw [out j e]
        exact (O.sl j s hs).up s1 fun a _ o q => q
    em := fun j hj => by
      by_cases e : j = i
      · subst e
        exact absurd (List.getElem?_set_self hi) (hj _ _)
      · rw [out j e]
        exact O.em j fun q W z => hj q W (by rw [List.getElem?_set_ne (Ne.symm e)]; exact z)
    dj := fun j l a h1 h2 => O.dj j l a (sub j a h1).1 (sub l a h2).1
    fo := fun j a z => by
      obtain ⟨h1, h2, h3⟩ := O.fo j a (sub j a z).1
      exact ⟨by rw [go a (sub j a z).2]; exact h1, h2, h3⟩ }
  exact h G1 H σ _ O2 D (E.up s1)
/-! ### at a name -/
variable {tb : TE}
theorem own_dt {G H : Hp} {σ : L2.St} {fp : Nat → List Addr} {i : Nat} {q : Bool} {m : List (List Int × Dt)} (O : Ok C G H σ ρ fp) (h : ρ[i]? = some (.w q (dtw m))) : ∃ p vs, σ[i]? = some (some (.ref p)) ∧ H p = some (.dT vs) ∧ Dts K G vs m := by
  obtain ⟨v, hv, ⟨p, vs, rfl, _, h1, h2⟩, _, _⟩ := O.sl i _ h
  exact ⟨p, vs, hv, h1, h2⟩
/-- e in d -/
theorem evd_tin {R : Dt → List Sl → Prop} {i : Nat} (h : EvD C tb ρ fun y ρ1 => asK (fun k => ∃ q m, ρ1[i]? = some (.w q (dtw m)) ∧ R (.bl (valT m k).isSome) ρ1) y) : EvD C (tDIn tb (tVar i)) ρ R := fun G H σ fp O Q z => by
  refine h G H σ fp O _ fun y G1 H1 d ρ1 fp1 e1 O1 D1 r => ?_
  obtain ⟨k, rfl, q2, m2, k1, k4⟩ := r
  obtain ⟨b, rfl, hb⟩ := key_at O1.e1 D1
  obtain ⟨p, vs, g1, g2, g3⟩ := own_dt O1 k1
  refine ⟨_, g1, p, _, rfl, .inr ⟨vs, _, b, .inl g2, rfl, hb, rfl⟩, ?_⟩
  rw [g3.val_isSome]
  exact z _ G1 H1 _ ρ1 fp1 e1 O1 (.bl _) k4
/-- d[e] -/
theorem evd_tget {R : Dt → List Sl → Prop} {i : Nat} {q : Bool} {m0 : List (List Int × Dt)} (hi : ρ[i]? = some (.w q (dtw m0))) (h : EvD C tb ρ fun y ρ1 => ρ1 = ρ ∧ asK (fun k => ∃ d, valT m0 k = some d ∧ R d ρ) y) : EvD C (tDGet (tVar i) tb) ρ R := fun G H σ fp O Q z => by
  obtain ⟨p, vs, g1, g2, g3⟩ := own_dt O hi
  refine ⟨_, g1, h G H σ fp O _ fun y G1 H1 d ρ1 fp1 e1 O1 D1 r => ?_⟩
  obtain ⟨rfl, k, rfl, d2, k3, k4⟩ := r
  obtain ⟨b, rfl, hb⟩ := key_at O1.e1 D1
  obtain ⟨p', vs', l1, l2, l3⟩ := own_dt O1 hi
  rw [g1] at l1
  cases l1
  rcases l3.val k with ⟨_, y⟩ | ⟨w, d', w1, w2, w3⟩
  · rw [k3] at y; cases y
  · rw [k3] at w2
    cases w2
    exact ⟨p, w, rfl, .inr ⟨vs', _, b, .inl l2, rfl, hb, w1.symm⟩, z w G1 H1 d2 _ fp1 e1 O1 w3 k4⟩
end

end
section
/-! Plans in plain Lean: what is one, who comes by it, the queue. -/
def oD : Option Nat → Dt
  | none => .non
  | some n => .int n
def oI : Option Int → Dt
  | none => .non
  | some n => .int n
def nD (n : Nat) : Dt := .int n
theorem oD_none : oD none = .non := rfl
theorem oD_some (n : Nat) : oD (some n) = .int n := rfl
abbrev Piece := List (Option Nat) × Option Nat
def pcD (p : Piece) : Dt := .tup [.lst (p.1.map oD), oD p.2]
def plD (ps : List Piece) : Dt := .lst (ps.map pcD)
abbrev noIns : Dt → Prop := NoI
theorem noIns_fn : ∀ {n : Nat} {x : Dt}, Fn n x → noIns x
  | _, .non, _ => trivial
  | _, .bl _, _ => trivial
  | _, .int _, _ => trivial
  | _, .str _, _ => trivial
  | _, .lst _, _ => trivial
  | _, .tup _, _ => trivial
  | 0, .ins _ _ _, h => by unfold Fn at h; exact h
  | n + 1, .ins _ _ _, h => by unfold Fn at h; exact h
  | 0, .ob _, h => by unfold Fn at h; exact h.elim
  | n + 1, .ob _, h => by unfold Fn at h; exact h.elim
theorem noIns_ne {x : Dt} (h : noIns x) : NoI x := h
/-- down to a depth there is only what isinstance tells of -/
def Pn : Nat → Dt → Prop
  | n + 1, .lst ds => ∀ d ∈ ds, Pn n d
  | n + 1, .tup ds => ∀ d ∈ ds, Pn n d
  | _, x => noIns x
theorem pn_no : ∀ {n : Nat} {x : Dt}, Pn n x → noIns x
  | _, .non, _ => trivial
  | _, .bl _, _ => trivial
  | _, .int _, _ => trivial
  | _, .str _, _ => trivial
  | _, .lst _, _ => trivial
  | _, .tup _, _ => trivial
  | 0, .ins _ _ _, h => by unfold Pn at h; exact h
  | n + 1, .ins _ _ _, h => by unfold Pn at h; exact h
  | 0, .ob _, h => by unfold Pn at h; exact h
  | n + 1, .ob _, h => by unfold Pn at h; exact h
theorem pn_fn : ∀ (n : Nat) {m : Nat} {x : Dt}, Fn m x → Pn n x
  | 0, _, x, h => by cases x <;> (unfold Pn; exact noIns_fn h)
  | n + 1, 0, x, h => by
    cases x with
    | lst ds => unfold Fn at h; exact h.elim
    | tup ds => unfold Fn at h; exact h.elim
    | _ => unfold Pn; exact noIns_fn h
  | n + 1, m + 1, x, h => by
    cases x with
    | lst ds => unfold Fn at h; unfold Pn; exact fun d hd => pn_fn n (h d hd)
    | tup ds => unfold Fn at h; unfold Pn; exact fun d hd => pn_fn n (h d hd)
    | _ => unfold Pn; exact noIns_fn h
theorem pn_seq {n : Nat} {x : Dt} {ds : List Dt} (h : Pn (n + 1) x) (e : (x = .lst ds) ∨ (x = .tup ds)) : ∀ d ∈ ds, Pn n d := by
  rcases e with rfl | rfl <;> (unfold Pn at h; exact h)
theorem pn_lst {n : Nat} {ds : List Dt} (h : ∀ d ∈ ds, Pn n d) : Pn (n + 1) (.lst ds) := by unfold Pn; exact h
theorem pn_tup {n : Nat} {ds : List Dt} (h : ∀ d ∈ ds, Pn n d) : Pn (n + 1) (.tup ds) := by unfold Pn; exact h
def big : Int := 1000000000000000000000000000000
def isWhole : Dt → Option Int → Bool
  | .int i, none => decide (0 ≤ i)
  | .int i, some n => decide (0 ≤ i) && decide (i ≤ n)
  | _, _ => false
def isPat (x : Dt) : Bool := isNon x || isWhole x (some big)
def seqOf : Dt → Option (List Dt)
  | .lst ds => some ds
  | .tup ds => some ds
  | _ => none
def isRow (x : Dt) (n : Nat) : Bool := match seqOf x with
  | some ds => decide (1 ≤ ds.length) && decide (ds.length ≤ n)
  | none => false
def isMany (x : Dt) : Bool := isNon x || isWhole x (some big)
def isPiece (x : Dt) : Bool := match seqOf x with
  | some [a, b] => isRow a 8 && isMany b && (match seqOf a with | some ds => ds.all isPat | none => false)
  | _ => false
/-- the number behind a piece -/
def sizeOf' (x : Dt) : Dt := match seqOf x with
  | some [_, b] => b
  | _ => .non
def roundOf (x : Dt) : List Dt := match seqOf x with
  | some [a, _] => (seqOf a).getD []
  | _ => []
def toI : Dt → Int
  | .int i => i
  | _ => 0
def someSizes (ps : List Dt) : List Int := (ps.map sizeOf').filterMap fun x => if isNon x then none else some (toI x)
def isPlan (x : Dt) : Bool := match seqOf x with
  | some ps => decide (1 ≤ ps.length) && decide (ps.length ≤ 8) && ps.all isPiece && !(ps.dropLast.any fun p => isNon (sizeOf' p)) && decide ((someSizes ps).sum ≤ big)
  | none => false
def toO : Dt → Option Nat
  | .int i => some i.toNat
  | _ => none
def toPiece (x : Dt) : Piece := ((roundOf x).map toO, toO (sizeOf' x))
def toPlan (x : Dt) : List Piece := ((seqOf x).getD []).map toPiece
/-! who comes -/
def total : List Piece → Option Nat
  | [] => some 0
  | (_, none) :: _ => none
  | (_, some n) :: r => (total r).map (n + ·)
def patIn : List Piece → Nat → Option Nat
  | [], _ => none
  | (t, m) :: r, at' => if m = none ∨ at' < m.getD 0 then (t[at' % t.length]?).getD none else patIn r (at' - m.getD 0)
/-! the queue -/
def dec : Option Nat → Option Nat
  | none => none
  | some n => some (n - 1)
/-- behind how many one comes to stand: up to the last that lets nobody past -/
def cutAt : List (Option Nat) → Nat
  | [] => 0
  | l :: r => if cutAt r > 0 then cutAt r + 1 else if l = some 0 then 1 else 0
def stepQ (st : List Nat × List (Option Nat)) (n : Nat) (p : Option Nat) : List Nat × List (Option Nat) :=
  (st.1.take (cutAt st.2) ++ [n] ++ st.1.drop (cutAt st.2), st.2.take (cutAt st.2) ++ [p] ++ (st.2.drop (cutAt st.2)).map dec)
def listedQ (pat : Nat → Option Nat) : Nat → List Nat × List (Option Nat)
  | 0 => ([], [])
  | n + 1 => stepQ (listedQ pat n) n (pat n)
theorem cutAt_le : ∀ l : List (Option Nat), cutAt l ≤ l.length
  | [] => Nat.le_refl _
  | a :: r => by
    have := cutAt_le r
    unfold cutAt
    rw [List.length_cons]
    split
    · omega
    · split <;> omega
theorem listedQ_len (pat : Nat → Option Nat) : ∀ n, (listedQ pat n).1.length = n ∧ (listedQ pat n).2.length = n
  | 0 => ⟨rfl, rfl⟩
  | n + 1 => by
    obtain ⟨h1, h2⟩ := listedQ_len pat n
    have h3 := cutAt_le (listedQ pat n).2
    constructor
    · show ((listedQ pat n).1.take _ ++ [n] ++ (listedQ pat n).1.drop _).length = n + 1
      rw [List.length_append, List.length_append, List.length_take, List.length_drop, List.length_singleton]
      omega
    · show ((listedQ pat n).2.take _ ++ [pat n] ++ ((listedQ pat n).2.drop _).map dec).length = n + 1
      rw [List.length_append, List.length_append, List.length_take, List.length_map, List.length_drop, List.length_singleton]
      omega
theorem listedQ_congr {pat pat' : Nat → Option Nat} : ∀ {n : Nat}, (∀ i, i < n → pat i = pat' i) → listedQ pat n = listedQ pat' n
  | 0, _ => rfl
  | n + 1, h => by
    show stepQ (listedQ pat n) n (pat n) = stepQ (listedQ pat' n) n (pat' n)
    rw [listedQ_congr (fun i hi => h i (Nat.lt_succ_of_lt hi)), h n (Nat.lt_succ_self n)]
/-! what the loop of a comer keeps: those from a place on let one more past -/
theorem cutAt_pos : ∀ {l : List (Option Nat)}, 0 < cutAt l → l[cutAt l - 1]? = some (some 0)
  | [], h => absurd h (Nat.lt_irrefl _)
  | a :: r, h => by
    unfold cutAt at h ⊢
    by_cases c : cutAt r > 0
    · rw [if_pos c]
      have := cutAt_pos c
      obtain ⟨k, hk⟩ : ∃ k, cutAt r = k + 1 := ⟨cutAt r - 1, by omega⟩
      rw [hk] at this ⊢
      exact this
    · rw [if_neg c] at h ⊢
      by_cases z : a = some 0
      · rw [if_pos z, z]; rfl
      · rw [if_neg z] at h; exact absurd h (Nat.lt_irrefl _)
theorem cutAt_ge : ∀ {l : List (Option Nat)} {i : Nat}, l[i]? = some (some 0) → i < cutAt l
  | [], _, h => by simp at h
  | a :: r, 0, h => by
    have e : a = some 0 := by simpa using h
    unfold cutAt
    by_cases c : cutAt r > 0
    · rw [if_pos c]; omega
    · rw [if_neg c, if_pos e]; omega
  | a :: r, i + 1, h => by
    have := cutAt_ge (l := r) (i := i) (by simpa using h)
    unfold cutAt
    rw [if_pos (by omega)]
    omega
theorem sp_t {c : Bool} {A B : Prop} (h : c = true) (a : A) : (c = true → A) ∧ (c = false → B) := ⟨fun _ => a, fun e => (by rw [h] at e; cases e)⟩
theorem sp_f {c : Bool} {A B : Prop} (h : c = false) (b : B) : (c = true → A) ∧ (c = false → B) := ⟨fun e => (by rw [h] at e; cases e), fun _ => b⟩
/-- the two ways of a test -/
theorem sp2 {p : Prop} [Decidable p] {A B : Prop} (a : p → A) (b : ¬ p → B) : (decide p = true → A) ∧ (decide p = false → B) := ⟨fun e => a (of_decide_eq_true e), fun e => b (of_decide_eq_false e)⟩
theorem spN {p : Prop} [Decidable p] {A B : Prop} (a : ¬ p → A) (b : p → B) : ((!decide p) = true → A) ∧ ((!decide p) = false → B) :=
  ⟨fun e => a (of_decide_eq_false (by simpa using e)), fun e => b (of_decide_eq_true (by simpa using e))⟩
theorem spB {c : Bool} {A B : Prop} (a : c = true → A) (b : c = false → B) : (c = true → A) ∧ (c = false → B) := ⟨a, b⟩
theorem spNB {c : Bool} {A B : Prop} (a : c = false → A) (b : c = true → B) : ((!c) = true → A) ∧ ((!c) = false → B) := ⟨fun e => a (by simpa using e), fun e => b (by simpa using e)⟩
theorem kit_all {x : Dt} (hx : noIns x) : (kitB (dTy x) "int").isSome = true ∧ (kitB (dTy x) "bool").isSome = true ∧ (kitB (dTy x) "list").isSome = true ∧ (kitB (dTy x) "tuple").isSome = true ∧ (kitB (dTy x) "str").isSome = true := by
  cases x with
  | ins a b c => exact hx.elim
  | ob a => exact ⟨rfl, rfl, rfl, rfl, rfl⟩
  | _ => exact ⟨rfl, rfl, rfl, rfl, rfl⟩
/-- isinstance, by the data's own form -/
def isInt : Dt → Bool
  | .int _ => true
  | .bl _ => true
  | _ => false
def isBl : Dt → Bool
  | .bl _ => true
  | _ => false
def isSq : Dt → Bool
  | .lst _ => true
  | .tup _ => true
  | _ => false
def isSt : Dt → Bool
  | .str _ => true
  | _ => false
theorem ty_int {x : Dt} (hx : noIns x) : isTy "int" x = isInt x := by
  cases x with
  | ins a b c => exact hx.elim
  | _ => rfl
theorem ty_bool {x : Dt} (hx : noIns x) : isTy "bool" x = isBl x := by
  cases x with
  | ins a b c => exact hx.elim
  | _ => rfl
theorem ty_str {x : Dt} (hx : noIns x) : isTy "str" x = isSt x := by
  cases x with
  | ins a b c => exact hx.elim
  | _ => rfl
theorem ty_seq {x : Dt} (hx : noIns x) : isTy2 "list" "tuple" x = isSq x := by
  cases x with
  | ins a b c => exact hx.elim
  | _ => rfl
section
variable {K : PySem.W.Frag} {C : Cc K} {ρ : List Sl} {te : TE}
theorem e_int {R : Dt → List Sl → Prop} (h : EvD C te ρ fun x ρ1 => noIns x ∧ R (.bl (isInt x)) ρ1) : EvD C (tCB (rIsi K) (tCons te (tCons (tC (.ty "int")) tNil))) ρ R :=
  evd_isi (evd_imp h fun x ρ1 r => ⟨(kit_all r.1).1, noIns_ne r.1, by rw [ty_int r.1]; exact r.2⟩)
theorem e_bool {R : Dt → List Sl → Prop} (h : EvD C te ρ fun x ρ1 => noIns x ∧ R (.bl (isBl x)) ρ1) : EvD C (tCB (rIsi K) (tCons te (tCons (tC (.ty "bool")) tNil))) ρ R :=
  evd_isi (evd_imp h fun x ρ1 r => ⟨(kit_all r.1).2.1, noIns_ne r.1, by rw [ty_bool r.1]; exact r.2⟩)
theorem e_str {R : Dt → List Sl → Prop} (h : EvD C te ρ fun x ρ1 => noIns x ∧ R (.bl (isSt x)) ρ1) : EvD C (tCB (rIsi K) (tCons te (tCons (tC (.ty "str")) tNil))) ρ R :=
  evd_isi (evd_imp h fun x ρ1 r => ⟨(kit_all r.1).2.2.2.2, noIns_ne r.1, by rw [ty_str r.1]; exact r.2⟩)
theorem e_seq {R : Dt → List Sl → Prop} (h : EvD C te ρ fun x ρ1 => noIns x ∧ R (.bl (isSq x)) ρ1) : EvD C (tCB (rIsiT K) (tCons te (tCons (tTup (tCons (tC (.ty "list")) (tCons (tC (.ty "tuple")) tNil))) tNil))) ρ R :=
  evd_isi2 (evd_imp h fun x ρ1 r => ⟨(kit_all r.1).2.2.1, (kit_all r.1).2.2.2.1, noIns_ne r.1, by rw [ty_seq r.1]; exact r.2⟩)
end
theorem asQ_of {a : Dt} {ds : List Dt} {R : List Dt → Prop} (h : seqOf a = some ds) (k : R ds) : asQ R a := by
  cases a <;> simp [seqOf] at h <;> (subst h; exact k)
section
variable {K : PySem.W.Frag} {C : Cc K} {ρ : List Sl}
theorem cad_allM {R : Dt → Prop} {ds : List Dt} {g : Dt → Bool} (k : R (.bl (ds.all g))) : CaD C (rAll K) [.lst (ds.map fun d => .bl (g d))] ρ R := by
  have e : ds.map (fun d => Dt.bl (g d)) = (ds.map g).map Dt.bl := by rw [List.map_map]; rfl
  rw [e]
  refine cad_all ?_
  rw [List.all_map]
  exact k
theorem cad_sumM {R : Dt → Prop} {ds : List Dt} {ns : List Int} (e : ds = ns.map Dt.int) (k : R (.int ns.sum)) : CaD C (rSum K) [.lst ds] ρ R := by
  rw [e]
  exact cad_sum k
end
theorem isWhole_spec {x : Dt} {m : Option Int} (h : isWhole x m = true) : ∃ n : Nat, x = .int n ∧ ∀ k, m = some k → (n : Int) ≤ k := by
  cases x with
  | int i =>
    cases m with
    | none =>
      have h0 : 0 ≤ i := by simpa [isWhole] using h
      exact ⟨i.toNat, by rw [Int.toNat_of_nonneg h0], fun k e => nomatch e⟩
    | some k =>
      have h0 : 0 ≤ i ∧ i ≤ k := by simpa [isWhole] using h
      refine ⟨i.toNat, by rw [Int.toNat_of_nonneg h0.1], fun k' e => ?_⟩
      cases e
      rw [Int.toNat_of_nonneg h0.1]
      exact h0.2
  | _ => cases m <;> cases h
theorem isPat_spec {x : Dt} (h : isPat x = true) : x = .non ∨ ∃ n : Nat, x = .int n ∧ (n : Int) ≤ big := by
  unfold isPat at h
  rcases Bool.or_eq_true_iff.mp h with z | z
  · cases x <;> simp [isNon] at z
    exact .inl rfl
  · obtain ⟨n, h1, h2⟩ := isWhole_spec z
    exact .inr ⟨n, h1, h2 _ rfl⟩
theorem oD_toO {x : Dt} (h : isPat x = true) : oD (toO x) = x := by
  rcases isPat_spec h with rfl | ⟨n, rfl, _⟩
  · rfl
  · simp [toO, oD]
theorem isPiece_spec {p : Dt} (h : isPiece p = true) : ∃ a b ds, (p = .tup [a, b] ∨ p = .lst [a, b]) ∧ seqOf a = some ds ∧ 1 ≤ ds.length ∧ ds.length ≤ 8 ∧ isMany b = true ∧ (∀ d ∈ ds, isPat d = true) := by
  have key : ∀ l : List Dt, seqOf p = some l → ∃ a b ds, l = [a, b] ∧ seqOf a = some ds ∧ 1 ≤ ds.length ∧ ds.length ≤ 8 ∧ isMany b = true ∧ (∀ d ∈ ds, isPat d = true) := by
    intro l hl
    unfold isPiece at h
    rw [hl] at h
    match l, h with
    | [a, b], h =>
      simp only [Bool.and_eq_true] at h
      obtain ⟨⟨h1, h2⟩, h3⟩ := h
      cases e : seqOf a with
      | none => rw [e] at h3; cases h3
      | some ds =>
        rw [e] at h3
        unfold isRow at h1
        rw [e] at h1
        simp at h1
        exact ⟨a, b, ds, rfl, e, h1.1, h1.2, h2, fun d hd => (List.all_eq_true.mp h3) d hd⟩
  cases p with
  | lst l =>
    obtain ⟨a, b, ds, rfl, r⟩ := key l rfl
    exact ⟨a, b, ds, .inr rfl, r⟩
  | tup l =>
    obtain ⟨a, b, ds, rfl, r⟩ := key l rfl
    exact ⟨a, b, ds, .inl rfl, r⟩
  | _ => simp [isPiece, seqOf] at h
theorem piece_eq {a b : Dt} {p : Dt} {ds : List Dt} (h : p = .tup [a, b] ∨ p = .lst [a, b]) (hs : seqOf a = some ds) : roundOf p = ds ∧ sizeOf' p = b := by
  rcases h with rfl | rfl <;> (simp [roundOf, sizeOf', seqOf] at hs ⊢; rw [hs]; rfl)
theorem pcD_toPiece {p : Dt} (h : isPiece p = true) : pcD (toPiece p) = .tup [.lst (roundOf p), sizeOf' p] := by
  obtain ⟨a, b, ds, h1, h2, h3, h4, h5, h6⟩ := isPiece_spec h
  obtain ⟨e1, e2⟩ := piece_eq h1 h2
  unfold pcD toPiece
  rw [e1, e2]
  have e3 : (ds.map toO).map oD = ds := by
    rw [List.map_map]
    conv => rhs; rw [← List.map_id ds]
    exact List.map_congr_left fun d hd => oD_toO (h6 d hd)
  rw [e3, oD_toO (show isPat b = true from h5)]
theorem isPlan_spec {x : Dt} (h : isPlan x = true) : ∃ ps, seqOf x = some ps ∧ 1 ≤ ps.length ∧ ps.length ≤ 8 ∧ (∀ p ∈ ps, isPiece p = true) ∧ (∀ p ∈ ps.dropLast, isNon (sizeOf' p) = false) ∧ (someSizes ps).sum ≤ big := by
  unfold isPlan at h
  cases e : seqOf x with
  | none => rw [e] at h; cases h
  | some ps =>
    rw [e] at h
    simp only [Bool.and_eq_true, decide_eq_true_eq, Bool.not_eq_true'] at h
    obtain ⟨⟨⟨⟨h1, h2⟩, h3⟩, h4⟩, h5⟩ := h
    exact ⟨ps, rfl, h1, h2, List.all_eq_true.mp h3, fun p hp => by simpa using (List.any_eq_false.mp h4) p hp, h5⟩
theorem plD_toPlan {x : Dt} {ps : List Dt} (hs : seqOf x = some ps) (h : ∀ p ∈ ps, isPiece p = true) : plD (toPlan x) = .lst (ps.map fun p => .tup [.lst (roundOf p), sizeOf' p]) := by
  unfold plD toPlan
  rw [hs]
  show Dt.lst ((ps.map toPiece).map pcD) = _
  rw [List.map_map]
  congr 1
  exact List.map_congr_left fun p hp => pcD_toPiece (h p hp)
theorem cutD_last (ds : List Dt) : cutD ds none (some (-1)) = ds.dropLast := by
  unfold cutD
  rw [HT.sIx_none]
  have e : HT.sIx ds.length ds.length (some (-1)) = ds.length - 1 := by
    unfold HT.sIx
    simp
    omega
  rw [e, List.dropLast_eq_take]
  simp
/-! more of who comes -/
theorem many_spec {b : Dt} (h : isMany b = true) : (b = .non ∧ toO b = none) ∨ ∃ n : Nat, b = .int n ∧ toO b = some n := by
  rcases isPat_spec (show isPat b = true from h) with rfl | ⟨n, rfl, _⟩
  · exact .inl ⟨rfl, rfl⟩
  · exact .inr ⟨n, rfl, by simp [toO]⟩
theorem total_none : ∀ {ps : List Piece}, total ps = none ↔ ∃ p ∈ ps, p.2 = none
  | [] => by simp [total]
  | (t, none) :: r => by simp [total]
  | (t, some n) :: r => by
    have ih := total_none (ps := r)
    simp [total, ih]
theorem total_some : ∀ {ps : List Piece}, (∀ p ∈ ps, p.2 ≠ none) → total ps = some ((ps.map fun p => p.2.getD 0).sum)
  | [], _ => rfl
  | (t, none) :: r, h => absurd rfl (h _ (List.mem_cons_self ..))
  | (t, some n) :: r, h => by
    have ih := total_some (ps := r) fun p hp => h p (List.mem_cons_of_mem _ hp)
    simp [total, ih]
theorem size_int {d : Dt} (h : isMany d = true) : Fn 0 d ∧ dEq d .non = isNon d := by
  rcases isPat_spec (show isPat d = true from h) with rfl | ⟨n, rfl, _⟩
  · exact ⟨fn_non, dEq_nn⟩
  · exact ⟨fn_int, dEq_in⟩
theorem any_congr {α : Type} {l : List α} {f g : α → Bool} (h : ∀ a ∈ l, f a = g a) : l.any f = l.any g := by
  induction l with
  | nil => rfl
  | cons a r ih => rw [List.any_cons, List.any_cons, h a (List.mem_cons_self ..), ih fun b hb => h b (List.mem_cons_of_mem _ hb)]
theorem someSizes_eq {ps : List Dt} (h : ∀ d ∈ ps.map sizeOf', isMany d = true) : (ps.map sizeOf').filterMap (fun d => if isNon d then none else some d) = (someSizes ps).map Dt.int := by
  unfold someSizes
  generalize ps.map sizeOf' = l at h
  induction l with
  | nil => rfl
  | cons d l ih =>
    have ih := ih fun x hx => h x (List.mem_cons_of_mem _ hx)
    rcases isPat_spec (show isPat d = true from h d (List.mem_cons_self ..)) with rfl | ⟨n, rfl, _⟩
    · rw [List.filterMap_cons_none rfl, List.filterMap_cons_none rfl]
      exact ih
    · show (Dt.int n :: List.filterMap (fun d => if isNon d = true then none else some d) l) = List.map Dt.int ((n : Int) :: List.filterMap (fun x => if isNon x = true then none else some (toI x)) l)
      rw [List.map_cons, ih]
section
variable {K : PySem.W.Frag} {C : Cc K} {ρ : List Sl}
theorem cad_listQ {R : Dt → Prop} {z : Dt} {ds : List Dt} (h : seqOf z = some ds) (k : R (.lst ds)) : CaD C (rListQ K) [z] ρ R := by
  cases z <;> simp [seqOf] at h
  · subst h; exact cad_l (cal_listL k)
  · subst h; exact cad_l (cal_listT k)
end
/-! the loop of one who comes -/
def lf (L : List (Option Nat)) (a : Nat) : List (Option Nat) := L.take a ++ (L.drop a).map dec
theorem lf_len (L : List (Option Nat)) (a : Nat) : (lf L a).length = L.length := by
  unfold lf
  rw [List.length_append, List.length_take, List.length_map, List.length_drop]
  omega
theorem lf_all (L : List (Option Nat)) : lf L L.length = L := by
  unfold lf
  rw [List.take_length, List.drop_length]
  simp
theorem lf_get {L : List (Option Nat)} {a j : Nat} (h : j < a) : (lf L a)[j]? = L[j]? := by
  unfold lf
  by_cases hl : j < L.length
  · rw [List.getElem?_append_left (by rw [List.length_take]; omega), List.getElem?_take_of_lt h]
  · rw [List.getElem?_eq_none (by rw [List.length_append, List.length_take, List.length_map, List.length_drop]; omega), List.getElem?_eq_none (by omega)]
theorem lf_succ {L : List (Option Nat)} {a : Nat} {l : Option Nat} (h : L[a]? = some l) : lf L a = (lf L (a + 1)).set a (dec l) := by
  have hl : a < L.length := (List.getElem?_eq_some_iff.mp h).1
  have e : L[a] = l := (List.getElem?_eq_some_iff.mp h).2
  apply List.ext_getElem?
  intro i
  by_cases hi : i = a
  · subst hi
    rw [List.getElem?_set_self (by rw [lf_len]; exact hl)]
    unfold lf
    rw [List.getElem?_append_right (by rw [List.length_take]; omega), List.length_take, List.getElem?_map, List.getElem?_drop]
    have : i + (i - min i L.length) = i := by omega
    rw [this, h]
    rfl
  · rw [List.getElem?_set_ne (Ne.symm hi)]
    by_cases h1 : i < a
    · rw [lf_get h1, lf_get (by omega)]
    · unfold lf
      rw [List.getElem?_append_right (by rw [List.length_take]; omega), List.getElem?_append_right (by rw [List.length_take]; omega), List.length_take, List.length_take, List.getElem?_map, List.getElem?_map, List.getElem?_drop, List.getElem?_drop]
      congr 2
      omega
theorem cutAt_is {L : List (Option Nat)} {a : Nat} (h : a = 0 ∨ L[a - 1]? = some (some 0)) (hg : ∀ j, a ≤ j → L[j]? ≠ some (some 0)) : cutAt L = a := by
  have h1 : a ≤ cutAt L := by
    rcases h with h | h
    · omega
    · have := cutAt_ge h
      omega
  by_cases hp : 0 < cutAt L
  · have h2 := cutAt_pos hp
    by_cases hlt : a < cutAt L
    · exact absurd h2 (hg _ (by omega))
    · omega
  · omega
theorem patIn_at {t : List (Option Nat)} {n : Nat} (h : t ≠ []) : ∃ p, t[n % t.length]? = some p := by
  have : 0 < t.length := List.length_pos_iff.mpr h
  exact ⟨_, List.getElem?_eq_getElem (Nat.mod_lt _ this)⟩
/-- so many come, and each one has a patience -/
def upTo (ps : List Piece) (n : Nat) : Prop := match total ps with
  | none => True
  | some t => n ≤ t
theorem fn_oD {n : Nat} {l : Option Nat} : Fn n (oD l) := by
  cases l with
  | none => exact fn_non
  | some k => exact fn_int
theorem dEq_oD0 {l : Option Nat} : dEq (oD l) (.int 0) = decide (l = some 0) := by
  cases l with
  | none => rw [oD_none, dEq_ni]; rfl
  | some k =>
    rw [oD_some, dEq_int]
    cases k with
    | zero => rfl
    | succ k => simp; omega
theorem isNon_oD {l : Option Nat} : isNon (oD l) = l.isNone := by cases l <;> rfl
theorem ixN_nat {n a : Nat} (h : a < n) : ixN n (a : Int) = some a := by
  unfold ixN
  rw [if_pos (by omega), if_pos (by omega)]
  simp
theorem fn_nDs {n : Nat} {l : List Nat} : Fn (n + 1) (.lst (l.map nD)) := fn_lst (fn_map fun _ _ => fn_int)
theorem fn_oDs {n : Nat} {l : List (Option Nat)} : Fn (n + 1) (.lst (l.map oD)) := fn_lst (fn_map fun _ _ => fn_oD)

end
section
/-! What is refused, in plain Lean; contracts by what comes out of a call. -/
def okPerson (ps : List Piece) (d : Dt) : Bool := isWhole d none && (match total ps with
  | none => true
  | some t => decide (toI d < t))
def okMoment (ps : List Piece) (d : Dt) : Bool := isWhole d (some big) && (match total ps with
  | none => true
  | some t => decide (toI d ≤ t))
def outP (ps : List Piece) (d : Dt) : Option Str := if okPerson ps d then none else some ("NoPerson" : Str)
def outM (ps : List Piece) (d : Dt) : Option Str := if okMoment ps d then none else some ("NoMoment" : Str)
theorem outP_t {ps : List Piece} {d : Dt} (h : okPerson ps d = true) : outP ps d = none := by unfold outP; rw [if_pos h]
theorem outP_f {ps : List Piece} {d : Dt} (h : okPerson ps d = false) : outP ps d = some ("NoPerson" : Str) := by unfold outP; rw [if_neg (by rw [h]; decide)]
theorem outM_t {ps : List Piece} {d : Dt} (h : okMoment ps d = true) : outM ps d = none := by unfold outM; rw [if_pos h]
theorem outM_f {ps : List Piece} {d : Dt} (h : okMoment ps d = false) : outM ps d = some ("NoMoment" : Str) := by unfold outM; rw [if_neg (by rw [h]; decide)]
theorem okP_w {ps : List Piece} {d : Dt} (h : isWhole d none = false) : okPerson ps d = false := by unfold okPerson; rw [h, Bool.false_and]
theorem okP_n {ps : List Piece} {n : Nat} (h : total ps = none) : okPerson ps (.int n) = true := by unfold okPerson; rw [h]; simp [isWhole]
theorem okP_s {ps : List Piece} {n t : Nat} (h : total ps = some t) : okPerson ps (.int n) = decide (n < t) := by
  unfold okPerson
  rw [h]
  have : isWhole (.int (n : Int)) none = true := by simp [isWhole]
  rw [this, Bool.true_and]
  show decide ((n : Int) < (t : Int)) = _
  simp
theorem okM_w {ps : List Piece} {d : Dt} (h : isWhole d (some big) = false) : okMoment ps d = false := by unfold okMoment; rw [h, Bool.false_and]
theorem okM_n {ps : List Piece} {n : Nat} (h : total ps = none) (w : isWhole (.int n) (some big) = true) : okMoment ps (.int n) = true := by unfold okMoment; rw [h, w]; rfl
theorem okM_s {ps : List Piece} {n t : Nat} (h : total ps = some t) (w : isWhole (.int n) (some big) = true) : okMoment ps (.int n) = decide (n ≤ t) := by
  unfold okMoment
  rw [h, w, Bool.true_and]
  show decide ((n : Int) ≤ (t : Int)) = _
  simp
/-- what a call comes to: none, or the class that is raised -/
abbrev cX {α : Type} (cs : Cs) (emb : α → List Dt) (pre : α → Prop) (out : α → Option Str) (res : α → Sl → Prop) : Ctr := CW emb pre (fun a s => out a = none ∧ res a s) (fun a Cl => ∃ c, out a = some c ∧ Cl = cs.ex c)
section
variable {K : PySem.W.Frag} {C : Cc K} {ρ : List Sl} {te : TE} {t : TA} {W : WX} {cs : Cs} {o : Option Str} {nx bk ct : List Sl → Prop} {rt : Sl → List Sl → Prop}
theorem evd_callO {α : Type} {emb : α → List Dt} {pre : α → Prop} {out : α → Option Str} {res : α → Sl → Prop} {R : Dt → List Sl → Prop} (hx : XW C W fun Cl _ => ∃ c, o = some c ∧ Cl = cs.ex c)
    (h : EvA C t ρ fun ds ρ1 => ∃ a, ds = emb a ∧ pre a ∧ (∀ c, out a = some c → o = some c) ∧ (out a = none → ∀ s, res a s → asF (fun d => R d ρ1) s)) : EvD C (tCallW ((cX cs emb pre out res).sp K) W t) ρ R := by
  refine evd_callW hx ?_
  intro G H σ fp O Q q
  refine h G H σ fp O Q fun vs G' H' ds ρ' fp' e O' D r => q vs G' H' ds ρ' fp' e O' D ?_
  obtain ⟨a, rfl, r1, r2, r3⟩ := r
  exact ⟨a, rfl, r1, fun s hs => r3 hs.1 s hs.2, fun Cl hc => let ⟨c, h1, h2⟩ := hc; ⟨c, r2 c h1, h2⟩⟩
/-- within a try: the slots are known, too -/
theorem evd_callZ {α : Type} {emb : α → List Dt} {pre : α → Prop} {out : α → Option Str} {res : α → Sl → Prop} {R : Dt → List Sl → Prop} {Z : List Sl → Prop} (hx : XW C W fun Cl ρ' => Z ρ' ∧ ∃ c, o = some c ∧ Cl = cs.ex c)
    (h : EvA C t ρ fun ds ρ1 => ∃ a, ds = emb a ∧ pre a ∧ Z ρ1 ∧ (∀ c, out a = some c → o = some c) ∧ (out a = none → ∀ s, res a s → asF (fun d => R d ρ1) s)) : EvD C (tCallW ((cX cs emb pre out res).sp K) W t) ρ R := by
  refine evd_callW hx ?_
  intro G H σ fp O Q q
  refine h G H σ fp O Q fun vs G' H' ds ρ' fp' e O' D r => q vs G' H' ds ρ' fp' e O' D ?_
  obtain ⟨a, rfl, r1, rz, r2, r3⟩ := r
  exact ⟨a, rfl, r1, fun s hs => r3 hs.1 s hs.2, fun Cl hc => let ⟨c, h1, h2⟩ := hc; ⟨rz, c, r2 c h1, h2⟩⟩
theorem y_raise {c : Str} (hx : XW C W fun Cl _ => ∃ c, o = some c ∧ Cl = cs.ex c) (h : o = some c) : Sj C (tRaise W (cs.ex c)) ρ ⟨nx, bk, ct, rt⟩ := sj_raise hx ⟨c, h, rfl⟩
end
/-! what the calls that ask for a person or a moment come to -/
def outPlan (x : Dt) (o : Option Str) : Option Str := if isPlan x then o else some ("NoPlan" : Str)
def outMo (x d : Dt) : Option Str := outPlan x (outM (toPlan x) d)
/-- no greater than what this program is handed -/
def smI (d : Dt) : Prop := ∀ i, d = .int i → i < 2 ^ 199
/-! the same by a look, for data written out -/
def noIB : Dt → Bool
  | .ins _ _ _ => false
  | .ob (.exc _) => false
  | _ => true
theorem noIB_ok {x : Dt} (h : noIB x = true) : noIns x := by
  cases x with
  | ins a b c => cases h
  | ob k =>
    cases k with
    | dic => trivial
    | exc C => cases h
  | _ => trivial
def pnB : Nat → Dt → Bool
  | n + 1, .lst ds => ds.all (pnB n)
  | n + 1, .tup ds => ds.all (pnB n)
  | _, x => noIB x
theorem pnB_ok : ∀ (n : Nat) {x : Dt}, pnB n x = true → Pn n x
  | 0, x, h => by cases x <;> (unfold Pn; exact noIB_ok (by simpa [pnB] using h))
  | n + 1, x, h => by
    cases x with
    | lst ds => unfold Pn; unfold pnB at h; exact fun d hd => pnB_ok n (List.all_eq_true.mp h d hd)
    | tup ds => unfold Pn; unfold pnB at h; exact fun d hd => pnB_ok n (List.all_eq_true.mp h d hd)
    | _ => unfold Pn; exact noIB_ok (by simpa [pnB] using h)
def rwB : List Nat → Dt → Bool
  | m :: ms, .lst ds => decide (ds.length ≤ m) && ds.all (rwB ms)
  | m :: ms, .tup ds => decide (ds.length ≤ m) && ds.all (rwB ms)
  | _, .non => true
  | _, .bl _ => true
  | _, .int i => decide (i.natAbs < 10 ^ 75)
  | _, .str x => PyData.strOk x && decide (x.cps.size ≤ 12)
  | _, .ob .dic => true
  | _, _ => false
theorem rwB_ok : ∀ (ms : List Nat) {x : Dt}, rwB ms x = true → Rw ms x
  | ms, .non, _ => rw_non
  | ms, .bl _, _ => rw_bl
  | ms, .int i, h => rw_int (by cases ms <;> simpa [rwB] using h)
  | ms, .str x, h => by
    have z : PyData.strOk x = true ∧ x.cps.size ≤ 12 := by cases ms <;> simpa [rwB] using h
    exact rw_str z.1 z.2
  | [], .lst ds, h => by cases h
  | [], .tup ds, h => by cases h
  | m :: ms, .lst ds, h => by
    unfold rwB at h
    obtain ⟨h1, h2⟩ := Bool.and_eq_true_iff.mp h
    exact rw_lst (of_decide_eq_true h1) fun d hd => rwB_ok ms (List.all_eq_true.mp h2 d hd)
  | m :: ms, .tup ds, h => by
    unfold rwB at h
    obtain ⟨h1, h2⟩ := Bool.and_eq_true_iff.mp h
    exact rw_tup (of_decide_eq_true h1) fun d hd => rwB_ok ms (List.all_eq_true.mp h2 d hd)
  | ms, .ob .dic, _ => rw_dic
  | ms, .ob (.exc _), h => by cases ms <;> cases h
  | ms, .ins _ _ _, h => by cases ms <;> cases h

end
section
/-! Plans of the typed form; plans told otherwise. -/
def bigN : Nat := 1000000000000000000000000000000
theorem big_eq : big = (bigN : Int) := rfl
def patOk (q : Option Nat) : Prop := ∀ k, q = some k → k ≤ bigN
def pieceOk (p : Piece) : Prop := p.1 ≠ [] ∧ p.1.length ≤ 8 ∧ (∀ q ∈ p.1, patOk q) ∧ patOk p.2
def planOk (ps : List Piece) : Prop := ps ≠ [] ∧ ps.length ≤ 8 ∧ (∀ p ∈ ps, pieceOk p) ∧ (∀ p ∈ ps.dropLast, p.2 ≠ none) ∧ (ps.map fun p => p.2.getD 0).sum ≤ bigN
theorem toO_oD (q : Option Nat) : toO (oD q) = q := by cases q <;> simp [toO, oD]
theorem toPiece_pcD (p : Piece) : toPiece (pcD p) = p := by
  obtain ⟨t, m⟩ := p
  unfold toPiece pcD
  show (List.map toO (t.map oD), toO (oD m)) = (t, m)
  rw [toO_oD, List.map_map]
  congr 1
  conv => rhs; rw [← List.map_id t]
  exact List.map_congr_left fun q _ => toO_oD q
theorem toPlan_plD (ps : List Piece) : toPlan (plD ps) = ps := by
  unfold toPlan plD
  show (ps.map pcD).map toPiece = ps
  rw [List.map_map]
  conv => rhs; rw [← List.map_id ps]
  exact List.map_congr_left fun p _ => toPiece_pcD p
theorem fn_plD {n : Nat} (ps : List Piece) : Fn (n + 3) (plD ps) := by
  refine fn_lst (fn_map fun p _ => ?_)
  exact fn_tup (fn_cons fn_oDs (fn_cons fn_oD fn_nil))
theorem isPat_oD {q : Option Nat} (h : patOk q) : isPat (oD q) = true := by
  cases q with
  | none => rfl
  | some k =>
    have := h k rfl
    unfold isPat
    rw [oD_some]
    simp [isNon, isWhole, big_eq]
    omega
theorem isPiece_pcD {p : Piece} (h : pieceOk p) : isPiece (pcD p) = true := by
  obtain ⟨t, m⟩ := p
  obtain ⟨h1, h2, h3, h4⟩ := h
  unfold isPiece pcD
  show (isRow (.lst (t.map oD)) 8 && isMany (oD m) && (t.map oD).all isPat) = true
  have e1 : isRow (.lst (t.map oD)) 8 = true := by
    unfold isRow
    show (decide (1 ≤ (t.map oD).length) && decide ((t.map oD).length ≤ 8)) = true
    rw [List.length_map]
    have : 0 < t.length := List.length_pos_iff.mpr h1
    simp at h2 ⊢
    omega
  have e2 : isMany (oD m) = true := isPat_oD h4
  have e3 : (t.map oD).all isPat = true := List.all_eq_true.mpr fun d hd => by
    obtain ⟨q, hq, rfl⟩ := List.mem_map.mp hd
    exact isPat_oD (h3 q hq)
  rw [e1, e2, e3]
  rfl
theorem sizeOf_pcD (p : Piece) : sizeOf' (pcD p) = oD p.2 := rfl
theorem someSizes_plD (ps : List Piece) : (someSizes (ps.map pcD)).sum = (((ps.map fun p => p.2.getD 0).sum : Nat) : Int) := by
  unfold someSizes
  rw [List.map_map]
  induction ps with
  | nil => rfl
  | cons p ps ih =>
    obtain ⟨t, m⟩ := p
    rw [List.map_cons, List.map_cons, List.sum_cons]
    cases m with
    | none =>
      rw [List.filterMap_cons_none rfl, ih]
      simp
    | some k =>
      show ((k : Int) :: List.filterMap _ _).sum = _
      rw [List.sum_cons, ih]
      simp
theorem isPlan_plD {ps : List Piece} (h : planOk ps) : isPlan (plD ps) = true := by
  obtain ⟨h1, h2, h3, h4, h5⟩ := h
  unfold isPlan plD
  show (decide (1 ≤ (ps.map pcD).length) && decide ((ps.map pcD).length ≤ 8) && (ps.map pcD).all isPiece && !((ps.map pcD).dropLast.any fun p => isNon (sizeOf' p)) && decide ((someSizes (ps.map pcD)).sum ≤ big)) = true
  have l1 : 0 < ps.length := List.length_pos_iff.mpr h1
  have e3 : (ps.map pcD).all isPiece = true := List.all_eq_true.mpr fun d hd => by
    obtain ⟨p, hp, rfl⟩ := List.mem_map.mp hd
    exact isPiece_pcD (h3 p hp)
  have e4 : ((ps.map pcD).dropLast.any fun p => isNon (sizeOf' p)) = false := by
    rw [← List.map_dropLast, List.any_map]
    refine List.any_eq_false.mpr fun p hp => ?_
    show ¬ isNon (sizeOf' (pcD p)) = true
    rw [sizeOf_pcD, isNon_oD]
    have := h4 p hp
    cases e : p.2 with
    | none => exact absurd e this
    | some k => simp
  rw [List.length_map, e3, e4, someSizes_plD, big_eq]
  simp
  omega
/-! ### told otherwise -/
/-- ahead of whatever comes, the same people -/
def Alike (a b : List Piece) : Prop := ∀ rest : List Piece, total (a ++ rest) = total (b ++ rest) ∧ ∀ j, patIn (a ++ rest) j = patIn (b ++ rest) j
theorem Alike.refl (a : List Piece) : Alike a a := fun _ => ⟨rfl, fun _ => rfl⟩
/-- b is finite: what follows is asked at the rest -/
theorem total_app : ∀ {a r : List Piece} {n : Nat}, total a = some n → total (a ++ r) = (total r).map (n + ·)
  | [], r, n, h => by
    cases h
    cases e : total r <;> simp [e]
  | (t, none) :: a, r, n, h => by cases h
  | (t, some k) :: a, r, n, h => by
    simp only [total, Option.map_eq_some_iff] at h
    obtain ⟨m, h1, rfl⟩ := h
    have := total_app (r := r) h1
    simp only [List.cons_append, total, this]
    cases total r <;> simp [Nat.add_assoc]
theorem patIn_app : ∀ {a r : List Piece} {n : Nat}, total a = some n → ∀ j, patIn (a ++ r) j = if j < n then patIn a j else patIn r (j - n)
  | [], r, n, h, j => by
    cases h
    simp
  | (t, none) :: a, r, n, h, _ => by cases h
  | (t, some k) :: a, r, n, h, j => by
    simp only [total, Option.map_eq_some_iff] at h
    obtain ⟨m, h1, rfl⟩ := h
    have ih := patIn_app (r := r) h1
    simp only [List.cons_append, patIn]
    by_cases hj : j < k
    · rw [if_pos (.inr (by simpa using hj)), if_pos (by omega), if_pos (.inr (by simpa using hj))]
    · have hn : ¬ (some k = none ∨ j < (some k).getD 0) := by simpa using hj
      rw [if_neg hn, if_neg hn]
      show patIn (a ++ r) (j - k) = _
      rw [ih]
      by_cases h2 : j < k + m
      · rw [if_pos h2, if_pos (by omega)]
        rfl
      · rw [if_neg h2, if_neg (by omega)]
        congr 1
        omega
theorem patIn_end : ∀ {a r : List Piece}, total a = none → ∀ j, patIn (a ++ r) j = patIn a j
  | [], _, h, _ => by cases h
  | (t, none) :: a, r, _, j => by simp [patIn]
  | (t, some k) :: a, r, h, j => by
    have h1 : total a = none := by simpa [total] using h
    simp only [List.cons_append, patIn]
    by_cases hj : j < k
    · rw [if_pos (.inr (by simpa using hj)), if_pos (.inr (by simpa using hj))]
    · have hn : ¬ (some k = none ∨ j < (some k).getD 0) := by simpa using hj
      rw [if_neg hn, if_neg hn]
      exact patIn_end h1 _
theorem total_end : ∀ {a r : List Piece}, total a = none → total (a ++ r) = none
  | [], _, h => by cases h
  | (t, none) :: a, r, _ => rfl
  | (t, some k) :: a, r, h => by
    have h1 : total a = none := by simpa [total] using h
    simp [total, total_end h1]
/-- a piece in the place of another -/
theorem Alike.snoc {a b c : List Piece} {p : Piece} (h : Alike a b) (hp : Alike c [p]) : Alike (a ++ c) (b ++ [p]) := fun rest => by
  have h1 := h (c ++ rest)
  have h2 := hp rest
  rw [List.append_assoc, List.append_assoc]
  -- both ways through b
  cases hb : total b with
  | none =>
    refine ⟨?_, fun j => ?_⟩
    · rw [h1.1, total_end hb, total_end hb]
    · rw [h1.2 j, patIn_end hb, patIn_end hb]
  | some n =>
    refine ⟨?_, fun j => ?_⟩
    · rw [h1.1, total_app hb, total_app hb, h2.1]
    · rw [h1.2 j, patIn_app hb, patIn_app hb, h2.2]
theorem alike_twice {t : List (Option Nat)} {m : Option Nat} (ht : t ≠ []) : Alike [(t ++ t, m)] [(t, m)] := fun rest => by
  refine ⟨by cases m <;> rfl, fun j => ?_⟩
  have hp : 0 < t.length := List.length_pos_iff.mpr ht
  simp only [List.cons_append, List.nil_append, patIn]
  by_cases h : m = none ∨ j < m.getD 0
  · rw [if_pos h, if_pos h]
    congr 1
    rw [List.length_append]
    have h1 : j % (t.length + t.length) < t.length + t.length := Nat.mod_lt _ (by omega)
    have h2 : j % (t.length + t.length) % t.length = j % t.length := Nat.mod_mod_of_dvd j ⟨2, by omega⟩
    by_cases h3 : j % (t.length + t.length) < t.length
    · rw [List.getElem?_append_left h3, ← h2, Nat.mod_eq_of_lt h3]
    · rw [List.getElem?_append_right (by omega), ← h2]
      congr 1
      generalize j % (t.length + t.length) = i at h1 h3
      rw [Nat.mod_eq_sub_mod (a := i) (by omega), Nat.mod_eq_of_lt (by omega)]
  · rw [if_neg h, if_neg h]
theorem alike_none {u t : List (Option Nat)} {m : Option Nat} : Alike [(u, some 0), (t, m)] [(t, m)] := fun rest => by
  refine ⟨?_, fun j => ?_⟩
  · simp only [List.cons_append, List.nil_append, total]
    cases m with
    | none => rfl
    | some k => cases total rest <;> simp
  · simp only [List.cons_append, List.nil_append]
    conv => lhs; unfold patIn
    rw [if_neg (by simp)]
    rfl
/-- a round begun elsewhere -/
def rot (t : List (Option Nat)) (s : Nat) : List (Option Nat) := t.drop s ++ t.take s
theorem rot_len (t : List (Option Nat)) (s : Nat) (h : s ≤ t.length) : (rot t s).length = t.length := by
  unfold rot
  rw [List.length_append, List.length_drop, List.length_take]
  omega
theorem rot_get {t : List (Option Nat)} {s i : Nat} (hs : s < t.length) (hi : i < t.length) : (rot t s)[i]? = t[(s + i) % t.length]? := by
  unfold rot
  by_cases h : i < t.length - s
  · rw [List.getElem?_append_left (by rw [List.length_drop]; exact h), List.getElem?_drop, Nat.mod_eq_of_lt (by omega)]
  · rw [List.getElem?_append_right (by rw [List.length_drop]; omega), List.length_drop, List.getElem?_take_of_lt (by omega)]
    congr 1
    rw [Nat.mod_eq_sub_mod (by omega), Nat.mod_eq_of_lt (by omega)]
    omega
theorem rot_round {t : List (Option Nat)} (ht : t ≠ []) (c j : Nat) (h : c ≤ j) : (rot t (c % t.length))[(j - c) % t.length]? = t[j % t.length]? := by
  have hp : 0 < t.length := List.length_pos_iff.mpr ht
  rw [rot_get (Nat.mod_lt _ hp) (Nat.mod_lt _ hp), ← Nat.add_mod]
  congr 2
  omega
theorem alike_cut {t : List (Option Nat)} {m : Option Nat} {c : Nat} (ht : t ≠ []) (hc : ∀ k, m = some k → c ≤ k) : Alike [(t, some c), (rot t (c % t.length), m.map (· - c))] [(t, m)] := fun rest => by
  have hp : 0 < t.length := List.length_pos_iff.mpr ht
  have hl : (rot t (c % t.length)).length = t.length := rot_len _ _ (Nat.le_of_lt (Nat.mod_lt _ hp))
  refine ⟨?_, fun j => ?_⟩
  · simp only [List.cons_append, List.nil_append, total]
    cases m with
    | none => rfl
    | some k =>
      have := hc k rfl
      simp only [Option.map_some, total]
      cases total rest with
      | none => rfl
      | some r => simp; omega
  · simp only [List.cons_append, List.nil_append]
    conv => lhs; unfold patIn
    by_cases h1 : j < c
    · rw [if_pos (.inr (by simpa using h1))]
      unfold patIn
      rw [if_pos]
      cases m with
      | none => exact .inl rfl
      | some k =>
        have := hc k rfl
        exact .inr (by simp; omega)
    · rw [if_neg (by simpa using h1)]
      show patIn ((rot t (c % t.length), m.map (· - c)) :: rest) (j - c) = _
      unfold patIn
      cases m with
      | none =>
        rw [if_pos (.inl rfl), if_pos (.inl rfl), hl, rot_round ht c j (by omega)]
      | some k =>
        have := hc k rfl
        by_cases h2 : j < k
        · rw [if_pos (.inr (by simp; omega)), if_pos (.inr (by simpa using h2)), hl, rot_round ht c j (by omega)]
        · rw [if_neg (by simp; omega), if_neg (by simpa using h2)]
          show patIn rest (j - c - (k - c)) = patIn rest (j - k)
          congr 1
          omega
theorem Alike.same {a b : List Piece} (h : Alike a b) : total a = total b ∧ ∀ j, patIn a j = patIn b j := by
  have := h []
  rw [List.append_nil, List.append_nil] at this
  exact this
theorem upTo_iff {ps : List Piece} {n : Nat} : upTo ps n ↔ ∀ k, total ps = some k → n ≤ k := by
  unfold upTo
  cases total ps with
  | none => simp
  | some k => simp
theorem cutD_drop (l : List Dt) (s : Nat) (h : s ≤ l.length) : cutD l (some (s : Int)) none = l.drop s := by
  unfold cutD
  rw [HT.sIx_nat, HT.sIx_none, Nat.min_eq_left h, List.take_of_length_le (by rw [List.length_drop]; exact Nat.le_refl _)]
theorem cutD_take (l : List Dt) (s : Nat) (h : s ≤ l.length) : cutD l none (some (s : Int)) = l.take s := by
  unfold cutD
  rw [HT.sIx_nat, HT.sIx_none, Nat.min_eq_left h, List.drop_zero, Nat.sub_zero]
theorem le_sum_mem : ∀ {l : List Nat} {x : Nat}, x ∈ l → x ≤ l.sum
  | y :: l, x, h => by
    rw [List.sum_cons]
    rcases List.mem_cons.mp h with rfl | h
    · omega
    · have := le_sum_mem h
      omega
theorem sum_le_mul : ∀ {l : List Nat} {m : Nat}, (∀ x ∈ l, x ≤ m) → l.sum ≤ m * l.length
  | [], m, h => Nat.zero_le _
  | y :: l, m, h => by
    rw [List.sum_cons, List.length_cons]
    have h1 := h y (List.mem_cons_self ..)
    have h2 := sum_le_mul fun x hx => h x (List.mem_cons_of_mem _ hx)
    rw [Nat.mul_add]
    omega
theorem nD_ints (l : List Nat) : l.map nD = (l.map fun n : Nat => (n : Int)).map Dt.int := by rw [List.map_map]; rfl

end
section
/-! What holds of every queue: who stands, who stays, who went past whom. -/
section
variable (pat : Nat → Option Nat)
theorem q_perm : ∀ n, (listedQ pat n).1.Perm (List.range n)
  | 0 => List.Perm.refl _
  | n + 1 => by
    show ((listedQ pat n).1.take _ ++ [n] ++ (listedQ pat n).1.drop _).Perm _
    rw [List.append_assoc, List.singleton_append, List.range_succ]
    refine List.perm_middle.trans ?_
    rw [List.take_append_drop]
    exact ((q_perm n).cons n).trans (List.perm_append_singleton n _).symm
theorem q_lt {n x : Nat} (h : x ∈ (listedQ pat n).1) : x < n := List.mem_range.mp ((q_perm pat n).mem_iff.mp h)
theorem q_nodup (n : Nat) : (listedQ pat n).1.Nodup := (q_perm pat n).nodup_iff.mpr List.nodup_range
abbrev cutQ (n : Nat) : Nat := cutAt (listedQ pat n).2
theorem cutQ_le (n : Nat) : cutQ pat n ≤ n := by
  have := cutAt_le (listedQ pat n).2
  rw [(listedQ_len pat n).2] at this
  exact this
theorem cutQ_mono (n : Nat) : cutQ pat n ≤ cutQ pat (n + 1) := by
  by_cases h : 0 < cutQ pat n
  · have h1 := cutAt_pos h
    have h2 := cutQ_le pat n
    have l2 := (listedQ_len pat n).2
    have : (listedQ pat (n + 1)).2[cutQ pat n - 1]? = some (some 0) := by
      show ((listedQ pat n).2.take (cutQ pat n) ++ [pat n] ++ ((listedQ pat n).2.drop _).map dec)[cutQ pat n - 1]? = _
      rw [List.append_assoc, List.getElem?_append_left (by rw [List.length_take]; omega), List.getElem?_take_of_lt (by omega)]
      exact h1
    have h3 : cutQ pat n - 1 < cutQ pat (n + 1) := cutAt_ge this
    omega
  · omega
theorem cutQ_up {n m : Nat} (h : n ≤ m) : cutQ pat n ≤ cutQ pat m := by
  induction m with
  | zero => have : n = 0 := by omega
            subst this; exact Nat.le_refl _
  | succ m ih =>
    by_cases e : n = m + 1
    · subst e; exact Nat.le_refl _
    · exact Nat.le_trans (ih (by omega)) (cutQ_mono pat m)
/-- those ahead of the last that lets nobody past stay -/
theorem q_stay {n m : Nat} (h : n ≤ m) : (listedQ pat m).1.take (cutQ pat n) = (listedQ pat n).1.take (cutQ pat n) := by
  induction m with
  | zero => have : n = 0 := by omega
            subst this; rfl
  | succ m ih =>
    by_cases e : n = m + 1
    · subst e; rfl
    · rw [← ih (by omega)]
      have h1 := cutQ_up pat (show n ≤ m by omega)
      have h2 := cutQ_le pat m
      have l1 := (listedQ_len pat m).1
      show ((listedQ pat m).1.take (cutQ pat m) ++ [m] ++ (listedQ pat m).1.drop (cutQ pat m)).take (cutQ pat n) = _
      rw [List.append_assoc, List.take_append_of_le_length (by rw [List.length_take]; omega), List.take_take, Nat.min_eq_left h1]
/-- the others stand the latest first -/
theorem q_desc : ∀ n, ((listedQ pat n).1.drop (cutQ pat n)).Pairwise (· > ·)
  | 0 => by
    show (List.drop 0 ([] : List Nat)).Pairwise _
    exact List.Pairwise.nil
  | n + 1 => by
    have ih := q_desc n
    have h1 := cutQ_mono pat n
    have h2 := cutQ_le pat n
    have l1 := (listedQ_len pat n).1
    have e : (listedQ pat (n + 1)).1.drop (cutQ pat n) = n :: (listedQ pat n).1.drop (cutQ pat n) := by
      show ((listedQ pat n).1.take (cutQ pat n) ++ [n] ++ (listedQ pat n).1.drop (cutQ pat n)).drop (cutQ pat n) = _
      rw [List.append_assoc, List.drop_append_of_le_length (by rw [List.length_take]; omega), List.drop_eq_nil_of_le (by rw [List.length_take]; omega)]
      rfl
    have e2 : (listedQ pat (n + 1)).1.drop (cutQ pat (n + 1)) = ((listedQ pat (n + 1)).1.drop (cutQ pat n)).drop (cutQ pat (n + 1) - cutQ pat n) := by
      rw [List.drop_drop]
      congr 1
      omega
    rw [e2, e]
    refine List.Pairwise.drop ?_
    refine List.Pairwise.cons (fun x hx => ?_) ih
    exact q_lt pat (List.mem_of_mem_drop hx)
/-! ### a stack -/
def popAll : List Nat → List Nat → Nat → Option (List Nat × Nat)
  | [], h, d => some (h, d)
  | w :: r, h, d => if (h ++ List.range' d (w + 1 - d)).getLast? = some w then popAll r (h ++ List.range' d (w + 1 - d)).dropLast (max d (w + 1)) else none
theorem popAll_app : ∀ (a b h : List Nat) (d : Nat), popAll (a ++ b) h d = (popAll a h d).bind fun s => popAll b s.1 s.2
  | [], _, _, _ => rfl
  | w :: r, b, h, d => by
    rw [List.cons_append]
    show (if _ then popAll (r ++ b) _ _ else none) = Option.bind (if _ then popAll r _ _ else none) _
    split
    · exact popAll_app r b _ _
    · rfl
/-- the held ones and those behind make up the first d -/
structure StI (pre h : List Nat) (d : Nat) : Prop where
  asc : h.Pairwise (· < ·)
  perm : (pre ++ h).Perm (List.range d)
  dd : d = 0 ∨ d - 1 ∈ pre
theorem range_add (d k : Nat) : List.range (d + k) = List.range d ++ List.range' d k := by
  rw [List.range_eq_range', List.range_eq_range']
  have := @List.range'_append 0 d k 1
  rw [Nat.zero_add, Nat.one_mul] at this
  exact this.symm
theorem StI.lt {pre h : List Nat} {d x : Nat} (I : StI pre h d) (hx : x ∈ h) : x < d := List.mem_range.mp (I.perm.mem_iff.mp (List.mem_append_right _ hx))
theorem StI.more {pre h : List Nat} {d w : Nat} (I : StI pre h d) : (h ++ List.range' d (w + 1 - d)).Pairwise (· < ·) ∧ (pre ++ (h ++ List.range' d (w + 1 - d))).Perm (List.range (max d (w + 1))) := by
  constructor
  · refine List.pairwise_append.mpr ⟨I.asc, List.pairwise_lt_range', fun a ha b hb => ?_⟩
    have := I.lt ha
    have := (List.mem_range'_1.mp hb).1
    omega
  · have e : max d (w + 1) = d + (w + 1 - d) := by omega
    rw [e, range_add, ← List.append_assoc]
    exact I.perm.append_right _
theorem StI.pop {pre h : List Nat} {d w : Nat} (I : StI pre h d) (hl : (h ++ List.range' d (w + 1 - d)).getLast? = some w) : StI (pre ++ [w]) (h ++ List.range' d (w + 1 - d)).dropLast (max d (w + 1)) := by
  obtain ⟨m1, m2⟩ := I.more (w := w)
  generalize h ++ List.range' d (w + 1 - d) = h1 at *
  have hne : h1 ≠ [] := fun e => by rw [e] at hl; cases hl
  have ew : h1.getLast hne = w := Option.some.inj ((List.getLast?_eq_getLast hne).symm.trans hl)
  have e : h1.dropLast ++ [w] = h1 := by rw [← ew]; exact List.dropLast_concat_getLast hne
  refine ⟨?_, ?_, ?_⟩
  · rw [← e] at m1
    exact (List.pairwise_append.mp m1).1
  · refine List.Perm.trans ?_ m2
    rw [List.append_assoc]
    refine List.Perm.append_left _ ?_
    conv => rhs; rw [← e]
    exact (List.perm_append_singleton w _).symm
  · by_cases hd : d ≤ w
    · right
      have : max d (w + 1) - 1 = w := by omega
      rw [this]
      simp
    · have : max d (w + 1) = d := by omega
      rw [this]
      rcases I.dd with h | h
      · exact .inl h
      · exact .inr (List.mem_append_left _ h)
theorem popAll_inv : ∀ {a pre h : List Nat} {d : Nat} {h' : List Nat} {d' : Nat}, StI pre h d → popAll a h d = some (h', d') → StI (pre ++ a) h' d'
  | [], pre, h, d, h', d', I, e => by
    cases e
    rw [List.append_nil]
    exact I
  | w :: r, pre, h, d, h', d', I, e => by
    unfold popAll at e
    split at e
    · rename_i hl
      have := popAll_inv (I.pop hl) e
      rw [List.append_assoc] at this
      exact this
    · cases e
theorem popAll_rev : ∀ (D : List Nat) (d : Nat), (∀ x ∈ D, x < d) → popAll D D.reverse d = some ([], d)
  | [], _, _ => rfl
  | w :: r, d, h => by
    have hw := h w (List.mem_cons_self ..)
    unfold popAll
    have e0 : w + 1 - d = 0 := by omega
    have e1 : max d (w + 1) = d := by omega
    rw [e0, e1, List.range'_zero, List.append_nil, List.reverse_cons, List.getLast?_append]
    simp only [List.getLast?_singleton, Option.some_or, if_true, List.dropLast_concat]
    exact popAll_rev r d fun x hx => h x (List.mem_cons_of_mem _ hx)
/-- a queue comes off a stack on which the people are laid in their order -/
theorem q_stack : ∀ n, ∃ s, popAll (listedQ pat n).1 [] 0 = some s
  | 0 => ⟨_, rfl⟩
  | n + 1 => by
    obtain ⟨s, hs⟩ := q_stack n
    have hd := q_desc pat n
    have hp := q_perm pat n
    have hsp : (listedQ pat n).1 = (listedQ pat n).1.take (cutQ pat n) ++ (listedQ pat n).1.drop (cutQ pat n) := (List.take_append_drop _ _).symm
    show ∃ s, popAll ((listedQ pat n).1.take (cutQ pat n) ++ [n] ++ (listedQ pat n).1.drop (cutQ pat n)) [] 0 = some s
    rw [hsp] at hs hp
    generalize (listedQ pat n).1.take (cutQ pat n) = A at *
    generalize (listedQ pat n).1.drop (cutQ pat n) = D at *
    rw [popAll_app] at hs
    obtain ⟨⟨h, d⟩, h1, h2⟩ := Option.bind_eq_some_iff.mp hs
    have I := popAll_inv (pre := []) ⟨List.Pairwise.nil, List.Perm.refl _, .inl rfl⟩ h1
    rw [List.nil_append] at I
    have hdn : d ≤ n := by
      rcases I.dd with e | e
      · omega
      · have := List.mem_range.mp (hp.mem_iff.mp (List.mem_append_left _ e))
        omega
    have pD : D.Perm (h ++ List.range' d (n - d)) := by
      refine (List.perm_append_left_iff A).mp (hp.trans ?_)
      have e : n = d + (n - d) := by omega
      conv => lhs; rw [e, range_add]
      rw [← List.append_assoc]
      exact (I.perm.append_right _).symm
    have asc : (h ++ List.range' d (n - d)).Pairwise (· < ·) := by
      refine List.pairwise_append.mpr ⟨I.asc, List.pairwise_lt_range', fun a ha b hb => ?_⟩
      have := I.lt ha
      have := (List.mem_range'_1.mp hb).1
      omega
    have eD : D.reverse = h ++ List.range' d (n - d) := by
      refine List.Perm.eq_of_pairwise (le := (· < ·)) (fun a b _ _ x y => by omega) (List.pairwise_reverse.mpr hd) asc ((List.reverse_perm D).trans pD)
    refine ⟨([], n + 1), ?_⟩
    rw [List.append_assoc, popAll_app, h1]
    show popAll (n :: D) h d = _
    unfold popAll
    have e1 : n + 1 - d = (n - d) + 1 := by omega
    have e2 : d + (n - d) = n := by omega
    rw [e1, ← List.range'_append_1 (s := d) (m := n - d) (n := 1), e2, ← List.append_assoc, ← eD]
    have e3 : max d (n + 1) = n + 1 := by omega
    rw [e3, List.range'_one, List.getLast?_append]
    simp only [List.getLast?_singleton, Option.some_or, if_true, List.dropLast_concat]
    refine popAll_rev D (n + 1) fun x hx => ?_
    have := List.mem_range.mp (hp.mem_iff.mp (List.mem_append_right _ hx))
    omega
/-! ### who went past -/
def past (pre : List Nat) (w : Nat) : Nat := (pre.filter fun o => decide (w < o)).length
def okL (p : Option Nat) (k : Nat) (l : Option Nat) : Prop := match p with
  | none => l = none
  | some a => k ≤ a ∧ l = some (a - k)
def Good (pre : List Nat) : List Nat → List (Option Nat) → Prop
  | [], [] => True
  | w :: P, l :: L => okL (pat w) (past pre w) l ∧ Good (pre ++ [w]) P L
  | _, _ => False
theorem good_app : ∀ {A D : List Nat} {LA LD : List (Option Nat)} {pre : List Nat}, A.length = LA.length → (Good pat pre (A ++ D) (LA ++ LD) ↔ Good pat pre A LA ∧ Good pat (pre ++ A) D LD)
  | [], D, [], LD, pre, _ => by simp [Good]
  | w :: A, D, l :: LA, LD, pre, h => by
    have h' : A.length = LA.length := by simpa using h
    show okL _ _ _ ∧ Good pat (pre ++ [w]) (A ++ D) (LA ++ LD) ↔ (okL _ _ _ ∧ Good pat (pre ++ [w]) A LA) ∧ Good pat (pre ++ w :: A) D LD
    rw [good_app h', List.append_assoc, and_assoc]
    rfl
  | [], D, l :: LA, LD, pre, h => by simp at h
  | w :: A, D, [], LD, pre, h => by simp at h
theorem past_app (a b : List Nat) (w : Nat) : past (a ++ b) w = past a w + past b w := by
  unfold past
  rw [List.filter_append, List.length_append]
theorem past_one {w o : Nat} : past [o] w = if w < o then 1 else 0 := by
  unfold past
  by_cases h : w < o <;> simp [h]
theorem past_zero {pre : List Nat} {w : Nat} (h : ∀ o ∈ pre, o ≤ w) : past pre w = 0 := by
  unfold past
  rw [List.length_eq_zero_iff, List.filter_eq_nil_iff]
  intro o ho
  have := h o ho
  simp
  omega
theorem good_dec {n : Nat} : ∀ {D : List Nat} {LD : List (Option Nat)} {pre pre' : List Nat}, (∀ w, w < n → past pre' w = past pre w + 1) → (∀ w ∈ D, w < n) → (∀ l ∈ LD, l ≠ some 0) → Good pat pre D LD → Good pat pre' D (LD.map dec)
  | [], [], _, _, _, _, _, _ => trivial
  | w :: D, l :: LD, pre, pre', hp, hD, hL, g => by
    obtain ⟨g1, g2⟩ := g
    refine ⟨?_, good_dec (fun x hx => ?_) (fun x hx => hD x (List.mem_cons_of_mem _ hx)) (fun x hx => hL x (List.mem_cons_of_mem _ hx)) g2⟩
    · rw [hp w (hD w (List.mem_cons_self ..))]
      have hl := hL l (List.mem_cons_self ..)
      unfold okL at g1 ⊢
      cases e : pat w with
      | none => rw [e] at g1; dsimp only at g1 ⊢; rw [g1]; rfl
      | some a =>
        rw [e] at g1
        dsimp only at g1 ⊢
        obtain ⟨g3, g4⟩ := g1
        rw [g4] at hl ⊢
        have : a - past pre w ≠ 0 := fun z => hl (by rw [z])
        refine ⟨by omega, ?_⟩
        show some (a - past pre w - 1) = _
        congr 1
    · rw [past_app, past_app, hp x hx]
      omega
  | [], _ :: _, _, _, _, _, _, g => g.elim
  | _ :: _, [], _, _, _, _, _, g => g.elim
theorem q_good : ∀ n, Good pat [] (listedQ pat n).1 (listedQ pat n).2
  | 0 => trivial
  | n + 1 => by
    have ih := q_good n
    obtain ⟨l1, l2⟩ := listedQ_len pat n
    have hc := cutQ_le pat n
    have hz : ∀ l ∈ (listedQ pat n).2.drop (cutQ pat n), l ≠ some 0 := fun l hl e => by
      obtain ⟨i, hi⟩ := List.getElem?_of_mem hl
      rw [List.getElem?_drop, e] at hi
      have h3 : cutQ pat n + i < cutQ pat n := cutAt_ge hi
      omega
    have hlt : ∀ x ∈ (listedQ pat n).1, x < n := fun x hx => q_lt pat hx
    show Good pat [] ((listedQ pat n).1.take (cutQ pat n) ++ [n] ++ (listedQ pat n).1.drop (cutQ pat n)) ((listedQ pat n).2.take (cutQ pat n) ++ [pat n] ++ ((listedQ pat n).2.drop (cutQ pat n)).map dec)
    rw [← List.take_append_drop (cutQ pat n) (listedQ pat n).1, ← List.take_append_drop (cutQ pat n) (listedQ pat n).2] at ih
    have el : ((listedQ pat n).1.take (cutQ pat n)).length = ((listedQ pat n).2.take (cutQ pat n)).length := by rw [List.length_take, List.length_take, l1, l2]
    rw [good_app pat el] at ih
    have hA : ∀ x ∈ (listedQ pat n).1.take (cutQ pat n), x < n := fun x hx => hlt x (List.mem_of_mem_take hx)
    have hD : ∀ x ∈ (listedQ pat n).1.drop (cutQ pat n), x < n := fun x hx => hlt x (List.mem_of_mem_drop hx)
    generalize (listedQ pat n).1.take (cutQ pat n) = A at *
    generalize (listedQ pat n).1.drop (cutQ pat n) = D at *
    generalize (listedQ pat n).2.take (cutQ pat n) = LA at *
    generalize (listedQ pat n).2.drop (cutQ pat n) = LD at *
    rw [List.append_assoc, List.append_assoc, good_app pat el]
    refine ⟨ih.1, ?_, ?_⟩
    · rw [past_zero fun o ho => Nat.le_of_lt (hA o (by simpa using ho))]
      unfold okL
      cases pat n with
      | none => rfl
      | some a => exact ⟨Nat.zero_le _, rfl⟩
    · refine good_dec pat (n := n) (fun w hw => ?_) hD hz ih.2
      rw [past_app, past_one, if_pos hw]
theorem good_at : ∀ {P : List Nat} {L : List (Option Nat)} {pre : List Nat} {i w : Nat}, Good pat pre P L → P[i]? = some w → ∃ l, L[i]? = some l ∧ okL (pat w) (past (pre ++ P.take i) w) l
  | w' :: P, l :: L, pre, 0, w, g, e => by
    cases e
    exact ⟨l, rfl, by rw [List.take_zero, List.append_nil]; exact g.1⟩
  | w' :: P, l :: L, pre, i + 1, w, g, e => by
    obtain ⟨l', h1, h2⟩ := good_at g.2 (i := i) (by simpa using e)
    refine ⟨l', by simpa using h1, ?_⟩
    rw [List.append_assoc] at h2
    exact h2
  | [], _, _, _, _, _, e => by simp at e
  | _ :: _, [], _, _, _, g, _ => g.elim
end

end
section
/-! The queue as a stack: whom somebody can still go past lie on it, the newest on top. -/
section
variable (r : Nat → Option Nat)
/-- how many come off: down to the deepest whose reach is n -/
def popTo (n : Nat) : List Nat → Nat
  | [] => 0
  | i :: S => if popTo n S > 0 then popTo n S + 1 else if r i = some n then 1 else 0
def stk : Nat → List Nat × List Nat
  | 0 => ([], [])
  | n + 1 => ((stk n).1 ++ ((n :: (stk n).2).take (popTo r n (n :: (stk n).2))), (n :: (stk n).2).drop (popTo r n (n :: (stk n).2)))
def ordS (n : Nat) : List Nat := (stk r n).1 ++ (stk r n).2
theorem popTo_le (n : Nat) : ∀ S : List Nat, popTo r n S ≤ S.length
  | [] => Nat.le_refl _
  | a :: S => by
    have := popTo_le n S
    unfold popTo
    rw [List.length_cons]
    split
    · omega
    · split <;> omega
theorem popTo_pos (n : Nat) : ∀ {S : List Nat}, 0 < popTo r n S → ∃ i, S[popTo r n S - 1]? = some i ∧ r i = some n
  | [], h => absurd h (Nat.lt_irrefl _)
  | a :: S, h => by
    unfold popTo at h ⊢
    by_cases c : popTo r n S > 0
    · rw [if_pos c]
      obtain ⟨i, h1, h2⟩ := popTo_pos n c
      obtain ⟨k, hk⟩ : ∃ k, popTo r n S = k + 1 := ⟨popTo r n S - 1, by omega⟩
      rw [hk] at h1 ⊢
      exact ⟨i, h1, h2⟩
    · rw [if_neg c] at h ⊢
      by_cases z : r a = some n
      · rw [if_pos z]; exact ⟨a, rfl, z⟩
      · rw [if_neg z] at h; exact absurd h (Nat.lt_irrefl _)
theorem popTo_ge (n : Nat) : ∀ {S : List Nat} {j i : Nat}, S[j]? = some i → r i = some n → j < popTo r n S
  | [], _, _, h, _ => by simp at h
  | a :: S, 0, i, h, hz => by
    have e : a = i := by simpa using h
    unfold popTo
    by_cases c : popTo r n S > 0
    · rw [if_pos c]; omega
    · rw [if_neg c, e, if_pos hz]; omega
  | a :: S, j + 1, i, h, hz => by
    have := popTo_ge n (S := S) (j := j) (by simpa using h) hz
    unfold popTo
    rw [if_pos (by omega)]
    omega
theorem popTo_is {n : Nat} {S : List Nat} {k : Nat} (h : k = 0 ∨ ∃ i, S[k - 1]? = some i ∧ r i = some n) (hg : ∀ j i, k ≤ j → S[j]? = some i → r i ≠ some n) : popTo r n S = k := by
  have h1 : popTo r n S ≤ k := by
    by_cases c : 0 < popTo r n S
    · obtain ⟨i, h1, h2⟩ := popTo_pos r n c
      by_cases z : k ≤ popTo r n S - 1
      · exact absurd h2 (hg _ i z h1)
      · omega
    · omega
  rcases h with e | ⟨i, h2, h3⟩
  · omega
  · have := popTo_ge r n h2 h3
    omega
/-- two reaches that have the deepest one alike -/
theorem popTo_congr {r' : Nat → Option Nat} {n : Nat} {S : List Nat} (h : ∀ i ∈ S, r i = some n ↔ r' i = some n) : popTo r n S = popTo r' n S := by
  induction S with
  | nil => rfl
  | cons a S ih =>
    have e := ih fun i hi => h i (List.mem_cons_of_mem _ hi)
    unfold popTo
    rw [e]
    have := h a (List.mem_cons_self ..)
    by_cases c : popTo r' n S > 0
    · rw [if_pos c, if_pos c]
    · rw [if_neg c, if_neg c]
      by_cases z : r a = some n
      · rw [if_pos z, if_pos (this.mp z)]
      · rw [if_neg z, if_neg (fun y => z (this.mpr y))]
theorem ordS_succ (n : Nat) : ordS r (n + 1) = (stk r n).1 ++ n :: (stk r n).2 := by
  show ((stk r n).1 ++ List.take _ _) ++ List.drop _ (n :: (stk r n).2) = _
  rw [List.append_assoc, List.take_append_drop]
end
def reach (pat : Nat → Option Nat) (i : Nat) : Option Nat := (pat i).map (i + ·)
section
variable (pat : Nat → Option Nat)
/-- what one on the stack has left -/
def leftS (n i : Nat) : Option Nat := (pat i).map (· - (n - 1 - i))
theorem lq_stk : ∀ n, (listedQ pat n).1 = ordS (reach pat) n ∧ cutQ pat n = (stk (reach pat) n).1.length ∧ (listedQ pat n).2.drop (cutQ pat n) = (stk (reach pat) n).2.map (leftS pat n)
    ∧ ∀ i ∈ (stk (reach pat) n).2, i < n ∧ ∀ k, reach pat i = some k → n ≤ k
  | 0 => ⟨rfl, rfl, rfl, fun i h => nomatch h⟩
  | n + 1 => by
    obtain ⟨h1, h2, h3, h4⟩ := lq_stk n
    obtain ⟨l1, l2⟩ := listedQ_len pat n
    have hcle := cutQ_le pat n
    have hA : (listedQ pat n).1.take (cutQ pat n) = (stk (reach pat) n).1 := by
      rw [h1, h2]; unfold ordS; rw [List.take_left]
    have hD : (listedQ pat n).1.drop (cutQ pat n) = (stk (reach pat) n).2 := by
      rw [h1, h2]; unfold ordS; rw [List.drop_left]
    have e2 : (listedQ pat (n + 1)).2 = (listedQ pat n).2.take (cutQ pat n) ++ (n :: (stk (reach pat) n).2).map (leftS pat (n + 1)) := by
      show (listedQ pat n).2.take (cutQ pat n) ++ [pat n] ++ ((listedQ pat n).2.drop (cutQ pat n)).map dec = _
      rw [h3, List.map_map, List.append_assoc, List.singleton_append, List.map_cons]
      congr 1
      congr 1
      · unfold leftS
        rw [Nat.add_sub_cancel, Nat.sub_self]
        cases pat n <;> rfl
      · refine List.map_congr_left fun i hi => ?_
        have := (h4 i hi).1
        show dec (leftS pat n i) = leftS pat (n + 1) i
        unfold leftS
        cases pat i with
        | none => rfl
        | some p => show some (p - (n - 1 - i) - 1) = some (p - (n + 1 - 1 - i)); congr 1; omega
    have lT : ((listedQ pat n).2.take (cutQ pat n)).length = cutQ pat n := by rw [List.length_take]; omega
    have h5 : ∀ i ∈ n :: (stk (reach pat) n).2, i < n + 1 ∧ ∀ k, reach pat i = some k → n ≤ k := fun i hi => by
      rcases List.mem_cons.mp hi with e | hi
      · subst e
        refine ⟨by omega, fun k hk => ?_⟩
        unfold reach at hk
        cases e : pat i with
        | none => rw [e] at hk; cases hk
        | some p =>
          rw [e] at hk
          have : i + p = k := Option.some.inj hk
          omega
      · have := h4 i hi
        exact ⟨by omega, this.2⟩
    have hz : ∀ i ∈ n :: (stk (reach pat) n).2, leftS pat (n + 1) i = some 0 ↔ reach pat i = some n := fun i hi => by
      have := h5 i hi
      unfold leftS reach at *
      cases e : pat i with
      | none => simp
      | some p =>
        rw [e] at this
        have h6 : n ≤ i + p := this.2 _ rfl
        simp
        omega
    have ec : cutQ pat (n + 1) = cutQ pat n + popTo (reach pat) n (n :: (stk (reach pat) n).2) := by
      show cutAt (listedQ pat (n + 1)).2 = _
      rw [e2]
      refine cutAt_is ?_ fun j hj => ?_
      · by_cases c : 0 < popTo (reach pat) n (n :: (stk (reach pat) n).2)
        · right
          obtain ⟨i, k1, k2⟩ := popTo_pos _ n c
          rw [List.getElem?_append_right (by rw [lT]; omega), lT, List.getElem?_map]
          have : cutQ pat n + popTo (reach pat) n (n :: (stk (reach pat) n).2) - 1 - cutQ pat n = popTo (reach pat) n (n :: (stk (reach pat) n).2) - 1 := by omega
          rw [this, k1]
          show some (leftS pat (n + 1) i) = _
          rw [(hz i (List.mem_of_getElem? k1)).mpr k2]
        · have e0 : popTo (reach pat) n (n :: (stk (reach pat) n).2) = 0 := by omega
          rw [e0, Nat.add_zero]
          by_cases c2 : 0 < cutQ pat n
          · right
            rw [List.getElem?_append_left (by rw [lT]; omega), List.getElem?_take_of_lt (by omega)]
            exact cutAt_pos c2
          · left; omega
      · rw [List.getElem?_append_right (by rw [lT]; omega), lT, List.getElem?_map]
        intro e
        cases q : (n :: (stk (reach pat) n).2)[j - cutQ pat n]? with
        | none => rw [q] at e; cases e
        | some i =>
          rw [q] at e
          have e' : leftS pat (n + 1) i = some 0 := Option.some.inj e
          have := popTo_ge (reach pat) n q ((hz i (List.mem_of_getElem? q)).mp e')
          omega
    have hkl := popTo_le (reach pat) n (n :: (stk (reach pat) n).2)
    refine ⟨?_, ?_, ?_, ?_⟩
    · rw [ordS_succ]
      show (listedQ pat n).1.take (cutQ pat n) ++ [n] ++ (listedQ pat n).1.drop (cutQ pat n) = _
      rw [hA, hD, List.append_assoc]
      rfl
    · rw [ec, h2]
      show _ = ((stk (reach pat) n).1 ++ (n :: (stk (reach pat) n).2).take _).length
      rw [List.length_append, List.length_take]
      omega
    · rw [ec, e2, List.drop_append, List.drop_eq_nil_of_le (by rw [lT]; omega), lT, List.nil_append, Nat.add_sub_cancel_left, ← List.map_drop]
      rfl
    · intro i hi
      have hm : i ∈ n :: (stk (reach pat) n).2 := List.mem_of_mem_drop hi
      refine ⟨(h5 i hm).1, fun k hk => ?_⟩
      have g := (h5 i hm).2 k hk
      by_cases e : k = n
      · subst e
        obtain ⟨j, hj⟩ := List.getElem?_of_mem hi
        have hj' : (k :: (stk (reach pat) k).2)[popTo (reach pat) k (k :: (stk (reach pat) k).2) + j]? = some i := by
          rw [← List.getElem?_drop]; exact hj
        have := popTo_ge (reach pat) k hj' hk
        omega
      · omega
theorem lq_ord (n : Nat) : (listedQ pat n).1 = ordS (reach pat) n := (lq_stk pat n).1
end

end
section
/-! Each one's last; orders that stand. -/
theorem idxOf_ne {a b : Nat} {l : List Nat} (h : a ≠ b) : (a :: l).idxOf b = l.idxOf b + 1 := by
  rw [List.idxOf_cons]
  have : (a == b) = false := beq_eq_false_iff_ne.mpr h
  rw [this]; rfl
theorem nodup_inj {l : List Nat} (h : l.Nodup) {i j x : Nat} (hi : l[i]? = some x) (hj : l[j]? = some x) : i = j := by
  obtain ⟨a1, a2⟩ := List.getElem?_eq_some_iff.mp hi
  obtain ⟨b1, b2⟩ := List.getElem?_eq_some_iff.mp hj
  by_cases c : i < j
  · exact absurd (a2.trans b2.symm) (List.pairwise_iff_getElem.mp h i j a1 b1 c)
  · by_cases d : j < i
    · exact absurd (b2.trans a2.symm) (List.pairwise_iff_getElem.mp h j i b1 a1 d)
    · omega
section
variable (r : Nat → Option Nat)
theorem stk_desc : ∀ n, (stk r n).2.Pairwise (· > ·) ∧ ∀ i ∈ (stk r n).2, i < n
  | 0 => ⟨List.Pairwise.nil, fun i h => nomatch h⟩
  | n + 1 => by
    obtain ⟨h1, h2⟩ := stk_desc n
    have h3 : (n :: (stk r n).2).Pairwise (· > ·) := List.Pairwise.cons (fun x hx => h2 x hx) h1
    refine ⟨List.Pairwise.drop h3, fun i hi => ?_⟩
    rcases List.mem_cons.mp (List.mem_of_mem_drop hi) with e | hi
    · omega
    · have := h2 i hi; omega
theorem ordS_perm : ∀ n, (ordS r n).Perm (List.range n)
  | 0 => List.Perm.refl _
  | n + 1 => by
    rw [ordS_succ, List.range_succ]
    exact List.perm_middle.trans (((ordS_perm n).cons n).trans (List.perm_append_singleton n _).symm)
theorem ordS_lt {n i : Nat} (h : i ∈ ordS r n) : i < n := List.mem_range.mp ((ordS_perm r n).mem_iff.mp h)
theorem ordS_mem {n i : Nat} (h : i < n) : i ∈ ordS r n := (ordS_perm r n).mem_iff.mpr (List.mem_range.mpr h)
theorem ordS_len (n : Nat) : (ordS r n).length = n := by rw [(ordS_perm r n).length_eq, List.length_range]
theorem ordS_nodup (n : Nat) : (ordS r n).Nodup := (ordS_perm r n).nodup_iff.mpr List.nodup_range
theorem stk_down {n i : Nat} (h : i ∈ (stk r (n + 1)).2) : i ∈ n :: (stk r n).2 := List.mem_of_mem_drop h
theorem stk_back {n m i : Nat} (hn : n ≤ m) (hi : i < n) (h : i ∈ (stk r m).2) : i ∈ (stk r n).2 := by
  induction m with
  | zero => have : n = 0 := by omega
            subst this; exact h
  | succ m ih =>
    by_cases e : n = m + 1
    · subst e; exact h
    · rcases List.mem_cons.mp (stk_down r h) with z | z
      · omega
      · exact ih (by omega) z
/-- the last up to n that went past i, or i itself -/
def lastS : Nat → Nat → Nat
  | 0, i => i
  | n + 1, i => if i ∈ n :: (stk r n).2 then n else lastS n i
theorem last_pos {n i : Nat} (h : i ∈ n :: (stk r n).2) : lastS r (n + 1) i = n := if_pos h
theorem last_neg {n i : Nat} (h : i ∉ n :: (stk r n).2) : lastS r (n + 1) i = lastS r n i := if_neg h
theorem last_bd : ∀ {n i : Nat}, i < n → i ≤ lastS r n i ∧ lastS r n i < n
  | n + 1, i, h => by
    unfold lastS
    split
    · omega
    · rename_i hn
      have : i ≠ n := fun e => hn (by rw [e]; exact List.mem_cons_self ..)
      have := last_bd (n := n) (i := i) (by omega)
      omega
theorem last_mem : ∀ {n i m : Nat}, i < n → m < n → (i ∈ m :: (stk r m).2 ↔ i ≤ m ∧ m ≤ lastS r n i)
  | n + 1, i, m, hi, hm => by
    have hle : i ∈ m :: (stk r m).2 → i ≤ m := fun h => by
      rcases List.mem_cons.mp h with e | h
      · omega
      · have := (stk_desc r m).2 i h; omega
    by_cases h : i ∈ n :: (stk r n).2
    · rw [last_pos r h]
      refine ⟨fun z => ⟨hle z, by omega⟩, fun z => ?_⟩
      by_cases e : i = m
      · rw [e]; exact List.mem_cons_self ..
      · refine List.mem_cons_of_mem _ ?_
        rcases List.mem_cons.mp h with z' | z'
        · omega
        · exact stk_back r (by omega) (by omega) z'
    · rw [last_neg r h]
      have hin : i ≠ n := fun e => h (by rw [e]; exact List.mem_cons_self ..)
      have hb := last_bd r (n := n) (i := i) (by omega)
      by_cases e : m = n
      · subst e
        exact ⟨fun z => absurd z h, fun z => by omega⟩
      · exact last_mem (n := n) (by omega) (by omega)
theorem last_up {n i : Nat} (hi : i < n) (h : i ∉ (stk r n).2) : ∀ {m}, n ≤ m → lastS r m i = lastS r n i := by
  intro m hm
  induction m with
  | zero => omega
  | succ m ih =>
    by_cases e : n = m + 1
    · rw [e]
    · rw [last_neg r (fun z => ?_), ih (by omega)]
      rcases List.mem_cons.mp z with z | z
      · omega
      · exact h (stk_back r (by omega) hi z)
/-- who stands ahead -/
theorem ahead_iff : ∀ {n i j : Nat}, i < j → j < n → ((ordS r n).idxOf j < (ordS r n).idxOf i ↔ j ≤ lastS r n i)
  | n + 1, i, j, hij, hj => by
    have hp := ordS_nodup r (n + 1)
    rw [ordS_succ] at hp ⊢
    have e0 : ordS r n = (stk r n).1 ++ (stk r n).2 := rfl
    have hAn : n ∉ (stk r n).1 := fun z => by
      have := ordS_lt r (n := n) (i := n) (by rw [e0]; exact List.mem_append_left _ z)
      omega
    have hdis : ∀ x, x ∈ (stk r n).1 → x ∉ (stk r n).2 := fun x h1 h2 => by
      have := ordS_nodup r n
      rw [e0] at this
      exact (List.nodup_append.mp this).2.2 x h1 x h2 rfl
    have hmem : ∀ x, x < n → x ∉ (stk r n).1 → x ∈ (stk r n).2 := fun x hx h => by
      rcases List.mem_append.mp (show x ∈ (stk r n).1 ++ (stk r n).2 from ordS_mem r hx) with z | z
      · exact absurd z h
      · exact z
    by_cases ej : j = n
    · subst ej
      by_cases hi : i ∈ (stk r j).1
      · rw [last_neg r (fun z => by rcases List.mem_cons.mp z with z | z; omega; exact hdis i hi z)]
        have := last_bd r (n := j) (i := i) hij
        have h1 : ((stk r j).1 ++ j :: (stk r j).2).idxOf i < (stk r j).1.length := by
          rw [List.idxOf_append, if_pos hi]
          exact List.idxOf_lt_length_of_mem hi
        have h2 : ((stk r j).1 ++ j :: (stk r j).2).idxOf j ≥ (stk r j).1.length := by
          rw [List.idxOf_append, if_neg hAn]
          omega
        constructor <;> intro z <;> omega
      · rw [last_pos r (List.mem_cons_of_mem _ (hmem i hij hi))]
        refine ⟨fun _ => Nat.le_refl _, fun _ => ?_⟩
        rw [List.idxOf_append, if_neg hAn, List.idxOf_append, if_neg hi, List.idxOf_cons_self, idxOf_ne (by omega)]
        omega
    · have ih := ahead_iff (n := n) hij (by omega)
      rw [e0] at ih
      have key : ∀ x, x < n → ((stk r n).1 ++ n :: (stk r n).2).idxOf x = ((stk r n).1 ++ (stk r n).2).idxOf x + if x ∈ (stk r n).1 then 0 else 1 := fun x hx => by
        rw [List.idxOf_append, List.idxOf_append]
        split
        · rfl
        · rw [idxOf_ne (by omega)]; omega
      have lo : ∀ x, x ∈ (stk r n).1 → ((stk r n).1 ++ (stk r n).2).idxOf x < (stk r n).1.length := fun x h => by
        rw [List.idxOf_append, if_pos h]; exact List.idxOf_lt_length_of_mem h
      have hi' : ∀ x, x ∉ (stk r n).1 → (stk r n).1.length ≤ ((stk r n).1 ++ (stk r n).2).idxOf x := fun x h => by
        rw [List.idxOf_append, if_neg h]; omega
      rw [key i (by omega), key j (by omega)]
      by_cases hi : i ∈ (stk r n).1
      · rw [last_neg r (fun z => by rcases List.mem_cons.mp z with z | z; omega; exact hdis i hi z), ← ih, if_pos hi]
        have := lo i hi
        by_cases hj' : j ∈ (stk r n).1
        · rw [if_pos hj']; simp
        · rw [if_neg hj']
          have := hi' j hj'
          constructor <;> intro z <;> omega
      · have h2 := hmem i (by omega) hi
        rw [last_pos r (List.mem_cons_of_mem _ h2), if_neg hi]
        refine ⟨fun _ => by omega, fun _ => ?_⟩
        have hl : lastS r n i = n - 1 := by
          obtain ⟨k, rfl⟩ : ∃ k, n = k + 1 := ⟨n - 1, by omega⟩
          rw [last_pos r (stk_down r h2)]; rfl
        rw [hl] at ih
        have := ih.mpr (by omega)
        have := hi' i hi
        split <;> omega
/-- the same comes off where the deepest is the same -/
theorem stk_same {r' : Nat → Option Nat} {n : Nat} (h : ∀ m, m + 1 < n → popTo r m (m :: (stk r m).2) = popTo r' m (m :: (stk r m).2)) : ∀ m, m < n → stk r' m = stk r m
  | 0, _ => rfl
  | m + 1, hm => by
    have ih := stk_same h m (by omega)
    show (_, _) = (_, _)
    rw [ih, h m hm]
theorem ord_same {r' : Nat → Option Nat} {n : Nat} (h : ∀ m, m + 1 < n → popTo r m (m :: (stk r m).2) = popTo r' m (m :: (stk r m).2)) : ordS r' n = ordS r n := by
  cases n with
  | zero => rfl
  | succ n => rw [ordS_succ, ordS_succ, stk_same r h n (Nat.lt_succ_self n)]
/-- .. whose reach is the last -/
theorem pop_last {n m : Nat} (hm : m + 1 < n) : popTo r m (m :: (stk r m).2) = popTo (fun i => some (lastS r n i)) m (m :: (stk r m).2) := by
  symm
  refine popTo_is _ ?_ fun j i hj he z => ?_
  · by_cases c : 0 < popTo r m (m :: (stk r m).2)
    · right
      obtain ⟨i, h1, h2⟩ := popTo_pos r m c
      refine ⟨i, h1, ?_⟩
      have hi : i ∈ m :: (stk r m).2 := List.mem_of_getElem? h1
      have him : i ≤ m := by
        rcases List.mem_cons.mp hi with e | h
        · omega
        · have := (stk_desc r m).2 i h; omega
      have hle := ((last_mem r (n := n) (i := i) (m := m) (by omega) (by omega)).mp hi).2
      have hnot : i ∉ (stk r (m + 1)).2 := fun z => by
        have hd : (m :: (stk r m).2).Nodup := by
          have h3 : (m :: (stk r m).2).Pairwise (· > ·) := List.Pairwise.cons (fun x hx => (stk_desc r m).2 x hx) (stk_desc r m).1
          exact h3.imp fun h => by omega
        obtain ⟨t, ht⟩ := List.getElem?_of_mem z
        have ht' : (m :: (stk r m).2)[popTo r m (m :: (stk r m).2) + t]? = some i := by rw [← List.getElem?_drop]; exact ht
        have := nodup_inj hd h1 ht'
        omega
      show some (lastS r n i) = some m
      congr 1
      by_cases e : lastS r n i = m
      · exact e
      · have := (last_mem r (n := n) (i := i) (m := m + 1) (by omega) hm).mpr ⟨by omega, by omega⟩
        rcases List.mem_cons.mp this with e' | e'
        · omega
        · exact absurd e' hnot
    · left; omega
  · have hi : i ∈ (stk r (m + 1)).2 := by
      show i ∈ List.drop _ _
      refine List.mem_of_getElem? (i := j - popTo r m (m :: (stk r m).2)) ?_
      rw [List.getElem?_drop]
      have : popTo r m (m :: (stk r m).2) + (j - popTo r m (m :: (stk r m).2)) = j := by omega
      rw [this]; exact he
    have h1 := (stk_desc r (m + 1)).2 i hi
    have := ((last_mem r (n := n) (i := i) (m := m + 1) (by omega) hm).mp (List.mem_cons_of_mem _ hi)).2
    have z' : lastS r n i = m := Option.some.inj z
    omega
/-- by least patiences the order is the same -/
theorem ord_least (n : Nat) : ordS (fun i => some (lastS r n i)) n = ordS r n := ord_same r fun m hm => pop_last r hm
/-- who may be raised -/
def mayRise (n i : Nat) : Prop := lastS r n i + 1 = n ∨ ∃ j, j < i ∧ lastS r n j = lastS r n i
def raised (n i : Nat) : Nat → Option Nat := fun j => some (lastS r n j + if j = i then 1 else 0)
theorem pop_rise {n m i : Nat} (hi : i < n) (hm : m + 1 < n) (h : m ≠ lastS r n i) : popTo r m (m :: (stk r m).2) = popTo (raised r n i) m (m :: (stk r m).2) := by
  rw [pop_last r hm]
  refine popTo_congr _ fun j hj => ?_
  unfold raised
  by_cases e : j = i
  · subst e
    rw [if_pos rfl]
    have hle := ((last_mem r (n := n) (i := j) (m := m) (by omega) (by omega)).mp hj).2
    constructor
    · intro z; exact absurd (Option.some.inj z).symm h
    · intro z
      have : lastS r n j + 1 = m := Option.some.inj z
      omega
  · rw [if_neg e]; exact Iff.rfl
theorem rise_same {n i : Nat} (hi : i < n) (h : mayRise r n i) : ordS (raised r n i) n = ordS r n := by
  refine ord_same r fun m hm => ?_
  by_cases e : m = lastS r n i
  · rcases h with h | ⟨j, hj, hl⟩
    · omega
    · have hlb := last_bd r hi
      rw [pop_last r hm]
      have hk : popTo (fun i => some (lastS r n i)) m (m :: (stk r m).2) = popTo (fun i => some (lastS r n i)) m (m :: (stk r m).2) := rfl
      symm
      have hd : (m :: (stk r m).2).Pairwise (· > ·) := List.Pairwise.cons (fun x hx => (stk_desc r m).2 x hx) (stk_desc r m).1
      have hjm : j ∈ m :: (stk r m).2 := (last_mem r (n := n) (i := j) (m := m) (by omega) (by omega)).mpr ⟨by omega, by omega⟩
      obtain ⟨t, ht⟩ := List.getElem?_of_mem hjm
      have htk := popTo_ge (fun i => some (lastS r n i)) m ht (by show some _ = some _; rw [hl, e])
      refine popTo_is _ (.inr ?_) fun t' i' ht' he z => ?_
      · obtain ⟨d, h1, h2⟩ := popTo_pos (fun i => some (lastS r n i)) m (Nat.lt_of_le_of_lt (Nat.zero_le t) htk)
        refine ⟨d, h1, ?_⟩
        have hdi : d ≠ i := fun z => by
          obtain ⟨b1, b1'⟩ := (List.getElem?_eq_some_iff.mp h1)
          obtain ⟨b2, b2'⟩ := (List.getElem?_eq_some_iff.mp ht)
          by_cases et : t = popTo (fun i => some (lastS r n i)) m (m :: (stk r m).2) - 1
          · rw [et, h1] at ht
            have : d = j := Option.some.inj ht
            omega
          · have := List.pairwise_iff_getElem.mp hd t _ b2 b1 (by omega)
            rw [b1', b2'] at this
            omega
        unfold raised
        rw [if_neg hdi]
        exact h2
      · unfold raised at z
        by_cases ei : i' = i
        · rw [if_pos ei, ei] at z
          have : lastS r n i + 1 = m := Option.some.inj z
          omega
        · rw [if_neg ei] at z
          have := popTo_ge (fun i => some (lastS r n i)) m he z
          omega
  · exact pop_rise r hi hm e
theorem rise_other {n i : Nat} (hi : i < n) (h : ¬ mayRise r n i) : ordS (raised r n i) n ≠ ordS r n := by
  intro heq
  have hlb := last_bd r hi
  have he : lastS r n i + 1 < n := by
    by_cases e : lastS r n i + 1 = n
    · exact absurd (.inl e) h
    · omega
  have hs := stk_same r (r' := raised r n i) (n := lastS r n i + 1) (fun m hm => pop_rise r hi (by omega) (by omega)) (lastS r n i) (by omega)
  have hm : i ∈ lastS r n i :: (stk r (lastS r n i)).2 := (last_mem r hi hlb.2).mpr ⟨hlb.1, Nat.le_refl _⟩
  have hd : (lastS r n i :: (stk r (lastS r n i)).2).Pairwise (· > ·) := List.Pairwise.cons (fun x hx => (stk_desc r _).2 x hx) (stk_desc r _).1
  obtain ⟨t, ht⟩ := List.getElem?_of_mem hm
  have hk : popTo (raised r n i) (lastS r n i) (lastS r n i :: (stk r (lastS r n i)).2) ≤ t := by
    by_cases c : 0 < popTo (raised r n i) (lastS r n i) (lastS r n i :: (stk r (lastS r n i)).2)
    · obtain ⟨d, h1, h2⟩ := popTo_pos _ _ c
      have hdi : d ≠ i := fun z => by
        unfold raised at h2
        rw [if_pos z, z] at h2
        have : lastS r n i + 1 = lastS r n i := Option.some.inj h2
        omega
      have hdl : lastS r n d = lastS r n i := by
        unfold raised at h2
        rw [if_neg hdi] at h2
        exact Option.some.inj h2
      have hgt : i < d := by
        by_cases z : d < i
        · exact absurd (.inr ⟨d, z, hdl⟩) h
        · omega
      obtain ⟨b1, b1'⟩ := (List.getElem?_eq_some_iff.mp h1)
      obtain ⟨b2, b2'⟩ := (List.getElem?_eq_some_iff.mp ht)
      by_cases z : popTo (raised r n i) (lastS r n i) (lastS r n i :: (stk r (lastS r n i)).2) - 1 < t
      · omega
      · by_cases y : popTo (raised r n i) (lastS r n i) (lastS r n i :: (stk r (lastS r n i)).2) - 1 = t
        · rw [y, ht] at h1
          have : i = d := Option.some.inj h1
          omega
        · have := List.pairwise_iff_getElem.mp hd t _ b2 b1 (by omega)
          rw [b1', b2'] at this
          omega
    · omega
  have hin : i ∈ (stk (raised r n i) (lastS r n i + 1)).2 := by
    show i ∈ List.drop (popTo _ _ (_ :: (stk (raised r n i) (lastS r n i)).2)) (_ :: (stk (raised r n i) (lastS r n i)).2)
    rw [hs]
    refine List.mem_of_getElem? (i := t - popTo (raised r n i) (lastS r n i) (lastS r n i :: (stk r (lastS r n i)).2)) ?_
    rw [List.getElem?_drop]
    have : popTo (raised r n i) (lastS r n i) (lastS r n i :: (stk r (lastS r n i)).2) + (t - popTo (raised r n i) (lastS r n i) (lastS r n i :: (stk r (lastS r n i)).2)) = t := by omega
    rw [this]; exact ht
  have h1 := (last_mem (raised r n i) (n := n) (i := i) (m := lastS r n i + 1) hi he).mp (List.mem_cons_of_mem _ hin)
  have h2 := (ahead_iff (raised r n i) (n := n) (i := i) (j := lastS r n i + 1) (by omega) he).mpr h1.2
  rw [heq] at h2
  have h3 := (ahead_iff r (n := n) (i := i) (j := lastS r n i + 1) (by omega) he).mp h2
  omega
end

end
section
/-! Orders: places, three that bar, least patiences, how many rows. -/
def placesL (O : List Nat) : List Nat := (List.range O.length).map fun i => O.idxOf i
def OrdOk (O : List Nat) : Prop := O.Perm (List.range O.length) ∧ O.length ≤ 60
/-- P i, 0 beyond -/
def pl (P : List Nat) (i : Nat) : Nat := (P[i]?).getD 0
theorem pl_places {O : List Nat} {i : Nat} (h : i < O.length) : pl (placesL O) i = O.idxOf i := by
  unfold pl placesL
  rw [List.getElem?_map, List.getElem?_range h]
  rfl
def showsB (P : List Nat) (y o b : Nat) : Bool := (decide (o < b) && decide (b < y)) && (decide (pl P y < pl P o) && decide (pl P o < pl P b))
/-- the first b above o, below y, that bars -/
def barB (P : List Nat) (y o : Nat) : Option (Nat × Nat × Nat) := if pl P y < pl P o then (List.range' (o + 1) (y - (o + 1))).findSome? fun b => if showsB P y o b = true then some (y, o, b) else none else none
def barO (P : List Nat) (y : Nat) : Option (Nat × Nat × Nat) := (List.range y).findSome? (barB P y)
def lbar (P : List Nat) : Option (Nat × Nat × Nat) := (List.range P.length).findSome? (barO P)
theorem find_first {α : Type} {f : Nat → Option α} {n i : Nat} {t : α} (hi : i < n) (h : ∀ j, j < i → f j = none) (e : f i = some t) : (List.range n).findSome? f = some t := by
  have e1 : List.range n = List.range i ++ i :: List.range' (i + 1) (n - (i + 1)) := by
    have h1 : n = i + (1 + (n - (i + 1))) := by omega
    conv => lhs; rw [h1]
    rw [range_add, ← List.range'_append_1, List.range'_one]
    rfl
  rw [e1, List.findSome?_append, List.findSome?_cons, e]
  have : List.findSome? f (List.range i) = none := List.findSome?_eq_none_iff.mpr fun x hx => h x (List.mem_range.mp hx)
  rw [this]
  rfl
theorem find_none {α : Type} {f : Nat → Option α} {n : Nat} (h : ∀ j, j < n → f j = none) : (List.range n).findSome? f = none := List.findSome?_eq_none_iff.mpr fun x hx => h x (List.mem_range.mp hx)
theorem find_first' {α : Type} {f : Nat → Option α} {s n i : Nat} {t : α} (hi : i < n) (h : ∀ j, j < i → f (s + j) = none) (e : f (s + i) = some t) : (List.range' s n).findSome? f = some t := by
  have e1 : List.range' s n = List.range' s i ++ (s + i) :: List.range' (s + i + 1) (n - (i + 1)) := by
    have h1 : n = i + (1 + (n - (i + 1))) := by omega
    conv => lhs; rw [h1]
    rw [← List.range'_append_1, ← List.range'_append_1, List.range'_one]
    rfl
  rw [e1, List.findSome?_append, List.findSome?_cons, e]
  have : List.findSome? f (List.range' s i) = none := List.findSome?_eq_none_iff.mpr fun x hx => by
    obtain ⟨h1, h2⟩ := List.mem_range'_1.mp hx
    have := h (x - s) (by omega)
    rw [show s + (x - s) = x by omega] at this
    exact this
  rw [this]
  rfl
theorem find_none' {α : Type} {f : Nat → Option α} {s n : Nat} (h : ∀ j, j < n → f (s + j) = none) : (List.range' s n).findSome? f = none := List.findSome?_eq_none_iff.mpr fun x hx => by
  obtain ⟨h1, h2⟩ := List.mem_range'_1.mp hx
  have := h (x - s) (by omega)
  rw [show s + (x - s) = x by omega] at this
  exact this
theorem lbar_none {P : List Nat} (h : ∀ y o b, y < P.length → showsB P y o b = false) : lbar P = none := by
  refine find_none fun y hy => find_none fun o ho => ?_
  unfold barB
  split
  · refine find_none' fun j hj => ?_
    rw [h y o _ hy]
    rfl
  · rfl
theorem lbar_some {P : List Nat} {y o b : Nat} (h : lbar P = some (y, o, b)) : y < P.length ∧ showsB P y o b = true := by
  obtain ⟨y', h1, h2⟩ := List.exists_of_findSome?_eq_some h
  obtain ⟨o', h3, h4⟩ := List.exists_of_findSome?_eq_some h2
  unfold barB at h4
  split at h4
  · obtain ⟨b', h5, h6⟩ := List.exists_of_findSome?_eq_some h4
    split at h6
    · rename_i hs
      cases h6
      exact ⟨List.mem_range.mp h1, hs⟩
    · cases h6
  · cases h4
/-- how many later ones stand ahead of i -/
def gpOf (P : List Nat) (i : Nat) : Nat := ((List.range' (i + 1) (P.length - (i + 1))).filter fun j => decide (pl P j < pl P i)).length
def gpL (P : List Nat) : List Nat := (List.range P.length).map (gpOf P)
theorem gpOf_lt {P : List Nat} {i : Nat} (h : i < P.length) : i + gpOf P i < P.length := by
  have : gpOf P i ≤ P.length - (i + 1) := by
    unfold gpOf
    refine Nat.le_trans (List.length_filter_le _ _) ?_
    rw [List.length_range']
    exact Nat.le_refl _
  omega
theorem placesL_len (O : List Nat) : (placesL O).length = O.length := by unfold placesL; rw [List.length_map, List.length_range]
theorem gpL_len (P : List Nat) : (gpL P).length = P.length := by unfold gpL; rw [List.length_map, List.length_range]
theorem gpL_get {P : List Nat} {i : Nat} (h : i < P.length) : (gpL P)[i]? = some (gpOf P i) := by
  unfold gpL
  rw [List.getElem?_map, List.getElem?_range h]
  rfl
/-- of a queue: no three bar, and the later ones ahead are those up to the last -/
theorem ord_nobar (r : Nat → Option Nat) (n : Nat) : lbar (placesL (ordS r n)) = none := by
  refine lbar_none fun y o b hy => ?_
  rw [placesL_len, ordS_len] at hy
  unfold showsB
  by_cases h1 : o < b
  · by_cases h2 : b < y
    · rw [decide_eq_true h1, decide_eq_true h2]
      rw [pl_places (by rw [ordS_len]; omega), pl_places (by rw [ordS_len]; omega), pl_places (by rw [ordS_len]; omega)]
      by_cases h3 : (ordS r n).idxOf y < (ordS r n).idxOf o
      · have := (ahead_iff r (n := n) (i := o) (j := y) (by omega) hy).mp h3
        have := (ahead_iff r (n := n) (i := o) (j := b) h1 (by omega)).mpr (by omega)
        rw [decide_eq_false (show ¬ (ordS r n).idxOf o < (ordS r n).idxOf b by omega)]
        simp
      · rw [decide_eq_false h3]; simp
    · rw [decide_eq_false h2]; simp
  · rw [decide_eq_false h1]; simp
theorem filter_range' {s n k : Nat} {p : Nat → Bool} (h : ∀ j, s ≤ j → j < s + n → (p j = true ↔ j < s + k)) (hk : k ≤ n) : ((List.range' s n).filter p).length = k := by
  have e : n = k + (n - k) := by omega
  rw [e, ← List.range'_append_1, List.filter_append, List.length_append]
  have h1 : (List.range' s k).filter p = List.range' s k := List.filter_eq_self.mpr fun j hj => by
    obtain ⟨a, b⟩ := List.mem_range'_1.mp hj
    exact (h j a (by omega)).mpr b
  have h2 : (List.range' (s + k) (n - k)).filter p = [] := List.filter_eq_nil_iff.mpr fun j hj => by
    obtain ⟨a, b⟩ := List.mem_range'_1.mp hj
    intro z
    have := (h j (by omega) (by omega)).mp z
    omega
  rw [h1, h2, List.length_range']
  rfl
theorem gp_ord (r : Nat → Option Nat) {n i : Nat} (h : i < n) : gpOf (placesL (ordS r n)) i = lastS r n i - i := by
  have hb := last_bd r h
  unfold gpOf
  rw [placesL_len, ordS_len]
  refine filter_range' (fun j h1 h2 => ?_) (by omega)
  rw [pl_places (by rw [ordS_len]; omega), pl_places (by rw [ordS_len]; omega), decide_eq_true_iff, ahead_iff r (by omega) (by omega)]
  omega
/-! how many rows -/
def freeB (P : List Nat) (i : Nat) : Bool := decide (i + gpOf P i + 1 = P.length) || (List.range i).any fun j => decide (j + gpOf P j = i + gpOf P i)
def facI (most : Int) (g : Nat) : Int := if most - (g : Int) + 1 > 0 then most - (g : Int) + 1 else 0
def rcUp (P : List Nat) (most : Int) : Nat → Int
  | 0 => 1
  | k + 1 => if freeB P k = true then rcUp P most k * facI most (gpOf P k) else if (gpOf P k : Int) > most then 0 else rcUp P most k
def rcOf (P : List Nat) (most : Int) : Int := if lbar P = none then rcUp P most P.length else 0
theorem facI_nn {most : Int} {g : Nat} : 0 ≤ facI most g := by unfold facI; split <;> omega
theorem rcUp_nn (P : List Nat) (most : Int) : ∀ k, 0 ≤ rcUp P most k
  | 0 => by show (0 : Int) ≤ 1; decide
  | k + 1 => by
    unfold rcUp
    have := rcUp_nn P most k
    split
    · exact Int.mul_nonneg this facI_nn
    · split
      · exact Int.le_refl 0
      · exact this
/-- the product over those that may be raised -/
def dueUp (P : List Nat) (most : Int) (l : List Nat) (d : Int) : Int := l.foldl (fun d i => d * facI most (gpOf P i)) d
theorem rcUp_due {P : List Nat} {most : Int} : ∀ {k : Nat}, (∀ i, i < k → (gpOf P i : Int) ≤ most) → rcUp P most k = dueUp P most ((List.range k).filter (freeB P)) 1
  | 0, _ => rfl
  | k + 1, h => by
    have ih := rcUp_due (k := k) fun i hi => h i (by omega)
    rw [List.range_succ, List.filter_append]
    unfold rcUp dueUp
    rw [List.foldl_append]
    by_cases c : freeB P k = true
    · rw [if_pos c, ih]
      simp [c]
      rfl
    · have := h k (by omega)
      rw [if_neg c, if_neg (by omega), ih]
      simp [c]
      rfl
theorem rcUp_zero {P : List Nat} {most : Int} : ∀ {k i : Nat}, i < k → most < (gpOf P i : Int) → rcUp P most k = 0
  | k + 1, i, hi, h => by
    unfold rcUp
    by_cases e : i = k
    · subst e
      split
      · have : facI most (gpOf P i) = 0 := by unfold facI; rw [if_neg (by omega)]
        rw [this, Int.mul_zero]
      · first | rfl | rw [if_pos h]
    · have := rcUp_zero (k := k) (i := i) (by omega) h
      rw [this, Int.zero_mul]
      split
      · rfl
      · split <;> rfl
theorem free_rise (r : Nat → Option Nat) {n i : Nat} (h : i < n) : freeB (placesL (ordS r n)) i = true ↔ mayRise r n i := by
  have hb := last_bd r h
  unfold freeB mayRise
  rw [Bool.or_eq_true, decide_eq_true_iff, placesL_len, ordS_len, gp_ord r h, List.any_eq_true]
  constructor
  · rintro (z | ⟨j, hj, z⟩)
    · left; omega
    · right
      have hj := List.mem_range.mp hj
      have hbj := last_bd r (n := n) (i := j) (by omega)
      rw [decide_eq_true_iff, gp_ord r (by omega)] at z
      exact ⟨j, hj, by omega⟩
  · rintro (z | ⟨j, hj, z⟩)
    · left; omega
    · right
      have hbj := last_bd r (n := n) (i := j) (by omega)
      refine ⟨j, List.mem_range.mpr hj, ?_⟩
      rw [decide_eq_true_iff, gp_ord r (by omega)]
      omega
/-! the law's own queue: of a list of patiences -/
def patL (l : List (Option Nat)) (i : Nat) : Option Nat := (l[i]?).getD none
@[irreducible] def qL (l : List (Option Nat)) : List Nat := (listedQ (patL l) l.length).1
theorem qL_eq (l : List (Option Nat)) : qL l = (listedQ (patL l) l.length).1 := by unfold qL; rfl
theorem qL_ord (l : List (Option Nat)) : qL l = ordS (reach (patL l)) l.length := by rw [qL_eq]; exact lq_ord _ _
theorem ordS_congr {r r' : Nat → Option Nat} {n : Nat} (h : ∀ i, i < n → r i = r' i) : ordS r n = ordS r' n := by
  refine (ord_same r fun m hm => popTo_congr r fun i hi => ?_).symm
  have : i < n := by
    rcases List.mem_cons.mp hi with e | e
    · omega
    · have := (stk_desc r m).2 i e; omega
  rw [h i this]
/-- the least patiences of a queue -/
@[irreducible] def leastL (l : List (Option Nat)) : List Nat := gpL (placesL (qL l))
theorem leastL_eq (l : List (Option Nat)) : leastL l = gpL (placesL (qL l)) := by unfold leastL; rfl
theorem leastL_len (l : List (Option Nat)) : (leastL l).length = l.length := by rw [leastL_eq, gpL_len, placesL_len, qL_ord, ordS_len]
theorem leastL_get {l : List (Option Nat)} {i : Nat} (h : i < l.length) : (leastL l)[i]? = some (lastS (reach (patL l)) l.length i - i) := by
  rw [leastL_eq, gpL_get (by rw [placesL_len, qL_ord, ordS_len]; exact h), qL_ord, gp_ord _ h]
/-- a list of patiences whose reaches are r -/
theorem qL_of {l : List (Option Nat)} {g : List Nat} {r : Nat → Option Nat} (hl : g.length = l.length) (h : ∀ i, i < l.length → ∃ v, g[i]? = some v ∧ r i = some (i + v)) : qL (g.map some) = ordS r l.length := by
  rw [qL_ord, List.length_map, hl]
  refine ordS_congr fun i hi => ?_
  obtain ⟨v, h1, h2⟩ := h i hi
  rw [h2]
  unfold reach patL
  rw [List.getElem?_map, h1]
  rfl
theorem q_least (l : List (Option Nat)) : qL ((leastL l).map some) = qL l := by
  rw [qL_of (l := l) (leastL_len l) (r := fun i => some (lastS (reach (patL l)) l.length i)) fun i hi => ?_, qL_ord, ord_least]
  have hb := last_bd (reach (patL l)) hi
  exact ⟨_, leastL_get hi, by congr 1; omega⟩
theorem q_raised {l : List (Option Nat)} {i : Nat} (hi : i < l.length) {g : List Nat} (hl : g.length = l.length) (h : ∀ j, j < l.length → g[j]? = some ((leastL l).getD j 0 + if j = i then 1 else 0)) :
    qL (g.map some) = qL l ↔ freeB (placesL (qL l)) i = true := by
  have e : qL (g.map some) = ordS (raised (reach (patL l)) l.length i) l.length := qL_of hl fun j hj => by
    have hb := last_bd (reach (patL l)) hj
    refine ⟨_, h j hj, ?_⟩
    unfold raised
    rw [List.getD_eq_getElem?_getD, leastL_get hj]
    congr 1
    show _ = j + (_ - j + _)
    omega
  rw [e, qL_ord, free_rise _ hi]
  constructor
  · intro z
    exact Classical.byContradiction fun c => rise_other _ hi c z
  · exact rise_same _ hi
/-- nobody has more gone past than its patience -/
theorem least_le {l : List (Option Nat)} {i p : Nat} (hi : i < l.length) (hp : patL l i = some p) : gpOf (placesL (qL l)) i ≤ p := by
  rw [qL_ord, gp_ord _ hi]
  have hb := last_bd (reach (patL l)) hi
  have hr : reach (patL l) i = some (i + p) := by unfold reach; rw [hp]; rfl
  have hm := (last_mem (reach (patL l)) hi hb.2).mpr ⟨hb.1, Nat.le_refl _⟩
  rcases List.mem_cons.mp hm with e | e
  · omega
  · have := ((lq_stk (patL l) (lastS (reach (patL l)) l.length i)).2.2.2 i e).2 _ hr
    omega
theorem q_lesser {l : List (Option Nat)} {i : Nat} (hi : i < l.length) {g : List Nat} (hl : g.length = l.length) {v : Nat} (hg : g[i]? = some v) (hv : v < gpOf (placesL (qL l)) i) : qL (g.map some) ≠ qL l := by
  intro e
  have := least_le (l := g.map some) (i := i) (p := v) (by rw [List.length_map, hl]; exact hi) (by unfold patL; rw [List.getElem?_map, hg]; rfl)
  rw [e] at this
  omega
/-- behind one more the others stand as they stood -/
theorem q_more (l : List (Option Nat)) (p : Option Nat) : (qL (l ++ [p])).filter (fun i => decide (i < l.length)) = qL l := by
  have e : qL (l ++ [p]) = (stk (reach (patL l)) l.length).1 ++ l.length :: (stk (reach (patL l)) l.length).2 := by
    rw [qL_ord, List.length_append, List.length_singleton, ordS_succ]
    have : stk (reach (patL (l ++ [p]))) l.length = stk (reach (patL l)) l.length := by
      refine stk_same (reach (patL l)) (n := l.length + 1) (fun m hm => popTo_congr _ fun i hi => ?_) l.length (Nat.lt_succ_self _)
      have hl : i < l.length := by
        rcases List.mem_cons.mp hi with e | e
        · omega
        · have := (stk_desc (reach (patL l)) m).2 i e; omega
      have : reach (patL (l ++ [p])) i = reach (patL l) i := by
        unfold reach patL
        rw [List.getElem?_append_left hl]
      rw [this]
    rw [this]
  have e2 : qL l = (stk (reach (patL l)) l.length).1 ++ (stk (reach (patL l)) l.length).2 := qL_ord l
  have h1 : ∀ i ∈ qL l, i < l.length := fun i hi => by rw [qL_ord] at hi; exact ordS_lt _ hi
  rw [e, e2] at *
  rw [List.filter_append, List.filter_cons, if_neg (by simp)]
  rw [List.filter_eq_self.mpr fun i hi => decide_eq_true (h1 i (List.mem_append_left _ hi)), List.filter_eq_self.mpr fun i hi => decide_eq_true (h1 i (List.mem_append_right _ hi))]

end
/-! steps of the walk over data -/
local macro_rules | `(tactic| walk_at "fn") => `(tactic| first
  | exact fn_int
  | exact fn_non
  | exact fn_bl
  | exact fn_ints
  | (with_reducible refine fn_lst fn_nil)
  | (with_reducible refine fn_str ?_; decide +kernel)
  | assumption)
local macro_rules | `(tactic| walk_at "dc") => `(tactic| first
  | (with_reducible refine evd_int ?_)
  | (with_reducible refine evd_non ?_)
  | (with_reducible refine evd_bl ?_)
  | (with_reducible refine evd_str ?_))
local macro_rules | `(tactic| walk_at "do") => `(tactic| first
  | ((with_reducible refine' evd_ixO ?_ ?ha); (case ha => rfl))
  | (with_reducible refine evd_op ?_))
local macro_rules | `(tactic| walk_at "db") => `(tactic| first
  | ((with_reducible refine' evd_lenO ?ha ?_); (case ha => rfl))
  | ((with_reducible refine' evd_lenS ?ha ?_); (case ha => rfl))
  | ((with_reducible refine' evd_dlen ?ha ?_); (case ha => rfl))
  | (with_reducible refine e_int ?_)
  | (with_reducible refine e_bool ?_)
  | (with_reducible refine e_seq ?_)
  | (with_reducible refine e_str ?_)
  | (with_reducible refine evd_repr ?_)
  | (with_reducible refine evd_isX ?_)
  | (with_reducible refine evd_isXv ?_)
  | (with_reducible refine evd_isXT ?_)
  | (with_reducible refine evd_cb ?_))
local macro_rules | `(tactic| walk_at "dk") => `(tactic| first
  | (with_reducible refine evd_callT ?_)
  | ((with_reducible refine' evd_callB ?ha ?_); (case ha => rfl))
  | (with_reducible refine evd_callR ?_))
local macro_rules | `(tactic| walk_at "dw") => `(tactic| first
  | ((with_reducible refine' evd_callO ?hx ?_); (case hx => assumption))
  | ((with_reducible refine' evd_callZ ?hx ?_); (case hx => assumption)))
local macro_rules | `(tactic| walk_at "dr") => `(tactic| first
  | (with_reducible refine evd_lst ?_)
  | (with_reducible refine evd_tup ?_)
  | (with_reducible refine evd_if ?_)
  | (with_reducible refine evd_orV ?_)
  | (with_reducible refine evd_andV ?_)
  | (with_reducible refine evd_notV ?_)
  | (with_reducible refine evd_neg ?_)
  | ((with_reducible refine' evd_slS ?ha ?_); (case ha => rfl))
  | (with_reducible refine evd_sl ?_)
  | (with_reducible refine evd_rev ?_)
  | (with_reducible refine evd_chain ?_)
  | ((with_reducible refine' evd_pop ?ha ?hb ?_); (case ha => rfl))
  | ((with_reducible refine' evd_popAt ?ha ?_); (case ha => rfl))
  | ((with_reducible refine' evd_dget ?ha ?_); (case ha => rfl))
  | (with_reducible refine evd_din ?_)
  | (with_reducible refine evd_dnin ?_)
  | (with_reducible refine evd_dic ?_)
  | (with_reducible refine evd_cntB ?_))
local macro_rules | `(tactic| walk_at "d") => `(tactic| first
  | ((with_reducible refine' evd_var ?ha ?_); (case ha => rfl))
  | ((with_reducible show EvD _ (tC _) _ _); walk_at "dc")
  | ((with_reducible show EvD _ (tOp _ _ _) _ _); walk_at "do")
  | ((with_reducible show EvD _ (tCB _ _) _ _); walk_at "db")
  | ((with_reducible show EvD _ (tCall _ _ _ _) _ _); walk_at "dk")
  | ((with_reducible show EvD _ (tCallW _ _ _) _ _); walk_at "dw")
  | walk_at "dr")
local macro_rules | `(tactic| walk_at "js") => `(tactic| first
  | (with_reducible refine sq_dnew ?_)
  | (with_reducible refine sq_done ?_)
  | (with_reducible refine sq_set ?_)
  | (with_reducible refine z_when ?_)
  | (with_reducible refine z_ifs ?_)
  | ((with_reducible refine' sq_aug ?ha ?_); (case ha => rfl))
  | (with_reducible refine sq_par ?_)
  | ((with_reducible refine' sq_append ?ha ?_); (case ha => rfl))
  | ((with_reducible refine' sq_insert ?ha ?_); (case ha => rfl))
  | (with_reducible refine sq_setO ?_)
  | ((with_reducible refine' sq_augO ?ha ?_); (case ha => rfl))
  | (with_reducible refine sq_asg ?_)
  | (with_reducible refine sq_dput ?_)
  | ((with_reducible refine' sq_daug ?ha ?_); (case ha => rfl))
  | ((with_reducible refine' sq_mul ?ha ?_); (case ha => rfl))
  | (with_reducible refine sq_drop ?_))
local macro_rules | `(tactic| walk_at "jy") => `(tactic| first
  | ((with_reducible refine' y_retO ?ha ?_); (case ha => rfl))
  | (with_reducible refine y_ret ?_)
  | (with_reducible refine y_next ?_)
  | (with_reducible refine y_if ?_)
  | (with_reducible refine y_set ?_)
  | ((with_reducible refine' y_aug ?ha ?_); (case ha => rfl))
  | (with_reducible refine y_par ?_)
  | ((with_reducible refine' y_append ?ha ?_); (case ha => rfl))
  | ((with_reducible refine' y_insert ?ha ?_); (case ha => rfl))
  | (with_reducible refine y_setO ?_)
  | ((with_reducible refine' y_augO ?ha ?_); (case ha => rfl))
  | (with_reducible refine y_asg ?_)
  | (with_reducible refine y_dput ?_)
  | ((with_reducible refine' y_daug ?ha ?_); (case ha => rfl))
  | ((with_reducible refine' y_mul ?ha ?_); (case ha => rfl))
  | (with_reducible refine y_retN ?_)
  | (with_reducible refine y_drop ?_)
  | ((with_reducible refine' y_raise ?hx ?_); (case hx => assumption)))
local macro_rules | `(tactic| walk_at "t") => `(tactic| first
  | (with_reducible refine evt_test ?_)
  | (with_reducible refine evt_B ?_)
  | (with_reducible refine evt_and ?_)
  | (with_reducible refine evt_or ?_)
  | (with_reducible refine evt_not ?_)
  | (with_reducible refine evt_yes ?_))
local macro_rules | `(tactic| walk_at "w") => `(tactic| first
  | (with_reducible refine wk_rng1 ?_)
  | ((with_reducible refine' wk_scr ?ha ?_); (case ha => rfl))
  | (with_reducible refine wk_seq ?_)
  | (with_reducible refine wk_rng2 ?_)
  | (with_reducible refine wk_enum ?_)
  | (with_reducible refine wk_zip ?_))
local macro_rules | `(tactic| walk_at "o") => `(tactic| first
  | (with_reducible refine opd_add ?_)
  | (with_reducible refine opd_sub ?_)
  | ((with_reducible refine' opd_pow ?ha ?_); (case ha => exact ⟨by decide, by decide, by decide⟩))
  | ((with_reducible refine' opd_mod ?ha ?_); (case ha => decide))
  | (with_reducible refine opd_lt ?_)
  | (with_reducible refine opd_le ?_)
  | (with_reducible refine opd_gt ?_)
  | (with_reducible refine opd_ge ?_)
  | (with_reducible refine opd_isN ?_)
  | (with_reducible refine opd_notN ?_)
  | (with_reducible refine opd_eqT ?_)
  | (with_reducible refine opd_neT ?_)
  | ((with_reducible refine' opd_eq ?ha ?hb ?_); (case ha => walk_at "fn"); (case hb => walk_at "fn"))
  | ((with_reducible refine' opd_ne ?ha ?hb ?_); (case ha => walk_at "fn"); (case hb => walk_at "fn"))
  | ((with_reducible refine' opd_ixL ?ha ?_); (case ha => first | rfl | exact at0))
  | ((with_reducible refine' opd_ixT ?ha ?_); (case ha => first | rfl | exact at0)))
local macro_rules | `(tactic| walk_at "k") => `(tactic| first
  | (with_reducible refine cad_lenL ?_)
  | (with_reducible refine cad_lenT ?_)
  | (with_reducible refine cad_min2 ?_)
  | (with_reducible refine cad_max2 ?_)
  | (with_reducible refine cad_abs ?_)
  | (with_reducible refine cad_intI ?_)
  | (with_reducible refine cad_intB ?_)
  | (with_reducible refine cad_tupL ?_)
  | (with_reducible refine cad_tupT ?_))
local macro_rules | `(tactic| walk_at "gg") => `(tactic| first
  | ((with_reducible refine' gg_name ?ha ?_); (case ha => rfl))
  | ((with_reducible refine' gg_seqT ?ha ?_); (case ha => rfl))
  | ((with_reducible refine' gg_seqL ?ha ?_); (case ha => rfl)))
local macro_rules | `(tactic| walk_at "e") => `(tactic| first
  | ((with_reducible show EvD _ _ _ _); walk_at "d")
  | ((with_reducible show OpD _ _ _ _ _ _); walk_at "o")
  | (with_reducible refine eva_cons ?_)
  | (with_reducible refine eva_nil ?_)
  | (with_reducible refine asB_i ?_)
  | (with_reducible refine asI_i ?_)
  | ((with_reducible show EvT _ _ _ _); walk_at "t")
  | ((with_reducible show Sj _ (tSeq _ _) _ _); walk_at "js")
  | ((with_reducible show Sj _ _ _ _); walk_at "jy")
  | ((with_reducible show CaD _ _ _ _ _); walk_at "k")
  | ((with_reducible refine' And.intro (a := asgOk _ _ = true) ?ha ?_); (case ha => rfl))
  | ((with_reducible refine' And.intro (a := noIns _) ?ha ?_); (case ha => first | assumption | exact trivial))
  | ((with_reducible refine' And.intro (a := List.length _ ≤ 1000000) ?ha ?_); (case ha => exact Nat.le_of_ble_eq_true rfl))
  | ((with_reducible refine' sp_t ?ha ?_); (case ha => rfl))
  | ((with_reducible refine' sp_f ?ha ?_); (case ha => rfl))
  | ((with_reducible show GgD _ _ _ _ _); walk_at "gg")
  | (with_reducible refine ggs_cons ?_)
  | (with_reducible refine ggs_nil ?_)
  | ((with_reducible show WkD _ _ _ _); walk_at "w")
  | (with_reducible refine evo_no ?_)
  | (with_reducible refine evo_some ?_)
  | (with_reducible refine asL_i ?_)
  | (with_reducible refine asQ_l ?_)
  | (with_reducible refine asQ_t ?_)
  | (with_reducible refine asF_d ?_)
  | (with_reducible refine asF_l ?_)
  | (refine ⟨_, _, _, rfl, rfl, ?_⟩)
  | (refine ⟨⟨_, _, rfl⟩, ?_⟩))
local macro_rules | `(tactic| walk_at "g") => `(tactic| repeat (walk_at "e"))
local macro_rules | `(tactic| walk_at "tg") => `(tactic| repeat (first
  | ((with_reducible show GgD _ _ _ _ _); walk_at "gg")
  | (with_reducible refine ggs_cons ?_)
  | (with_reducible refine ggs_nil ?_)))
local macro_rules | `(tactic| walk_at "x") => `(tactic| repeat ((fail_if_success (with_reducible show Sj _ _ _ _)); walk_at "e"))

section
/-! the law's own draws: a bag -/
structure Bag where
  ns : List Int
  a : Int
  b : Int
  c : Int
  t : Int
  hn : ns.length ≤ 1000
  ha : a ≤ ns.length
  ha0 : 0 ≤ a
  hb : 0 ≤ b
  hc : 0 ≤ c
  h0 : 0 ≤ t
  h1 : t < 2305843009213693951
def bagD (r : Bag) : List Dt := [.lst (r.ns.map .int), .int r.a, .int r.b, .int r.c, .int r.t]
abbrev bgW (r : Bag) : Wd := lw (bagD r)
abbrev c__law_bag : Ctr := CB scW (fun _ : Unit => []) (fun ns _ => ns.length ≤ 63) (fun ns _ s b => ns = b ∧ ∃ r : Bag, s = .w false (bgW r) ∧ r.c = 0)
-- slots: 0 script 1 total 2 cell
abbrev tr__law_bag_0 (K : PySem.W.Frag) : TS :=
  (tSeq (tFor (iSeq K (tVar 0)) (gName 2) (tAsg (tOp rModX (tOp rAddX (tOp rAddX (tOp rMulX (tVar 1) (tC (.int 1000003))) (tOp rModX (tVar 2) (tC (.int 2305843009213693951)))) (tC (.int 1))) (tC (.int 2305843009213693951))) (gName 1)))
    (tRet (tLst (tCons (tCB (rListQ K) (tCons (tVar 0) tNil)) (tCons (tC (.int 0)) (tCons (tC (.int 0)) (tCons (tC (.int 0)) (tCons (tVar 1) tNil))))))))
def tr__law_bag (K : PySem.W.Frag) : TS :=
  (tSeq (tAsg (tC (.int 1)) (gName 1))
    (tr__law_bag_0 K))

theorem sj__law_bag {K : PySem.W.Frag} (C : Cc K) (ns : List Int) (h : ns.length ≤ 63) : Sj C (tr__law_bag K) [.w true (scW ns), .no, .no] (finB scW (fun s b => ns = b ∧ ∃ r : Bag, s = .w false (bgW r) ∧ r.c = 0)) := by
  unfold tr__law_bag
  walk_at "g"
  refine z_forW [2] ?_
  walk_at "g"
  refine ⟨fun i ρ => ∃ st : Int, ρ = [.w true (scW ns), .d (.int st), .no] ∧ 0 ≤ st ∧ st < 2305843009213693951, ⟨rfl, _, rfl, by decide, by decide⟩, ?_, ?_⟩
  · rintro i ρ hi ⟨st, rfl, s0, s1⟩
    dsimp only
    generalize (ns[i]?).getD 0 = z
    walk_at "g"
    refine opd_mulS (.inr (by decide)) ?_
    walk_at "g"
    refine ⟨rfl, _, rfl, Int.emod_nonneg _ (by decide), Int.emod_lt_of_pos _ (by decide)⟩
  · rintro ρ ⟨st, rfl, s0, s1⟩
    refine y_retS (ev_lst (eva_cons (evd_l (ev_listS rfl ?_))))
    refine ⟨_, rfl, ?_⟩
    walk_at "g"
    exact ⟨ns, rfl, rfl, ⟨ns, 0, 0, 0, st, by omega, by omega, by omega, by omega, by omega, s0, s1⟩, rfl, rfl⟩
abbrev c__law_stir : Ctr := CR (fun a : Int × Int => [.int a.1, .int a.2]) (fun a => 0 ≤ a.1 ∧ a.1 < 2305843009213693951 ∧ 0 ≤ a.2 ∧ a.2 ≤ 1000000000) (fun _ s => ∃ r : Int, s = .d (.int r) ∧ 0 ≤ r)
-- slots: 0 number 1 place 2 one 3 two
abbrev tr__law_stir_0 (K : PySem.W.Frag) : TS :=
  (tRet (tOp rDivX (tOp rModX (tOp rAddX (tOp rAddX (tOp rMulX (tVar 3) (tC (.int 2860486313))) (tOp rMulX (tOp rMulX (tVar 1) (tVar 1)) (tC (.int 48271)))) (tOp rDivX (tVar 2) (tC (.int 3)))) (tC (.int 2305843009213693921))) (tC (.int 1024))))
def tr__law_stir (K : PySem.W.Frag) : TS :=
  (tSeq (tAsg (tOp rModX (tOp rAddX (tOp rAddX (tOp rMulX (tVar 0) (tC (.int 998244353))) (tOp rMulX (tVar 1) (tC (.int 1000000007)))) (tC (.int 5))) (tC (.int 2305843009213693951))) (gName 2))
    (tSeq (tAsg (tOp rModX (tOp rMulX (tVar 2) (tVar 2)) (tC (.int 2305843009213693951))) (gName 3))
    (tr__law_stir_0 K)))

theorem sq_smallB {z : Int} (h0 : 0 ≤ z) (h1 : z < 2 ^ 127) : CMulW z z := by
  have : z.natAbs.log2 < 127 := by
    by_cases hz : z.natAbs = 0
    · rw [hz]; decide
    · exact (Nat.log2_lt hz).mpr (by omega)
  unfold CMulW
  omega
theorem sj__law_stir {K : PySem.W.Frag} (C : Cc K) (x y : Int) (x0 : 0 ≤ x) (x1 : x < 2305843009213693951) (y0 : 0 ≤ y) (y1 : y ≤ 1000000000) : Sj C (tr__law_stir K) [.d (.int x), .d (.int y), .no, .no] (finR (fun s => ∃ r : Int, s = .d (.int r) ∧ 0 ≤ r)) := by
  unfold tr__law_stir
  walk_at "g"
  refine opd_mulS (.inr (by decide)) ?_
  walk_at "g"
  refine opd_mulS (.inr (by decide)) ?_
  walk_at "g"
  refine opd_mul (sq_smallB (Int.emod_nonneg _ (by decide)) (Int.lt_trans (Int.emod_lt_of_pos _ (by decide)) (by decide))) ?_
  walk_at "g"
  refine opd_mulS (.inr (by decide)) ?_
  walk_at "g"
  refine opd_mulS (.inl (by constructor <;> omega)) ?_
  walk_at "g"
  refine opd_mulS (.inr (by decide)) ?_
  walk_at "g"
  refine opd_div ⟨by decide, by decide⟩ ?_
  walk_at "g"
  refine opd_div ⟨by decide, by decide⟩ ?_
  exact ⟨_, rfl, Int.ediv_nonneg (Int.emod_nonneg _ (by decide)) (by decide)⟩
/-! a draw -/
abbrev c__law_draw : Ctr := CB bgW (fun n : Int => [.int n]) (fun b n => b.c < 1000000000 ∧ 1 ≤ n ∧ n ≤ 10 ^ 40) (fun b n s b' => b'.c ≤ b.c + 1 ∧ ∃ r, s = .d (.int r) ∧ 0 ≤ r ∧ r < n)
-- slots: 0 bag 1 many 2 cell 3 found
abbrev tr__law_draw_0 (K : PySem.W.Frag) : TS :=
  (tSeq (tIfS (tTest (tOp rLtX (tVar 2) (tOp rPowX (tC (.int 10)) (tC (.int 18))))) (tRet (tOp rModX (tCall (Ctr.sp K c__law_stir) [] E0 (tCons (tOp rModX (tVar 2) (tC (.int 2305843009213693951))) (tCons (tOp (rIx K) (tVar 0) (tC (.int 3))) tNil))) (tVar 1))) tNext)
    (tAsg (tOp rSubX (tVar 2) (tOp rPowX (tC (.int 10)) (tC (.int 18)))) (gSub (tVar 0) (tC (.int 2)) rSetL)))
abbrev tr__law_draw_1 (K : PySem.W.Frag) : TS :=
  (tSeq (tAsg (tOp rModX (tOp (rIx K) (tVar 0) (tC (.int 2))) (tVar 1)) (gName 3))
    (tSeq (tAsg (tOp rDivX (tOp (rIx K) (tVar 0) (tC (.int 2))) (tVar 1)) (gSub (tVar 0) (tC (.int 2)) rSetL))
    (tRet (tVar 3))))
abbrev tr__law_draw_2 (K : PySem.W.Frag) : TS :=
  (tSeq (tIfS (tTest (tOp rLtX (tOp (rIx K) (tVar 0) (tC (.int 2))) (tC (.int 2)))) (tSeq (tAsg (tOp (rIx K) (tOp (rIx K) (tVar 0) (tC (.int 0))) (tOp (rIx K) (tVar 0) (tC (.int 1)))) (gName 2))
    (tSeq (tAsg (tOp rAddX (tOp (rIx K) (tVar 0) (tC (.int 1))) (tC (.int 1))) (gSub (tVar 0) (tC (.int 1)) rSetL))
    (tr__law_draw_0 K))) tNext)
    (tr__law_draw_1 K))
abbrev tr__law_draw_3 (K : PySem.W.Frag) : TS :=
  (tSeq (tIfS (tAnd (tTest (tOp rLtX (tOp (rIx K) (tVar 0) (tC (.int 2))) (tC (.int 2)))) (tTest (tOp (rEqD K) (tOp (rIx K) (tVar 0) (tC (.int 1))) (tCB (rLenX K) (tCons (tOp (rIx K) (tVar 0) (tC (.int 0))) tNil))))) (tRet (tOp rModX (tCall (Ctr.sp K c__law_stir) [] E0 (tCons (tOp (rIx K) (tVar 0) (tC (.int 4))) (tCons (tOp (rIx K) (tVar 0) (tC (.int 3))) tNil))) (tVar 1))) tNext)
    (tr__law_draw_2 K))
def tr__law_draw (K : PySem.W.Frag) : TS :=
  (tSeq (tIfS (tTest (tOp (rEqD K) (tVar 1) (tC (.int 1)))) (tRet (tC (.int 0))) tNext)
    (tSeq (tAsg (tOp rAddX (tOp (rIx K) (tVar 0) (tC (.int 3))) (tC (.int 1))) (gSub (tVar 0) (tC (.int 3)) rSetL))
    (tr__law_draw_3 K)))

theorem cdiv40B {n : Int} (h1 : 1 ≤ n) (h2 : n ≤ 10 ^ 40) (r : Int) : CDivW r n := by
  refine ⟨by omega, ?_⟩
  have : n.natAbs < 2 ^ 200 := by omega
  have := (Nat.log2_lt (n := n.natAbs) (by omega)).mpr this
  omega
theorem sj__law_draw {K : PySem.W.Frag} (C : Cc K) (b : Bag) (n : Int) (hc : b.c < 1000000000) (h1 : 1 ≤ n) (h2 : n ≤ 10 ^ 40) : Sj C (tr__law_draw K) [.w true (bgW b), .d (.int n), .no, .no] (finB bgW (fun s b' => b'.c ≤ b.c + 1 ∧ ∃ r, s = .d (.int r) ∧ 0 ≤ r ∧ r < n)) := by
  unfold tr__law_draw
  obtain ⟨ns, a, z, c, t, hn, ha, ha0, hz, hc0, t0, t1⟩ := b
  dsimp only at hc ⊢
  have rb : ∀ x : Int, 0 ≤ x % n ∧ x % n < n := fun x => ⟨Int.emod_nonneg _ (by omega), Int.emod_lt_of_pos _ (by omega)⟩
  show Sj C _ [.w true (lw [.lst (ns.map .int), .int a, .int z, .int c, .int t]), .d (.int n), .no, .no] _
  walk_at "g"
  rw [dEq_int]
  refine spB (fun _ => ?_) (fun _ => ?_)
  · walk_at "g"
    exact ⟨⟨ns, a, z, c, t, hn, ha, ha0, hz, hc0, t0, t1⟩, rfl, by show c ≤ c + 1; omega, 0, rfl, by omega, by omega⟩
  walk_at "g"
  refine sp2 (fun hz2 => ?_) (fun hz2 => ?_)
  · walk_at "g"
    rw [dEq_int, List.length_map]
    refine spB (fun _ => ?_) (fun hlen => ?_)
    · walk_at "g"
      refine ⟨(t, c + 1), rfl, ⟨t0, t1, by show 0 ≤ c + 1; omega, by show c + 1 ≤ _; omega⟩, ?_⟩
      rintro s ⟨r, rfl, r0⟩
      walk_at "g"
      refine opd_mod (by omega) ?_
      exact ⟨⟨ns, a, z, c + 1, t, hn, ha, ha0, hz, by omega, t0, t1⟩, rfl, Int.le_refl _, _, rfl, rb _⟩
    · have hne : a ≠ (ns.length : Int) := by simpa using hlen
      walk_at "g"
      refine sp_t (decide_eq_true hz2) ?_
      obtain ⟨m, rfl⟩ : ∃ m : Nat, a = m := ⟨a.toNat, by omega⟩
      have hm : m < ns.length := by omega
      walk_at "g"
      refine opd_ixL (d := .int ns[m]) (atI_nat (by rw [List.getElem?_map, List.getElem?_eq_getElem hm]; rfl)) ?_
      generalize ns[m] = cell
      walk_at "g"
      refine sp2 (fun _ => ?_) (fun hcell => ?_)
      · walk_at "g"
        refine ⟨(cell % 2305843009213693951, c + 1), rfl, ⟨Int.emod_nonneg _ (by decide), Int.emod_lt_of_pos _ (by decide), by show 0 ≤ c + 1; omega, by show c + 1 ≤ _; omega⟩, ?_⟩
        rintro s ⟨r, rfl, r0⟩
        walk_at "g"
        refine opd_mod (by omega) ?_
        exact ⟨⟨ns, m + 1, z, c + 1, t, hn, by omega, by omega, hz, by omega, t0, t1⟩, rfl, Int.le_refl _, _, rfl, rb _⟩
      · rw [show (10 : Int) ^ (18 : Int).toNat = 1000000000000000000 by decide] at hcell
        refine y_setO ?_
        walk_at "g"
        rw [show (10 : Int) ^ (18 : Int).toNat = 1000000000000000000 by decide]
        refine opd_mod (by omega) ?_
        walk_at "g"
        refine opd_div (cdiv40B h1 h2 _) ?_
        walk_at "g"
        exact ⟨⟨ns, m + 1, (cell - 1000000000000000000) / n, c + 1, t, hn, by omega, by omega, Int.ediv_nonneg (by omega) (by omega), by omega, t0, t1⟩, rfl, Int.le_refl _, _, rfl, rb _⟩
  · walk_at "g"
    refine sp_f (decide_eq_false hz2) ?_
    walk_at "g"
    refine opd_mod (by omega) ?_
    walk_at "g"
    refine opd_div (cdiv40B h1 h2 _) ?_
    walk_at "g"
    exact ⟨⟨ns, a, z / n, c + 1, t, hn, ha, ha0, Int.ediv_nonneg hz (by omega), by omega, t0, t1⟩, rfl, Int.le_refl _, _, rfl, rb _⟩
section
variable {K : PySem.W.Frag} {C : Cc K} {ρ : List Sl}
theorem evd_drawB {R : Dt → List Sl → Prop} {E : XK} {t : TA} {i : Nat} {q : Bool} {W0 : Wd} (hw : ρ[i]? = some (.w q W0))
    (h : EvA C t ρ fun ds ρ1 => ∃ (b : Bag) (n : Int) (q : Bool), ρ1[i]? = some (.w q (bgW b)) ∧ ds = [.int n] ∧ b.c < 1000000000 ∧ 1 ≤ n ∧ n ≤ 10 ^ 40 ∧ ∀ (r : Int) (b' : Bag), 0 ≤ r → r < n → b'.c ≤ b.c + 1 → R (.int r) (ρ1.set i (.w q (bgW b')))) :
    EvD C (tCall (Ctr.sp K c__law_draw) [] E (tCons (tVar i) t)) ρ R := by
  refine evd_callB hw ?_
  intro G H σ fp O Q q
  refine h G H σ fp O Q fun vs G' H' ds ρ' fp' e O' D r => q vs G' H' ds ρ' fp' e O' D ?_
  obtain ⟨b, n, q', r1, r0, rc, r2, r3, r4⟩ := r
  exact ⟨b, n, q', r1, r0, ⟨rc, r2, r3⟩, fun s b' ⟨c, r, e, l, u⟩ => by rw [e]; exact asF_d (r4 r b' l u c)⟩
end
local macro_rules | `(tactic| walk_at "dk") => `(tactic| ((with_reducible refine' evd_drawB ?ha ?_); (case ha => rfl)))
theorem int_oDB {r : Int} (h0 : 0 ≤ r) (h1 : r ≤ 10 ^ 30) : ∃ q : Option Nat, Dt.int r = oD q ∧ patOk q := by
  refine ⟨some r.toNat, ?_, fun k e => ?_⟩
  · rw [oD_some, Int.toNat_of_nonneg h0]
  · cases e
    unfold bigN
    omega
section
variable {K : PySem.W.Frag} {C : Cc K} {ρ : List Sl}
end

end
section
/-! the law's own queue, one by one -/
def Mt (m : List (Int × Dt)) (P : List Nat) (L : List (Option Nat)) : Prop := ∀ (i w : Nat) (l : Option Nat), P[i]? = some w → L[i]? = some l → valD m (w : Int) = some (oD l)
abbrev c__law_came : Ctr := CM dw (fun a : (List Nat × List (Option Nat)) × Nat × Option Nat => .lst (a.1.1.map nD)) (fun a => [.int a.2.1, oD a.2.2]) (fun m a => Mt m a.1.1 a.1.2 ∧ a.1.1.Nodup ∧ a.2.1 ∉ a.1.1 ∧ a.1.1.length = a.1.2.length ∧ a.1.1.length ≤ 1000 ∧ m.length ≤ 1000)
  (fun m a s m' => s = .l ((stepQ a.1 a.2.1 a.2.2).1.map nD) ∧ Mt m' (stepQ a.1 a.2.1 a.2.2).1 (stepQ a.1 a.2.1 a.2.2).2 ∧ m'.length ≤ m.length + 1)
-- slots: 0 stand 1 rest 2 number 3 patience 4 at
abbrev tr__law_came_0 (K : PySem.W.Frag) : TS :=
  (tIfS (tTest (tOp rNotN' (tDGet (tVar 1) (tOp (rIx K) (tVar 0) (tVar 4))) (tC .non))) (sDPut (tVar 1) (tOp (rIx K) (tVar 0) (tVar 4)) (tOp rSubX (tDGet (tVar 1) (tOp (rIx K) (tVar 0) (tVar 4))) (tC (.int 1)))) tNext)
abbrev tr__law_came_1 (K : PySem.W.Frag) : TS :=
  (tSeq (sDPut (tVar 1) (tVar 2) (tVar 3))
    (tRet (tOp rAddX (tOp rAddX (tSl (rSlX K) (tVar 0) tNoPart (tPart (tVar 4))) (tLst (tCons (tVar 2) tNil))) (tSl (rSlX K) (tVar 0) (tPart (tVar 4)) tNoPart))))
abbrev tr__law_came_2 (K : PySem.W.Frag) : TS :=
  (tSeq (tWhile (tAnd (tTest (tOp rGtX (tVar 4) (tC (.int 0)))) (tTest (tOp (rNeD K) (tDGet (tVar 1) (tOp (rIx K) (tVar 0) (tOp rSubX (tVar 4) (tC (.int 1))))) (tC (.int 0))))) (tSeq (tAsg (tOp rSubX (tVar 4) (tC (.int 1))) (gName 4))
    (tr__law_came_0 K)))
    (tr__law_came_1 K))
def tr__law_came (K : PySem.W.Frag) : TS :=
  (tSeq (tAsg (tCB (rLenX K) (tCons (tVar 0) tNil)) (gName 4))
    (tr__law_came_2 K))

theorem Mt.put {m : List (Int × Dt)} {P : List Nat} {L : List (Option Nat)} {c w : Nat} {l : Option Nat} (h : Mt m P L) (hn : P.Nodup) (hc : P[c]? = some w) : Mt (putD m (w : Int) (oD l)) P (L.set c l) := by
  intro i v k h1 h2
  rw [valD_put]
  by_cases e : i = c
  · subst e
    rw [hc] at h1
    cases h1
    rw [if_pos rfl]
    have hlt : i < (L.set i l).length := (List.getElem?_eq_some_iff.mp h2).1
    rw [List.getElem?_set_self (by rw [List.length_set] at hlt; exact hlt)] at h2
    cases h2
    rfl
  · rw [List.getElem?_set_ne (Ne.symm e)] at h2
    rw [if_neg (fun z => e ?_)]
    · exact h i v k h1 h2
    · have : v = w := by omega
      subst this
      exact nodup_inj hn h1 hc
theorem sj__law_came {K : PySem.W.Frag} (C : Cc K) (m0 : List (Int × Dt)) (P : List Nat) (L : List (Option Nat)) (n : Nat) (p : Option Nat) (hM : Mt m0 P L) (hn : P.Nodup) (hnP : n ∉ P) (hl : P.length = L.length) (hP : P.length ≤ 1000) (hm : m0.length ≤ 1000) :
    Sj C (tr__law_came K) [.d (.lst (P.map nD)), .w true (dw m0), .d (.int n), .d (oD p), .no] (finM dw (fun s m' => s = .l ((stepQ (P, L) n p).1.map nD) ∧ Mt m' (stepQ (P, L) n p).1 (stepQ (P, L) n p).2 ∧ m'.length ≤ m0.length + 1)) := by
  unfold tr__law_came
  walk_at "g"
  rw [List.length_map]
  refine z_while (fun k ρ => ∃ (a : Nat) (m : List (Int × Dt)), k = a ∧ a ≤ L.length ∧ (∀ j, a ≤ j → L[j]? ≠ some (some 0)) ∧ Mt m P (lf L a) ∧ m.length = m0.length ∧ ρ = [.d (.lst (P.map nD)), .w true (dw m), .d (.int n), .d (oD p), .d (.int a)]) P.length ?_ ?_
  · refine ⟨P.length, m0, rfl, by omega, fun j hj e => ?_, ?_, rfl, rfl⟩
    · have := (List.getElem?_eq_some_iff.mp e).1
      omega
    · rw [hl, lf_all]; exact hM
  · rintro k ρ ⟨a, m, rfl, ha, hz, hMt, hml, rfl⟩
    have getP : ∀ j, j < P.length → ∃ w, P[j]? = some w := fun j hj => ⟨_, List.getElem?_eq_getElem hj⟩
    have ixP : ∀ {j w : Nat}, P[j]? = some w → atI (P.map nD) (j : Int) = some (.int (w : Int)) := fun {j w} e => atI_nat (by rw [List.getElem?_map, e]; rfl)
    refine evt_imp (R := fun b ρ1 => ρ1 = [.d (.lst (P.map nD)), .w true (dw m), .d (.int n), .d (oD p), .d (.int k)] ∧ (b = true → ∃ l, 0 < k ∧ L[k - 1]? = some l ∧ l ≠ some 0) ∧ (b = false → cutAt L = k)) ?_ ?_
    · walk_at "g"
      refine sp2 (fun h => ?_) (fun h => ?_)
      · have h0 : 0 < k := by omega
        obtain ⟨l, hl'⟩ : ∃ l, L[k - 1]? = some l := ⟨_, List.getElem?_eq_getElem (by omega)⟩
        obtain ⟨w, hw⟩ := getP (k - 1) (by omega)
        walk_at "g"
        rw [show ((k : Int) - 1) = ((k - 1 : Nat) : Int) by omega]
        refine opd_ixL (ixP hw) ?_
        refine asI_i ⟨_, m, oD l, rfl, hMt (k - 1) w l hw (by rw [lf_get (by omega), hl']), ?_⟩
        walk_at "g"
        refine opd_ne fn_oD fn_int ?_
        walk_at "g"
        refine ⟨rfl, ?_⟩
        rw [dEq_oD0]
        by_cases hz0 : l = some 0
        · rw [decide_eq_true hz0]
          refine ⟨(fun z => nomatch z), fun _ => cutAt_is (.inr (by rw [hl', hz0])) hz⟩
        · rw [decide_eq_false hz0]
          exact ⟨fun _ => ⟨l, h0, hl', hz0⟩, (fun z => nomatch z)⟩
      · refine ⟨rfl, (fun z => nomatch z), fun _ => ?_⟩
        have : k = 0 := by omega
        exact cutAt_is (.inl this) hz
    · rintro b ρ1 ⟨rfl, hb1, hb2⟩
      refine ⟨fun hb => ?_, fun hb => ?_⟩
      · obtain ⟨l, h0, hl', hz0⟩ := hb1 hb
        obtain ⟨c, rfl⟩ : ∃ c, k = c + 1 := ⟨k - 1, by omega⟩
        rw [Nat.add_sub_cancel] at hl'
        have hc : c < L.length := by omega
        have ec : (((c + 1 : Nat) : Int) - 1) = (c : Int) := by omega
        obtain ⟨w, hw⟩ := getP c (by omega)
        have zz : ∀ j, c ≤ j → L[j]? ≠ some (some 0) := fun j hj e => by
          by_cases hjc : j = c
          · subst hjc; rw [hl'] at e; cases e; exact hz0 rfl
          · exact hz j (by omega) e
        have gl : valD m (w : Int) = some (oD l) := hMt c w l hw (by rw [lf_get (by omega), hl'])
        walk_at "g"
        rw [ec]
        refine opd_ixL (ixP hw) ?_
        refine asI_i ⟨_, m, oD l, rfl, gl, ?_⟩
        walk_at "g"
        rw [isNon_oD]
        cases l with
        | none =>
          walk_at "g"
          refine ⟨c, by omega, c, m, rfl, by omega, zz, ?_, hml, rfl⟩
          have e2 : lf L c = lf L (c + 1) := by
            rw [lf_succ hl']
            apply List.ext_getElem?
            intro j
            by_cases hj : j = c
            · subst hj
              rw [List.getElem?_set_self (by rw [lf_len]; omega), lf_get (by omega), hl']
              rfl
            · rw [List.getElem?_set_ne (Ne.symm hj)]
          rw [e2]
          exact hMt
        | some v =>
          refine sp_t rfl ?_
          walk_at "g"
          refine opd_ixL (ixP hw) ?_
          refine asI_i ⟨_, m, oD (some v), rfl, gl, ?_⟩
          rw [oD_some]
          walk_at "g"
          refine opd_ixL (ixP hw) ?_
          refine asI_i ⟨_, m, rfl, by omega, c, by omega, c, _, rfl, by omega, zz, ?_, ?_, rfl⟩
          · have hv : v ≠ 0 := fun z => hz0 (by rw [z])
            rw [show Dt.int ((v : Int) - 1) = oD (some (v - 1)) by rw [oD_some]; congr 1; omega, lf_succ hl']
            exact hMt.put hn hw
          · rw [putD_len, gl, hml]
            rfl
      · have hc := hb2 hb
        subst hc
        have hcl := cutAt_le L
        walk_at "g"
        refine ⟨_, m, rfl, by omega, ?_⟩
        refine y_retS (ev_opL ?_)
        walk_at "x"
        rw [cutD_take _ _ (by rw [List.length_map]; omega)]
        walk_at "x"
        refine opd_addL (by rw [List.length_take, List.length_map]; simp; omega) ?_
        walk_at "x"
        rw [cutD_drop _ _ (by rw [List.length_map]; omega)]
        walk_at "x"
        refine opl_add (by rw [List.length_append, List.length_take, List.length_drop, List.length_map]; simp; omega) ?_
        refine ⟨_, rfl, ?_, ?_, ?_⟩
        · show Sl.l _ = Sl.l ((List.map nD (P.take (cutAt L) ++ [n] ++ P.drop (cutAt L))))
          rw [List.map_append, List.map_append, List.map_take, List.map_drop]
          rfl
        · show Mt _ (P.take (cutAt L) ++ [n] ++ P.drop (cutAt L)) (L.take (cutAt L) ++ [p] ++ (L.drop (cutAt L)).map dec)
          intro i w l h1 h2
          rw [valD_put]
          by_cases hi : i < cutAt L
          · rw [List.append_assoc, List.getElem?_append_left (by rw [List.length_take]; omega), List.getElem?_take_of_lt hi] at h1
            rw [List.append_assoc, List.getElem?_append_left (by rw [List.length_take]; omega), List.getElem?_take_of_lt hi] at h2
            rw [if_neg (fun z => hnP ?_)]
            · exact hMt i w l h1 (by rw [lf_get hi]; exact h2)
            · have : w = n := by omega
              rw [← this]; exact List.mem_of_getElem? h1
          · rw [List.append_assoc, List.getElem?_append_right (by rw [List.length_take]; omega), List.length_take, Nat.min_eq_left (by omega)] at h1
            rw [List.append_assoc, List.getElem?_append_right (by rw [List.length_take]; omega), List.length_take, Nat.min_eq_left (by omega)] at h2
            by_cases e : i = cutAt L
            · rw [e, Nat.sub_self] at h1 h2
              cases h1
              cases h2
              rw [if_pos rfl]
            · obtain ⟨t, ht⟩ : ∃ t, i - cutAt L = t + 1 := ⟨i - cutAt L - 1, by omega⟩
              rw [ht, List.singleton_append, List.getElem?_cons_succ, List.getElem?_drop] at h1
              rw [ht, List.singleton_append, List.getElem?_cons_succ] at h2
              rw [if_neg (fun z => hnP ?_)]
              · refine hMt (cutAt L + t) w l h1 ?_
                unfold lf
                rw [List.getElem?_append_right (by rw [List.length_take]; omega), List.length_take, Nat.min_eq_left (by omega), Nat.add_sub_cancel_left]
                exact h2
              · have : w = n := by omega
                rw [← this]; exact List.mem_of_getElem? h1
        · rw [putD_len, hml]
          split <;> omega
abbrev c__law_queue : Ctr := CR (fun l : List (Option Nat) => [.lst (l.map oD)]) (fun l => l.length ≤ 900) (fun l s => s = .l ((qL l).map nD))
-- slots: 0 patiences 1 stand 2 rest 3 number 4 patience
abbrev tr__law_queue_0 (K : PySem.W.Frag) : TS :=
  (tSeq (tFor (iEnumQ K (tCons (tVar 0) tNil)) (gSeq K 2 (gCons (gName 3) (gCons (gName 4) gNil))) (tAsg (tCall (Ctr.sp K c__law_came) [] E0 (tCons (tVar 1) (tCons (tVar 2) (tCons (tVar 3) (tCons (tVar 4) tNil))))) (gName 1)))
    (tRet (tVar 1)))
def tr__law_queue (K : PySem.W.Frag) : TS :=
  (tSeq (tAsg (tLst tNil) (gName 1))
    (tSeq (tAsg tDNewK (gName 2))
    (tr__law_queue_0 K)))

theorem sj__law_queue {K : PySem.W.Frag} (C : Cc K) (l : List (Option Nat)) (h : l.length ≤ 900) : Sj C (tr__law_queue K) [.d (.lst (l.map oD)), .no, .no, .no, .no] (finR fun s => s = .l ((qL l).map nD)) := by
  unfold tr__law_queue
  refine sq_own (ev_lst ?_)
  walk_at "x"
  refine ⟨rfl, ?_⟩
  walk_at "g"
  refine z_forW [3, 4] (wk_enumL ?_)
  walk_at "g"
  refine ⟨_, rfl, ?_⟩
  rw [List.length_map]
  refine ⟨fun i ρ => ∃ m, Mt m (listedQ (patL l) i).1 (listedQ (patL l) i).2 ∧ m.length ≤ i ∧ ρ = [.d (.lst (l.map oD)), .l ((listedQ (patL l) i).1.map nD), .w false (dw m), .no, .no], ⟨rfl, [], fun i w l h => by simp [listedQ] at h, Nat.le_refl _, rfl⟩, ?_, ?_⟩
  · rintro i ρ hi ⟨m, hM, hm, rfl⟩
    have ei : ((l.map oD)[i]?).getD .non = oD (patL l i) := by
      unfold patL
      rw [List.getElem?_map, List.getElem?_eq_getElem hi]
      rfl
    obtain ⟨l1, l2⟩ := listedQ_len (patL l) i
    dsimp only
    rw [ei]
    walk_at "tg"
    refine y_own (ev_callM (evd_frz (i := 1) rfl ?_))
    walk_at "g"
    refine ⟨m, (listedQ (patL l) i, i, patL l i), _, rfl, rfl, rfl, ⟨hM, q_nodup _ i, fun z => by have : i < i := q_lt _ z; omega, by show (listedQ (patL l) i).1.length = (listedQ (patL l) i).2.length; omega, by show (listedQ (patL l) i).1.length ≤ 1000; omega, by omega⟩, ?_⟩
    rintro s m' ⟨rfl, hM', hm'⟩
    exact ⟨rfl, rfl, rfl, rfl, m', hM', by omega, rfl⟩
  · rintro ρ ⟨m, hM, hm, rfl⟩
    walk_at "g"
    rw [qL_eq]

end
section
/-! orders: the program -/
abbrev c_is_number : Ctr := CT (fun x : Dt => [x]) noIns (fun x => .bl (isWhole x none))
-- slots: 0 thing
def tr_is_number (K : PySem.W.Frag) : TS :=
  (tRet (tAndV (tCB (rIsi K) (tCons (tVar 0) (tCons (tC (.ty "int")) tNil))) (tAndV (tNotV (tCB (rIsi K) (tCons (tVar 0) (tCons (tC (.ty "bool")) tNil)))) (tOp rGeX (tVar 0) (tC (.int 0))))))

theorem sj_is_number {K : PySem.W.Frag} (C : Cc K) (x : Dt) (hx : noIns x) : Sj C (tr_is_number K) [.d x] (finT (.bl (isWhole x none))) := by
  unfold tr_is_number
  cases x with
  | int i =>
    walk_at "g"
    rfl
  | ins C ns ds => exact hx.elim
  | _ =>
    walk_at "g"
    rfl
/-- whether a thing is an order -/
noncomputable def isOrd (x : Dt) : Bool := match seqOf x with
  | some ds => decide (ds.length ≤ 60) && ds.all (fun d => isWhole d none) && @decide ((ds.map toI).Perm ((List.range ds.length).map fun n : Nat => (n : Int))) (Classical.propDecidable _)
  | none => false
abbrev c_is_order : Ctr := CT (fun x : Dt => [x]) (fun x => Pn 1 x) (fun x => .bl (isOrd x))
-- slots: 0 thing 1 one
abbrev tr_is_order_0 (K : PySem.W.Frag) : TS :=
  (tRet (tAndV (tCB (rAll K) (tCons (tLc (iSeq K (tVar 0)) (gName 1) tYes (tCall (Ctr.sp K c_is_number) [] E0 (tCons (tVar 1) tNil)) [1]) tNil)) (tOp (rEqD K) (tCB (rSortQ K) (tCons (tVar 0) tNil)) (tLstRg (tRg1 (tCB (rLenX K) (tCons (tVar 0) tNil)))))))
def tr_is_order (K : PySem.W.Frag) : TS :=
  (tSeq (tIfS (tOr (tNot (tB (tCB (rIsiT K) (tCons (tVar 0) (tCons (tTup (tCons (tC (.ty "list")) (tCons (tC (.ty "tuple")) tNil))) tNil))))) (tTest (tOp rGtX (tCB (rLenX K) (tCons (tVar 0) tNil)) (tC (.int 60))))) (tRet (tC (.bl false))) tNext)
    (tr_is_order_0 K))

theorem nums_ints {ds : List Dt} (h : ds.all (fun d => isWhole d none) = true) : ds = (ds.map toI).map Dt.int := by
  rw [List.map_map]
  conv => lhs; rw [← List.map_id ds]
  refine List.map_congr_left fun d hd => ?_
  have := List.all_eq_true.mp h d hd
  obtain ⟨n, e, _⟩ := isWhole_spec this
  rw [e]
  rfl
theorem sorted_range {ns ns' : List Int} {n : Nat} (hp : ns'.Perm ns) (hs : ns'.Pairwise (· ≤ ·)) : (ns' = (List.range n).map fun i : Nat => (i : Int)) ↔ ns.Perm ((List.range n).map fun i : Nat => (i : Int)) := by
  constructor
  · intro e; rw [← e]; exact hp.symm
  · intro e
    refine List.Perm.eq_of_pairwise (le := (· ≤ ·)) (fun a b _ _ x y => by omega) hs ?_ (hp.trans e)
    exact List.pairwise_map.mpr (List.pairwise_lt_range.imp fun h => by omega)
theorem rgD_map (n : Nat) : rgD (n : Int) = ((List.range n).map fun i : Nat => (i : Int)).map Dt.int := by
  unfold rgD
  rw [List.map_map, Int.toNat_natCast]
  rfl
theorem sj_is_order {K : PySem.W.Frag} (C : Cc K) (x : Dt) (hf : Pn 1 x) : Sj C (tr_is_order K) [.d x, .no] (finT (.bl (isOrd x))) := by
  have hx : noIns x := pn_no hf
  unfold tr_is_order
  have hds : ∀ ds, seqOf x = some ds → ∀ d ∈ ds, noIns d := fun ds hs d hd => by
    cases x with
    | lst es => cases hs; exact pn_no (pn_seq hf (.inl rfl) d hd)
    | tup es => cases hs; exact pn_no (pn_seq hf (.inr rfl) d hd)
    | _ => cases hs
  have main : ∀ ds, (x = .lst ds ∨ x = .tup ds) → Sj C (tr_is_order K) [.d x, .no] (finT (.bl (isOrd x))) := by
    intro ds hor
    have hs : seqOf x = some ds := by rcases hor with rfl | rfl <;> rfl
    have hd := hds ds hs
    have e : isOrd x = (decide (ds.length ≤ 60) && ds.all (fun d => isWhole d none) && @decide ((ds.map toI).Perm ((List.range ds.length).map fun n : Nat => (n : Int))) (Classical.propDecidable _)) := by unfold isOrd; rw [hs]
    rw [e]
    unfold tr_is_order
    rcases hor with rfl | rfl
    all_goals
      walk_at "g"
      refine sp2 (fun h => ?_) (fun h => ?_)
      · walk_at "g"
        rw [decide_eq_false (show ¬ ds.length ≤ 60 by omega)]
        rfl
      · rw [decide_eq_true (show ds.length ≤ 60 by omega), Bool.true_and]
        walk_at "g"
        refine evd_lcM (fun d => .bl (isWhole d none)) ?_
        walk_at "g"
        refine ⟨rfl, rfl, ?_⟩
        walk_at "g"
        refine ⟨by omega, fun C' d hd' => ?_, ?_⟩
        · walk_at "g"
          exact ⟨d, rfl, hd d hd', rfl, rfl⟩
        walk_at "g"
        refine cad_allM ?_
        refine asB_i (spB (fun ha => ?_) (fun ha => ?_))
        · rw [ha, Bool.true_and]
          have ei := nums_ints ha
          generalize hns : ds.map toI = ns at ei ⊢
          have hlen : ds.length = ns.length := by rw [← hns, List.length_map]
          rw [hlen]
          subst ei
          walk_at "g"
          first
            | refine cad_sortL fun ns' hp hsrt => ?_
            | refine cad_sortT fun ns' hp hsrt => ?_
          refine evd_listRg ?_
          walk_at "g"
          rw [List.length_map] at h ⊢
          refine ⟨by omega, by omega, ?_⟩
          rw [rgD_map]
          refine opd_eq fn_ints fn_ints ?_
          rw [dEq_ints]
          show Sl.d (.bl _) = Sl.d (.bl _)
          congr 2
          exact decide_eq_decide.mpr (sorted_range hp hsrt)
        · rw [ha, Bool.false_and]
  cases x with
  | lst ds => exact main ds (.inl rfl)
  | tup ds => exact main ds (.inr rfl)
  | ins C ns ds => exact hx.elim
  | _ =>
    walk_at "g"
    rfl
def sqD (b : Bool) (O : List Nat) : Dt := match b with
  | true => .lst (O.map nD)
  | false => .tup (O.map nD)
theorem ord_ints {O : List Nat} : (O.map nD).map toI = O.map fun n : Nat => (n : Int) := by
  rw [List.map_map]; rfl
theorem isOrd_sq {b : Bool} {O : List Nat} (h : OrdOk O) : isOrd (sqD b O) = true := by
  have e : isOrd (sqD b O) = (decide ((O.map nD).length ≤ 60) && (O.map nD).all (fun d => isWhole d none) && @decide (((O.map nD).map toI).Perm ((List.range (O.map nD).length).map fun n : Nat => (n : Int))) (Classical.propDecidable _)) := by cases b <;> rfl
  rw [e, List.length_map, decide_eq_true h.2, Bool.true_and]
  have h1 : (O.map nD).all (fun d => isWhole d none) = true := List.all_eq_true.mpr fun d hd => by
    obtain ⟨n, _, rfl⟩ := List.mem_map.mp hd
    show decide (0 ≤ (n : Int)) = true
    rw [decide_eq_true (by omega)]
  rw [h1, Bool.true_and, ord_ints]
  exact @decide_eq_true _ (Classical.propDecidable _) (h.1.map _)
theorem fn_sq {b : Bool} {O : List Nat} {n : Nat} : Fn (n + 1) (sqD b O) := by
  cases b
  · exact fn_tup (fn_map fun _ _ => fn_int)
  · exact fn_nDs
abbrev c_places_of : Ctr := CT (fun a : Bool × List Nat => [sqD a.1 a.2]) (fun a => OrdOk a.2) (fun a => .lst ((placesL a.2).map nD))
-- slots: 0 order 1 found 2 place 3 person
abbrev tr_places_of_0 (K : PySem.W.Frag) : TS :=
  (tSeq (tFor (iEnumQ K (tCons (tVar 0) tNil)) (gSeq K 2 (gCons (gName 2) (gCons (gName 3) gNil))) (tAsg (tVar 2) (gSub (tVar 1) (tVar 3) rSetL)))
    (tRet (tVar 1)))
def tr_places_of (K : PySem.W.Frag) : TS :=
  (tSeq (tIfS (tNot (tB (tCall (Ctr.sp K c_is_order) [] E0 (tCons (tVar 0) tNil)))) tNever tNext)
    (tSeq (tAsg (tOp rMulX (tLst (tCons (tC (.int 0)) tNil)) (tCB (rLenX K) (tCons (tVar 0) tNil))) (gName 1))
    (tr_places_of_0 K)))

def plUp (O : List Nat) (k : Nat) : List Nat := (List.range O.length).map fun i => if O.idxOf i < k then O.idxOf i else 0
theorem plUp_succ {O : List Nat} {k : Nat} (h : O.Perm (List.range O.length)) (hk : k < O.length) : (plUp O k).set O[k] k = plUp O (k + 1) := by
  have hnd : O.Nodup := h.nodup_iff.mpr List.nodup_range
  apply List.ext_getElem?
  intro i
  have hOk : O[k] < O.length := List.mem_range.mp (h.mem_iff.mp (List.getElem_mem hk))
  have hidx : O.idxOf O[k] = k := by
    have h1 : O.idxOf O[k] < O.length := List.idxOf_lt_length_of_mem (List.getElem_mem hk)
    exact nodup_inj hnd (x := O[k]) (by rw [List.getElem?_eq_getElem h1, List.getElem_idxOf]) (List.getElem?_eq_getElem hk)
  by_cases hi : i < O.length
  · by_cases e : O[k] = i
    · subst e
      rw [List.getElem?_set_self (by unfold plUp; rw [List.length_map, List.length_range]; exact hOk)]
      unfold plUp
      rw [List.getElem?_map, List.getElem?_range hi, Option.map_some, hidx, if_pos (by omega)]
    · rw [List.getElem?_set_ne e]
      unfold plUp
      rw [List.getElem?_map, List.getElem?_map, List.getElem?_range hi, Option.map_some, Option.map_some]
      have hne : O.idxOf i ≠ k := fun z => e (by
        have hm : i ∈ O := h.mem_iff.mpr (List.mem_range.mpr hi)
        have h1 : O.idxOf i < O.length := List.idxOf_lt_length_of_mem hm
        have h2 : O[O.idxOf i] = i := List.getElem_idxOf h1
        have h3 : O[O.idxOf i]? = some i := by rw [List.getElem?_eq_getElem h1, h2]
        rw [z, List.getElem?_eq_getElem hk] at h3
        exact Option.some.inj h3)
      by_cases c : O.idxOf i < k
      · rw [if_pos c, if_pos (by omega)]
      · rw [if_neg c, if_neg (by omega)]
  · rw [List.getElem?_eq_none (by rw [List.length_set]; unfold plUp; rw [List.length_map, List.length_range]; omega), List.getElem?_eq_none (by unfold plUp; rw [List.length_map, List.length_range]; omega)]
theorem plUp_end {O : List Nat} (h : O.Perm (List.range O.length)) : plUp O O.length = placesL O := by
  unfold plUp placesL
  refine List.map_congr_left fun i hi => ?_
  rw [if_pos (List.idxOf_lt_length_of_mem (h.mem_iff.mpr hi))]
theorem plUp_zero (O : List Nat) : (plUp O 0).map nD = (List.replicate O.length [Dt.int 0]).flatten := by
  have e : plUp O 0 = List.replicate O.length 0 := by
    unfold plUp
    rw [List.eq_replicate_iff]
    refine ⟨by rw [List.length_map, List.length_range], fun b hb => ?_⟩
    obtain ⟨i, _, rfl⟩ := List.mem_map.mp hb
    rw [if_neg (by omega)]
  rw [e, List.map_replicate]
  induction O.length with
  | zero => rfl
  | succ n ih => rw [List.replicate_succ, List.replicate_succ, List.flatten_cons, ← ih]; rfl
theorem plUp_len (O : List Nat) (k : Nat) : (plUp O k).length = O.length := by unfold plUp; rw [List.length_map, List.length_range]
theorem sj_places_of {K : PySem.W.Frag} (C : Cc K) (b : Bool) (O : List Nat) (h : OrdOk O) : Sj C (tr_places_of K) [.d (sqD b O), .no, .no, .no] (finT (.lst ((placesL O).map nD))) := by
  unfold tr_places_of
  have h60 := h.2
  walk_at "g"
  refine ⟨sqD b O, rfl, pn_fn 1 (m := 64) fn_sq, ?_⟩
  rw [isOrd_sq h]
  refine asB_i (spNB (fun z => nomatch z) (fun _ => ?_))
  have rest : ∀ (b : Bool), Sj C (tSeq (tFor (iEnumQ K (tCons (tVar 0) tNil)) (gSeq K 2 (gCons (gName 2) (gCons (gName 3) gNil))) (tAsg (tVar 2) (gSub (tVar 1) (tVar 3) rSetL))) (tRet (tVar 1))) [.d (sqD b O), .l ((plUp O 0).map nD), .no, .no] (finT (.lst ((placesL O).map nD))) := by
    intro b
    have inv : ∃ Iv : Nat → List Sl → Prop, (wipeOk [.d (sqD b O), .l ((plUp O 0).map nD), .no, .no] [2, 3] = true ∧ Iv 0 (dropW [.d (sqD b O), .l ((plUp O 0).map nD), .no, .no] [2, 3])) ∧
        (∀ i ρ', i < (O.map nD).length → Iv i ρ' → GgD C (gSeq K 2 (gCons (gName 2) (gCons (gName 3) gNil))) (.tup [.int (i : Nat), ((O.map nD)[i]?).getD .non]) ρ' fun ρ2 => Sj C (tAsg (tVar 2) (gSub (tVar 1) (tVar 3) rSetL)) ρ2 ⟨fun ρ => wipeOk ρ [2, 3] = true ∧ Iv (i + 1) (dropW ρ [2, 3]), fun ρ' => Sj C (tRet (tVar 1)) ρ' (finT (.lst ((placesL O).map nD))), fun ρ => wipeOk ρ [2, 3] = true ∧ Iv (i + 1) (dropW ρ [2, 3]), fun s _ => s = .d (.lst ((placesL O).map nD))⟩) ∧ ∀ ρ', Iv (O.map nD).length ρ' → Sj C (tRet (tVar 1)) ρ' (finT (.lst ((placesL O).map nD))) := by
      refine ⟨fun i ρ => ρ = [.d (sqD b O), .l ((plUp O i).map nD), .no, .no], ⟨rfl, rfl⟩, ?_, ?_⟩
      · rintro i ρ hi rfl
        rw [List.length_map] at hi
        have ei : ((O.map nD)[i]?).getD .non = .int (O[i] : Nat) := by rw [List.getElem?_map, List.getElem?_eq_getElem hi]; rfl
        rw [ei]
        have hO : O[i] < O.length := List.mem_range.mp (h.1.mem_iff.mp (List.getElem_mem hi))
        walk_at "tg"
        refine y_setO ?_
        walk_at "g"
        refine ⟨_, _, O[i], rfl, ixN_nat (by rw [List.length_map, plUp_len]; exact hO), rfl, ?_⟩
        show [Sl.d _, Sl.l (((plUp O i).map nD).set O[i] (nD i)), Sl.no, Sl.no] = _
        rw [← List.map_set, plUp_succ h.1 hi]
      · rintro ρ rfl
        rw [List.length_map, plUp_end h.1]
        refine y_ret (evd_frz (i := 1) rfl ?_)
        walk_at "g"
        rfl
    cases b with
    | true =>
      refine z_forW [2, 3] (wk_enumL ?_)
      show EvA C (tCons (tVar 0) tNil) [.d (.lst (O.map nD)), .l ((plUp O 0).map nD), .no, .no] _
      walk_at "g"
      exact ⟨_, rfl, inv⟩
    | false =>
      refine z_forW [2, 3] (wk_enumT ?_)
      show EvA C (tCons (tVar 0) tNil) [.d (.tup (O.map nD)), .l ((plUp O 0).map nD), .no, .no] _
      walk_at "g"
      exact ⟨_, rfl, inv⟩
  refine sq_own (ev_opL ?_)
  have rr := rest b
  rw [plUp_zero] at rr
  cases b with
  | true =>
    show EvD C _ [.d (.lst (O.map nD)), .no, .no, .no] _
    walk_at "g"
    rw [List.length_map]
    refine opl_rep (by omega) (by omega) (by simp; omega) ?_
    rw [Int.toNat_natCast]
    exact ⟨rfl, rfl, rr⟩
  | false =>
    show EvD C _ [.d (.tup (O.map nD)), .no, .no, .no] _
    walk_at "g"
    rw [List.length_map]
    refine opl_rep (by omega) (by omega) (by simp; omega) ?_
    rw [Int.toNat_natCast]
    exact ⟨rfl, rfl, rr⟩
abbrev c_shows : Ctr := CT (fun a : List Nat × Nat × Nat × Nat => [.lst (a.1.map nD), .int a.2.1, .int a.2.2.1, .int a.2.2.2]) (fun a => a.2.1 < a.1.length ∧ a.2.2.1 < a.1.length ∧ a.2.2.2 < a.1.length) (fun a => .bl (showsB a.1 a.2.1 a.2.2.1 a.2.2.2))
-- slots: 0 places 1 youngest 2 oldest 3 between
def tr_shows (K : PySem.W.Frag) : TS :=
  (tRet (tAndV (tChain rLtX rLtX (tVar 2) (tVar 3) (tVar 1)) (tChain rLtX rLtX (tOp (rIx K) (tVar 0) (tVar 1)) (tOp (rIx K) (tVar 0) (tVar 2)) (tOp (rIx K) (tVar 0) (tVar 3)))))

theorem at_pl {P : List Nat} {i : Nat} (h : i < P.length) : atI (P.map nD) (i : Int) = some (.int (pl P i : Nat)) := atI_nat (by unfold pl; rw [List.getElem?_map, List.getElem?_eq_getElem h]; rfl)
theorem dec_cast {a b : Nat} : decide ((a : Int) < (b : Int)) = decide (a < b) := decide_eq_decide.mpr (by omega)
theorem sj_shows {K : PySem.W.Frag} (C : Cc K) (P : List Nat) (y o b : Nat) (hy : y < P.length) (ho : o < P.length) (hb : b < P.length) : Sj C (tr_shows K) [.d (.lst (P.map nD)), .d (.int y), .d (.int o), .d (.int b)] (finT (.bl (showsB P y o b))) := by
  unfold tr_shows showsB
  walk_at "g"
  rw [dec_cast]
  refine spB (fun h => ?_) (fun h => ?_)
  · rw [h]
    walk_at "g"
    rw [dec_cast]
    refine spB (fun h => ?_) (fun h => ?_)
    · rw [h]
      walk_at "g"
      refine opd_ixL (at_pl hy) ?_
      walk_at "g"
      refine opd_ixL (at_pl ho) ?_
      walk_at "g"
      rw [dec_cast]
      refine spB (fun h => ?_) (fun h => ?_)
      · rw [h]
        walk_at "g"
        refine opd_ixL (at_pl hb) ?_
        walk_at "g"
        rw [dec_cast]
        simp
      · rw [h]; rfl
    · rw [h]; rfl
  · rw [h]
    walk_at "g"
    rfl
def barD : Option (Nat × Nat × Nat) → Dt
  | none => .non
  | some (y, o, b) => .tup [.int y, .int o, .int b]
abbrev c_least_barring : Ctr := CT (fun P : List Nat => [.lst (P.map nD)]) (fun P => P.length ≤ 1000) (fun P => barD (lbar P))
-- slots: 0 places 1 many 2 youngest 3 oldest 4 between
abbrev tr_least_barring_0 (K : PySem.W.Frag) : TS :=
  (tSeq (tFor (iRng1 (tCons (tVar 1) tNil)) (gName 2) (tFor (iRng1 (tCons (tVar 2) tNil)) (gName 3) (tIfS (tTest (tOp rLtX (tOp (rIx K) (tVar 0) (tVar 2)) (tOp (rIx K) (tVar 0) (tVar 3)))) (tFor (iRng2 (tCons (tOp rAddX (tVar 3) (tC (.int 1))) (tCons (tVar 2) tNil))) (gName 4) (tIfS (tB (tCall (Ctr.sp K c_shows) [] E0 (tCons (tVar 0) (tCons (tVar 2) (tCons (tVar 3) (tCons (tVar 4) tNil)))))) (tRet (tTup (tCons (tVar 2) (tCons (tVar 3) (tCons (tVar 4) tNil))))) tNext)) tNext)))
    (tRet (tC .non)))
def tr_least_barring (K : PySem.W.Frag) : TS :=
  (tSeq (tAsg (tCB (rLenX K) (tCons (tVar 0) tNil)) (gName 1))
    (tr_least_barring_0 K))

theorem sj_least_barring {K : PySem.W.Frag} (C : Cc K) (P : List Nat) (h : P.length ≤ 1000) : Sj C (tr_least_barring K) [.d (.lst (P.map nD)), .no, .no, .no, .no] (finT (barD (lbar P))) := by
  unfold tr_least_barring
  walk_at "g"
  rw [List.length_map]
  refine z_forW [2, 3, 4] ?_
  walk_at "g"
  refine ⟨_, rfl, by omega, by omega, ?_⟩
  rw [Int.toNat_natCast]
  refine ⟨fun i ρ => (∀ j, j < i → barO P j = none) ∧ ρ = [.d (.lst (P.map nD)), .d (.int P.length), .no, .no, .no], ⟨rfl, fun j hj => by omega, rfl⟩, ?_, ?_⟩
  · rintro y ρ hy ⟨hbe, rfl⟩
    dsimp only
    rw [Int.zero_add]
    walk_at "tg"
    refine y_forW [3, 4] ?_
    walk_at "g"
    refine ⟨_, rfl, by omega, by omega, ?_⟩
    rw [Int.toNat_natCast]
    refine ⟨fun i ρ => (∀ j, j < i → barB P y j = none) ∧ ρ = [.d (.lst (P.map nD)), .d (.int P.length), .d (.int y), .no, .no], ⟨rfl, fun j hj => by omega, rfl⟩, ?_, ?_⟩
    · rintro o ρ ho ⟨hbo, rfl⟩
      dsimp only
      rw [Int.zero_add]
      walk_at "tg"
      walk_at "g"
      refine opd_ixL (at_pl hy) ?_
      walk_at "g"
      refine opd_ixL (at_pl (by omega)) ?_
      walk_at "g"
      rw [dec_cast]
      refine sp2 (fun hlt => ?_) (fun hlt => ?_)
      · refine y_forW [4] ?_
        walk_at "g"
        refine ⟨_, _, rfl, ⟨by omega, by omega, by omega, by omega⟩, ?_⟩
        have en : ((y : Int) - ((o : Int) + 1)).toNat = y - (o + 1) := by omega
        rw [en]
        refine ⟨fun i ρ => (∀ j, j < i → showsB P y o (o + 1 + j) = false) ∧ ρ = [.d (.lst (P.map nD)), .d (.int P.length), .d (.int y), .d (.int o), .no], ⟨rfl, fun j hj => by omega, rfl⟩, ?_, ?_⟩
        · rintro j ρ hj ⟨hbb, rfl⟩
          dsimp only
          rw [show ((o : Int) + 1 + (j : Int)) = ((o + 1 + j : Nat) : Int) by omega]
          walk_at "tg"
          walk_at "g"
          refine ⟨(P, y, o, o + 1 + j), rfl, ⟨hy, by show o < P.length; omega, by show o + 1 + j < P.length; omega⟩, ?_⟩
          walk_at "g"
          refine spB (fun hs => ?_) (fun hs => ?_)
          · walk_at "g"
            have e3 : barB P y o = some (y, o, o + 1 + j) := by
              unfold barB
              rw [if_pos hlt]
              refine find_first' (i := j) (by omega) (fun t ht => ?_) ?_
              · rw [hbb t ht]; rfl
              · rw [show showsB P y o (o + 1 + j) = true from hs]; rfl
            have e2 : barO P y = some (y, o, o + 1 + j) := find_first ho hbo e3
            have e1 : lbar P = some (y, o, o + 1 + j) := find_first hy hbe e2
            rw [e1]
            rfl
          · walk_at "g"
            refine ⟨rfl, fun t ht => ?_, rfl⟩
            by_cases z : t = j
            · rw [z]; exact hs
            · exact hbb t (by omega)
        · rintro ρ hw ⟨hbb, er⟩
          refine drop_more (us := [3]) (vs := [4]) (R := fun ρ => (∀ j, j < o + 1 → barB P y j = none) ∧ ρ = [.d (.lst (P.map nD)), .d (.int P.length), .d (.int y), .no, .no]) hw er rfl ⟨fun t ht => ?_, rfl⟩
          by_cases z : t = o
          · rw [z]
            unfold barB
            rw [if_pos hlt]
            exact find_none' fun u hu => by rw [hbb u hu]; rfl
          · exact hbo t (by omega)
      · walk_at "g"
        refine ⟨rfl, fun t ht => ?_, rfl⟩
        by_cases z : t = o
        · rw [z]
          unfold barB
          rw [if_neg hlt]
        · exact hbo t (by omega)
    · rintro ρ hw ⟨hbo, er⟩
      refine drop_more (us := [2]) (vs := [3, 4]) (R := fun ρ => (∀ j, j < y + 1 → barO P j = none) ∧ ρ = [.d (.lst (P.map nD)), .d (.int P.length), .no, .no, .no]) hw er rfl ⟨fun t ht => ?_, rfl⟩
      by_cases z : t = y
      · rw [z]
        exact find_none hbo
      · exact hbe t (by omega)
  · rintro ρ ⟨hbe, rfl⟩
    walk_at "g"
    have e1 : lbar P = none := find_none hbe
    rw [e1]
    rfl
theorem filterMap_len {f : Nat → Option Dt} {p : Nat → Bool} (h : ∀ j, (f j).isSome = p j) : ∀ l : List Nat, (l.filterMap f).length = (l.filter p).length
  | [] => rfl
  | x :: l => by
    have := h x
    cases e : f x with
    | none => rw [e] at this; rw [List.filterMap_cons_none e, List.filter_cons, if_neg (by rw [← this]; exact Bool.false_ne_true), filterMap_len h l]
    | some d => rw [e] at this; rw [List.filterMap_cons_some e, List.filter_cons, if_pos (show p x = true from this.symm), List.length_cons, List.length_cons, filterMap_len h l]
theorem range'_map (s n : Nat) : List.range' s n = (List.range n).map (s + ·) := by
  rw [List.range_eq_range', List.map_add_range', Nat.add_zero]
def numB (P : List Nat) (d : Dt) : Bool := isWhole d none && decide (toI d < P.length)
def barsB (P : List Nat) (x : Dt) : Bool := match seqOf x with
  | some [a, b, c] => (numB P a && numB P b && numB P c) && showsB P (toI a).toNat (toI b).toNat (toI c).toNat
  | _ => false
theorem barsB_len {P : List Nat} {x : Dt} {ds : List Dt} (h : seqOf x = some ds) (l : ds.length ≠ 3) : barsB P x = false := by
  unfold barsB
  rw [h]
  match ds, l with
  | [], _ => rfl
  | [_], _ => rfl
  | [_, _], _ => rfl
  | [_, _, _], l => exact absurd rfl l
  | _ :: _ :: _ :: _ :: _, _ => rfl
theorem barsB_3 {P : List Nat} {x a b c : Dt} (h : seqOf x = some [a, b, c]) : barsB P x = ((numB P a && numB P b && numB P c) && showsB P (toI a).toNat (toI b).toNat (toI c).toNat) := by
  unfold barsB
  rw [h]
theorem numB_spec {P : List Nat} {d : Dt} (h : numB P d = true) : ∃ n : Nat, d = .int n ∧ n < P.length := by
  unfold numB at h
  obtain ⟨h1, h2⟩ := Bool.and_eq_true_iff.mp h
  obtain ⟨n, rfl, _⟩ := isWhole_spec h1
  have := of_decide_eq_true h2
  have : (n : Int) < P.length := this
  exact ⟨n, rfl, by omega⟩

end
section
/-! the laws' orders: drawn -/
section
variable {K : PySem.W.Frag} {C : Cc K} {ρ : List Sl}
local macro_rules | `(tactic| walk_at "dk") => `(tactic| ((with_reducible refine' evd_drawB ?ha ?_); (case ha => rfl)))
theorem opd_ixQ {R : Dt → Prop} {ds : List Dt} {i : Int} (P : Dt → Prop) (h0 : 0 ≤ i) (h1 : i < ds.length) (hP : ∀ d ∈ ds, P d) (k : ∀ d, P d → R d) : OpD C (rIx K) (.lst ds) (.int i) ρ R := by
  obtain ⟨m, rfl⟩ : ∃ m : Nat, i = m := ⟨i.toNat, by omega⟩
  have hm : m < ds.length := by omega
  exact opd_ixL (atI_nat (List.getElem?_eq_getElem hm)) (k _ (hP _ (List.getElem_mem hm)))
theorem rgD_nD (n : Nat) : rgD (n : Int) = (List.range n).map nD := by
  unfold rgD
  rw [Int.toNat_natCast]
  rfl
theorem era_map {α β : Type} (f : α → β) : ∀ (l : List α) (i : Nat), (l.map f).eraseIdx i = (l.eraseIdx i).map f
  | [], _ => rfl
  | _ :: _, 0 => rfl
  | a :: l, i + 1 => congrArg (f a :: ·) (era_map f l i)
theorem erase_perm {l : List Nat} {i : Nat} (h : i < l.length) : (l[i] :: l.eraseIdx i).Perm l := by
  induction l generalizing i with
  | nil => exact absurd h (Nat.not_lt_zero i)
  | cons a l ih =>
    cases i with
    | zero => exact List.Perm.refl _
    | succ i =>
      show (l[i]'(Nat.lt_of_succ_lt_succ h) :: a :: l.eraseIdx i).Perm (a :: l)
      exact (List.Perm.swap a _ _).trans ((ih (Nat.lt_of_succ_lt_succ h)).cons a)
abbrev c__law_handed : Ctr := CB bgW (fun ds : List Dt => [.lst ds]) (fun b _ => b.c + 10 ≤ 1000000000) (fun b ds s b' => b'.c ≤ b.c + 1 ∧ (s = .d (.lst ds) ∨ s = .d (.tup ds)))
-- slots: 0 bag 1 thing
def tr__law_handed (K : PySem.W.Frag) : TS :=
  (tRet (tOp (rIx K) (tLst (tCons (tVar 1) (tCons (tCB (rTupQ K) (tCons (tVar 1) tNil)) (tCons (tVar 1) tNil)))) (tCall (Ctr.sp K c__law_draw) [] E0 (tCons (tVar 0) (tCons (tC (.int 3)) tNil)))))

theorem sj__law_handed (C : Cc K) (b : Bag) (ds : List Dt) (hc : b.c + 10 ≤ 1000000000) : Sj C (tr__law_handed K) [.w true (bgW b), .d (.lst ds)] (finB bgW (fun s b' => b'.c ≤ b.c + 1 ∧ (s = .d (.lst ds) ∨ s = .d (.tup ds)))) := by
  unfold tr__law_handed
  walk_at "g"
  refine ⟨by omega, by decide, by decide, fun k b1 k0 k1 c1 => ?_⟩
  refine opd_ixQ (fun d => d = .lst ds ∨ d = .tup ds) k0 k1 (fun d hd => ?_) fun d hd => ?_
  · simp only [List.mem_cons, List.not_mem_nil, or_false] at hd
    rcases hd with rfl | rfl | rfl
    · exact .inl rfl
    · exact .inr rfl
    · exact .inl rfl
  · refine ⟨b1, rfl, c1, ?_⟩
    rcases hd with rfl | rfl
    · exact .inl rfl
    · exact .inr rfl
end

end
section
/-! all lists of so many numbers -/
def listsOf : Nat → Nat → List (List Nat)
  | 0, _ => [[]]
  | m + 1, w => (listsOf m w).flatMap fun t => (List.range w).map fun k => t ++ [k]
def nlD (t : List Nat) : Dt := .lst (t.map nD)
theorem lists_len : ∀ m w : Nat, (listsOf m w).length = w ^ m
  | 0, _ => rfl
  | m + 1, w => by
    have : ∀ l : List (List Nat), (l.flatMap fun t => (List.range w).map fun k => t ++ [k]).length = l.length * w := by
      intro l
      induction l with
      | nil => simp
      | cons t l ih => rw [List.flatMap_cons, List.length_append, ih, List.length_map, List.length_range, List.length_cons, Nat.add_mul]; omega
    show (List.flatMap _ _).length = _
    rw [this, lists_len m w, Nat.pow_succ]
theorem lists_mem : ∀ {m w : Nat} {t : List Nat}, t ∈ listsOf m w ↔ t.length = m ∧ ∀ k ∈ t, k < w
  | 0, w, t => by
    show t ∈ [[]] ↔ _
    rw [List.mem_singleton]
    constructor
    · rintro rfl; exact ⟨rfl, fun _ h => nomatch h⟩
    · rintro ⟨h, _⟩; exact List.eq_nil_of_length_eq_zero h
  | m + 1, w, t => by
    show t ∈ List.flatMap _ _ ↔ _
    rw [List.mem_flatMap]
    constructor
    · rintro ⟨u, hu, ht⟩
      obtain ⟨k, hk, rfl⟩ := List.mem_map.mp ht
      obtain ⟨h1, h2⟩ := lists_mem.mp hu
      refine ⟨by simp [h1], fun x hx => ?_⟩
      rcases List.mem_append.mp hx with z | z
      · exact h2 x z
      · rw [List.mem_singleton.mp z]; exact List.mem_range.mp hk
    · rintro ⟨h1, h2⟩
      have hne : t ≠ [] := fun e => by rw [e] at h1; cases h1
      refine ⟨t.dropLast, lists_mem.mpr ⟨by rw [List.length_dropLast]; omega, fun k hk => h2 k (List.dropLast_subset t hk)⟩, List.mem_map.mpr ⟨t.getLast hne, List.mem_range.mpr (h2 _ (List.getLast_mem hne)), List.dropLast_concat_getLast hne⟩⟩
section
variable {K : PySem.W.Frag}
abbrev c__law_lists : Ctr := CT (fun a : Nat × Nat => [.int a.1, .int a.2]) (fun a => a.2 ≤ 100 ∧ a.1 ≤ 100 ∧ ∀ k, k ≤ a.1 → a.2 ^ k ≤ 100000) (fun a => .lst ((listsOf a.1 a.2).map nlD))
-- slots: 0 many 1 wide 2 found 3 turn 4 longer 5 one 6 k
abbrev tr__law_lists_0 (K : PySem.W.Frag) : TS :=
  (tSeq (tFor (iSeq K (tVar 2)) (gName 5) (tDrop (tBM K "list" rExtend (tVar 4) (tCons (tLc (iRng1 (tCons (tVar 1) tNil)) (gName 6) tYes (tOp rAddX (tVar 5) (tLst (tCons (tVar 6) tNil))) [6]) tNil))))
    (tAsg (tVar 4) (gName 2)))
def tr__law_lists (K : PySem.W.Frag) : TS :=
  (tSeq (tAsg (tLst (tCons (tLst tNil) tNil)) (gName 2))
    (tSeq (tFor (iRng1 (tCons (tVar 0) tNil)) (gName 3) (tSeq (tAsg (tLst tNil) (gName 4))
    (tr__law_lists_0 K)))
    (tRet (tVar 2))))

theorem sj__law_lists (C : Cc K) (m w : Nat) (hw : w ≤ 100) (hm : m ≤ 100) (hk : ∀ k, k ≤ m → w ^ k ≤ 100000) : Sj C (tr__law_lists K) [.d (.int m), .d (.int w), .no, .no, .no, .no, .no] (finT (.lst ((listsOf m w).map nlD))) := by
  unfold tr__law_lists
  walk_at "g"
  refine z_forW [3, 4, 5, 6] ?_
  walk_at "g"
  refine ⟨(m : Int), rfl, by omega, by omega, ?_⟩
  rw [Int.toNat_natCast]
  refine ⟨fun i ρ => ρ = [.d (.int m), .d (.int w), .d (.lst ((listsOf i w).map nlD)), .no, .no, .no, .no], ⟨rfl, rfl⟩, ?_, ?_⟩
  · rintro i ρ hi rfl
    have bnd : ∀ j, j ≤ (listsOf i w).length → j * w + w ≤ 1000000 := fun j hj => by
      rw [lists_len] at hj
      have := hk i (by omega)
      have : j * w ≤ 100000 * w := Nat.mul_le_mul_right w (by omega)
      have : 100000 * w ≤ 100000 * 100 := Nat.mul_le_mul_left _ hw
      have := hk (i + 1) hi
      rw [Nat.pow_succ] at this
      have : j * w ≤ w ^ i * w := Nat.mul_le_mul_right w hj
      omega
    walk_at "tg"
    refine sq_own (ev_lst ?_)
    walk_at "x"
    refine ⟨rfl, ?_⟩
    refine z_forW [5, 6] ?_
    walk_at "g"
    refine ⟨fun j ρ => ρ = [.d (.int m), .d (.int w), .d (.lst ((listsOf i w).map nlD)), .d (.int ((0 : Int) + (i : Int))), .l ((((listsOf i w).take j).flatMap fun t => (List.range w).map fun k => t ++ [k]).map nlD), .no, .no], ⟨rfl, rfl⟩, ?_, ?_⟩
    · rintro j ρ hj rfl
      rw [List.length_map] at hj
      have ej : (((listsOf i w).map nlD)[j]?).getD .non = .lst ((listsOf i w)[j].map nD) := by rw [List.getElem?_map, List.getElem?_eq_getElem hj]; rfl
      have et : (listsOf i w).take (j + 1) = (listsOf i w).take j ++ [(listsOf i w)[j]] := (List.take_append_getElem hj).symm
      have lt : (listsOf i w)[j].length = i := (lists_mem.mp (List.getElem_mem hj)).1
      dsimp only
      rw [ej, et]
      generalize (listsOf i w)[j] = t at *
      walk_at "tg"
      refine y_extend rfl (evd_lcF (tg_name (List.mem_singleton.mpr rfl)) ?_)
      walk_at "x"
      refine ⟨(w : Int), rfl, by omega, by omega, rfl, rfl, by omega, ?_⟩
      rw [Int.toNat_natCast]
      refine ⟨fun k => some (nlD (t ++ [k])), fun C' k hk' => ?_, ?_⟩
      · walk_at "tg"
        walk_at "x"
        refine opd_addL (by rw [List.length_map, lt]; show i + 1 ≤ 1000000; omega) ?_
        refine ⟨rfl, rfl, ?_⟩
        show some (Dt.lst ((t ++ [k]).map nD)) = some (Dt.lst (t.map nD ++ [Dt.int ((0 : Int) + (k : Int))]))
        rw [List.map_append, Int.zero_add]
        rfl
      · have e : (List.range w).filterMap (fun k => some (nlD (t ++ [k]))) = ((List.range w).map fun k => t ++ [k]).map nlD := by
          rw [List.map_map]
          have : ∀ l : List Nat, l.filterMap (fun k => some (nlD (t ++ [k]))) = l.map (nlD ∘ fun k => t ++ [k]) := fun l => by
            induction l with
            | nil => rfl
            | cons a l ih => exact congrArg (nlD (t ++ [a]) :: ·) ih
          exact this _
        rw [e]
        have lf : ∀ l : List (List Nat), (l.flatMap fun t => (List.range w).map fun k => t ++ [k]).length = l.length * w := by
          intro l
          induction l with
          | nil => simp
          | cons t l ih => rw [List.flatMap_cons, List.length_append, ih, List.length_map, List.length_range, List.length_cons, Nat.add_mul]; omega
        refine asL_i ⟨_, _, rfl, ?_, rfl, ?_⟩
        · rw [List.length_map, List.length_map, List.length_map, List.length_range, lf, List.length_take]
          have := bnd (min j (listsOf i w).length) (Nat.min_le_right _ _)
          omega
        · show _ = _
          rw [List.flatMap_append, List.map_append]
          simp only [List.flatMap_cons, List.flatMap_nil, List.append_nil]
          rfl
    · rintro ρ rfl
      refine y_set (evd_frz (i := 4) rfl ?_)
      walk_at "x"
      refine ⟨rfl, ?_⟩
      rw [List.length_map, List.take_length]
      rfl
  · rintro ρ rfl
    walk_at "g"
    rfl
end

end
section
/-! orders of all -/
section
variable {K : PySem.W.Frag}
local macro_rules | `(tactic| walk_at "dk") => `(tactic| ((with_reducible refine' evd_draw ?ha ?_); (case ha => rfl)))
def keyI (O : List Nat) : List Int := O.map fun n : Nat => (n : Int)
theorem keyI_inj {a b : List Nat} (h : keyI a = keyI b) : a = b := by
  unfold keyI at h
  exact (List.map_inj_right (fun x y e => Int.ofNat.inj e)).mp h
theorem keyI_tup (O : List Nat) : Dt.tup (O.map nD) = .tup ((keyI O).map Dt.int) := by
  unfold keyI
  rw [List.map_map]
  rfl
abbrev qN (t : List Nat) : List Nat := qL (t.map some)
/-- all orders of so many -/
def allO : Nat → List (List Nat)
  | 0 => [[]]
  | m + 1 => (allO m).flatMap fun t => (List.range (m + 1)).map fun a => t.take a ++ [m] ++ t.drop a
theorem flat_len {f : List Nat → Nat → List Nat} (w : Nat) : ∀ l : List (List Nat), (l.flatMap fun t => (List.range w).map (f t)).length = l.length * w
  | [] => by simp
  | t :: l => by rw [List.flatMap_cons, List.length_append, flat_len w l, List.length_map, List.length_range, List.length_cons, Nat.add_mul]; omega
theorem allO_len : ∀ m, (∀ t ∈ allO m, t.length = m)
  | 0 => fun t ht => by rw [List.mem_singleton.mp ht]; rfl
  | m + 1 => fun t ht => by
    obtain ⟨u, hu, ht⟩ := List.mem_flatMap.mp ht
    obtain ⟨a, ha, rfl⟩ := List.mem_map.mp ht
    have := allO_len m u hu
    have := List.mem_range.mp ha
    rw [List.length_append, List.length_append, List.length_take, List.length_drop]
    show min a u.length + 1 + (u.length - a) = m + 1
    omega
theorem allO_few : ∀ m, m ≤ 5 → (allO m).length ≤ 120 := by decide
abbrev c__law_all_orders : Ctr := CT (fun m : Nat => [.int m]) (fun m => m ≤ 5) (fun m => .lst ((allO m).map nlD))
-- slots: 0 many 1 found 2 person 3 longer 4 one 5 at
abbrev tr__law_all_orders_0 (K : PySem.W.Frag) : TS :=
  (tSeq (tFor (iSeq K (tVar 1)) (gName 4) (tDrop (tBM K "list" rExtend (tVar 3) (tCons (tLc (iRng1 (tCons (tOp rAddX (tVar 2) (tC (.int 1))) tNil)) (gName 5) tYes (tOp rAddX (tOp rAddX (tSl (rSlX K) (tVar 4) tNoPart (tPart (tVar 5))) (tLst (tCons (tVar 2) tNil))) (tSl (rSlX K) (tVar 4) (tPart (tVar 5)) tNoPart)) [5]) tNil))))
    (tAsg (tVar 3) (gName 1)))
def tr__law_all_orders (K : PySem.W.Frag) : TS :=
  (tSeq (tAsg (tLst (tCons (tLst tNil) tNil)) (gName 1))
    (tSeq (tFor (iRng1 (tCons (tVar 0) tNil)) (gName 2) (tSeq (tAsg (tLst tNil) (gName 3))
    (tr__law_all_orders_0 K)))
    (tRet (tVar 1))))

theorem sj__law_all_orders (C : Cc K) (m : Nat) (hm : m ≤ 5) : Sj C (tr__law_all_orders K) [.d (.int m), .no, .no, .no, .no, .no] (finT (.lst ((allO m).map nlD))) := by
  unfold tr__law_all_orders
  walk_at "g"
  refine z_forW [2, 3, 4, 5] ?_
  walk_at "g"
  refine ⟨(m : Int), rfl, by omega, by omega, ?_⟩
  rw [Int.toNat_natCast]
  refine ⟨fun i ρ => ρ = [.d (.int m), .d (.lst ((allO i).map nlD)), .no, .no, .no, .no], ⟨rfl, rfl⟩, ?_, ?_⟩
  · rintro i ρ hi rfl
    have few := allO_few i (by omega)
    walk_at "tg"
    refine sq_own (ev_lst ?_)
    walk_at "x"
    refine ⟨rfl, ?_⟩
    unfold tr__law_all_orders_0
    refine z_forW [4, 5] ?_
    walk_at "g"
    refine ⟨fun j ρ => ρ = [.d (.int m), .d (.lst ((allO i).map nlD)), .d (.int ((0 : Int) + (i : Int))), .l ((((allO i).take j).flatMap fun t => (List.range (i + 1)).map fun a => t.take a ++ [i] ++ t.drop a).map nlD), .no, .no], ⟨rfl, rfl⟩, ?_, ?_⟩
    · rintro j ρ hj rfl
      rw [List.length_map] at hj
      have ej : (((allO i).map nlD)[j]?).getD .non = .lst ((allO i)[j].map nD) := by rw [List.getElem?_map, List.getElem?_eq_getElem hj]; rfl
      have et : (allO i).take (j + 1) = (allO i).take j ++ [(allO i)[j]] := (List.take_append_getElem hj).symm
      have lt : (allO i)[j].length = i := allO_len i _ (List.getElem_mem hj)
      dsimp only
      rw [ej, et]
      generalize (allO i)[j] = t at *
      walk_at "tg"
      refine y_extend rfl (evd_lcF (tg_name (List.mem_singleton.mpr rfl)) ?_)
      walk_at "x"
      refine ⟨((i + 1 : Nat) : Int), by rw [show (0 : Int) + (i : Int) + 1 = ((i + 1 : Nat) : Int) by omega], by omega, by omega, rfl, rfl, by omega, ?_⟩
      rw [Int.toNat_natCast]
      refine ⟨fun a => some (nlD (t.take a ++ [i] ++ t.drop a)), fun C' a ha => ?_, ?_⟩
      · walk_at "tg"
        walk_at "x"
        rw [show (0 : Int) + (a : Int) = (a : Int) by omega]
        rw [cutD_take _ _ (by rw [List.length_map, lt]; omega)]
        refine opd_addL (by rw [List.length_take, List.length_map]; show _ + 1 ≤ 1000000; omega) ?_
        walk_at "x"
        rw [show (0 : Int) + (a : Int) = (a : Int) by omega]
        rw [cutD_drop _ _ (by rw [List.length_map, lt]; omega)]
        refine opd_addL (by rw [List.length_append, List.length_take, List.length_drop, List.length_map]; show _ + 1 + _ ≤ 1000000; omega) ⟨rfl, rfl, ?_⟩
        show some (Dt.lst ((t.take a ++ [i] ++ t.drop a).map nD)) = some (Dt.lst ((t.map nD).take a ++ [Dt.int ((0 : Int) + (i : Int))] ++ (t.map nD).drop a))
        rw [List.map_append, List.map_append, List.map_take, List.map_drop, Int.zero_add]
        rfl
      · have e : (List.range (i + 1)).filterMap (fun a => some (nlD (t.take a ++ [i] ++ t.drop a))) = ((List.range (i + 1)).map fun a => t.take a ++ [i] ++ t.drop a).map nlD := by
          rw [List.map_map]
          have : ∀ l : List Nat, l.filterMap (fun a => some (nlD (t.take a ++ [i] ++ t.drop a))) = l.map (nlD ∘ fun a => t.take a ++ [i] ++ t.drop a) := fun l => by
            induction l with
            | nil => rfl
            | cons a l ih => exact congrArg (nlD (t.take a ++ [i] ++ t.drop a) :: ·) ih
          exact this _
        rw [e]
        refine asL_i ⟨_, _, rfl, ?_, rfl, ?_⟩
        · rw [List.length_map, List.length_map, List.length_map, List.length_range, flat_len (i + 1), List.length_take]
          have : min j (allO i).length * (i + 1) ≤ 120 * 6 := Nat.mul_le_mul (by omega) (by omega)
          omega
        · show _ = _
          rw [List.flatMap_append, List.map_append]
          simp only [List.flatMap_cons, List.flatMap_nil, List.append_nil]
          rfl
    · rintro ρ rfl
      refine y_set (evd_frz (i := 3) rfl ?_)
      walk_at "x"
      refine ⟨rfl, ?_⟩
      rw [List.length_map, List.take_length]
      rfl
  · rintro ρ rfl
    walk_at "g"
    rfl
/-! orders of all -/
theorem ins_perm (t : List Nat) (a m : Nat) : (t.take a ++ [m] ++ t.drop a).Perm (m :: t) := by
  rw [List.append_assoc]
  refine (List.perm_middle (l₁ := t.take a) (l₂ := t.drop a) (a := m)).trans ?_
  rw [List.take_append_drop]
theorem allO_perm : ∀ m, ∀ t ∈ allO m, t.Perm (List.range m)
  | 0 => fun t ht => by rw [List.mem_singleton.mp ht]; exact List.Perm.refl _
  | m + 1 => fun t ht => by
    obtain ⟨u, hu, ht⟩ := List.mem_flatMap.mp ht
    obtain ⟨a, ha, rfl⟩ := List.mem_map.mp ht
    rw [List.range_succ]
    refine (ins_perm u a m).trans ?_
    refine (List.Perm.cons m (allO_perm m u hu)).trans ?_
    exact (List.perm_append_singleton m (List.range m)).symm
theorem allO_ord {m : Nat} (hm : m ≤ 5) {O : List Nat} (h : O ∈ allO m) : OrdOk O := by
  have l := allO_len m O h
  refine ⟨?_, by omega⟩
  rw [l]
  exact allO_perm m O h
theorem ne_same {C : Cc K} {ρ : List Sl} {R : Dt → Prop} (O : List Nat) (k : R (.bl false)) : OpD C (rNeD K) (.lst (O.map nD)) (.lst (O.map nD)) ρ R := by
  have f : Fn 64 (.lst (O.map nD)) := fn_lst (n := 63) fun d hd => by
    obtain ⟨k, _, rfl⟩ := List.mem_map.mp hd
    exact fn_int
  exact opd_ne f f (by rw [dEq_refl _ 64 f]; exact k)
theorem list_sq {C : Cc K} {ρ : List Sl} {R : Dt → Prop} (q : Bool) (O : List Nat) (k : R (.lst (O.map nD))) : CaD C (rListQ K) [sqD q O] ρ R := by
  cases q
  · exact cad_l (cal_listT k)
  · exact cad_l (cal_listL k)
theorem y_fgtL {C : Cc K} {ρ : List Sl} {ts : TS} {nx bk ct : List Sl → Prop} {rt : Sl → List Sl → Prop} (vs : List Nat) (h : Sj C ts ρ ⟨fun ρ' => nx (dropW ρ' vs), bk, ct, rt⟩) : Sj C ts ρ ⟨nx, bk, ct, rt⟩ := sj_fgtL (P := ⟨nx, bk, ct, rt⟩) vs h
theorem wipe_end {ρ' : List Sl} {vs us : List Nat} {L : List Sl} {n : Nat} (e : dropW ρ' vs = L) (h : ∀ v ∈ vs, v ∈ us) (hn : L.length = n) (hl : ∀ u ∈ us, u < n) : wipeOk (dropW ρ' us) us = true ∧ dropW (dropW ρ' us) us = dropW L us := by
  have len : ρ'.length = n := by
    have := dropW_len ρ' vs
    rw [e, hn] at this
    exact this.symm
  refine ⟨List.all_eq_true.mpr fun i hi => ?_, ?_⟩
  · rw [dropW_at hi (by rw [len]; exact hl i hi)]
  · rw [dropW_more (vs := us) (fun v h => h), ← dropW_more (vs := vs) h, e]
end

end
section
/-! least patiences, by all -/
section
variable {K : PySem.W.Frag}
local macro_rules | `(tactic| walk_at "dk") => `(tactic| ((with_reducible refine' evd_draw ?ha ?_); (case ha => rfl)))
theorem valL_add (k j : List Int) (d : Dt) : ∀ m : List (List Int × List Dt), valL (addL m k d) j = if j = k then some ((valL m k).getD [] ++ [d]) else valL m j
  | [] => by
    show (if k = j then some [d] else none) = _
    by_cases h : j = k
    · rw [if_pos h.symm, if_pos h]; rfl
    · rw [if_neg (Ne.symm h), if_neg h]; rfl
  | (i, ds) :: r => by
    unfold addL
    by_cases c : i = k
    · subst c
      rw [if_pos rfl]
      show (if i = j then some (ds ++ [d]) else valL r j) = if j = i then some (((if i = i then some ds else valL r i) : Option (List Dt)).getD [] ++ [d]) else (if i = j then some ds else valL r j)
      by_cases h : j = i
      · rw [if_pos h.symm, if_pos h, if_pos rfl]; rfl
      · rw [if_neg (Ne.symm h), if_neg h, if_neg (Ne.symm h)]
    · rw [if_neg c]
      show (if i = j then some ds else valL (addL r k d) j) = if j = k then some (((if i = k then some ds else valL r k) : Option (List Dt)).getD [] ++ [d]) else (if i = j then some ds else valL r j)
      rw [if_neg c, valL_add k j d r]
      by_cases h : i = j
      · subst h
        rw [if_pos rfl, if_neg c, if_pos rfl]
      · rw [if_neg h, if_neg h]
theorem addL_len (k : List Int) (d : Dt) : ∀ m : List (List Int × List Dt), (addL m k d).length ≤ m.length + 1
  | [] => by simp [addL]
  | (i, ds) :: r => by
    unfold addL
    split
    · simp
    · have := addL_len k d r
      simp only [List.length_cons]
      omega
def addT (m : List (List Int × List Dt)) (t : List Nat) : List (List Int × List Dt) := addL m (keyI (qN t)) (nlD t)
def madeF (ts : List (List Nat)) : List (List Int × List Dt) := ts.foldl addT []
theorem made_val (O : List Nat) : ∀ (ts : List (List Nat)) (m : List (List Int × List Dt)), valL (ts.foldl addT m) (keyI O) = if ts.filter (fun t => decide (qN t = O)) = [] then valL m (keyI O) else some ((valL m (keyI O)).getD [] ++ (ts.filter fun t => decide (qN t = O)).map nlD)
  | [], m => by simp
  | t :: ts, m => by
    rw [List.foldl_cons, made_val O ts]
    have e : valL (addT m t) (keyI O) = if qN t = O then some ((valL m (keyI O)).getD [] ++ [nlD t]) else valL m (keyI O) := by
      unfold addT
      rw [valL_add]
      by_cases c : qN t = O
      · rw [if_pos (by rw [c]), if_pos c, c]
      · rw [if_neg (fun z => c (keyI_inj z).symm), if_neg c]
    rw [e]
    by_cases c : qN t = O
    · rw [if_pos c, List.filter_cons_of_pos (by rw [decide_eq_true c])]
      rw [if_neg (List.cons_ne_nil _ _), List.map_cons]
      by_cases z : ts.filter (fun t => decide (qN t = O)) = []
      · rw [if_pos z, z]; rfl
      · rw [if_neg z, Option.getD_some, List.append_assoc]; rfl
    · rw [if_neg c, List.filter_cons_of_neg (by rw [decide_eq_false c]; exact Bool.false_ne_true)]
theorem made_len : ∀ (ts : List (List Nat)) (m : List (List Int × List Dt)), (ts.foldl addT m).length ≤ m.length + ts.length
  | [], m => Nat.le_refl _
  | t :: ts, m => by
    rw [List.foldl_cons]
    have := made_len ts (addT m t)
    have := addL_len (keyI (qN t)) (nlD t) m
    unfold addT at *
    rw [List.length_cons]
    omega
theorem frz_val (k : List Int) : ∀ m : List (List Int × List Dt), valT (frzM m) k = (valL m k).map Dt.lst
  | [] => rfl
  | (j, ds) :: r => by
    show (if j = k then some (Dt.lst ds) else valT (frzM r) k) = ((if j = k then some ds else valL r k) : Option (List Dt)).map Dt.lst
    rw [frz_val k r]
    split <;> rfl
abbrev c__law_made : Ctr := CR (fun m : Nat => [.int m]) (fun m => m ≤ 5) (fun m s => s = .w false (dtw (frzM (madeF (listsOf m (max 1 m))))))
-- slots: 0 many 1 found 2 patiences
abbrev tr__law_made_0 (K : PySem.W.Frag) : TS :=
  (tSeq (tFor (iSeq K (tCall (Ctr.sp K c__law_lists) [] E0 (tCons (tVar 0) (tCons (tCB rMax2X (tCons (tC (.int 1)) (tCons (tVar 0) tNil))) tNil)))) (gName 2) (tDrop (tBM K "list" rAppend (tSetdT (tVar 1) (tCB (rTupQ K) (tCons (tCall (Ctr.sp K c__law_queue) [] E0 (tCons (tVar 2) tNil)) tNil)) (tLst tNil)) (tCons (tVar 2) tNil))))
    (tRet (tVar 1)))
def tr__law_made (K : PySem.W.Frag) : TS :=
  (tSeq (tAsg tDNewT (gName 1))
    (tr__law_made_0 K))

theorem sj__law_made (C : Cc K) (m : Nat) (hm : m ≤ 5) : Sj C (tr__law_made K) [.d (.int m), .no, .no] (finR fun s => s = .w false (dtw (frzM (madeF (listsOf m (max 1 m)))))) := by
  have w5 : max 1 m ≤ 5 := by omega
  have pw : ∀ k, k ≤ m → (max 1 m) ^ k ≤ 100000 := fun k hk => Nat.le_trans (Nat.pow_le_pow_left w5 k) (Nat.le_trans (Nat.pow_le_pow_right (by decide) (show k ≤ 5 by omega)) (by decide))
  have tl : (listsOf m (max 1 m)).length ≤ 100000 := by rw [lists_len]; exact pw m (Nat.le_refl m)
  unfold tr__law_made
  refine sq_own (ev_dnewL ⟨rfl, rfl, ?_⟩)
  unfold tr__law_made_0
  refine z_forW [2] (wk_seq ?_)
  walk_at "x"
  have em : (if (m : Int) > 1 then (m : Int) else 1) = ((max 1 m : Nat) : Int) := by split <;> omega
  rw [em]
  refine ⟨(m, max 1 m), rfl, ⟨by dsimp only; omega, by dsimp only; omega, pw⟩, asQ_l ?_⟩
  dsimp only
  have tm : ∀ t ∈ listsOf m (max 1 m), t.length = m := fun t ht => (lists_mem.mp ht).1
  generalize listsOf m (max 1 m) = ts at *
  refine ⟨fun j ρ => ρ = [.d (.int m), .w false (dlw (madeF (ts.take j))), .no], ⟨rfl, rfl⟩, ?_, ?_⟩
  · rintro j ρ hj rfl
    rw [List.length_map] at hj
    have ej : ((ts.map nlD)[j]?).getD .non = .lst (ts[j].map nD) := by rw [List.getElem?_map, List.getElem?_eq_getElem hj]; rfl
    have et : ts.take (j + 1) = ts.take j ++ [ts[j]] := (List.take_append_getElem hj).symm
    have ea : madeF (ts.take (j + 1)) = addT (madeF (ts.take j)) ts[j] := by
      unfold madeF
      rw [et, List.foldl_append]
      rfl
    have ml : (madeF (ts.take j)).length ≤ ts.length := by
      have := made_len (ts.take j) []
      unfold madeF
      rw [List.length_take] at this
      simp only [List.length_nil] at this
      omega
    have vl : ∀ ds, valL (madeF (ts.take j)) (keyI (qN ts[j])) = some ds → ds.length < 1000000 := fun ds e => by
      unfold madeF at e
      rw [made_val] at e
      split at e
      · cases e
      · cases e
        have := List.length_filter_le (fun t => decide (qN t = qN ts[j])) (ts.take j)
        rw [List.length_take] at this
        show ([] ++ List.map nlD _).length < _
        rw [List.nil_append, List.length_map]
        omega
    dsimp only
    rw [ej, ea]
    have lt := tm ts[j] (List.getElem_mem hj)
    generalize ts[j] = t at *
    walk_at "tg"
    refine sj_setd (i := 1) (j := 2) rfl rfl (by omega) fun C' => ?_
    walk_at "x"
    refine ⟨t.map some, by rw [List.map_map]; rfl, by rw [List.length_map]; omega, ?_⟩
    rintro s rfl
    refine asF_l ?_
    walk_at "x"
    exact ⟨rfl, keyI (qN t), keyI_tup _, vl, rfl, rfl⟩
  · rintro ρ rfl
    rw [List.length_map, List.take_length]
    refine sj_cvt (i := 1) rfl ?_
    exact y_retO rfl rfl
end

end
section
/-! least patiences, by all: the law -/
section
variable {K : PySem.W.Frag}
local macro_rules | `(tactic| walk_at "dk") => `(tactic| ((with_reducible refine' evd_draw ?ha ?_); (case ha => rfl)))
abbrev c_gone_past : Ctr := CR (fun P : List Nat => [.lst (P.map nD)]) (fun P => P.length ≤ 1000) (fun P s => s = .l ((gpL P).map nD))
-- slots: 0 places 1 many 2 one 3 later
abbrev tr_gone_past_0 (K : PySem.W.Frag) : TS :=
  (tRet (tLc (iRng1 (tCons (tVar 1) tNil)) (gName 2) tYes (tCB (rLenX K) (tCons (tLc (iRng2 (tCons (tOp rAddX (tVar 2) (tC (.int 1))) (tCons (tVar 1) tNil))) (gName 3) (tTest (tOp rLtX (tOp (rIx K) (tVar 0) (tVar 3)) (tOp (rIx K) (tVar 0) (tVar 2)))) (tC (.int 1)) [3]) tNil)) [2]))
def tr_gone_past (K : PySem.W.Frag) : TS :=
  (tSeq (tAsg (tCB (rLenX K) (tCons (tVar 0) tNil)) (gName 1))
    (tr_gone_past_0 K))

theorem sj_gone_past (C : Cc K) (P : List Nat) (h : P.length ≤ 1000) : Sj C (tr_gone_past K) [.d (.lst (P.map nD)), .no, .no, .no] (finR fun s => s = .l ((gpL P).map nD)) := by
  unfold tr_gone_past
  refine sq_set ?_
  walk_at "x"
  rw [List.length_map]
  unfold tr_gone_past_0
  refine sj_retS (ev_lcF (tg_name (List.mem_singleton.mpr rfl)) ?_)
  walk_at "x"
  refine ⟨_, rfl, by omega, by omega, rfl, rfl, by omega, fun i => some (nD (gpOf P i)), ?_, ?_⟩
  · intro C' i hi
    have hi' : i < P.length := by omega
    dsimp only
    rw [Int.zero_add]
    walk_at "g"
    refine evd_lcF (tg_name (List.mem_singleton.mpr rfl)) ?_
    walk_at "g"
    refine ⟨_, _, rfl, ⟨by omega, by omega, by omega, by omega⟩, rfl, rfl, by omega, fun j => if pl P (i + 1 + j) < pl P i then some (.int 1) else none, ?_, ?_⟩
    · intro C'' j hj
      have hj' : i + 1 + j < P.length := by omega
      dsimp only
      rw [show ((i : Int) + 1 + (j : Int)) = ((i + 1 + j : Nat) : Int) by omega]
      walk_at "g"
      refine opd_ixL (at_pl hj') ?_
      walk_at "g"
      refine opd_ixL (at_pl hi') ?_
      walk_at "g"
      rw [dec_cast]
      refine sp2 (fun hlt => ?_) (fun hlt => ?_)
      · walk_at "g"
        exact ⟨rfl, rfl, by rw [if_pos hlt]⟩
      · exact ⟨rfl, rfl, by rw [if_neg hlt]⟩
    · walk_at "g"
      refine ⟨rfl, rfl, ?_⟩
      show some (nD (gpOf P i)) = some (Dt.int _)
      congr 1
      unfold nD gpOf
      congr 2
      symm
      rw [show ((P.length : Int) - ((i : Int) + 1)).toNat = P.length - (i + 1) by omega, range'_map, List.filter_map, List.length_map]
      refine filterMap_len (fun j => ?_) _
      show Option.isSome (if _ then _ else _) = decide (pl P (i + 1 + j) < pl P i)
      by_cases c : pl P (i + 1 + j) < pl P i
      · rw [if_pos c, decide_eq_true c]; rfl
      · rw [if_neg c, decide_eq_false c]; rfl
  · rw [Int.toNat_natCast]
    show Sl.l _ = Sl.l _
    congr 1
    unfold gpL
    rw [List.map_map, List.filterMap_eq_map']
    rfl
abbrev c_least_patiences : Ctr := CR (fun a : Bool × List Nat => [sqD a.1 a.2]) (fun a => OrdOk a.2) (fun a s => if lbar (placesL a.2) = none then s = .l ((gpL (placesL a.2)).map nD) else s = .d .non)
-- slots: 0 order 1 places
abbrev tr_least_patiences_0 (K : PySem.W.Frag) : TS :=
  (tRet (tIf (tTest (tOp rIsN' (tCall (Ctr.sp K c_least_barring) [] E0 (tCons (tVar 1) tNil)) (tC .non))) (tCall (Ctr.sp K c_gone_past) [] E0 (tCons (tVar 1) tNil)) (tC .non)))
def tr_least_patiences (K : PySem.W.Frag) : TS :=
  (tSeq (tAsg (tCall (Ctr.sp K c_places_of) [] E0 (tCons (tVar 0) tNil)) (gName 1))
    (tr_least_patiences_0 K))

theorem sj_least_patiences (C : Cc K) (b : Bool) (O : List Nat) (h : OrdOk O) : Sj C (tr_least_patiences K) [.d (sqD b O), .no] (finR fun s => if lbar (placesL O) = none then s = .l ((gpL (placesL O)).map nD) else s = .d .non) := by
  have h60 := h.2
  have hl := placesL_len O
  unfold tr_least_patiences
  refine sq_set ?_
  walk_at "x"
  refine ⟨(b, O), rfl, h, rfl, ?_⟩
  unfold tr_least_patiences_0
  refine sj_retS (ev_if ?_)
  walk_at "x"
  refine ⟨placesL O, rfl, by omega, ?_⟩
  cases e : lbar (placesL O) with
  | none =>
    walk_at "x"
    refine ev_callR ?_
    walk_at "x"
    refine ⟨placesL O, rfl, by omega, ?_⟩
    rintro s rfl
    refine ⟨rfl, ?_⟩
    simp [finR]
  | some t =>
    obtain ⟨y, o, b⟩ := t
    walk_at "x"
    refine ev_d ?_
    walk_at "x"
    simp [finR]
theorem all33 : ((List.range 6).all fun m => (allO m).all fun O => !(lbar (placesL O)).isNone || decide (qN (gpL (placesL O)) = O)) = true := by decide +kernel
theorem fin33 {m : Nat} (hm : m ≤ 5) {O : List Nat} (h : O ∈ allO m) (hb : lbar (placesL O) = none) : qN (gpL (placesL O)) = O := by
  have := List.all_eq_true.mp (List.all_eq_true.mp all33 m (List.mem_range.mpr (by omega))) O h
  rw [hb] at this
  exact of_decide_eq_true this
/-- the lists that make an order -/
abbrev lotsF (m : Nat) (O : List Nat) : List (List Nat) := (listsOf m (max 1 m)).filter fun t => decide (qN t = O)
theorem lots_gp {m : Nat} (hm : m ≤ 5) {O : List Nat} (h : O ∈ allO m) (hb : lbar (placesL O) = none) : gpL (placesL O) ∈ lotsF m O := by
  have l := allO_len m O h
  refine List.mem_filter.mpr ⟨lists_mem.mpr ⟨by rw [gpL_len, placesL_len, l], fun k hk => ?_⟩, decide_eq_true (fin33 hm h hb)⟩
  obtain ⟨i, hi, rfl⟩ := List.mem_map.mp hk
  have hi := List.mem_range.mp hi
  have := gpOf_lt hi
  rw [placesL_len, l] at this
  omega
theorem lots_bar {m : Nat} {O t : List Nat} (h : t ∈ lotsF m O) : lbar (placesL O) = none := by
  have := of_decide_eq_true (List.mem_filter.mp h).2
  rw [← this]
  show lbar (placesL (qL _)) = none
  rw [qL_ord]
  exact ord_nobar _ _
theorem lots_le {m : Nat} {O t : List Nat} (h : t ∈ lotsF m O) {i : Nat} (hi : i < m) : t.length = m ∧ gpOf (placesL O) i ≤ (t[i]?).getD 0 := by
  obtain ⟨h1, h2⟩ := List.mem_filter.mp h
  have h2 := of_decide_eq_true h2
  have l := (lists_mem.mp h1).1
  refine ⟨l, ?_⟩
  rw [← h2]
  refine least_le (l := t.map some) (by rw [List.length_map]; omega) ?_
  unfold patL
  rw [List.getElem?_map, List.getElem?_eq_getElem (by omega)]
  rfl
/-- what is told, what is due -/
def lpD (O : List Nat) : Dt := if lbar (placesL O) = none then .lst ((gpL (placesL O)).map nD) else .non
abbrev c_law : Ctr := lawC
-- slots: 0 script 1 bag 2 many 3 made 4 order 5 due 6 lots 7 handed 8 again 9 told 10 person 11 one
abbrev tr_law_0 (K : PySem.W.Frag) : TS :=
  (tAsg (tLc (iRng1 (tCons (tVar 2) tNil)) (gName 10) tYes (tCB (rMin K) (tCons (tLc (iSeq K (tVar 6)) (gName 11) tYes (tOp (rIx K) (tVar 11) (tVar 10)) [11]) tNil)) [10]) (gName 5))
abbrev tr_law_1 (K : PySem.W.Frag) : TS :=
  (tIfS (tTest (tOp rNotN' (tVar 9) (tC .non))) (tSeq (tIfS (tTest (tOp (rNeD K) (tCall (Ctr.sp K c__law_queue) [] E0 (tCons (tVar 9) tNil)) (tVar 4))) (tRet (tC (.bl false))) tNext)
    (tDrop (tBM K "list" rAppend (tVar 9) (tCons (tC (.int 0)) tNil)))) tNext)
abbrev tr_law_2 (K : PySem.W.Frag) : TS :=
  (tSeq (tIfS (tOr (tTest (tOp rNe (tCB rReprE (tCons (tVar 9) tNil)) (tCB rReprE (tCons (tVar 5) tNil)))) (tTest (tOp (rNeD K) (tCB (rListQ K) (tCons (tVar 7) tNil)) (tVar 4)))) (tRet (tC (.bl false))) tNext)
    (tr_law_1 K))
abbrev tr_law_3 (K : PySem.W.Frag) : TS :=
  (tSeq (tAsg (tCall (Ctr.sp K c__law_handed) [] E0 (tCons (tVar 1) (tCons (tVar 4) tNil))) (gName 7))
    (tFor (iRng1 (tCons (tC (.int 2)) tNil)) (gName 8) (tSeq (tAsg (tCall (Ctr.sp K c_least_patiences) [] E0 (tCons (tVar 7) tNil)) (gName 9))
    (tr_law_2 K))))
abbrev tr_law_4 (K : PySem.W.Frag) : TS :=
  (tSeq (tIfS (tB (tDIn (tCB (rTupQ K) (tCons (tVar 4) tNil)) (tVar 3))) (tSeq (tAsg (tDGet (tVar 3) (tCB (rTupQ K) (tCons (tVar 4) tNil))) (gName 6))
    (tr_law_0 K)) tNext)
    (tr_law_3 K))
abbrev tr_law_5 (K : PySem.W.Frag) : TS :=
  (tSeq (tFor (iSeq K (tOp (rIx K) (tLst (tCons (tLst (tCons (tC (.int 0)) (tCons (tC (.int 1)) (tCons (tC (.int 2)) (tCons (tC (.int 3)) tNil))))) (tCons (tLst (tCons (tC (.int 4)) tNil)) (tCons (tLst (tCons (tC (.int 5)) tNil)) tNil)))) (tCall (Ctr.sp K c__law_draw) [] E0 (tCons (tVar 1) (tCons (tC (.int 3)) tNil))))) (gName 2) (tSeq (tAsg (tCall (Ctr.sp K c__law_made) [] E0 (tCons (tVar 2) tNil)) (gName 3))
    (tFor (iSeq K (tCall (Ctr.sp K c__law_all_orders) [] E0 (tCons (tVar 2) tNil))) (gName 4) (tSeq (tAsg (tC .non) (gName 5))
    (tr_law_4 K)))))
    (tRet (tC (.bl true))))
def tr_law (K : PySem.W.Frag) : TS :=
  (tSeq (tAsg (tCall (Ctr.sp K c__law_bag) [] E0 (tCons (tVar 0) tNil)) (gName 1))
    (tr_law_5 K))

theorem sj_again3 (C : Cc K) (ns : List Int) (b : Bag) (m j : Nat) (W : Wd) (O : List Nat) (q : Bool) (s6 s10 s11 : Sl) (hO : OrdOk O) (hq : lbar (placesL O) = none → qN (gpL (placesL O)) = O) :
    Sj C (tSeq (tAsg (tCall (Ctr.sp K c_least_patiences) [] E0 (tCons (tVar 7) tNil)) (gName 9)) (tr_law_2 K)) [.w true (scW ns), .w false (bgW b), .d (.int m), .w false W, .d (.lst (O.map nD)), .d (lpD O), s6, .d (sqD q O), .d (.int ((0 : Int) + (j : Int))), .no, s10, s11]
      ⟨fun ρ => ∃ s9, ρ = [.w true (scW ns), .w false (bgW b), .d (.int m), .w false W, .d (.lst (O.map nD)), .d (lpD O), s6, .d (sqD q O), .d (.int ((0 : Int) + (j : Int))), s9, s10, s11], fun _ => False, fun _ => False, fun _ _ => False⟩ := by
  have l60 := hO.2
  have hl : (gpL (placesL O)).length = O.length := by rw [gpL_len, placesL_len]
  refine sq_own (ev_callR ?_)
  walk_at "x"
  refine ⟨(q, O), rfl, hO, ?_⟩
  intro s hs
  dsimp only at hs
  cases hb : lbar (placesL O) with
  | none =>
    rw [if_pos hb] at hs
    subst hs
    have hq := hq hb
    have eD : lpD O = .lst ((gpL (placesL O)).map nD) := if_pos hb
    have rg : Rw [60] (.lst ((gpL (placesL O)).map nD)) := rw_lst (by rw [List.length_map, hl]; exact l60) fun d hd => by
      obtain ⟨k, hk, rfl⟩ := List.mem_map.mp hd
      obtain ⟨i, hi, rfl⟩ := List.mem_map.mp hk
      have hi := List.mem_range.mp hi
      have := gpOf_lt hi
      rw [placesL_len] at this
      refine rw_int ?_
      show (gpOf (placesL O) i) < 10 ^ 75
      have : (60 : Nat) < 10 ^ 75 := by decide
      omega
    have bg : bk (.lst ((gpL (placesL O)).map nD)) ≤ 200000 := Nat.le_trans (bk_rw rg) (by decide)
    have hl6 : (gpL (placesL O)).length ≤ 60 := by omega
    rw [eD]
    clear eD
    generalize gpL (placesL O) = g at *
    refine ⟨rfl, rfl, rfl, ?_⟩
    unfold tr_law_2
    have pl : PureL [.w true (scW ns), .w false (bgW b), .d (.int m), .w false W, .d (.lst (O.map nD)), .d (.lst (g.map nD)), s6, .d (sqD q O), .d (.int ((0 : Int) + (j : Int))), .l (g.map nD), s10, s11]
        [.no, .no, .d (.int m), .no, .d (.lst (O.map nD)), .d (.lst (g.map nD)), .no, .d (sqD q O), .d (.int ((0 : Int) + (j : Int))), .d (.lst (g.map nD)), .no, .no] := .cons .no (.cons .no (.cons .d (.cons .no (.cons .d (.cons .d (.cons .no (.cons .d (.cons .d (.cons .l (.cons .no (.cons .no .nil)))))))))))
    refine z_when (evt_pure pl fun C1 => ?_)
    refine evt_or (evt_test (evd_op (evd_reprS (evd_var rfl ⟨[60], by decide, rg, bg, ?_⟩))))
    refine evd_reprS (evd_var rfl ⟨[60], by decide, rg, bg, ?_⟩)
    walk_at "x"
    rw [decide_eq_true rfl]
    refine ⟨fun z => (nomatch z), fun _ => ?_⟩
    walk_at "x"
    refine list_sq q O ?_
    walk_at "x"
    refine ne_same O ?_
    refine asB_i ⟨(fun z => nomatch z), fun _ => ?_⟩
    unfold tr_law_1
    refine y_if (evt_pure pl fun C2 => ?_)
    walk_at "x"
    refine z_when (evt_pure pl fun C3 => ?_)
    walk_at "x"
    refine ⟨g.map some, by rw [List.map_map]; rfl, by rw [List.length_map]; omega, ?_⟩
    rintro s rfl
    refine asF_l ?_
    walk_at "x"
    rw [show qL (List.map some g) = O from hq]
    refine ne_same O ?_
    refine asB_i ⟨(fun z => nomatch z), fun _ => ?_⟩
    refine y_append rfl ?_
    walk_at "x"
    exact ⟨_, _, rfl, by rw [List.length_map]; omega, _, rfl⟩
  | some x =>
    rw [if_neg (by rw [hb]; exact (fun z => nomatch z))] at hs
    subst hs
    have eD : lpD O = .non := if_neg (by rw [hb]; exact (fun z => nomatch z))
    rw [eD]
    clear eD
    refine ⟨rfl, rfl, rfl, ?_⟩
    unfold tr_law_2
    show Sj C _ [.w true (scW ns), .w false (bgW b), .d (.int m), .w false W, .d (.lst (O.map nD)), .d .non, s6, .d (sqD q O), .d (.int ((0 : Int) + (j : Int))), .d .non, s10, s11] _
    refine z_when ?_
    refine evt_or (evt_test (evd_op (evd_reprS (evd_var rfl ⟨[], by decide, rw_non, by decide, ?_⟩))))
    refine evd_reprS (evd_var rfl ⟨[], by decide, rw_non, by decide, ?_⟩)
    walk_at "x"
    refine list_sq q O ?_
    walk_at "x"
    refine ne_same O ?_
    refine asB_i ⟨(fun z => nomatch z), fun _ => ?_⟩
    unfold tr_law_1
    walk_at "g"
    exact ⟨_, rfl⟩
theorem rng_get {α β : Type} (d : α) (g : α → β) (l : List α) : (List.range l.length).filterMap (fun j : Nat => some (g ((l[j]?).getD d))) = l.map g := by
  have e1 : (fun j : Nat => some (g ((l[j]?).getD d))) = (some ∘ fun j : Nat => g ((l[j]?).getD d)) := rfl
  rw [e1, List.filterMap_eq_map]
  refine List.ext_getElem (by rw [List.length_map, List.length_map, List.length_range]) fun i h1 h2 => ?_
  rw [List.length_map] at h2
  rw [List.getElem_map, List.getElem_map, List.getElem_range, List.getElem?_eq_getElem h2]
  rfl
theorem sj_tail (C : Cc K) (ns : List Int) (b : Bag) (m : Nat) (W : Wd) (O : List Nat) (s6 : Sl) (hO : OrdOk O) (hq : lbar (placesL O) = none → qN (gpL (placesL O)) = O) (hb : b.c + 1000 ≤ 1000000000) :
    Sj C (tr_law_3 K) [.w true (scW ns), .w false (bgW b), .d (.int m), .w false W, .d (.lst (O.map nD)), .d (lpD O), s6, .no, .no, .no, .no, .no]
      ⟨fun ρ' => ∃ (b' : Bag) (s7 : Sl), b'.c ≤ b.c + 1 ∧ wipeOk ρ' [8, 9] = true ∧ dropW ρ' [8, 9] = [.w true (scW ns), .w false (bgW b'), .d (.int m), .w false W, .d (.lst (O.map nD)), .d (lpD O), s6, s7, .no, .no, .no, .no], fun _ => False, fun _ => False, fun _ _ => False⟩ := by
  unfold tr_law_3
  refine sq_own (ev_callB rfl ?_)
  walk_at "x"
  refine ⟨by omega, ?_⟩
  intro s b' hs
  obtain ⟨c1, hs⟩ := hs
  have hs : ∃ q, s = .d (sqD q O) := by
    rcases hs with h | h
    · exact ⟨true, h⟩
    · exact ⟨false, h⟩
  obtain ⟨q, rfl⟩ := hs
  refine ⟨rfl, rfl, rfl, ?_⟩
  show Sj C _ [.w true (scW ns), .w false (bgW b'), .d (.int m), .w false W, .d (.lst (O.map nD)), .d (lpD O), s6, .d (sqD q O), .no, .no, .no, .no] _
  refine y_forW [8, 9] ?_
  walk_at "x"
  refine ⟨(2 : Int), rfl, by omega, by omega, ?_⟩
  refine ⟨fun j ρ => ρ = [.w true (scW ns), .w false (bgW b'), .d (.int m), .w false W, .d (.lst (O.map nD)), .d (lpD O), s6, .d (sqD q O), .no, .no, .no, .no], ⟨rfl, rfl⟩, ?_, ?_⟩
  · rintro j ρ hj rfl
    dsimp only
    walk_at "tg"
    refine y_fgtL [9] ?_
    refine sj_imp (sj_again3 C ns b' m j W O q s6 .no .no hO hq) (fun ρ' h => ?_) (fun _ z => z.elim) (fun _ z => z.elim) (fun _ _ z => z.elim)
    obtain ⟨s9, rfl⟩ := h
    simp only [dropW, List.set_cons_zero, List.set_cons_succ]
    exact ⟨rfl, trivial⟩
  · intro ρ' h1 h2
    exact ⟨b', _, c1, h1, h2⟩
theorem sj_ord (C : Cc K) (ns : List Int) (b : Bag) (m : Nat) (hm : m ≤ 5) (O : List Nat) (hO : O ∈ allO m) (hb : b.c + 1000 ≤ 1000000000) :
    Sj C (tr_law_4 K) [.w true (scW ns), .w false (bgW b), .d (.int m), .w false (dtw (frzM (madeF (listsOf m (max 1 m))))), .d (.lst (O.map nD)), .d .non, .no, .no, .no, .no, .no, .no]
      ⟨fun ρ' => wipeOk ρ' [4, 5, 6, 7, 8, 9, 10, 11] = true ∧ ∃ b' : Bag, b'.c ≤ b.c + 1 ∧ dropW ρ' [4, 5, 6, 7, 8, 9, 10, 11] = [.w true (scW ns), .w false (bgW b'), .d (.int m), .w false (dtw (frzM (madeF (listsOf m (max 1 m))))), .no, .no, .no, .no, .no, .no, .no, .no], fun _ => False, fun _ => False, fun _ _ => False⟩ := by
  have lO := allO_len m O hO
  have oO := allO_ord hm hO
  have hq := fin33 hm hO
  have ev : valT (frzM (madeF (listsOf m (max 1 m)))) (keyI O) = if lotsF m O = [] then none else some (.lst ((lotsF m O).map nlD)) := by
    rw [frz_val]
    unfold madeF
    rw [made_val]
    show Option.map _ (if lotsF m O = [] then _ else _) = _
    split
    · rfl
    · rfl
  unfold tr_law_4
  refine y_fgtL [4, 5, 6, 7, 8, 9, 10, 11] ?_
  have fin : ∀ s6, Sj C (tr_law_3 K) [.w true (scW ns), .w false (bgW b), .d (.int m), .w false (dtw (frzM (madeF (listsOf m (max 1 m))))), .d (.lst (O.map nD)), .d (lpD O), s6, .no, .no, .no, .no, .no] ⟨fun ρ' => wipeOk (dropW ρ' [4, 5, 6, 7, 8, 9, 10, 11]) [4, 5, 6, 7, 8, 9, 10, 11] = true ∧ ∃ b' : Bag, b'.c ≤ b.c + 1 ∧ dropW (dropW ρ' [4, 5, 6, 7, 8, 9, 10, 11]) [4, 5, 6, 7, 8, 9, 10, 11] = [.w true (scW ns), .w false (bgW b'), .d (.int m), .w false (dtw (frzM (madeF (listsOf m (max 1 m))))), .no, .no, .no, .no, .no, .no, .no, .no], fun _ => False, fun _ => False, fun _ _ => False⟩ := fun s6 => by
    refine sj_imp (sj_tail C ns b m _ O s6 oO hq hb) (fun ρ' h => ?_) (fun _ z => z.elim) (fun _ z => z.elim) (fun _ _ z => z.elim)
    obtain ⟨b', s7, c1, h1, h2⟩ := h
    obtain ⟨w1, w2⟩ := wipe_end (us := [4, 5, 6, 7, 8, 9, 10, 11]) (n := 12) h2 (by decide) rfl (by decide)
    exact ⟨w1, b', c1, w2⟩
  refine z_when (evt_B (evd_tin ?_))
  walk_at "x"
  refine ⟨keyI O, keyI_tup O, false, _, rfl, ?_⟩
  rw [ev]
  by_cases hl : lotsF m O = []
  · rw [if_pos hl]
    have hd : lpD O = .non := if_neg fun z => by
      have := lots_gp hm hO z
      rw [hl] at this
      cases this
    refine asB_i ⟨(fun z => nomatch z), fun _ => ?_⟩
    rw [← hd]
    exact fin .no
  · rw [if_neg hl]
    have en : lbar (placesL O) = none := by
      obtain ⟨t, ht⟩ := List.exists_mem_of_ne_nil _ hl
      exact lots_bar ht
    have hd : lpD O = .lst ((gpL (placesL O)).map nD) := if_pos en
    have lle := fun t (ht : t ∈ lotsF m O) i (hi : i < m) => lots_le (m := m) (O := O) ht hi
    have lgp := lots_gp hm hO en
    have fin := fin (.d (.lst ((lotsF m O).map nlD)))
    have ll : (lotsF m O).length ≤ 100000 := by
      refine Nat.le_trans (List.length_filter_le _ _) ?_
      rw [lists_len]
      exact Nat.le_trans (Nat.pow_le_pow_left (show max 1 m ≤ 5 by omega) m) (Nat.le_trans (Nat.pow_le_pow_right (by decide) (show m ≤ 5 by omega)) (by decide))
    refine asB_i ⟨fun _ => ?_, (fun z => nomatch z)⟩
    refine sq_set (evd_tget rfl ?_)
    walk_at "x"
    refine ⟨rfl, keyI O, keyI_tup O, _, by rw [ev, if_neg hl], rfl, ?_⟩
    rw [hd] at fin
    generalize lotsF m O = lots at *
    unfold tr_law_0
    refine y_set (evd_lcF (tg_name (List.mem_singleton.mpr rfl)) ?_)
    walk_at "x"
    refine ⟨(m : Int), rfl, by omega, by omega, rfl, rfl, by omega, fun i => some (nD (gpOf (placesL O) i)), ?_, ?_⟩
    · intro C' i hi
      have hi : i < m := by omega
      dsimp only
      rw [Int.zero_add]
      walk_at "tg"
      walk_at "x"
      refine evd_lcF (tg_name (List.mem_singleton.mpr rfl)) (wk_seq ?_)
      walk_at "x"
      refine ⟨rfl, rfl, by rw [List.length_map]; omega, fun j => some (.int ((((lots[j]?).getD [])[i]?).getD 0 : Nat)), ?_, ?_⟩
      · intro C'' j hj
        rw [List.length_map] at hj
        have hj' := List.getElem?_eq_getElem hj
        have tm := List.getElem_mem hj
        dsimp only
        rw [List.getElem?_map, hj']
        generalize lots[j] = t at *
        obtain ⟨lt, _⟩ := lle t tm i hi
        show GgD C'' _ (.lst (t.map nD)) _ _
        walk_at "tg"
        walk_at "x"
        refine opd_ixL (atI_nat (by rw [List.getElem?_map, List.getElem?_eq_getElem (by omega)]; rfl)) ?_
        walk_at "x"
        refine ⟨rfl, rfl, ?_⟩
        show some (Dt.int (((t[i]?).getD 0 : Nat) : Int)) = _
        rw [List.getElem?_eq_getElem (by omega)]
        rfl
      · rw [List.length_map, rng_get [] (fun t : List Nat => Dt.int (((t[i]?).getD 0 : Nat) : Int)) lots]
        have e : lots.map (fun t : List Nat => Dt.int (((t[i]?).getD 0 : Nat) : Int)) = (lots.map fun t : List Nat => (((t[i]?).getD 0 : Nat) : Int)).map Dt.int := by rw [List.map_map]; rfl
        rw [e]
        walk_at "x"
        refine cad_minL (by rw [List.length_map]; exact List.length_pos_iff.mpr hl) fun mn h1 h2 => ?_
        have emn : mn = ((gpOf (placesL O) i : Nat) : Int) := by
          obtain ⟨t, ht, rfl⟩ := List.mem_map.mp h1
          obtain ⟨_, le⟩ := lle t ht i hi
          have := h2 _ (List.mem_map.mpr ⟨_, lgp, rfl⟩)
          rw [gpL_get (by rw [placesL_len]; omega)] at this
          show (((t[i]?).getD 0 : Nat) : Int) = _
          have this : (((t[i]?).getD 0 : Nat) : Int) ≤ ((gpOf (placesL O) i : Nat) : Int) := this
          omega
        rw [emn]
        walk_at "x"
        exact ⟨rfl, rfl, rfl⟩
    · walk_at "x"
      rw [Int.toNat_natCast, List.filterMap_eq_map']
      have e : (List.range m).map (fun i => nD (gpOf (placesL O) i)) = (gpL (placesL O)).map nD := by
        unfold gpL
        rw [List.map_map, placesL_len, lO]
        rfl
      rw [e]
      exact fin
theorem sj_many (C : Cc K) (ns : List Int) (b : Bag) (m : Nat) (hm : m ≤ 5) (hb : b.c + 2000 ≤ 1000000000) :
    Sj C (tSeq (tAsg (tCall (Ctr.sp K c__law_made) [] E0 (tCons (tVar 2) tNil)) (gName 3))
    (tFor (iSeq K (tCall (Ctr.sp K c__law_all_orders) [] E0 (tCons (tVar 2) tNil))) (gName 4) (tSeq (tAsg (tC .non) (gName 5))
    (tr_law_4 K)))) [.w true (scW ns), .w false (bgW b), .d (.int m), .no, .no, .no, .no, .no, .no, .no, .no, .no]
      ⟨fun ρ' => wipeOk ρ' [2, 3, 4, 5, 6, 7, 8, 9, 10, 11] = true ∧ ∃ b' : Bag, b'.c ≤ b.c + 120 ∧ dropW ρ' [2, 3, 4, 5, 6, 7, 8, 9, 10, 11] = [.w true (scW ns), .w false (bgW b'), .no, .no, .no, .no, .no, .no, .no, .no, .no, .no], fun _ => False, fun _ => False, fun _ _ => False⟩ := by
  have few := allO_few m hm
  refine y_fgtL [2, 3, 4, 5, 6, 7, 8, 9, 10, 11] ?_
  refine sq_own (ev_callR ?_)
  walk_at "x"
  refine ⟨m, rfl, hm, ?_⟩
  rintro s rfl
  refine ⟨rfl, rfl, rfl, ?_⟩
  show Sj C _ [.w true (scW ns), .w false (bgW b), .d (.int m), .w false (dtw (frzM (madeF (listsOf m (max 1 m))))), .no, .no, .no, .no, .no, .no, .no, .no] _
  refine y_forW [4, 5, 6, 7, 8, 9, 10, 11] (wk_seq ?_)
  walk_at "x"
  refine ⟨m, rfl, hm, asQ_l ?_⟩
  refine ⟨fun j ρ => ∃ b' : Bag, b'.c ≤ b.c + j ∧ ρ = [.w true (scW ns), .w false (bgW b'), .d (.int m), .w false (dtw (frzM (madeF (listsOf m (max 1 m))))), .no, .no, .no, .no, .no, .no, .no, .no], ⟨rfl, b, by omega, rfl⟩, ?_, ?_⟩
  · rintro j ρ hj ⟨b', cb, rfl⟩
    rw [List.length_map] at hj
    have ej : (((allO m).map nlD)[j]?).getD .non = .lst ((allO m)[j].map nD) := by rw [List.getElem?_map, List.getElem?_eq_getElem hj]; rfl
    have mO := List.getElem_mem hj
    dsimp only
    rw [ej]
    generalize (allO m)[j] = O at *
    walk_at "tg"
    refine sq_set ?_
    walk_at "x"
    refine sj_imp (sj_ord C ns b' m hm O mO (by omega)) (fun ρ' h => ?_) (fun _ z => z.elim) (fun _ z => z.elim) (fun _ _ z => z.elim)
    obtain ⟨w, b2, c2, e⟩ := h
    exact ⟨w, b2, by omega, e⟩
  · intro ρ' h1 h2
    rw [List.length_map] at h2
    obtain ⟨b', cb, e⟩ := h2
    obtain ⟨w1, w2⟩ := wipe_end (us := [2, 3, 4, 5, 6, 7, 8, 9, 10, 11]) (n := 12) e (by decide) rfl (by decide)
    exact ⟨w1, b', by omega, w2⟩
theorem sj_law (C : Cc K) (ns : List Int) (h : ns.length ≤ 63) : Sj C (tr_law K) [.w true (scW ns), .no, .no, .no, .no, .no, .no, .no, .no, .no, .no, .no] (finB scW (fun s b => ns = b ∧ s = .d (.bl true))) := by
  unfold tr_law
  refine sq_own (ev_callB rfl ?_)
  walk_at "g"
  refine ⟨ns, (), true, rfl, rfl, h, ?_⟩
  rintro s b' ⟨rfl, r, rfl, hr⟩
  refine ⟨rfl, rfl, rfl, ?_⟩
  show Sj C _ [.w true (scW ns), .w false (bgW r), .no, .no, .no, .no, .no, .no, .no, .no, .no, .no] _
  unfold tr_law_5
  refine z_forW [2, 3, 4, 5, 6, 7, 8, 9, 10, 11] (wk_seq ?_)
  walk_at "x"
  refine ⟨⟨by omega, by decide, by decide⟩, ?_⟩
  rintro s b0 ⟨c0, k, rfl, k0, k1⟩
  refine asF_d ?_
  refine opd_ixQ (fun d => ∃ l : List Nat, d = .lst (l.map nD) ∧ l.length ≤ 4 ∧ ∀ m ∈ l, m ≤ 5) k0 k1 (fun d hd => ?_) ?_
  · simp only [List.mem_cons, List.not_mem_nil, or_false] at hd
    rcases hd with rfl | rfl | rfl
    · exact ⟨[0, 1, 2, 3], rfl, by decide, by decide⟩
    · exact ⟨[4], rfl, by decide, by decide⟩
    · exact ⟨[5], rfl, by decide, by decide⟩
  rintro d ⟨l, rfl, l4, lm⟩
  refine asQ_l ?_
  refine ⟨fun i ρ => ∃ r : Bag, r.c ≤ b0.c + 120 * i ∧ ρ = [.w true (scW ns), .w false (bgW r), .no, .no, .no, .no, .no, .no, .no, .no, .no, .no], ⟨rfl, b0, by omega, rfl⟩, ?_, ?_⟩
  · rintro i ρ hi ⟨r, hr, rfl⟩
    rw [List.length_map] at hi
    have ej : ((l.map nD)[i]?).getD .non = nD l[i] := by rw [List.getElem?_map, List.getElem?_eq_getElem hi]; rfl
    have mm := lm _ (List.getElem_mem hi)
    dsimp only
    rw [ej]
    generalize l[i] = m at *
    walk_at "tg"
    refine sj_imp (sj_many C ns r m mm (by omega)) (fun ρ' h => ?_) (fun _ z => z.elim) (fun _ z => z.elim) (fun _ _ z => z.elim)
    obtain ⟨w, b2, c2, e⟩ := h
    exact ⟨w, b2, by omega, e⟩
  · rintro ρ ⟨r, hr, rfl⟩
    walk_at "g"
    exact ⟨ns, rfl, rfl, rfl⟩
end

end
abbrev top (i : Nat) : Stmt := PySem.Challenge.pw_comersline_k33_least_patiences_by_all.main.body.getD i (.Pass ⟨0,0,0,0⟩)
structure Tx (mg : Str → Option Value) : Prop where
  isinstance : mg "isinstance" = none
  int_ : mg "int" = none
  bool_ : mg "bool" = none
  len : mg "len" = none
  range_ : mg "range" = none
  list_ : mg "list" = none
  all : mg "all" = none
  sorted : mg "sorted" = none
  tuple_ : mg "tuple" = none
  enumerate : mg "enumerate" = none
  max : mg "max" = none
  min : mg "min" = none
  repr : mg "repr" = none
  c_MOST_STANDING : Gv mg "MOST_STANDING" (.int 60)
abbrev s_is_number : Stmt := top 5
abbrev N_is_number : List Str := ["thing"]
theorem sc_is_number : FnScope N_is_number ["thing"] (defScope s_is_number) := ⟨rfl, rfl, rfl, by decide +kernel, rfl, by decide +kernel, by decide +kernel⟩

theorem p_is_number : Prm "is_number" s_is_number ["thing"] := fun _ _ _ _ _ _ us hl => match us, hl with | [_], _ => rfl
theorem gd_is_number {P : Program} {w : World} {K : PySem.W.Frag} {mg : Str → Option Value} {base : Heap} (T : Tx mg) (F : Df K mg "is_number" s_is_number ["thing"])  : Gd P w K mg base "is_number" ["thing"] 1 c_is_number :=
  gd_ct F sc_is_number (fun _ => rfl) (tr_is_number K) (fun f cdv A outer s H E hr =>
      (pss_one (ps_ret (pe_and (pe_callB call_isi (by rfl) T.isinstance bt_isinstance (pa_cons (pv 0) (pa_cons (pe_bltn (v := .ty "int") (by rfl) T.int_ bt_int rfl) pa_nil))) (pe_and (pe_not (pe_callB call_isi (by rfl) T.isinstance bt_isinstance (pa_cons (pv 0) (pa_cons (pe_bltn (v := .ty "bool") (by rfl) T.bool_ bt_bool rfl) pa_nil)))) (pe_one (pe_cmpR op_geX (pv 0) pe_int (nomark _))))))))
    (fun C a h => sj_is_number C a h)
abbrev s_shows : Stmt := top 8
abbrev N_shows : List Str := ["places", "youngest", "oldest", "between"]
theorem sc_shows : FnScope N_shows ["places", "youngest", "oldest", "between"] (defScope s_shows) := ⟨rfl, rfl, rfl, by decide +kernel, rfl, by decide +kernel, by decide +kernel⟩

theorem p_shows : Prm "shows" s_shows ["places", "youngest", "oldest", "between"] := fun _ _ _ _ _ _ us hl => match us, hl with | [_, _, _, _], _ => rfl
theorem gd_shows {P : Program} {w : World} {K : PySem.W.Frag} {mg : Str → Option Value} {base : Heap} (T : Tx mg) (F : Df K mg "shows" s_shows ["places", "youngest", "oldest", "between"])  : Gd P w K mg base "shows" ["places", "youngest", "oldest", "between"] 1 c_shows :=
  gd_ct F sc_shows (fun _ => rfl) (tr_shows K) (fun f cdv A outer s H E hr =>
      (pss_one (ps_ret (pe_and (pe_chain op_ltX op_ltX (pv 2) (pv 3) (pv 1)) (pe_one (pe_chain op_ltX op_ltX (pe_ix ix_seq (pv 0) (pv 1) (fun _ _ => rfl)) (pe_ix ix_seq (pv 0) (pv 2) (fun _ _ => rfl)) (pe_ix ix_seq (pv 0) (pv 3) (fun _ _ => rfl))))))))
    (fun C a h => sj_shows C a.1 a.2.1 a.2.2.1 a.2.2.2 h.1 h.2.1 h.2.2)
abbrev s_gone_past : Stmt := top 10
abbrev N_gone_past : List Str := ["places", "many", "one", "later"]
theorem sc_gone_past : FnScope N_gone_past ["places"] (defScope s_gone_past) := ⟨rfl, rfl, rfl, by decide +kernel, rfl, by decide +kernel, by decide +kernel⟩

theorem p_gone_past : Prm "gone_past" s_gone_past ["places"] := fun _ _ _ _ _ _ us hl => match us, hl with | [_], _ => rfl
theorem gd_gone_past {P : Program} {w : World} {K : PySem.W.Frag} {mg : Str → Option Value} {base : Heap} (T : Tx mg) (F : Df K mg "gone_past" s_gone_past ["places"])  : Gd P w K mg base "gone_past" ["places"] 1 c_gone_past :=
  gd_cr F sc_gone_past (fun _ => rfl) (tr_gone_past K) (fun f cdv A outer s H E hr =>
      (pss_cons (ps_set (i := 1) sc_gone_past.nd rfl (Or.inr rfl) (pe_callB call_lenX (by rfl) T.len bt_len (pa_cons (pv 0) pa_nil)))
      (pss_one (ps_ret (pe_lc (own := [("one", 2)]) rfl sc_gone_past.nd (pi_range1 (by rfl) T.range_ (pa_cons (pv 1) pa_nil)) (blkOk_by (N := N_gone_past) (sc := defScope s_gone_past) (by decide +kernel)) (fun _ _ _ _ _ => (pg_name (i := 2) sc_gone_past.nd rfl (Or.inr rfl))) (fun _ _ _ _ _ => pts_nil) (fun _ _ _ _ _ => (pe_callB call_lenX (by rfl) T.len bt_len (pa_cons (pe_lc (own := [("later", 3)]) rfl sc_gone_past.nd (pi_range2 (by rfl) T.range_ (pa_cons (pe_op op_addX (pv 2) pe_int) (pa_cons (pv 1) pa_nil))) (blkOk_by (N := N_gone_past) (by kernel_rfl)) (fun _ _ _ _ _ => (pg_name (i := 3) sc_gone_past.nd rfl (Or.inl rfl))) (fun _ _ _ _ _ => pts_one (pt_cmpR op_ltX (pe_ix ix_seq (pv 0) (pv 3) (fun _ _ => rfl)) (pe_ix ix_seq (pv 0) (pv 2) (fun _ _ => rfl)) (nomark _))) (fun _ _ _ _ _ => pe_int)) pa_nil))))))))
    (fun C a h => sj_gone_past C a h)
abbrev s__law_bag : Stmt := top 13
abbrev N__law_bag : List Str := ["script", "total", "cell"]
theorem sc__law_bag : FnScope N__law_bag ["script"] (defScope s__law_bag) := ⟨rfl, rfl, rfl, by decide +kernel, rfl, by decide +kernel, by decide +kernel⟩

theorem p__law_bag : Prm "_law_bag" s__law_bag ["script"] := fun _ _ _ _ _ _ us hl => match us, hl with | [_], _ => rfl
theorem gd__law_bag {P : Program} {w : World} {K : PySem.W.Frag} {mg : Str → Option Value} {base : Heap} (T : Tx mg) (F : Df K mg "_law_bag" s__law_bag ["script"])  : Gd P w K mg base "_law_bag" ["script"] 1 c__law_bag :=
  gd_cb F sc__law_bag (fun _ => rfl) (tr__law_bag K) (fun f cdv A outer s H E hr =>
      (pss_cons (ps_set (i := 1) sc__law_bag.nd rfl (Or.inl rfl) pe_int)
      (pss_cons (ps_for PassesOwn.never rfl (pi_seq (pv 0)) (pg_name (i := 2) sc__law_bag.nd rfl (Or.inl rfl)) (pss_one (ps_set (i := 1) sc__law_bag.nd rfl (Or.inl rfl) (pe_op op_modX (pe_op op_addX (pe_op op_addX (pe_op op_mulX (pv 1) pe_int) (pe_op op_modX (pv 2) pe_int)) pe_int) pe_int))))
      (pss_one (ps_ret (pe_lst (pa_cons (pe_callTy call_listX (by rfl) T.list_ bt_list (pa_cons (pv 0) pa_nil)) (pa_cons pe_int (pa_cons pe_int (pa_cons pe_int (pa_cons (pv 1) pa_nil)))))))))))
    (fun C b a h => sj__law_bag C b h)
abbrev s__law_stir : Stmt := top 14
abbrev N__law_stir : List Str := ["number", "place", "one", "two"]
theorem sc__law_stir : FnScope N__law_stir ["number", "place"] (defScope s__law_stir) := ⟨rfl, rfl, rfl, by decide +kernel, rfl, by decide +kernel, by decide +kernel⟩

theorem p__law_stir : Prm "_law_stir" s__law_stir ["number", "place"] := fun _ _ _ _ _ _ us hl => match us, hl with | [_, _], _ => rfl
theorem gd__law_stir {P : Program} {w : World} {K : PySem.W.Frag} {mg : Str → Option Value} {base : Heap} (T : Tx mg) (F : Df K mg "_law_stir" s__law_stir ["number", "place"])  : Gd P w K mg base "_law_stir" ["number", "place"] 1 c__law_stir :=
  gd_cr F sc__law_stir (fun _ => rfl) (tr__law_stir K) (fun f cdv A outer s H E hr =>
      (pss_cons (ps_set (i := 2) sc__law_stir.nd rfl (Or.inl rfl) (pe_op op_modX (pe_op op_addX (pe_op op_addX (pe_op op_mulX (pv 0) pe_int) (pe_op op_mulX (pv 1) pe_int)) pe_int) pe_int))
      (pss_cons (ps_set (i := 3) sc__law_stir.nd rfl (Or.inl rfl) (pe_op op_modX (pe_op op_mulX (pv 2) (pv 2)) pe_int))
      (pss_one (ps_ret (pe_op op_divX (pe_op op_modX (pe_op op_addX (pe_op op_addX (pe_op op_mulX (pv 3) pe_int) (pe_op op_mulX (pe_op op_mulX (pv 1) (pv 1)) pe_int)) (pe_op op_divX (pv 2) pe_int)) pe_int) pe_int))))))
    (fun C a h => sj__law_stir C a.1 a.2 h.1 h.2.1 h.2.2.1 h.2.2.2)
abbrev s__law_came : Stmt := top 17
abbrev N__law_came : List Str := ["stand", "rest", "number", "patience", "at"]
theorem sc__law_came : FnScope N__law_came ["stand", "rest", "number", "patience"] (defScope s__law_came) := ⟨rfl, rfl, rfl, by decide +kernel, rfl, by decide +kernel, by decide +kernel⟩

theorem p__law_came : Prm "_law_came" s__law_came ["stand", "rest", "number", "patience"] := fun _ _ _ _ _ _ us hl => match us, hl with | [_, _, _, _], _ => rfl
theorem gd__law_came {P : Program} {w : World} {K : PySem.W.Frag} {mg : Str → Option Value} {base : Heap} (T : Tx mg) (F : Df K mg "_law_came" s__law_came ["stand", "rest", "number", "patience"])  : Gd P w K mg base "_law_came" ["stand", "rest", "number", "patience"] 1 c__law_came :=
  gd_cm F sc__law_came (fun _ => rfl) (tr__law_came K) (fun f cdv A outer s H E hr =>
      (pss_cons (ps_set (i := 4) sc__law_came.nd rfl (Or.inl rfl) (pe_callB call_lenX (by rfl) T.len bt_len (pa_cons (pv 0) pa_nil)))
      (pss_cons (ps_while PassesOwn.never (PW.pt (pw_and (pt_cmpR op_gtX (pv 4) pe_int (nomark _)) (pw_and1 (pt_cmpR (op_neD hr.units) (pe_dget (hu_of hr) (pv 1) (pe_ix ix_seq (pv 0) (pe_op op_subX (pv 4) pe_int) (fun _ _ => rfl)) (fun _ _ => rfl)) pe_int (nomark _))))) (pss_cons (ps_set (i := 4) sc__law_came.nd rfl (Or.inl rfl) (pe_op op_subX (pv 4) pe_int))
      (pss_one (ps_if (pt_cmpR op_notNX (pe_dget (hu_of hr) (pv 1) (pe_ix ix_seq (pv 0) (pv 4) (fun _ _ => rfl)) (fun _ _ => rfl)) pe_non (nomark _)) (pss_one (ps_dput (hu_of hr) (pv 1) (pe_ix ix_seq (pv 0) (pv 4) (fun _ _ => rfl)) (pe_op op_subX (pe_dget (hu_of hr) (pv 1) (pe_ix ix_seq (pv 0) (pv 4) (fun _ _ => rfl)) (fun _ _ => rfl)) pe_int) (by rfl))) pss_nil))))
      (pss_cons (ps_dput (hu_of hr) (pv 1) (pv 2) (pv 3) (by rfl))
      (pss_one (ps_ret (pe_op op_addX (pe_op op_addX (pe_slice sl_X (pv 0) po_none (po_some (pv 4))) (pe_lst (pa_cons (pv 2) pa_nil))) (pe_slice sl_X (pv 0) (po_some (pv 4)) po_none))))))))
    (fun C b a h => sj__law_came C b a.1.1 a.1.2 a.2.1 a.2.2 h.1 h.2.1 h.2.2.1 h.2.2.2.1 h.2.2.2.2.1 h.2.2.2.2.2)
abbrev s__law_lists : Stmt := top 19
abbrev N__law_lists : List Str := ["many", "wide", "found", "turn", "longer", "one", "k"]
theorem sc__law_lists : FnScope N__law_lists ["many", "wide"] (defScope s__law_lists) := ⟨rfl, rfl, rfl, by decide +kernel, rfl, by decide +kernel, by decide +kernel⟩

theorem p__law_lists : Prm "_law_lists" s__law_lists ["many", "wide"] := fun _ _ _ _ _ _ us hl => match us, hl with | [_, _], _ => rfl
theorem gd__law_lists {P : Program} {w : World} {K : PySem.W.Frag} {mg : Str → Option Value} {base : Heap} (T : Tx mg) (F : Df K mg "_law_lists" s__law_lists ["many", "wide"])  : Gd P w K mg base "_law_lists" ["many", "wide"] 1 c__law_lists :=
  gd_ct F sc__law_lists (fun _ => rfl) (tr__law_lists K) (fun f cdv A outer s H E hr =>
      (pss_cons (ps_set (i := 2) sc__law_lists.nd rfl (Or.inl rfl) (pe_lst (pa_cons (pe_lst pa_nil) pa_nil)))
      (pss_cons (ps_for PassesOwn.never rfl (pi_range1 (by rfl) T.range_ (pa_cons (pv 0) pa_nil)) (pg_name (i := 3) sc__law_lists.nd rfl (Or.inl rfl)) (pss_cons (ps_set (i := 4) sc__law_lists.nd rfl (Or.inl rfl) (pe_lst pa_nil))
      (pss_cons (ps_for PassesOwn.never rfl (pi_seq (pv 2)) (pg_name (i := 5) sc__law_lists.nd rfl (Or.inr rfl)) (pss_one (ps_expr (pe_bm PySem.F.plainAttrs_list PySem.F.slot_list_extend PySem.F.type_list_extend mt_extend (pv 4) (pa_cons (pe_lc (own := [("k", 6)]) rfl sc__law_lists.nd (pi_range1 (by rfl) T.range_ (pa_cons (pv 1) pa_nil)) (blkOk_by (N := N__law_lists) (sc := defScope s__law_lists) (by decide +kernel)) (fun _ _ _ _ _ => (pg_name (i := 6) sc__law_lists.nd rfl (Or.inl rfl))) (fun _ _ _ _ _ => pts_nil) (fun _ _ _ _ _ => (pe_op op_addX (pv 5) (pe_lst (pa_cons (pv 6) pa_nil))))) pa_nil)))))
      (pss_one (ps_set (i := 2) sc__law_lists.nd rfl (Or.inl rfl) (pv 4))))))
      (pss_one (ps_ret (pv 2))))))
    (fun C a h => sj__law_lists C a.1 a.2 h.1 h.2.1 h.2.2)
abbrev s__law_all_orders : Stmt := top 20
abbrev N__law_all_orders : List Str := ["many", "found", "person", "longer", "one", "at"]
theorem sc__law_all_orders : FnScope N__law_all_orders ["many"] (defScope s__law_all_orders) := ⟨rfl, rfl, rfl, by decide +kernel, rfl, by decide +kernel, by decide +kernel⟩

theorem p__law_all_orders : Prm "_law_all_orders" s__law_all_orders ["many"] := fun _ _ _ _ _ _ us hl => match us, hl with | [_], _ => rfl
theorem gd__law_all_orders {P : Program} {w : World} {K : PySem.W.Frag} {mg : Str → Option Value} {base : Heap} (T : Tx mg) (F : Df K mg "_law_all_orders" s__law_all_orders ["many"])  : Gd P w K mg base "_law_all_orders" ["many"] 1 c__law_all_orders :=
  gd_ct F sc__law_all_orders (fun _ => rfl) (tr__law_all_orders K) (fun f cdv A outer s H E hr =>
      (pss_cons (ps_set (i := 1) sc__law_all_orders.nd rfl (Or.inl rfl) (pe_lst (pa_cons (pe_lst pa_nil) pa_nil)))
      (pss_cons (ps_for PassesOwn.never rfl (pi_range1 (by rfl) T.range_ (pa_cons (pv 0) pa_nil)) (pg_name (i := 2) sc__law_all_orders.nd rfl (Or.inr rfl)) (pss_cons (ps_set (i := 3) sc__law_all_orders.nd rfl (Or.inl rfl) (pe_lst pa_nil))
      (pss_cons (ps_for PassesOwn.never rfl (pi_seq (pv 1)) (pg_name (i := 4) sc__law_all_orders.nd rfl (Or.inr rfl)) (pss_one (ps_expr (pe_bm PySem.F.plainAttrs_list PySem.F.slot_list_extend PySem.F.type_list_extend mt_extend (pv 3) (pa_cons (pe_lc (own := [("at", 5)]) rfl sc__law_all_orders.nd (pi_range1 (by rfl) T.range_ (pa_cons (pe_op op_addX (pv 2) pe_int) pa_nil)) (blkOk_by (N := N__law_all_orders) (sc := defScope s__law_all_orders) (by decide +kernel)) (fun _ _ _ _ _ => (pg_name (i := 5) sc__law_all_orders.nd rfl (Or.inl rfl))) (fun _ _ _ _ _ => pts_nil) (fun _ _ _ _ _ => (pe_op op_addX (pe_op op_addX (pe_slice sl_X (pv 4) po_none (po_some (pv 5))) (pe_lst (pa_cons (pv 2) pa_nil))) (pe_slice sl_X (pv 4) (po_some (pv 5)) po_none)))) pa_nil)))))
      (pss_one (ps_set (i := 1) sc__law_all_orders.nd rfl (Or.inl rfl) (pv 3))))))
      (pss_one (ps_ret (pv 1))))))
    (fun C a h => sj__law_all_orders C a h)
abbrev s_is_order : Stmt := top 6
abbrev N_is_order : List Str := ["thing", "one"]
theorem sc_is_order : FnScope N_is_order ["thing"] (defScope s_is_order) := ⟨rfl, rfl, rfl, by decide +kernel, rfl, by decide +kernel, by decide +kernel⟩

theorem p_is_order : Prm "is_order" s_is_order ["thing"] := fun _ _ _ _ _ _ us hl => match us, hl with | [_], _ => rfl
theorem gd_is_order {P : Program} {w : World} {K : PySem.W.Frag} {mg : Str → Option Value} {base : Heap} (T : Tx mg) (F : Df K mg "is_order" s_is_order ["thing"]) (G_is_number : Gd P w K mg base "is_number" ["thing"] 1 c_is_number) : Gd P w K mg base "is_order" ["thing"] 2 c_is_order :=
  gd_ct F sc_is_order (fun _ => rfl) (tr_is_order K) (fun f cdv A outer s H E hr =>
      (pss_cons (ps_if (PW.pt (pw_or (pt_not (pt_val (pe_callB call_isiT (by rfl) T.isinstance bt_isinstance (pa_cons (pv 0) (pa_cons (pe_tup (pa_cons (pe_bltn (v := .ty "list") (by rfl) T.list_ bt_list rfl) (pa_cons (pe_bltn (v := .ty "tuple") (by rfl) T.tuple_ bt_tuple rfl) pa_nil))) pa_nil))))) (pw_or1 (pt_cmpR op_gtX (pe_callB call_lenX (by rfl) T.len bt_len (pa_cons (pv 0) pa_nil)) (pe_gv (by rfl) T.c_MOST_STANDING) (nomark _))))) (pss_one (ps_ret pe_bl)) pss_nil)
      (pss_one (ps_ret (pe_and (pe_callB (cr_all rfl) (by rfl) T.all bt_all (pa_cons (pe_lc (own := [("one", 1)]) rfl sc_is_order.nd (pi_seq (pv 0)) (blkOk_by (N := N_is_order) (sc := defScope s_is_order) (by decide +kernel)) (fun _ _ _ _ _ => (pg_name (i := 1) sc_is_order.nd rfl (Or.inl rfl))) (fun _ _ _ _ _ => pts_nil) (fun _ _ _ _ _ => (pe_gd G_is_number (hr.mono (by decide)) (by rfl) (pa_cons (pv 1) pa_nil)))) pa_nil)) (pe_one (pe_cmpR (op_eqD hr.units) (pe_callB cr_sortQ (by rfl) T.sorted bt_sorted (pa_cons (pv 0) pa_nil)) (pe_listRg rfl (by rfl) T.list_ (prg_1 (by rfl) T.range_ (pe_callB call_lenX (by rfl) T.len bt_len (pa_cons (pv 0) pa_nil)))) (nomark _))))))))
    (fun C a h => sj_is_order C a h)
abbrev s_least_barring : Stmt := top 9
abbrev N_least_barring : List Str := ["places", "many", "youngest", "oldest", "between"]
theorem sc_least_barring : FnScope N_least_barring ["places"] (defScope s_least_barring) := ⟨rfl, rfl, rfl, by decide +kernel, rfl, by decide +kernel, by decide +kernel⟩

theorem p_least_barring : Prm "least_barring" s_least_barring ["places"] := fun _ _ _ _ _ _ us hl => match us, hl with | [_], _ => rfl
theorem gd_least_barring {P : Program} {w : World} {K : PySem.W.Frag} {mg : Str → Option Value} {base : Heap} (T : Tx mg) (F : Df K mg "least_barring" s_least_barring ["places"]) (G_shows : Gd P w K mg base "shows" ["places", "youngest", "oldest", "between"] 1 c_shows) : Gd P w K mg base "least_barring" ["places"] 2 c_least_barring :=
  gd_ct F sc_least_barring (fun _ => rfl) (tr_least_barring K) (fun f cdv A outer s H E hr =>
      (pss_cons (ps_set (i := 1) sc_least_barring.nd rfl (Or.inl rfl) (pe_callB call_lenX (by rfl) T.len bt_len (pa_cons (pv 0) pa_nil)))
      (pss_cons (ps_for PassesOwn.never rfl (pi_range1 (by rfl) T.range_ (pa_cons (pv 1) pa_nil)) (pg_name (i := 2) sc_least_barring.nd rfl (Or.inl rfl)) (pss_one (ps_for PassesOwn.never rfl (pi_range1 (by rfl) T.range_ (pa_cons (pv 2) pa_nil)) (pg_name (i := 3) sc_least_barring.nd rfl (Or.inl rfl)) (pss_one (ps_if (pt_cmpR op_ltX (pe_ix ix_seq (pv 0) (pv 2) (fun _ _ => rfl)) (pe_ix ix_seq (pv 0) (pv 3) (fun _ _ => rfl)) (nomark _)) (pss_one (ps_for PassesOwn.never rfl (pi_range2 (by rfl) T.range_ (pa_cons (pe_op op_addX (pv 3) pe_int) (pa_cons (pv 2) pa_nil))) (pg_name (i := 4) sc_least_barring.nd rfl (Or.inl rfl)) (pss_one (ps_if (pt_val (pe_gd G_shows (hr.mono (by decide)) (by rfl) (pa_cons (pv 0) (pa_cons (pv 2) (pa_cons (pv 3) (pa_cons (pv 4) pa_nil)))))) (pss_one (ps_ret (pe_tup (pa_cons (pv 2) (pa_cons (pv 3) (pa_cons (pv 4) pa_nil)))))) pss_nil)))) pss_nil)))))
      (pss_one (ps_ret pe_non)))))
    (fun C a h => sj_least_barring C a h)
abbrev s__law_draw : Stmt := top 15
abbrev N__law_draw : List Str := ["bag", "many", "cell", "found"]
theorem sc__law_draw : FnScope N__law_draw ["bag", "many"] (defScope s__law_draw) := ⟨rfl, rfl, rfl, by decide +kernel, rfl, by decide +kernel, by decide +kernel⟩

theorem p__law_draw : Prm "_law_draw" s__law_draw ["bag", "many"] := fun _ _ _ _ _ _ us hl => match us, hl with | [_, _], _ => rfl
theorem gd__law_draw {P : Program} {w : World} {K : PySem.W.Frag} {mg : Str → Option Value} {base : Heap} (T : Tx mg) (F : Df K mg "_law_draw" s__law_draw ["bag", "many"]) (G__law_stir : Gd P w K mg base "_law_stir" ["number", "place"] 1 c__law_stir) : Gd P w K mg base "_law_draw" ["bag", "many"] 2 c__law_draw :=
  gd_cb F sc__law_draw (fun _ => rfl) (tr__law_draw K) (fun f cdv A outer s H E hr =>
      (pss_cons (ps_if (pt_cmpR (op_eqD hr.units) (pv 1) pe_int (nomark _)) (pss_one (ps_ret pe_int)) pss_nil)
      (pss_cons (ps_asg (pe_op op_addX (pe_ix ix_seq (pv 0) pe_int (fun _ _ => rfl)) pe_int) (pg_sub (pv 0) pe_int set_list))
      (pss_cons (ps_if (PW.pt (pw_and (pt_cmpR op_ltX (pe_ix ix_seq (pv 0) pe_int (fun _ _ => rfl)) pe_int (nomark _)) (pw_and1 (pt_cmpR (op_eqD hr.units) (pe_ix ix_seq (pv 0) pe_int (fun _ _ => rfl)) (pe_callB call_lenX (by rfl) T.len bt_len (pa_cons (pe_ix ix_seq (pv 0) pe_int (fun _ _ => rfl)) pa_nil)) (nomark _))))) (pss_one (ps_ret (pe_op op_modX (pe_gd G__law_stir (hr.mono (by decide)) (by rfl) (pa_cons (pe_ix ix_seq (pv 0) pe_int (fun _ _ => rfl)) (pa_cons (pe_ix ix_seq (pv 0) pe_int (fun _ _ => rfl)) pa_nil))) (pv 1)))) pss_nil)
      (pss_cons (ps_if (pt_cmpR op_ltX (pe_ix ix_seq (pv 0) pe_int (fun _ _ => rfl)) pe_int (nomark _)) (pss_cons (ps_set (i := 2) sc__law_draw.nd rfl (Or.inl rfl) (pe_ix ix_seq (pe_ix ix_seq (pv 0) pe_int (fun _ _ => rfl)) (pe_ix ix_seq (pv 0) pe_int (fun _ _ => rfl)) (fun _ _ => rfl)))
      (pss_cons (ps_asg (pe_op op_addX (pe_ix ix_seq (pv 0) pe_int (fun _ _ => rfl)) pe_int) (pg_sub (pv 0) pe_int set_list))
      (pss_cons (ps_if (pt_cmpR op_ltX (pv 2) (pe_op op_powX pe_int pe_int) (nomark _)) (pss_one (ps_ret (pe_op op_modX (pe_gd G__law_stir (hr.mono (by decide)) (by rfl) (pa_cons (pe_op op_modX (pv 2) pe_int) (pa_cons (pe_ix ix_seq (pv 0) pe_int (fun _ _ => rfl)) pa_nil))) (pv 1)))) pss_nil)
      (pss_one (ps_asg (pe_op op_subX (pv 2) (pe_op op_powX pe_int pe_int)) (pg_sub (pv 0) pe_int set_list)))))) pss_nil)
      (pss_cons (ps_set (i := 3) sc__law_draw.nd rfl (Or.inl rfl) (pe_op op_modX (pe_ix ix_seq (pv 0) pe_int (fun _ _ => rfl)) (pv 1)))
      (pss_cons (ps_asg (pe_op op_divX (pe_ix ix_seq (pv 0) pe_int (fun _ _ => rfl)) (pv 1)) (pg_sub (pv 0) pe_int set_list))
      (pss_one (ps_ret (pv 3))))))))))
    (fun C b a h => sj__law_draw C b a h.1 h.2.1 h.2.2)
abbrev s__law_queue : Stmt := top 18
abbrev N__law_queue : List Str := ["patiences", "stand", "rest", "number", "patience"]
theorem sc__law_queue : FnScope N__law_queue ["patiences"] (defScope s__law_queue) := ⟨rfl, rfl, rfl, by decide +kernel, rfl, by decide +kernel, by decide +kernel⟩

theorem p__law_queue : Prm "_law_queue" s__law_queue ["patiences"] := fun _ _ _ _ _ _ us hl => match us, hl with | [_], _ => rfl
theorem gd__law_queue {P : Program} {w : World} {K : PySem.W.Frag} {mg : Str → Option Value} {base : Heap} (T : Tx mg) (F : Df K mg "_law_queue" s__law_queue ["patiences"]) (G__law_came : Gd P w K mg base "_law_came" ["stand", "rest", "number", "patience"] 1 c__law_came) : Gd P w K mg base "_law_queue" ["patiences"] 2 c__law_queue :=
  gd_cr F sc__law_queue (fun _ => rfl) (tr__law_queue K) (fun f cdv A outer s H E hr =>
      (pss_cons (ps_set (i := 1) sc__law_queue.nd rfl (Or.inl rfl) (pe_lst pa_nil))
      (pss_cons (ps_set (i := 2) sc__law_queue.nd rfl (Or.inl rfl) pe_dnewK)
      (pss_cons (ps_for PassesOwn.never rfl (pi_enumQ (by rfl) T.enumerate (pa_cons (pv 0) pa_nil)) (pg_seq rfl (pgs_cons (pg_name (i := 3) sc__law_queue.nd rfl (Or.inl rfl)) (pgs_cons (pg_name (i := 4) sc__law_queue.nd rfl (Or.inl rfl)) pgs_nil))) (pss_one (ps_set (i := 1) sc__law_queue.nd rfl (Or.inl rfl) (pe_gd G__law_came (hr.mono (by decide)) (by rfl) (pa_cons (pv 1) (pa_cons (pv 2) (pa_cons (pv 3) (pa_cons (pv 4) pa_nil))))))))
      (pss_one (ps_ret (pv 1)))))))
    (fun C a h => sj__law_queue C a h)
abbrev s_places_of : Stmt := top 7
abbrev N_places_of : List Str := ["order", "found", "place", "person"]
theorem sc_places_of : FnScope N_places_of ["order"] (defScope s_places_of) := ⟨rfl, rfl, rfl, by decide +kernel, rfl, by decide +kernel, by decide +kernel⟩

theorem p_places_of : Prm "places_of" s_places_of ["order"] := fun _ _ _ _ _ _ us hl => match us, hl with | [_], _ => rfl
theorem gd_places_of {P : Program} {w : World} {K : PySem.W.Frag} {mg : Str → Option Value} {base : Heap} (T : Tx mg) (F : Df K mg "places_of" s_places_of ["order"]) (G_is_order : Gd P w K mg base "is_order" ["thing"] 2 c_is_order) : Gd P w K mg base "places_of" ["order"] 3 c_places_of :=
  gd_ct F sc_places_of (fun _ => rfl) (tr_places_of K) (fun f cdv A outer s H E hr =>
      (pss_cons (ps_if (pt_not (pt_val (pe_gd G_is_order (hr.mono (by decide)) (by rfl) (pa_cons (pv 0) pa_nil)))) (pss_one ps_never) pss_nil)
      (pss_cons (ps_set (i := 1) sc_places_of.nd rfl (Or.inl rfl) (pe_op op_mulX (pe_lst (pa_cons pe_int pa_nil)) (pe_callB call_lenX (by rfl) T.len bt_len (pa_cons (pv 0) pa_nil))))
      (pss_cons (ps_for PassesOwn.never rfl (pi_enumQ (by rfl) T.enumerate (pa_cons (pv 0) pa_nil)) (pg_seq rfl (pgs_cons (pg_name (i := 2) sc_places_of.nd rfl (Or.inl rfl)) (pgs_cons (pg_name (i := 3) sc_places_of.nd rfl (Or.inl rfl)) pgs_nil))) (pss_one (ps_asg (pv 2) (pg_sub (pv 1) (pv 3) set_list))))
      (pss_one (ps_ret (pv 1)))))))
    (fun C a h => sj_places_of C a.1 a.2 h)
abbrev s__law_handed : Stmt := top 21
abbrev N__law_handed : List Str := ["bag", "thing"]
theorem sc__law_handed : FnScope N__law_handed ["bag", "thing"] (defScope s__law_handed) := ⟨rfl, rfl, rfl, by decide +kernel, rfl, by decide +kernel, by decide +kernel⟩

theorem p__law_handed : Prm "_law_handed" s__law_handed ["bag", "thing"] := fun _ _ _ _ _ _ us hl => match us, hl with | [_, _], _ => rfl
theorem gd__law_handed {P : Program} {w : World} {K : PySem.W.Frag} {mg : Str → Option Value} {base : Heap} (T : Tx mg) (F : Df K mg "_law_handed" s__law_handed ["bag", "thing"]) (G__law_draw : Gd P w K mg base "_law_draw" ["bag", "many"] 2 c__law_draw) : Gd P w K mg base "_law_handed" ["bag", "thing"] 3 c__law_handed :=
  gd_cb F sc__law_handed (fun _ => rfl) (tr__law_handed K) (fun f cdv A outer s H E hr =>
      (pss_one (ps_ret (pe_ix ix_seq (pe_lst (pa_cons (pv 1) (pa_cons (pe_callTy call_tupleX (by rfl) T.tuple_ bt_tuple (pa_cons (pv 1) pa_nil)) (pa_cons (pv 1) pa_nil)))) (pe_gd G__law_draw (hr.mono (by decide)) (by rfl) (pa_cons (pv 0) (pa_cons pe_int pa_nil))) (fun _ _ => rfl)))))
    (fun C b a h => sj__law_handed C b a h)
abbrev s__law_made : Stmt := top 22
abbrev N__law_made : List Str := ["many", "found", "patiences"]
theorem sc__law_made : FnScope N__law_made ["many"] (defScope s__law_made) := ⟨rfl, rfl, rfl, by decide +kernel, rfl, by decide +kernel, by decide +kernel⟩

theorem p__law_made : Prm "_law_made" s__law_made ["many"] := fun _ _ _ _ _ _ us hl => match us, hl with | [_], _ => rfl
theorem gd__law_made {P : Program} {w : World} {K : PySem.W.Frag} {mg : Str → Option Value} {base : Heap} (T : Tx mg) (F : Df K mg "_law_made" s__law_made ["many"]) (G__law_lists : Gd P w K mg base "_law_lists" ["many", "wide"] 1 c__law_lists) (G__law_queue : Gd P w K mg base "_law_queue" ["patiences"] 2 c__law_queue) : Gd P w K mg base "_law_made" ["many"] 3 c__law_made :=
  gd_cr F sc__law_made (fun _ => rfl) (tr__law_made K) (fun f cdv A outer s H E hr =>
      (pss_cons (ps_set (i := 1) sc__law_made.nd rfl (Or.inl rfl) pe_dnewT)
      (pss_cons (ps_for PassesOwn.never rfl (pi_seq (pe_gd G__law_lists (hr.mono (by decide)) (by rfl) (pa_cons (pv 0) (pa_cons (pe_callB (call_max2X rfl) (by rfl) T.max bt_max (pa_cons pe_int (pa_cons (pv 0) pa_nil))) pa_nil)))) (pg_name (i := 2) sc__law_made.nd rfl (Or.inl rfl)) (pss_one (ps_expr (pe_bm PySem.F.plainAttrs_list PySem.F.slot_list_append PySem.F.type_list_append mt_append (pe_setdT (hu_of hr) (pv 1) (pe_callTy call_tupleX (by rfl) T.tuple_ bt_tuple (pa_cons (pe_gd G__law_queue (hr.mono (by decide)) (by rfl) (pa_cons (pv 2) pa_nil)) pa_nil)) (pe_lst pa_nil) ⟨by rfl, by rfl, by rfl, by rfl⟩) (pa_cons (pv 2) pa_nil)))))
      (pss_one (ps_ret (pv 1))))))
    (fun C a h => sj__law_made C a h)
abbrev s_least_patiences : Stmt := top 11
abbrev N_least_patiences : List Str := ["order", "places"]
theorem sc_least_patiences : FnScope N_least_patiences ["order"] (defScope s_least_patiences) := ⟨rfl, rfl, rfl, by decide +kernel, rfl, by decide +kernel, by decide +kernel⟩

theorem p_least_patiences : Prm "least_patiences" s_least_patiences ["order"] := fun _ _ _ _ _ _ us hl => match us, hl with | [_], _ => rfl
theorem gd_least_patiences {P : Program} {w : World} {K : PySem.W.Frag} {mg : Str → Option Value} {base : Heap} (T : Tx mg) (F : Df K mg "least_patiences" s_least_patiences ["order"]) (G_places_of : Gd P w K mg base "places_of" ["order"] 3 c_places_of) (G_gone_past : Gd P w K mg base "gone_past" ["places"] 1 c_gone_past) (G_least_barring : Gd P w K mg base "least_barring" ["places"] 2 c_least_barring) : Gd P w K mg base "least_patiences" ["order"] 4 c_least_patiences :=
  gd_cr F sc_least_patiences (fun _ => rfl) (tr_least_patiences K) (fun f cdv A outer s H E hr =>
      (pss_cons (ps_set (i := 1) sc_least_patiences.nd rfl (Or.inl rfl) (pe_gd G_places_of (hr.mono (by decide)) (by rfl) (pa_cons (pv 0) pa_nil)))
      (pss_one (ps_ret (pe_ifExp (pt_cmpR op_isNX (pe_gd G_least_barring (hr.mono (by decide)) (by rfl) (pa_cons (pv 1) pa_nil)) pe_non (nomark _)) (pe_gd G_gone_past (hr.mono (by decide)) (by rfl) (pa_cons (pv 1) pa_nil)) pe_non)))))
    (fun C a h => sj_least_patiences C a.1 a.2 h)
abbrev s_law : Stmt := top 23
abbrev N_law : List Str := ["script", "bag", "many", "made", "order", "due", "lots", "handed", "again", "told", "person", "one"]
theorem sc_law : FnScope N_law ["script"] (defScope s_law) := ⟨rfl, rfl, rfl, by decide +kernel, rfl, by decide +kernel, by decide +kernel⟩

theorem p_law : Prm "law" s_law ["script"] := fun _ _ _ _ _ _ us hl => match us, hl with | [_], _ => rfl
theorem gd_law {P : Program} {w : World} {K : PySem.W.Frag} {mg : Str → Option Value} {base : Heap} (T : Tx mg) (F : Df K mg "law" s_law ["script"]) (G__law_bag : Gd P w K mg base "_law_bag" ["script"] 1 c__law_bag) (G__law_draw : Gd P w K mg base "_law_draw" ["bag", "many"] 2 c__law_draw) (G__law_made : Gd P w K mg base "_law_made" ["many"] 3 c__law_made) (G__law_all_orders : Gd P w K mg base "_law_all_orders" ["many"] 1 c__law_all_orders) (G__law_handed : Gd P w K mg base "_law_handed" ["bag", "thing"] 3 c__law_handed) (G_least_patiences : Gd P w K mg base "least_patiences" ["order"] 4 c_least_patiences) (G__law_queue : Gd P w K mg base "_law_queue" ["patiences"] 2 c__law_queue) : GdG P w K mg base "law" ["script"] 5 c_law :=
  gdG_cb F sc_law (fun _ => rfl) (tr_law K) (fun f cdv A outer s H E hr gd =>
      (pss_cons (ps_set (i := 1) sc_law.nd rfl (Or.inl rfl) (pe_gd G__law_bag (hr.mono (by decide)) (by rfl) (pa_cons (pv 0) pa_nil)))
      (pss_cons (ps_for PassesOwn.never rfl (pi_seq (pe_ix ix_seq (pe_lst (pa_cons (pe_lst (pa_cons pe_int (pa_cons pe_int (pa_cons pe_int (pa_cons pe_int pa_nil))))) (pa_cons (pe_lst (pa_cons pe_int pa_nil)) (pa_cons (pe_lst (pa_cons pe_int pa_nil)) pa_nil)))) (pe_gd G__law_draw (hr.mono (by decide)) (by rfl) (pa_cons (pv 1) (pa_cons pe_int pa_nil))) (fun _ _ => rfl))) (pg_name (i := 2) sc_law.nd rfl (Or.inl rfl)) (pss_cons (ps_set (i := 3) sc_law.nd rfl (Or.inl rfl) (pe_gd G__law_made (hr.mono (by decide)) (by rfl) (pa_cons (pv 2) pa_nil)))
      (pss_one (ps_for PassesOwn.never rfl (pi_seq (pe_gd G__law_all_orders (hr.mono (by decide)) (by rfl) (pa_cons (pv 2) pa_nil))) (pg_name (i := 4) sc_law.nd rfl (Or.inl rfl)) (pss_cons (ps_set (i := 5) sc_law.nd rfl (Or.inl rfl) pe_non)
      (pss_cons (ps_if (pt_cmp (pc_din (hu_of hr) (pe_callTy call_tupleX (by rfl) T.tuple_ bt_tuple (pa_cons (pv 4) pa_nil)) (pv 3)) (by rfl)) (pss_cons (ps_set (i := 6) sc_law.nd rfl (Or.inr rfl) (pe_dget (hu_of hr) (pv 3) (pe_callTy call_tupleX (by rfl) T.tuple_ bt_tuple (pa_cons (pv 4) pa_nil)) (fun _ _ => rfl)))
      (pss_one (ps_setLc (i := 5) (own := [("person", 10)]) rfl sc_law.nd rfl rfl (sw_true rfl rfl rfl (by decide +kernel)) (pi_range1 (by rfl) T.range_ (pa_cons (pv 2) pa_nil)) (blkOk_by (N := N_law) (sc := defScope s_law) (by decide +kernel)) (fun _ _ _ _ _ => (pg_name (i := 10) sc_law.nd rfl (Or.inr rfl))) (fun _ _ _ _ _ => pts_nil) (fun _ _ _ _ _ => (pe_callB (cr_min rfl) (by rfl) T.min bt_min (pa_cons (pe_lc (own := [("one", 11)]) rfl sc_law.nd (pi_seq (pv 6)) (blkOk_by (N := N_law) (by kernel_rfl)) (fun _ _ _ _ _ => (pg_name (i := 11) sc_law.nd rfl (Or.inl rfl))) (fun _ _ _ _ _ => pts_nil) (fun _ _ _ _ _ => (pe_ix ix_seq (pv 11) (pv 10) (fun _ _ => rfl)))) pa_nil)))))) pss_nil)
      (pss_cons (ps_set (i := 7) sc_law.nd rfl (Or.inl rfl) (pe_gd G__law_handed (hr.mono (by decide)) (by rfl) (pa_cons (pv 1) (pa_cons (pv 4) pa_nil))))
      (pss_one (ps_for PassesOwn.never rfl (pi_range1 (by rfl) T.range_ (pa_cons pe_int pa_nil)) (pg_name (i := 8) sc_law.nd rfl (Or.inl rfl)) (pss_cons (ps_set (i := 9) sc_law.nd rfl (Or.inl rfl) (pe_gd G_least_patiences (hr.mono (by decide)) (by rfl) (pa_cons (pv 7) pa_nil)))
      (pss_cons (ps_if (PW.pt (pw_or (pt_cmpR op_ne (pe_callB (cr_reprE gd (room65 hr)) (by rfl) T.repr bt_repr (pa_cons (pv 9) pa_nil)) (pe_callB (cr_reprE gd (room65 hr)) (by rfl) T.repr bt_repr (pa_cons (pv 5) pa_nil)) (nomark _)) (pw_or1 (pt_cmpR (op_neD hr.units) (pe_callTy call_listX (by rfl) T.list_ bt_list (pa_cons (pv 7) pa_nil)) (pv 4) (nomark _))))) (pss_one (ps_ret pe_bl)) pss_nil)
      (pss_one (ps_if (pt_cmpR op_notNX (pv 9) pe_non (nomark _)) (pss_cons (ps_if (pt_cmpR (op_neD hr.units) (pe_gd G__law_queue (hr.mono (by decide)) (by rfl) (pa_cons (pv 9) pa_nil)) (pv 4) (nomark _)) (pss_one (ps_ret pe_bl)) pss_nil)
      (pss_one (ps_expr (pe_bm PySem.F.plainAttrs_list PySem.F.slot_list_append PySem.F.type_list_append mt_append (pv 9) (pa_cons pe_int pa_nil))))) pss_nil)))))))))))))
      (pss_one (ps_ret pe_bl)))))
    (fun C b a h => sj_law C b h)
theorem all_mk {l : PySem.W.OpenLaw} {w : World} {K : PySem.W.Frag} {h : Heap} {mg : Str → Option Value} {fa : Addr} (X : K.In h) (G : h.Ns mainGlobals mg) (hfa : mg "law" = some (.ref fa))
    (d_is_number : DefIn K "is_number" s_is_number)
    (d_shows : DefIn K "shows" s_shows)
    (d_gone_past : DefIn K "gone_past" s_gone_past)
    (d__law_bag : DefIn K "_law_bag" s__law_bag)
    (d__law_stir : DefIn K "_law_stir" s__law_stir)
    (d__law_came : DefIn K "_law_came" s__law_came)
    (d__law_lists : DefIn K "_law_lists" s__law_lists)
    (d__law_all_orders : DefIn K "_law_all_orders" s__law_all_orders)
    (d_is_order : DefIn K "is_order" s_is_order)
    (d_least_barring : DefIn K "least_barring" s_least_barring)
    (d__law_draw : DefIn K "_law_draw" s__law_draw)
    (d__law_queue : DefIn K "_law_queue" s__law_queue)
    (d_places_of : DefIn K "places_of" s_places_of)
    (d__law_handed : DefIn K "_law_handed" s__law_handed)
    (d__law_made : DefIn K "_law_made" s__law_made)
    (d_least_patiences : DefIn K "least_patiences" s_least_patiences)
    (d_law : DefIn K "law" s_law)
    (z_isinstance : PySem.W.nsIn K mainGlobals "isinstance" = some none)
    (z_int : PySem.W.nsIn K mainGlobals "int" = some none)
    (z_bool : PySem.W.nsIn K mainGlobals "bool" = some none)
    (z_len : PySem.W.nsIn K mainGlobals "len" = some none)
    (z_range : PySem.W.nsIn K mainGlobals "range" = some none)
    (z_list : PySem.W.nsIn K mainGlobals "list" = some none)
    (z_all : PySem.W.nsIn K mainGlobals "all" = some none)
    (z_sorted : PySem.W.nsIn K mainGlobals "sorted" = some none)
    (z_tuple : PySem.W.nsIn K mainGlobals "tuple" = some none)
    (z_enumerate : PySem.W.nsIn K mainGlobals "enumerate" = some none)
    (z_max : PySem.W.nsIn K mainGlobals "max" = some none)
    (z_min : PySem.W.nsIn K mainGlobals "min" = some none)
    (z_repr : PySem.W.nsIn K mainGlobals "repr" = some none)
    {k_MOST_STANDING : Tok} (v_MOST_STANDING : PySem.W.nsIn K mainGlobals "MOST_STANDING" = some (some (.int 60 k_MOST_STANDING))) :
    ∃ fd : FuncData, (∀ (s : Shared) (v : Value), BindsTo s fd ⟨[v], []⟩ [("script", v)]) ∧ ∀ base : Heap, K.In base → base.Ns mainGlobals mg → FnG l.prog w K mg base 5 fa fd ["script"] (lawC.sp K) := law_endG h hfa fun base => by
  have T : Tx mg := ⟨PySem.W.mg_none_of X G z_isinstance, PySem.W.mg_none_of X G z_int, PySem.W.mg_none_of X G z_bool, PySem.W.mg_none_of X G z_len, PySem.W.mg_none_of X G z_range, PySem.W.mg_none_of X G z_list, PySem.W.mg_none_of X G z_all, PySem.W.mg_none_of X G z_sorted, PySem.W.mg_none_of X G z_tuple, PySem.W.mg_none_of X G z_enumerate, PySem.W.mg_none_of X G z_max, PySem.W.mg_none_of X G z_min, PySem.W.mg_none_of X G z_repr, gv_int X G v_MOST_STANDING⟩
  have G_is_number := gd_is_number (P := l.prog) (w := w) (base := base) T (df_of X G d_is_number p_is_number) 
  have G_shows := gd_shows (P := l.prog) (w := w) (base := base) T (df_of X G d_shows p_shows) 
  have G_gone_past := gd_gone_past (P := l.prog) (w := w) (base := base) T (df_of X G d_gone_past p_gone_past) 
  have G__law_bag := gd__law_bag (P := l.prog) (w := w) (base := base) T (df_of X G d__law_bag p__law_bag) 
  have G__law_stir := gd__law_stir (P := l.prog) (w := w) (base := base) T (df_of X G d__law_stir p__law_stir) 
  have G__law_came := gd__law_came (P := l.prog) (w := w) (base := base) T (df_of X G d__law_came p__law_came) 
  have G__law_lists := gd__law_lists (P := l.prog) (w := w) (base := base) T (df_of X G d__law_lists p__law_lists) 
  have G__law_all_orders := gd__law_all_orders (P := l.prog) (w := w) (base := base) T (df_of X G d__law_all_orders p__law_all_orders) 
  have G_is_order := gd_is_order (P := l.prog) (w := w) (base := base) T (df_of X G d_is_order p_is_order) G_is_number
  have G_least_barring := gd_least_barring (P := l.prog) (w := w) (base := base) T (df_of X G d_least_barring p_least_barring) G_shows
  have G__law_draw := gd__law_draw (P := l.prog) (w := w) (base := base) T (df_of X G d__law_draw p__law_draw) G__law_stir
  have G__law_queue := gd__law_queue (P := l.prog) (w := w) (base := base) T (df_of X G d__law_queue p__law_queue) G__law_came
  have G_places_of := gd_places_of (P := l.prog) (w := w) (base := base) T (df_of X G d_places_of p_places_of) G_is_order
  have G__law_handed := gd__law_handed (P := l.prog) (w := w) (base := base) T (df_of X G d__law_handed p__law_handed) G__law_draw
  have G__law_made := gd__law_made (P := l.prog) (w := w) (base := base) T (df_of X G d__law_made p__law_made) G__law_lists G__law_queue
  have G_least_patiences := gd_least_patiences (P := l.prog) (w := w) (base := base) T (df_of X G d_least_patiences p_least_patiences) G_places_of G_gone_past G_least_barring
  have G_law := gd_law (P := l.prog) (w := w) (base := base) T (df_of X G d_law p_law) G__law_bag G__law_draw G__law_made G__law_all_orders G__law_handed G_least_patiences G__law_queue
  exact G_law
end DL
open PySem PySem.W PyProof.Rows
set_option maxHeartbeats 0 in
theorem PySem.Challenge.cw_comersline_k33_least_patiences_by_all_holds : PySem.Challenge.rw_comersline_k33_least_patiences_by_all.Holds := by
  w_on; o_law; k_head; (case hw => w_witness2)
  k_fill
  refine DL.walkG (l := PySem.Challenge.rw_comersline_k33_least_patiences_by_all) (n := 63) (k := 5) (x := "script") rfl (by decide) rfl ⟨rfl, by decide, by decide⟩ (fun w h Y => PySem.W.kIn_of Y) ?F
  case F =>
    intro w mg fa h KX G hmg
    refine' DL.all_mk KX G hmg ?d_is_number ?d_shows ?d_gone_past ?d__law_bag ?d__law_stir ?d__law_came ?d__law_lists ?d__law_all_orders ?d_is_order ?d_least_barring ?d__law_draw ?d__law_queue ?d_places_of ?d__law_handed ?d__law_made ?d_least_patiences ?d_law ?z_isinstance ?z_int ?z_bool ?z_len ?z_range ?z_list ?z_all ?z_sorted ?z_tuple ?z_enumerate ?z_max ?z_min ?z_repr ?v_MOST_STANDING
    (case d_is_number => (refine' DL.def_mk ?a ?l ?c ?k; (case a => k_is); (case l => k_is); (case c => k_is); (case k => k_is)))
    (case d_shows => (refine' DL.def_mk ?a ?l ?c ?k; (case a => k_is); (case l => k_is); (case c => k_is); (case k => k_is)))
    (case d_gone_past => (refine' DL.def_mk ?a ?l ?c ?k; (case a => k_is); (case l => k_is); (case c => k_is); (case k => k_is)))
    (case d__law_bag => (refine' DL.def_mk ?a ?l ?c ?k; (case a => k_is); (case l => k_is); (case c => k_is); (case k => k_is)))
    (case d__law_stir => (refine' DL.def_mk ?a ?l ?c ?k; (case a => k_is); (case l => k_is); (case c => k_is); (case k => k_is)))
    (case d__law_came => (refine' DL.def_mk ?a ?l ?c ?k; (case a => k_is); (case l => k_is); (case c => k_is); (case k => k_is)))
    (case d__law_lists => (refine' DL.def_mk ?a ?l ?c ?k; (case a => k_is); (case l => k_is); (case c => k_is); (case k => k_is)))
    (case d__law_all_orders => (refine' DL.def_mk ?a ?l ?c ?k; (case a => k_is); (case l => k_is); (case c => k_is); (case k => k_is)))
    (case d_is_order => (refine' DL.def_mk ?a ?l ?c ?k; (case a => k_is); (case l => k_is); (case c => k_is); (case k => k_is)))
    (case d_least_barring => (refine' DL.def_mk ?a ?l ?c ?k; (case a => k_is); (case l => k_is); (case c => k_is); (case k => k_is)))
    (case d__law_draw => (refine' DL.def_mk ?a ?l ?c ?k; (case a => k_is); (case l => k_is); (case c => k_is); (case k => k_is)))
    (case d__law_queue => (refine' DL.def_mk ?a ?l ?c ?k; (case a => k_is); (case l => k_is); (case c => k_is); (case k => k_is)))
    (case d_places_of => (refine' DL.def_mk ?a ?l ?c ?k; (case a => k_is); (case l => k_is); (case c => k_is); (case k => k_is)))
    (case d__law_handed => (refine' DL.def_mk ?a ?l ?c ?k; (case a => k_is); (case l => k_is); (case c => k_is); (case k => k_is)))
    (case d__law_made => (refine' DL.def_mk ?a ?l ?c ?k; (case a => k_is); (case l => k_is); (case c => k_is); (case k => k_is)))
    (case d_least_patiences => (refine' DL.def_mk ?a ?l ?c ?k; (case a => k_is); (case l => k_is); (case c => k_is); (case k => k_is)))
    (case d_law => (refine' DL.def_mk ?a ?l ?c ?k; (case a => k_is); (case l => k_is); (case c => k_is); (case k => k_is)))
    (case z_isinstance => k_is)
    (case z_int => k_is)
    (case z_bool => k_is)
    (case z_len => k_is)
    (case z_range => k_is)
    (case z_list => k_is)
    (case z_all => k_is)
    (case z_sorted => k_is)
    (case z_tuple => k_is)
    (case z_enumerate => k_is)
    (case z_max => k_is)
    (case z_min => k_is)
    (case z_repr => k_is)
    (case v_MOST_STANDING => k_is)
