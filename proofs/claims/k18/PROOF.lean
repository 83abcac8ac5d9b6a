import PyProof.Rows.All
import Wide.All
import OpenK.AllK
import Wide.FinOn
import HandS.ForMost
import HandS.ForExc
import HandS.Evl
import HandS.Style
import HandS.Conv
import HandS.More
import HandS.WordsDict
import HandS.CallSlots
import HandS.HeadWalk
import HandS.IsInst
import HandS.HeadNt
import HandS.Head0
import HandS.Head1
import HandS.Head2
import HandS.HeadEnd
import HandS.HeadHook1
import HandS.HeadHook2
import HandS.HeadHook3
import HandS.Text
import HandS.RaiseMore
import HandS.Iter
import KE.KStateDown
import Lean
import HandS.Defaults
import PySem.Challenge.RW_evenlate_k18_whole_written_and_read
set_option Elab.async false
set_option linter.all false
set_option maxRecDepth 100000
set_option maxHeartbeats 0
namespace Ev
open PySem PySem.Spec PyProof.Rows L2
open Evl (Ex)

inductive D where
  | non | bl (b : Bool) | int (i : Int) | str (x : Str)
  | tup (xs : List D) | lst (xs : List D) | scr (ns : List Int)
  | ins (C : Addr) (fs : List Str) (ds : List D)
  | dic (ks : List Key) (ds : List D)

mutual
inductive Rep (K : PySem.W.Frag) (H : Hp) : V → D → Prop
  | non : Rep K H .non .non
  | bl (b : Bool) : Rep K H (.bl b) (.bl b)
  | int (i : Int) : Rep K H (.int i) (.int i)
  | str (x : Str) : Rep K H (.str x) (.str x)
  | tup {a : Addr} {vs : List V} {ds : List D} : H a = some (.tup vs) → RepL K H vs ds → Rep K H (.ref a) (.tup ds)
  | lst {a : Addr} {vs : List V} {ds : List D} : H a = some (.lst vs) → RepL K H vs ds → Rep K H (.ref a) (.lst ds)
  | scr {a : Addr} {ns : List Int} : SqL K H a (ns.map V.int) → Rep K H (.ref a) (.scr ns)
  | ins {a C dx : Addr} {kvs : List (Str × V)} {fs : List Str} {ds : List D} : H a = some (.ins C dx kvs) → kvs.map (·.1) = fs → RepL K H (kvs.map (·.2)) ds → Rep K H (.ref a) (.ins C fs ds)
  | dic {a : Addr} {kvs : List (Key × V)} {ks : List Key} {ds : List D} : H a = some (.dK kvs) → kvs.map (·.1) = ks → RepL K H (kvs.map (·.2)) ds → Rep K H (.ref a) (.dic ks ds)
inductive RepL (K : PySem.W.Frag) (H : Hp) : List V → List D → Prop
  | nil : RepL K H [] []
  | cons {v : V} {vs : List V} {d : D} {ds : List D} : Rep K H v d → RepL K H vs ds → RepL K H (v :: vs) (d :: ds)
end

section
variable {K : PySem.W.Frag} {H H' : Hp}
mutual
theorem Rep.mono (e : Ex H H') : ∀ (d : D) {v : V}, Rep K H v d → Rep K H' v d
  | .non, _, h => by cases h; exact .non
  | .bl b, _, h => by cases h; exact .bl b
  | .int i, _, h => by cases h; exact .int i
  | .str x, _, h => by cases h; exact .str x
  | .tup ds, _, h => by cases h with | tup h1 h2 => exact .tup (e _ _ h1) (RepL.mono e ds h2)
  | .lst ds, _, h => by cases h with | lst h1 h2 => exact .lst (e _ _ h1) (RepL.mono e ds h2)
  | .scr ns, _, h => by cases h with | scr h1 => exact .scr (Evl.ex_l e h1)
  | .ins C fs ds, _, h => by cases h with | ins h1 h2 h3 => exact .ins (e _ _ h1) h2 (RepL.mono e ds h3)
  | .dic ks ds, _, h => by cases h with | dic h1 h2 h3 => exact .dic (e _ _ h1) h2 (RepL.mono e ds h3)
theorem RepL.mono (e : Ex H H') : ∀ (ds : List D) {vs : List V}, RepL K H vs ds → RepL K H' vs ds
  | [], _, h => by cases h; exact .nil
  | d :: ds, _, h => by cases h with | cons h1 h2 => exact .cons (Rep.mono e d h1) (RepL.mono e ds h2)
end
theorem RepL.length : ∀ {ds : List D} {vs : List V}, RepL K H vs ds → vs.length = ds.length
  | [], _, h => by cases h; rfl
  | d :: ds, _, h => by cases h with | cons h1 h2 => simp only [List.length_cons, RepL.length h2]
theorem RepL.get : ∀ {ds : List D} {vs : List V} {i : Nat} {d : D}, RepL K H vs ds → ds[i]? = some d → ∃ v, vs[i]? = some v ∧ Rep K H v d
  | [], _, _, _, h, e => by simp at e
  | d :: ds, _, 0, x, h, e => by
    cases h with
    | cons h1 h2 =>
      simp at e; subst e
      exact ⟨_, rfl, h1⟩
  | d :: ds, _, i + 1, x, h, e => by
    cases h with
    | cons h1 h2 =>
      obtain ⟨v, e1, e2⟩ := RepL.get (i := i) (d := x) h2 (by simpa using e)
      exact ⟨v, by simpa using e1, e2⟩
theorem RepL.getv {ds : List D} {vs : List V} {i : Nat} {v : V} (h : RepL K H vs ds) (e : vs[i]? = some v) : ∃ d, ds[i]? = some d ∧ Rep K H v d := by
  have hl := h.length
  have hi : i < ds.length := by
    have := (List.getElem?_eq_some_iff.mp e).1
    omega
  obtain ⟨v', e1, r⟩ := h.get (List.getElem?_eq_getElem hi)
  rw [e] at e1
  cases e1
  exact ⟨_, List.getElem?_eq_getElem hi, r⟩
theorem RepL.append : ∀ {ds es : List D} {vs us : List V}, RepL K H vs ds → RepL K H us es → RepL K H (vs ++ us) (ds ++ es)
  | [], _, _, _, h, k => by cases h; exact k
  | d :: ds, _, _, _, h, k => by cases h with | cons h1 h2 => exact .cons h1 (RepL.append h2 k)
theorem RepL.one {v : V} {d : D} (h : Rep K H v d) : RepL K H [v] [d] := .cons h .nil
theorem RepL.take : ∀ {ds : List D} {vs : List V} (n : Nat), RepL K H vs ds → RepL K H (vs.take n) (ds.take n)
  | _, _, 0, _ => by rw [List.take_zero, List.take_zero]; exact .nil
  | [], _, n + 1, h => by cases h; exact .nil
  | d :: ds, _, n + 1, h => by cases h with | cons h1 h2 => exact .cons h1 (RepL.take n h2)
theorem RepL.drop : ∀ {ds : List D} {vs : List V} (n : Nat), RepL K H vs ds → RepL K H (vs.drop n) (ds.drop n)
  | _, _, 0, h => h
  | [], _, n + 1, h => by cases h; exact .nil
  | d :: ds, _, n + 1, h => by cases h with | cons h1 h2 => exact RepL.drop n h2
theorem RepL.set : ∀ {ds : List D} {vs : List V} {v : V} {d : D} (n : Nat), RepL K H vs ds → Rep K H v d → RepL K H (vs.set n v) (ds.set n d)
  | [], _, _, _, n, h, _ => by cases h; exact .nil
  | d :: ds, _, _, _, 0, h, k => by cases h with | cons h1 h2 => exact .cons k h2
  | d :: ds, _, _, _, n + 1, h, k => by cases h with | cons h1 h2 => exact .cons h1 (RepL.set n h2 k)
theorem RepL.erase : ∀ {ds : List D} {vs : List V} (n : Nat), RepL K H vs ds → RepL K H (vs.eraseIdx n) (ds.eraseIdx n)
  | [], _, n, h => by cases h; exact .nil
  | d :: ds, _, 0, h => by cases h with | cons h1 h2 => exact h2
  | d :: ds, _, n + 1, h => by cases h with | cons h1 h2 => exact .cons h1 (RepL.erase n h2)
theorem RepL.dropLast {ds : List D} {vs : List V} (h : RepL K H vs ds) : RepL K H vs.dropLast ds.dropLast := by
  rw [List.dropLast_eq_take, List.dropLast_eq_take, h.length]
  exact h.take _
theorem RepL.rep {ds : List D} {vs : List V} (h : RepL K H vs ds) : ∀ k : Nat, RepL K H (List.replicate k vs).flatten (List.replicate k ds).flatten
  | 0 => .nil
  | k + 1 => by
    rw [List.replicate_succ, List.replicate_succ, List.flatten_cons, List.flatten_cons]
    exact RepL.append h (RepL.rep h k)
theorem RepL.ints : ∀ {ns : List Int} {vs : List V}, RepL K H vs (ns.map D.int) → vs = ns.map V.int
  | [], _, h => by cases h; rfl
  | n :: ns, _, h => by cases h with | cons h1 h2 => cases h1; rw [RepL.ints h2]; rfl
theorem RepL.of_ints : ∀ (ns : List Int), RepL K H (ns.map V.int) (ns.map D.int)
  | [] => .nil
  | n :: ns => .cons (.int n) (RepL.of_ints ns)
theorem RepL.strs : ∀ {ns : List Str} {vs : List V}, RepL K H vs (ns.map D.str) → vs = ns.map V.str
  | [], _, h => by cases h; rfl
  | n :: ns, _, h => by cases h with | cons h1 h2 => cases h1; rw [RepL.strs h2]; rfl
theorem RepL.of_strs : ∀ (ns : List Str), RepL K H (ns.map V.str) (ns.map D.str)
  | [] => .nil
  | n :: ns => .cons (.str n) (RepL.of_strs ns)
theorem RepL.bls : ∀ {ns : List Bool} {vs : List V}, RepL K H vs (ns.map D.bl) → vs = ns.map V.bl
  | [], _, h => by cases h; rfl
  | n :: ns, _, h => by cases h with | cons h1 h2 => cases h1; rw [RepL.bls h2]; rfl
theorem RepL.of_bls : ∀ (ns : List Bool), RepL K H (ns.map V.bl) (ns.map D.bl)
  | [] => .nil
  | n :: ns => .cons (.bl n) (RepL.of_bls ns)
end

inductive L where
  | d (x : D)
  | own (xs : List D)
  | odi (ks : List Key) (ds : List D)
  | obj (C : Addr) (fs : List Str) (ls : List L)

mutual
inductive LOk (K : PySem.W.Frag) (Hs H : Hp) : V → L → List Addr → Prop
  | d {v : V} {x : D} : Rep K Hs v x → LOk K Hs H v (.d x) []
  | own {a : Addr} {vs : List V} {xs : List D} : H a = some (.lst vs) → RepL K Hs vs xs → LOk K Hs H (.ref a) (.own xs) [a]
  | odi {a : Addr} {kvs : List (Key × V)} {ks : List Key} {ds : List D} : H a = some (.dK kvs) → kvs.map (·.1) = ks → RepL K Hs (kvs.map (·.2)) ds → LOk K Hs H (.ref a) (.odi ks ds) [a]
  | obj {a C dx : Addr} {kvs : List (Str × V)} {fs : List Str} {ls : List L} {f : List Addr} : H a = some (.ins C dx kvs) → kvs.map (·.1) = fs → LOkL K Hs H (kvs.map (·.2)) ls f → LOk K Hs H (.ref a) (.obj C fs ls) (a :: f)
inductive LOkL (K : PySem.W.Frag) (Hs H : Hp) : List V → List L → List Addr → Prop
  | nil : LOkL K Hs H [] [] []
  | cons {v : V} {vs : List V} {l : L} {ls : List L} {f g : List Addr} : LOk K Hs H v l f → LOkL K Hs H vs ls g → LOkL K Hs H (v :: vs) (l :: ls) (f ++ g)
end
section
variable {K : PySem.W.Frag} {Hs Hs' H H' : Hp}
mutual
theorem LOk.mono (e : Ex Hs Hs') : ∀ (l : L) {v : V} {f : List Addr}, LOk K Hs H v l f → (∀ a ∈ f, H' a = H a) → LOk K Hs' H' v l f
  | .d x, _, _, h, k => by cases h with | d h1 => exact .d (h1.mono e)
  | .own xs, _, _, h, k => by cases h with | own h1 h2 => exact .own ((k _ (by simp)).trans h1) (h2.mono e)
  | .odi ks ds, _, _, h, k => by cases h with | odi h1 h2 h3 => exact .odi ((k _ (by simp)).trans h1) h2 (h3.mono e)
  | .obj C fs ls, _, _, h, k => by
    cases h with
    | obj h1 h2 h3 => exact .obj ((k _ (by simp)).trans h1) h2 (LOkL.mono e ls h3 fun a ha => k a (List.mem_cons_of_mem _ ha))
theorem LOkL.mono (e : Ex Hs Hs') : ∀ (ls : List L) {vs : List V} {f : List Addr}, LOkL K Hs H vs ls f → (∀ a ∈ f, H' a = H a) → LOkL K Hs' H' vs ls f
  | [], _, _, h, k => by cases h; exact .nil
  | l :: ls, _, _, h, k => by
    cases h with
    | cons h1 h2 => exact .cons (LOk.mono e l h1 fun a ha => k a (List.mem_append_left _ ha)) (LOkL.mono e ls h2 fun a ha => k a (List.mem_append_right _ ha))
end
mutual
theorem LOk.live : ∀ (l : L) {v : V} {f : List Addr}, LOk K Hs H v l f → ∀ a ∈ f, H a ≠ none
  | .d x, _, _, h, a, ha => by cases h; simp at ha
  | .own xs, _, _, h, a, ha => by cases h with | own h1 h2 => simp at ha; subst ha; rw [h1]; simp
  | .odi ks ds, _, _, h, a, ha => by cases h with | odi h1 h2 h3 => simp at ha; subst ha; rw [h1]; simp
  | .obj C fs ls, _, _, h, a, ha => by
    cases h with
    | obj h1 h2 h3 =>
      rcases List.mem_cons.mp ha with rfl | ha
      · rw [h1]; simp
      · exact LOkL.live ls h3 a ha
theorem LOkL.live : ∀ (ls : List L) {vs : List V} {f : List Addr}, LOkL K Hs H vs ls f → ∀ a ∈ f, H a ≠ none
  | [], _, _, h, a, ha => by cases h; simp at ha
  | l :: ls, _, _, h, a, ha => by
    cases h with
    | cons h1 h2 =>
      rcases List.mem_append.mp ha with ha | ha
      · exact LOk.live l h1 a ha
      · exact LOkL.live ls h2 a ha
end
end

structure Xn where
  C : Addr
  fs : Option (List Str × List D)
def XOk (K : PySem.W.Frag) (Hs H : Hp) (c : Value) (dd : Option Addr) (x : Xn) : Prop :=
  c = .ref x.C ∧ match x.fs with
    | none => dd = none
    | some (fs, ds) => ∃ d kvs, dd = some d ∧ H d = some (.xd kvs) ∧ kvs.map (·.1) = fs ∧ RepL K Hs (kvs.map (·.2)) ds

abbrev VS := List (Option L)
structure Fm where
  B : Hp
  S : Hp
  pin : List (Nat × V)
structure Sm (K : PySem.W.Frag) (fm : Fm) (Hs : Hp) (vs : VS) (σ : L2.St) (H : Hp) (xf : List Addr) (ft : Nat → List Addr) : Prop where
  sub : Ex Hs H
  base : Ex fm.B H
  grow : Ex fm.S Hs
  new : ∀ a, Hs a ≠ none → fm.S a ≠ none ∨ fm.B a = none
  len : vs.length = σ.length
  ok : ∀ i l, vs[i]? = some (some l) → ∃ v, σ[i]? = some (some v) ∧ LOk K Hs H v l (ft i)
  nd : ∀ i, (ft i).Nodup
  dj : ∀ i j a, a ∈ ft i → a ∈ ft j → i = j
  sp : ∀ i a, a ∈ ft i → Hs a = none ∧ fm.B a = none ∧ H a ≠ none
  xnd : xf.Nodup
  xdj : ∀ i a, a ∈ ft i → a ∉ xf
  xsp : ∀ a, a ∈ xf → Hs a = none ∧ fm.B a = none ∧ H a ≠ none
  pins : ∀ p ∈ fm.pin, σ[p.1]? = some (some p.2)
def Sim (K : PySem.W.Frag) (fm : Fm) (Hs : Hp) (vs : VS) (σ : L2.St) (H : Hp) (xf : List Addr) : Prop := ∃ ft, Sm K fm Hs vs σ H xf ft

section
variable {K : PySem.W.Frag} {fm : Fm} {Hs : Hp} {vs : VS} {σ : L2.St} {H : Hp} {xf : List Addr}
theorem Sim.sub (h : Sim K fm Hs vs σ H xf) : Ex Hs H := let ⟨_, s⟩ := h; s.sub
theorem Sim.slot (h : Sim K fm Hs vs σ H xf) {i : Nat} {l : L} (e : vs[i]? = some (some l)) : ∃ v f, σ[i]? = some (some v) ∧ LOk K Hs H v l f := let ⟨ft, s⟩ := h; let ⟨v, a, b⟩ := s.ok i l e; ⟨v, ft i, a, b⟩
theorem Sim.slotD (h : Sim K fm Hs vs σ H xf) {i : Nat} {x : D} (e : vs[i]? = some (some (.d x))) : ∃ v, σ[i]? = some (some v) ∧ Rep K Hs v x := by
  obtain ⟨v, f, e1, r⟩ := h.slot e
  cases r with | d r => exact ⟨v, e1, r⟩
theorem Sim.alloc (h : Sim K fm Hs vs σ H xf) {p : Addr} (hp : H p = none) (o : HO) : Sim K fm (upd Hs p o) vs σ (upd H p o) xf := by
  obtain ⟨ft, s⟩ := h
  have hs : Hs p = none := Evl.fresh_back s.sub hp
  have hb : fm.B p = none := Evl.fresh_back s.base hp
  have ne : ∀ a, H a ≠ none → a ≠ p := fun a ha e => ha (by rw [e]; exact hp)
  refine ⟨ft, ⟨fun a u e => ?_, fun a u e => ?_, fun a u e => ?_, fun a e => ?_, s.len, fun i l e => ?_, s.nd, s.dj, fun i a ha => ?_, s.xnd, s.xdj, fun a ha => ?_, s.pins⟩⟩
  · by_cases q : a = p
    · subst q; rw [upd_same] at e ⊢; exact e
    · rw [upd_ne q] at e ⊢; exact s.sub a u e
  · rw [upd_ne (ne_of_none (s.base a u e) hp)]; exact s.base a u e
  · rw [upd_ne (ne_of_none (s.grow a u e) hs)]; exact s.grow a u e
  · by_cases q : a = p
    · exact .inr (by rw [q]; exact hb)
    · rw [upd_ne q] at e; exact s.new a e
  · obtain ⟨v, e1, r⟩ := s.ok i l e
    exact ⟨v, e1, r.mono (Ex.new hs) l fun a ha => upd_ne (ne a (s.sp i a ha).2.2)⟩
  · obtain ⟨h1, h2, h3⟩ := s.sp i a ha
    exact ⟨by rw [upd_ne (ne a h3)]; exact h1, h2, by rw [upd_ne (ne a h3)]; exact h3⟩
  · obtain ⟨h1, h2, h3⟩ := s.xsp a ha
    exact ⟨by rw [upd_ne (ne a h3)]; exact h1, h2, by rw [upd_ne (ne a h3)]; exact h3⟩
theorem Sim.allocX (h : Sim K fm Hs vs σ H []) {p : Addr} (hp : H p = none) (o : HO) : Sim K fm Hs vs σ (upd H p o) [p] := by
  obtain ⟨ft, s⟩ := h
  have hs : Hs p = none := Evl.fresh_back s.sub hp
  have hb : fm.B p = none := Evl.fresh_back s.base hp
  have ne : ∀ a, H a ≠ none → a ≠ p := fun a ha e => ha (by rw [e]; exact hp)
  refine ⟨ft, ⟨fun a u e => ?_, fun a u e => ?_, s.grow, s.new, s.len, fun i l e => ?_, s.nd, s.dj, fun i a ha => ?_, by simp, fun i a ha q => ?_, fun a ha => ?_, s.pins⟩⟩
  · rw [upd_ne (ne_of_none (s.sub a u e) hp)]; exact s.sub a u e
  · rw [upd_ne (ne_of_none (s.base a u e) hp)]; exact s.base a u e
  · obtain ⟨v, e1, r⟩ := s.ok i l e
    exact ⟨v, e1, r.mono (Ex.refl _) l fun a ha => upd_ne (ne a (s.sp i a ha).2.2)⟩
  · obtain ⟨h1, h2, h3⟩ := s.sp i a ha
    exact ⟨h1, h2, by rw [upd_ne (ne a h3)]; exact h3⟩
  · have : a = p := by simpa using q
    exact ne a (s.sp i a ha).2.2 this
  · have : a = p := by simpa using ha
    subst this
    exact ⟨hs, hb, by rw [upd_same]; simp⟩
theorem Sim.share1 {a : Addr} {o : HO} (h : Sim K fm Hs vs σ H [a]) (ha : H a = some o) : Sim K fm (upd Hs a o) vs σ H [] := by
  obtain ⟨ft, s⟩ := h
  obtain ⟨hs, hb, _⟩ := s.xsp a (by simp)
  have ne : ∀ i b, b ∈ ft i → b ≠ a := fun i b hb e => s.xdj i b hb (by simp [e])
  refine ⟨ft, ⟨fun b u e => ?_, s.base, fun b u e => ?_, fun b e => ?_, s.len, fun i l e => ?_, s.nd, s.dj, fun i b hb' => ?_, by simp, fun i b _ q => by simp at q, fun b q => by simp at q, s.pins⟩⟩
  · by_cases q : b = a
    · subst q; rw [upd_same] at e; cases e; exact ha
    · rw [upd_ne q] at e; exact s.sub b u e
  · rw [upd_ne (ne_of_none (s.grow b u e) hs)]; exact s.grow b u e
  · by_cases q : b = a
    · exact .inr (by rw [q]; exact hb)
    · rw [upd_ne q] at e; exact s.new b e
  · obtain ⟨v, e1, r⟩ := s.ok i l e
    exact ⟨v, e1, r.mono (Ex.new hs) l fun _ _ => rfl⟩
  · obtain ⟨h1, h2, h3⟩ := s.sp i b hb'
    exact ⟨by rw [upd_ne (ne i b hb')]; exact h1, h2, h3⟩
theorem Sim.set {v : V} {l : L} (h : Sim K fm Hs vs σ H xf) (r : LOk K Hs H v l xf) {i : Nat} (hi : i < σ.length) (hp : i ∉ fm.pin.map (·.1)) : Sim K fm Hs (vs.set i (some l)) (σ.set i (some v)) H [] := by
  obtain ⟨ft, s⟩ := h
  refine ⟨fun j => if j = i then xf else ft j, ⟨s.sub, s.base, s.grow, s.new, by simp [s.len], fun j m e => ?_, fun j => ?_, fun j k a h1 h2 => ?_, fun j a ha => ?_, by simp, fun _ _ _ q => by simp at q, fun _ q => by simp at q, fun p hp' => ?_⟩⟩
  · by_cases q : j = i
    · subst q
      rw [List.getElem?_set_self (by rw [s.len]; exact hi)] at e
      cases e
      rw [List.getElem?_set_self hi, if_pos rfl]
      exact ⟨v, rfl, r⟩
    · rw [List.getElem?_set_ne (Ne.symm q)] at e
      rw [List.getElem?_set_ne (Ne.symm q), if_neg q]
      exact s.ok j m e
  · show List.Nodup (if _ then _ else _)
    split
    · exact s.xnd
    · exact s.nd j
  · try dsimp only at h1 h2
    split at h1 <;> split at h2
    · rename_i a b; rw [a, b]
    · exact absurd h1 (s.xdj k a h2)
    · exact absurd h2 (s.xdj j a h1)
    · exact s.dj j k a h1 h2
  · try dsimp only at ha
    split at ha
    · exact s.xsp a ha
    · exact s.sp j a ha
  · rw [List.getElem?_set_ne]
    · exact s.pins p hp'
    · intro e
      exact hp (by rw [e]; exact List.mem_map_of_mem hp')
theorem Sim.drop (h : Sim K fm Hs vs σ H xf) (i : Nat) : Sim K fm Hs (vs.set i none) σ H xf := by
  obtain ⟨ft, s⟩ := h
  refine ⟨ft, ⟨s.sub, s.base, s.grow, s.new, by simp [s.len], fun j m e => ?_, s.nd, s.dj, s.sp, s.xnd, s.xdj, s.xsp, s.pins⟩⟩
  by_cases q : j = i
  · subst q
    by_cases hj : j < vs.length
    · rw [List.getElem?_set_self hj] at e; cases e
    · rw [List.getElem?_eq_none (by simpa using hj)] at e; cases e
  · rw [List.getElem?_set_ne (Ne.symm q)] at e
    exact s.ok j m e
theorem Sim.write (h : Sim K fm Hs vs σ H xf) {i : Nat} {l' : L} {a : Addr} {o : HO} {l : L} (e : vs[i]? = some (some l)) (ev : σ[i]? = some (some (.ref a)))
    (hl : ∀ f, LOk K Hs H (.ref a) l f → f = [a] ∧ LOk K Hs (upd H a o) (.ref a) l' [a]) : Sim K fm Hs (vs.set i (some l')) σ (upd H a o) xf := by
  obtain ⟨ft, s⟩ := h
  obtain ⟨v, e1, r⟩ := s.ok i l e
  rw [ev] at e1
  cases e1
  obtain ⟨hf, r'⟩ := hl _ r
  have ha : a ∈ ft i := by rw [hf]; simp
  obtain ⟨hs, hb, hh⟩ := s.sp i a ha
  have hne : ∀ b u, Hs b = some u → b ≠ a := fun b u q z => by rw [z, hs] at q; cases q
  refine ⟨ft, ⟨fun b u q => by rw [upd_ne (hne b u q)]; exact s.sub b u q, fun b u q => ?_, s.grow, s.new, by simp [s.len], fun j m ej => ?_, s.nd, s.dj, fun j b hb' => ?_, s.xnd, s.xdj, fun b hb' => ?_, s.pins⟩⟩
  · have : b ≠ a := fun z => by rw [z, hb] at q; cases q
    rw [upd_ne this]; exact s.base b u q
  · by_cases q : j = i
    · subst q
      rw [List.getElem?_set_self (List.getElem?_eq_some_iff.mp e).1] at ej
      cases ej
      exact ⟨_, ev, by rw [hf]; exact r'⟩
    · rw [List.getElem?_set_ne (Ne.symm q)] at ej
      obtain ⟨v, e1, r1⟩ := s.ok j m ej
      refine ⟨v, e1, r1.mono (Ex.refl _) m fun b hb' => upd_ne fun z => q ?_⟩
      exact s.dj j i a (by rw [← z]; exact hb') ha
  · obtain ⟨h1, h2, h3⟩ := s.sp j b hb'
    refine ⟨h1, h2, ?_⟩
    unfold upd
    split
    · simp
    · exact h3
  · obtain ⟨h1, h2, h3⟩ := s.xsp b hb'
    refine ⟨h1, h2, ?_⟩
    unfold upd
    split
    · simp
    · exact h3
end
end Ev
namespace Ev
open PySem PySem.Spec PyProof.Rows L2
open Evl (Ex)

abbrev M (α : Type) := VS → Option (Except Xn α × VS)
def rt {α : Type} (a : α) : M α := fun s => some (.ok a, s)
def bd {α β : Type} (F : M α) (g : α → M β) : M β := fun s => match F s with
  | none => none
  | some (.error x, s1) => some (.error x, s1)
  | some (.ok a, s1) => g a s1
theorem bd_ok {α β : Type} {F : M α} {g : α → M β} {s s1 : VS} {a : α} (h : F s = some (.ok a, s1)) : bd F g s = g a s1 := by unfold bd; rw [h]
theorem bd_cases {α β : Type} {F : M α} {g : α → M β} {s : VS} {r : Except Xn β × VS} (h : bd F g s = some r) :
    (∃ a s1, F s = some (.ok a, s1) ∧ g a s1 = some r) ∨ ∃ x s1, F s = some (.error x, s1) ∧ r = (.error x, s1) := by
  unfold bd at h
  split at h
  · cases h
  · rename_i x s1 e; exact .inr ⟨x, s1, e, (Option.some.inj h).symm⟩
  · rename_i a s1 e; exact .inl ⟨a, s1, e, h⟩

def tF (K : PySem.W.Frag) (W : WX) (P : List Nat) {α β : Type} (R : Hp → Hp → L2.St → β → α → List Addr → Prop) (F : M α) : L2.St → Hp → (β → Hp → Prop) → Prop := fun σ H Q =>
  ∃ fm Hs vs r vs', F vs = some (r, vs') ∧ fm.pin.map (·.1) = P ∧ Sim K fm Hs vs σ H [] ∧
    (∀ a b H' Hs' xf, r = .ok a → Sim K fm Hs' vs' σ H' xf → Ex Hs Hs' → R Hs' H' σ b a xf → Q b H') ∧
    (∀ x c dd H' Hs', r = .error x → Sim K fm Hs' vs' σ H' [] → Ex Hs Hs' → XOk K Hs' H' c dd x → W c dd σ H')
theorem go {K : PySem.W.Frag} {W : WX} {P : List Nat} {α β γ : Type} {R : Hp → Hp → L2.St → β → α → List Addr → Prop} {F : M α} {g : α → M γ} {fm : Fm} {Hs : Hp} {vs vs' : VS} {r : Except Xn γ} {σ : L2.St} {H : Hp} {Q : β → Hp → Prop}
    (hF : bd F g vs = some (r, vs')) (hP : fm.pin.map (·.1) = P) (hS : Sim K fm Hs vs σ H [])
    (hE : ∀ x c dd H' Hs', r = .error x → Sim K fm Hs' vs' σ H' [] → Ex Hs Hs' → XOk K Hs' H' c dd x → W c dd σ H')
    (hk : ∀ a vs1 b H1 Hs1 xf, g a vs1 = some (r, vs') → Sim K fm Hs1 vs1 σ H1 xf → Ex Hs Hs1 → R Hs1 H1 σ b a xf → Q b H1) : tF K W P R F σ H Q := by
  rcases bd_cases hF with ⟨a, s1, e, h⟩ | ⟨x, s1, e, h⟩
  · exact ⟨fm, Hs, vs, _, s1, e, hP, hS, fun a' b H' Hs' xf q S' X' r' => (by cases q; exact hk a s1 b H' Hs' xf h S' X' r'), fun x c dd H' Hs' q => (by cases q)⟩
  · obtain ⟨rfl, rfl⟩ := Prod.mk.inj h
    exact ⟨fm, Hs, vs, _, vs', e, hP, hS, fun a' b H' Hs' xf q => (by cases q), fun x' c dd H' Hs' q S' X' o => (by cases q; exact hE _ c dd H' Hs' rfl S' X' o)⟩
theorem PE_weak {X : Cx} {e : Expr} {t t' : TE} (h : PE X e t) (hw : ∀ σ H Q, t' σ H Q → t σ H Q) : PE X e t' := ⟨fun pins s σ H Q I q => h.run pins s σ H Q I (hw σ H Q q)⟩
theorem PT_weak {X : Cx} {e : Expr} {t t' : TT} (h : PT X e t) (hw : ∀ σ H Q, t' σ H Q → t σ H Q) : PT X e t' := ⟨fun pins s σ H Q I q => h.run pins s σ H Q I (hw σ H Q q)⟩
theorem PW_weak {X : Cx} {e : Expr} {t t' : TT} (h : PW X e t) (hw : ∀ σ H Q, t' σ H Q → t σ H Q) : PW X e t' := ⟨fun wh pins s σ H Q I q => h.run wh pins s σ H Q I (hw σ H Q q)⟩
theorem PA_weak {X : Cx} {e : List Expr} {t t' : TA} (h : PA X e t) (hw : ∀ σ H Q, t' σ H Q → t σ H Q) : PA X e t' := ⟨fun pos pins s σ H Q I q => h.run pos pins s σ H Q I (hw σ H Q q)⟩

inductive Pk where
  | dat (d : D)
  | sl (i : Nat)
mutual
def L.view : L → D
  | .d x => x
  | .own xs => .lst xs
  | .odi ks ds => .dic ks ds
  | .obj C fs ls => .ins C fs (L.views ls)
def L.views : List L → List D
  | [] => []
  | l :: ls => L.view l :: L.views ls
end
inductive Rep1 (K : PySem.W.Frag) (Hs H : Hp) : V → D → Prop
  | top {v : V} {d : D} : Rep K Hs v d → Rep1 K Hs H v d
  | lst {a : Addr} {vs : List V} {ds : List D} : H a = some (.lst vs) → RepL K Hs vs ds → Rep1 K Hs H (.ref a) (.lst ds)
  | dic {a : Addr} {kvs : List (Key × V)} {ks : List Key} {ds : List D} : H a = some (.dK kvs) → kvs.map (·.1) = ks → RepL K Hs (kvs.map (·.2)) ds → Rep1 K Hs H (.ref a) (.dic ks ds)
def PkOk (K : PySem.W.Frag) (Hs : Hp) (σ : L2.St) (v : V) : Pk → Prop
  | .dat d => Rep K Hs v d
  | .sl i => σ[i]? = some (some v)
def res (s : VS) : Pk → Option D
  | .dat d => some d
  | .sl i => match s[i]? with
    | some (some (.d x)) => some x
    | some (some (.own xs)) => some (.lst xs)
    | some (some (.odi ks ds)) => some (.dic ks ds)
    | _ => none
theorem Rep1.full {K : PySem.W.Frag} {Hs H : Hp} {v : V} {d : D} (e : Ex Hs H) (h : Rep1 K Hs H v d) : Rep K H v d := by
  cases h with
  | top h => exact h.mono e
  | lst h1 h2 => exact .lst h1 (h2.mono e)
  | dic h1 h2 h3 => exact .dic h1 h2 (h3.mono e)
theorem Sim.res {K : PySem.W.Frag} {fm : Fm} {Hs Hs' : Hp} {vs : VS} {σ : L2.St} {H : Hp} {xf : List Addr} {v : V} {d : D} {pk : Pk} (h : Sim K fm Hs vs σ H xf) (hk : PkOk K Hs' σ v pk) (e : Ex Hs' Hs) (hr : res vs pk = some d) : Rep1 K Hs H v d := by
  cases pk with
  | dat x =>
    cases hr
    exact .top (Rep.mono e _ hk)
  | sl i =>
    unfold Ev.res at hr
    have hk : σ[i]? = some (some v) := hk
    dsimp only at hr
    split at hr
    · rename_i x e1
      cases hr
      obtain ⟨v', e2, r⟩ := h.slotD e1
      rw [hk] at e2; cases e2
      exact .top r
    · rename_i xs e1
      cases hr
      obtain ⟨v', f, e2, r⟩ := h.slot e1
      rw [hk] at e2; cases e2
      cases r with | own h1 h2 => exact .lst h1 h2
    · rename_i ks ds e1
      cases hr
      obtain ⟨v', f, e2, r⟩ := h.slot e1
      rw [hk] at e2; cases e2
      cases r with | odi h1 h2 h3 => exact .dic h1 h2 h3
    · cases hr

abbrev tE (K : PySem.W.Frag) (W : WX) (P : List Nat) (F : M D) : TE := tF K W P (fun Hs _ _ v d xf => Rep K Hs v d ∧ xf = []) F
abbrev tL (K : PySem.W.Frag) (W : WX) (P : List Nat) (F : M L) : TE := tF K W P (fun Hs H _ v l xf => LOk K Hs H v l xf) F
abbrev tK (K : PySem.W.Frag) (W : WX) (P : List Nat) (F : M Pk) : TE := tF K W P (fun Hs _ σ v k xf => PkOk K Hs σ v k ∧ xf = []) F
abbrev tB (K : PySem.W.Frag) (W : WX) (P : List Nat) (F : M Bool) : TT := tF K W P (fun _ _ _ b a xf => b = a ∧ xf = []) F
abbrev tAs (K : PySem.W.Frag) (W : WX) (P : List Nat) (F : M (List D)) : TA := tF K W P (fun Hs _ _ vs ds xf => RepL K Hs vs ds ∧ xf = []) F
abbrev tKs (K : PySem.W.Frag) (W : WX) (P : List Nat) (F : M (List Pk)) : TA := tF K W P (fun Hs _ σ vs ks xf => Paired (PkOk K Hs σ) vs ks ∧ xf = []) F

section
variable {X : Cx} {W : WX} {P : List Nat} {e a b c : Expr} {pos : Pos}
def fK (F : M D) : M Pk := bd F fun d => rt (.dat d)
theorem de_K {F : M D} (h : PE X e (tE X.K W P F)) : PE X e (tK X.K W P (fK F)) := PE_weak h fun σ H Q ⟨fm, Hs, vs, r, vs', hF, hP, hS, hk, hE⟩ => by
  refine go hF hP hS hE fun d vs1 v H1 Hs1 xf hg S1 X1 ⟨rv, rx⟩ => ?_
  obtain ⟨rfl, rfl⟩ := Prod.mk.inj (Option.some.inj hg)
  subst rx
  exact hk _ v H1 Hs1 [] rfl S1 X1 ⟨rv, rfl⟩
def fD (F : M D) : M L := bd F fun d => rt (.d d)
theorem de_L {F : M D} (h : PE X e (tE X.K W P F)) : PE X e (tL X.K W P (fD F)) := PE_weak h fun σ H Q ⟨fm, Hs, vs, r, vs', hF, hP, hS, hk, hE⟩ => by
  refine go hF hP hS hE fun d vs1 v H1 Hs1 xf hg S1 X1 ⟨rv, rx⟩ => ?_
  obtain ⟨rfl, rfl⟩ := Prod.mk.inj (Option.some.inj hg)
  subst rx
  exact hk _ v H1 Hs1 [] rfl S1 X1 (.d rv)
def allD : List L → Bool
  | [] => true
  | .d _ :: r => allD r
  | _ :: _ => false
def L.data : L → Option D
  | .d x => some x
  | .own xs => some (.lst xs)
  | .odi ks ds => some (.dic ks ds)
  | .obj C fs ls => if allD ls = true then some (.ins C fs (L.views ls)) else none
def fS (F : M L) : M D := bd F fun l s => match l.data with
  | some d => some (.ok d, s)
  | none => none
theorem lokl_data {K : PySem.W.Frag} {Hs H : Hp} : ∀ {ls : List L} {vs : List V} {f : List Addr}, LOkL K Hs H vs ls f → allD ls = true → f = [] ∧ RepL K Hs vs (L.views ls)
  | [], _, _, h, _ => by cases h; exact ⟨rfl, .nil⟩
  | l :: ls, _, _, h, q => by
    cases h with
    | cons h1 h2 =>
      cases l with
      | d x =>
        obtain ⟨e, r⟩ := lokl_data h2 q
        subst e
        cases h1 with | d h1 => exact ⟨rfl, .cons h1 r⟩
      | own xs => cases q
      | odi ks ds => cases q
      | obj C fs ls => cases q
theorem Sim.xhd {K : PySem.W.Frag} {fm : Fm} {Hs : Hp} {vs : VS} {σ : L2.St} {H : Hp} {a : Addr} {r : List Addr} (S : Sim K fm Hs vs σ H (a :: r)) : Hs a = none := by
  obtain ⟨ft, s⟩ := S
  exact (s.xsp a (by simp)).1
theorem share {K : PySem.W.Frag} {fm : Fm} {Hs : Hp} {vs : VS} {σ : L2.St} {H : Hp} {xf : List Addr} {l : L} {v : V} {d : D} (S : Sim K fm Hs vs σ H xf) (h : LOk K Hs H v l xf) (e : l.data = some d) :
    ∃ Hs', Sim K fm Hs' vs σ H [] ∧ Ex Hs Hs' ∧ Rep K Hs' v d := by
  cases h with
  | d h => cases e; exact ⟨Hs, S, Ex.refl _, h⟩
  | own h1 h2 =>
    cases e
    have hn := S.xhd
    exact ⟨_, S.share1 h1, Ex.new hn, .lst upd_same (h2.mono (Ex.new hn))⟩
  | odi h1 h2 h3 =>
    cases e
    have hn := S.xhd
    exact ⟨_, S.share1 h1, Ex.new hn, .dic upd_same h2 (h3.mono (Ex.new hn))⟩
  | obj h1 h2 h3 =>
    have e : (if allD _ = true then some (D.ins _ _ (L.views _)) else none) = some d := e
    split at e
    · rename_i q
      obtain ⟨e', r'⟩ := lokl_data h3 q
      subst e'
      cases e
      have hn := S.xhd
      exact ⟨_, S.share1 h1, Ex.new hn, .ins upd_same h2 (r'.mono (Ex.new hn))⟩
    · cases e
theorem de_S {F : M L} (h : PE X e (tL X.K W P F)) : PE X e (tE X.K W P (fS F)) := PE_weak h fun σ H Q ⟨fm, Hs, vs, r, vs', hF, hP, hS, hk, hE⟩ => by
  refine go hF hP hS hE fun l vs1 v H1 Hs1 xf hg S1 X1 r1 => ?_
  split at hg
  · rename_i d hd
    cases hg
    obtain ⟨Hs2, S2, X2, r2⟩ := share S1 r1 hd
    exact hk d v H1 Hs2 [] rfl S2 (X1.trans X2) ⟨r2, rfl⟩
  · cases hg

def vLook (i : Nat) : M Pk := fun s => match s[i]? with
  | some (some (.d x)) => some (.ok (.dat x), s)
  | some (some _) => some (.ok (.sl i), s)
  | _ => none
theorem dk_var {i : Nat} {x : Str} (h : PE X (.Name x pos) (tVar i)) : PE X (.Name x pos) (tK X.K W P (vLook i)) := PE_weak h fun σ H Q ⟨fm, Hs, vs, r, vs', hF, hP, hS, hk, hE⟩ => by
  unfold vLook at hF
  split at hF
  · rename_i y e
    cases hF
    obtain ⟨v, e1, rv⟩ := hS.slotD e
    exact ⟨v, e1, hk _ v H Hs [] rfl hS (Ex.refl _) ⟨rv, rfl⟩⟩
  · rename_i l hn e
    cases hF
    obtain ⟨v, f, e1, rv⟩ := hS.slot e
    exact ⟨v, e1, hk _ v H Hs [] rfl hS (Ex.refl _) ⟨e1, rfl⟩⟩
  · cases hF
def vGet (i : Nat) : M D := fun s => match s[i]? with
  | some (some (.d x)) => some (.ok x, s)
  | some (some (.own xs)) => some (.ok (.lst xs), s.set i (some (.d (.lst xs))))
  | some (some (.odi ks ds)) => some (.ok (.dic ks ds), s.set i (some (.d (.dic ks ds))))
  | some (some (.obj C fs ls)) => if allD ls = true then some (.ok (.ins C fs (L.views ls)), s.set i (some (.d (.ins C fs (L.views ls))))) else none
  | _ => none
theorem Sim.freeze {K : PySem.W.Frag} {fm : Fm} {Hs : Hp} {vs : VS} {σ : L2.St} {H : Hp} {i : Nat} {l : L} {d : D} {a : Addr} {o : HO} (S : Sim K fm Hs vs σ H []) (e : vs[i]? = some (some l)) (ev : σ[i]? = some (some (.ref a))) (ha : H a = some o)
    (hl : ∀ f, LOk K Hs H (.ref a) l f → f = [a] ∧ (Hs a = none → Rep K (upd Hs a o) (.ref a) d)) : Hs a = none ∧ Sim K fm (upd Hs a o) (vs.set i (some (.d d))) σ H [] ∧ Rep K (upd Hs a o) (.ref a) d := by
  obtain ⟨ft, s⟩ := S
  obtain ⟨v, e1, r⟩ := s.ok i l e
  rw [ev] at e1
  cases e1
  obtain ⟨hf, r'⟩ := hl _ r
  have hm : a ∈ ft i := by rw [hf]; simp
  obtain ⟨hs, hb, hh⟩ := s.sp i a hm
  have r2 := r' hs
  refine ⟨hs, ⟨fun j => if j = i then [] else ft j, ⟨fun b u q => ?_, s.base, fun b u q => ?_, fun b q => ?_, by simp [s.len], fun j m ej => ?_, fun j => ?_, fun j k b h1 h2 => ?_, fun j b hb' => ?_, by simp, fun _ _ _ q => by simp at q, fun _ q => by simp at q, s.pins⟩⟩, r2⟩
  · by_cases z : b = a
    · subst z; rw [upd_same] at q; cases q; exact ha
    · rw [upd_ne z] at q; exact s.sub b u q
  · rw [upd_ne (ne_of_none (s.grow b u q) hs)]; exact s.grow b u q
  · by_cases z : b = a
    · exact .inr (by rw [z]; exact hb)
    · rw [upd_ne z] at q; exact s.new b q
  · by_cases z : j = i
    · subst z
      rw [List.getElem?_set_self (List.getElem?_eq_some_iff.mp e).1] at ej
      cases ej
      rw [if_pos rfl]
      exact ⟨_, ev, .d r2⟩
    · rw [List.getElem?_set_ne (Ne.symm z)] at ej
      rw [if_neg z]
      obtain ⟨v, e1, r1⟩ := s.ok j m ej
      exact ⟨v, e1, r1.mono (Ex.new hs) m fun _ _ => rfl⟩
  · show List.Nodup (if _ then _ else _)
    split
    · simp
    · exact s.nd j
  · try dsimp only at h1 h2
    split at h1
    · simp at h1
    · split at h2
      · simp at h2
      · exact s.dj j k b h1 h2
  · try dsimp only at hb'
    split at hb'
    · simp at hb'
    · rename_i z
      obtain ⟨h1, h2, h3⟩ := s.sp j b hb'
      refine ⟨?_, h2, h3⟩
      rw [upd_ne]
      · exact h1
      · intro q; exact z (s.dj j i a (by rw [← q]; exact hb') hm)
theorem de_var {i : Nat} {x : Str} (h : PE X (.Name x pos) (tVar i)) : PE X (.Name x pos) (tE X.K W P (vGet i)) := PE_weak h fun σ H Q ⟨fm, Hs, vs, r, vs', hF, hP, hS, hk, hE⟩ => by
  unfold vGet at hF
  split at hF
  · rename_i y e
    cases hF
    obtain ⟨v, e1, rv⟩ := hS.slotD e
    exact ⟨v, e1, hk _ v H Hs [] rfl hS (Ex.refl _) ⟨rv, rfl⟩⟩
  · rename_i xs e
    cases hF
    obtain ⟨v, f, e1, rv⟩ := hS.slot e
    cases rv with
    | own h1 h2 =>
      obtain ⟨hn, S', r'⟩ := hS.freeze (d := .lst xs) e e1 h1 fun f q => by
        cases q with
        | own q1 q2 => rw [h1] at q1; cases q1; exact ⟨rfl, fun hn => .lst upd_same (q2.mono (Ex.new hn))⟩
      exact ⟨_, e1, hk _ _ H _ [] rfl S' (Ex.new hn) ⟨r', rfl⟩⟩
  · rename_i ks ds e
    cases hF
    obtain ⟨v, f, e1, rv⟩ := hS.slot e
    cases rv with
    | odi h1 h2 h3 =>
      obtain ⟨hn, S', r'⟩ := hS.freeze (d := .dic ks ds) e e1 h1 fun f q => by
        cases q with
        | odi q1 q2 q3 => rw [h1] at q1; cases q1; exact ⟨rfl, fun hn => .dic upd_same q2 (q3.mono (Ex.new hn))⟩
      exact ⟨_, e1, hk _ _ H _ [] rfl S' (Ex.new hn) ⟨r', rfl⟩⟩
  · rename_i C fs ls e
    split at hF
    · rename_i hq
      cases hF
      obtain ⟨v, f, e1, rv⟩ := hS.slot e
      cases rv with
      | obj h1 h2 h3 =>
        obtain ⟨hn, S', r'⟩ := hS.freeze (d := .ins C fs (L.views ls)) e e1 h1 fun f q => by
          cases q with
          | obj q1 q2 q3 =>
            rw [h1] at q1; cases q1
            obtain ⟨e', r'⟩ := lokl_data q3 hq
            subst e'
            exact ⟨rfl, fun hn => .ins upd_same q2 (r'.mono (Ex.new hn))⟩
        exact ⟨_, e1, hk _ _ H _ [] rfl S' (Ex.new hn) ⟨r', rfl⟩⟩
    · cases hF
  · cases hF
def vMove (i : Nat) : M L := fun s => match s[i]? with
  | some (some l) => some (.ok l, s.set i none)
  | _ => none
theorem dl_move {i : Nat} {x : Str} (h : PE X (.Name x pos) (tVar i)) : PE X (.Name x pos) (tL X.K W P (vMove i)) := PE_weak h fun σ H Q ⟨fm, Hs, vs, r, vs', hF, hP, hS, hk, hE⟩ => by
  unfold vMove at hF
  split at hF
  · rename_i l e
    cases hF
    obtain ⟨ft, s⟩ := hS
    obtain ⟨v, e1, rv⟩ := s.ok i l e
    refine ⟨v, e1, hk _ v H Hs (ft i) rfl ⟨fun j => if j = i then [] else ft j, ⟨s.sub, s.base, s.grow, s.new, by simp [s.len], fun j m ej => ?_, fun j => ?_, fun j k b h1 h2 => ?_, fun j b hb' => ?_, s.nd i, fun j b hb' q => ?_, fun b q => s.sp i b q, s.pins⟩⟩ (Ex.refl _) rv⟩
    · by_cases z : j = i
      · subst z
        rw [List.getElem?_set_self (List.getElem?_eq_some_iff.mp e).1] at ej
        cases ej
      · rw [List.getElem?_set_ne (Ne.symm z)] at ej
        rw [if_neg z]
        exact s.ok j m ej
    · show List.Nodup (if _ then _ else _)
      split
      · simp
      · exact s.nd j
    · try dsimp only at h1 h2
      split at h1
      · simp at h1
      · split at h2
        · simp at h2
        · exact s.dj j k b h1 h2
    · try dsimp only at hb'
      split at hb'
      · simp at hb'
      · exact s.sp j b hb'
    · try dsimp only at hb'
      split at hb'
      · simp at hb'
      · rename_i z; exact z (s.dj j i b hb' q)
  · cases hF
theorem tC_flat {K : PySem.W.Frag} {v : V} {d : D} (hv : ∀ Hs, Rep K Hs v d) : ∀ σ H Q, tE K W P (rt d) σ H Q → tC v σ H Q := fun σ H Q ⟨fm, Hs, vs, r, vs', hF, hP, hS, hk, hE⟩ => by
  cases hF
  exact hk _ v H Hs [] rfl hS (Ex.refl _) ⟨hv Hs, rfl⟩
theorem de_const {v : V} {d : D} (h : PE X e (tC v)) (hv : ∀ Hs, Rep X.K Hs v d) : PE X e (tE X.K W P (rt d)) := PE_weak h (tC_flat hv)
theorem de_int {i j pos} : PE X (.Constant (.int i) j pos) (tE X.K W P (rt (.int i))) := de_const pe_int fun _ => .int i
theorem de_str {x j pos} : PE X (.Constant (.str x) j pos) (tE X.K W P (rt (.str x))) := de_const pe_str fun _ => .str x
theorem de_bl {b j pos} : PE X (.Constant (.bool b) j pos) (tE X.K W P (rt (.bl b))) := de_const pe_bl fun _ => .bl b
theorem de_non {j pos} : PE X (.Constant .none j pos) (tE X.K W P (rt .non)) := de_const pe_non fun _ => .non
end
end Ev
namespace Ev
open PySem PySem.Spec PyProof.Rows L2
open Evl (Ex)

def Res (K : PySem.W.Frag) (Hs H : Hp) (Q : VK) : L → Prop
  | .own zs => ∀ p vs, H p = none → RepL K Hs vs zs → Q (.ref p) (upd H p (.lst vs))
  | .odi ks ds => ∀ p kvs, H p = none → kvs.map (·.1) = ks → RepL K Hs (kvs.map (·.2)) ds → Q (.ref p) (upd H p (.dK kvs))
  | .d z => (∀ v, Rep K Hs v z → Q v H) ∧ ∀ zs p vs, z = .tup zs → H p = none → RepL K Hs vs zs → Q (.ref p) (upd H p (.tup vs))
  | .obj _ _ _ => True
theorem res_of {K : PySem.W.Frag} {fm : Fm} {Hs : Hp} {vs : VS} {σ : L2.St} {H : Hp} {Q : VK} {l : L} (S : Sim K fm Hs vs σ H []) (hk : ∀ v H' Hs' xf, Sim K fm Hs' vs σ H' xf → Ex Hs Hs' → LOk K Hs' H' v l xf → Q v H') : Res K Hs H Q l := by
  cases l with
  | d z =>
    refine ⟨fun v r => hk v H Hs [] S (Ex.refl _) (.d r), fun zs p us e hp r => ?_⟩
    subst e
    have hn : Hs p = none := Evl.fresh_back S.sub hp
    exact hk _ _ _ [] (S.alloc hp _) (Ex.new hn) (.d (.tup upd_same (r.mono (Ex.new hn))))
  | own zs => exact fun p us hp r => hk _ _ Hs [p] (S.allocX hp _) (Ex.refl _) (.own upd_same r)
  | odi ks ds => exact fun p us hp e r => hk _ _ Hs [p] (S.allocX hp _) (Ex.refl _) (.odi upd_same e r)
  | obj C fs ls => trivial
def Op2 (K : PySem.W.Frag) (r : R2) (f : D → D → Option L) : Prop :=
  ∀ Hs H x y dx dy l Q, Ex Hs H → Rep1 K Hs H x dx → Rep1 K Hs H y dy → f dx dy = some l → Res K Hs H Q l → r x y H Q
def Cm2 (K : PySem.W.Frag) (r : R2) (f : D → D → Option Bool) : Prop :=
  ∀ Hs H x y dx dy k (Q : VK), Ex Hs H → Rep1 K Hs H x dx → Rep1 K Hs H y dy → f dx dy = some k → Q (.bl k) H → r x y H Q
def OpN (K : PySem.W.Frag) (r : List V → Hp → VK → Prop) (f : List D → Option L) : Prop :=
  ∀ Hs H xs ds l Q, Ex Hs H → Paired (Rep1 K Hs H) xs ds → f ds = some l → Res K Hs H Q l → r xs H Q
def f2 (f : D → D → Option L) (Fa Fb : M Pk) : M L := bd Fa fun a => bd Fb fun b => fun s => match res s a, res s b with
  | some x, some y => (match f x y with
    | some l => some (.ok l, s)
    | none => none)
  | _, _ => none
def c2 (f : D → D → Option Bool) (Fa Fb : M Pk) : M Bool := bd Fa fun a => bd Fb fun b => fun s => match res s a, res s b with
  | some x, some y => (match f x y with
    | some l => some (.ok l, s)
    | none => none)
  | _, _ => none
def resAll (s : VS) : List Pk → Option (List D)
  | [] => some []
  | k :: ks => match res s k, resAll s ks with
    | some d, some ds => some (d :: ds)
    | _, _ => none
def fN (f : List D → Option L) (F : M (List Pk)) : M L := bd F fun ks s => match resAll s ks with
  | some ds => (match f ds with
    | some l => some (.ok l, s)
    | none => none)
  | none => none
theorem PkOk.mono {K : PySem.W.Frag} {Hs Hs' : Hp} {σ : L2.St} {v : V} {k : Pk} (e : Ex Hs Hs') (h : PkOk K Hs σ v k) : PkOk K Hs' σ v k := by
  cases k with
  | dat d => exact Rep.mono e _ h
  | sl i => exact h
theorem Sim.resAll {K : PySem.W.Frag} {fm : Fm} {Hs : Hp} {vs : VS} {σ : L2.St} {H : Hp} {xf : List Addr} (S : Sim K fm Hs vs σ H xf) : ∀ {ks : List Pk} {us : List V} {ds : List D}, Paired (PkOk K Hs σ) us ks → resAll vs ks = some ds → Paired (Rep1 K Hs H) us ds
  | [], _, _, .nil, e => by cases e; exact .nil
  | k :: ks, _, _, .cons r t, e => by
    unfold Ev.resAll at e
    split at e
    · rename_i d ds e1 e2
      cases e
      exact .cons (S.res r (Ex.refl _) e1) (S.resAll t e2)
    · cases e
section
variable {X : Cx} {W : WX} {P : List Nat} {e a b c : Expr} {pos : Pos} {Fa Fb Fc : M Pk}
theorem re_f2 {r : R2} {f : D → D → Option L} {ta tb : TE} (hr : Op2 X.K r f) (ha : ∀ σ H Q, tK X.K W P Fa σ H Q → ta σ H Q) (hb : ∀ σ H Q, tK X.K W P Fb σ H Q → tb σ H Q) : ∀ σ H Q, tL X.K W P (f2 f Fa Fb) σ H Q → tOp r ta tb σ H Q := fun σ H Q ⟨fm, Hs, vs, r', vs', hF, hP, hS, hk, hE⟩ => by
  refine ha _ _ _ (go hF hP hS hE fun ka vs1 x H1 Hs1 xf hg S1 X1 ⟨rx, ex⟩ => ?_)
  subst ex
  refine hb _ _ _ (go hg hP S1 (fun x c dd H' Hs' q S' X' o => hE x c dd H' Hs' q S' (X1.trans X') o) fun kb vs2 y H2 Hs2 xf hg S2 X2 ⟨ry, ex⟩ => ?_)
  subst ex
  split at hg
  · rename_i dx dy e1 e2
    split at hg
    · rename_i l el
      cases hg
      refine hr Hs2 H2 x y dx dy l Q S2.sub (S2.res rx X2 e1) (S2.res ry (Ex.refl _) e2) el (res_of S2 fun v H' Hs' xf S' X' r' => ?_)
      exact hk l v H' Hs' xf rfl S' ((X1.trans X2).trans X') r'
    · cases hg
  · cases hg
theorem dl_op {op : Operator} {r : R2} {f : D → D → Option L} (ho : OpR X (binaryOp op) r) (hr : Op2 X.K r f) (ha : PE X a (tK X.K W P Fa)) (hb : PE X b (tK X.K W P Fb)) : PE X (.BinOp a op b pos) (tL X.K W P (f2 f Fa Fb)) :=
  PE_weak (pe_op ho ha hb) (re_f2 hr (fun _ _ _ h => h) fun _ _ _ h => h)
theorem dl_ix {r : R2} {f : D → D → Option L} (ho : IxR X r) (hr : Op2 X.K r f) (ha : PE X a (tK X.K W P Fa)) (hb : PE X b (tK X.K W P Fb)) (hs : PlainIx b) : PE X (.Subscript a b pos) (tL X.K W P (f2 f Fa Fb)) :=
  PE_weak (pe_ix ho ha hb hs) (re_f2 hr (fun _ _ _ h => h) fun _ _ _ h => h)
def fBl (F : M Bool) : M D := bd F fun k => rt (.bl k)
theorem re_c2 {r : R2} {f : D → D → Option Bool} (hr : Cm2 X.K r f) {γ : Type} {g : Bool → M γ} {fm : Fm} {Hs : Hp} {vs vs' : VS} {r' : Except Xn γ} {σ : L2.St} {H : Hp} {Q : VK}
    (hF : bd (c2 f Fa Fb) g vs = some (r', vs')) (hP : fm.pin.map (·.1) = P) (hS : Sim X.K fm Hs vs σ H [])
    (hE : ∀ x c dd H' Hs', r' = .error x → Sim X.K fm Hs' vs' σ H' [] → Ex Hs Hs' → XOk X.K Hs' H' c dd x → W c dd σ H')
    (hk : ∀ k vs1 H1 Hs1, g k vs1 = some (r', vs') → Sim X.K fm Hs1 vs1 σ H1 [] → Ex Hs Hs1 → Q (.bl k) H1) : tOp r (tK X.K W P Fa) (tK X.K W P Fb) σ H Q := by
  have hF2 : bd Fa (fun a => bd Fb fun b => bd (fun s => match res s a, res s b with
    | some x, some y => (match f x y with
      | some l => some (.ok l, s)
      | none => none)
    | _, _ => none) g) vs = some (r', vs') := by
    rw [← hF]
    unfold c2 bd
    dsimp only
    cases Fa vs with
    | none => rfl
    | some q =>
      obtain ⟨q1, q2⟩ := q
      cases q1 with
      | error x => rfl
      | ok a =>
        dsimp only
        cases Fb q2 with
        | none => rfl
        | some q =>
          obtain ⟨q1, q2⟩ := q
          cases q1 with
          | error x => rfl
          | ok a => rfl
  try dsimp only [tOp, tChain, tUn, tCons, tCB, tLst, tTup, tAnd, tOr, tNot, L2.tB, tAndV, tOrV, tNotV, tIf, tTest]
  refine go hF2 hP hS hE fun ka vs1 x H1 Hs1 xf hg S1 X1 ⟨rx, ex⟩ => ?_
  subst ex
  try dsimp only [tOp, tChain, tUn, tCons, tCB, tLst, tTup, tAnd, tOr, tNot, L2.tB, tAndV, tOrV, tNotV, tIf, tTest]
  refine go hg hP S1 (fun x c dd H' Hs' q S' X' o => hE x c dd H' Hs' q S' (X1.trans X') o) fun kb vs2 y H2 Hs2 xf hg S2 X2 ⟨ry, ex⟩ => ?_
  subst ex
  rcases bd_cases hg with ⟨k, s1, e, h⟩ | ⟨z, s1, e, h⟩
  · split at e
    · rename_i dx dy e1 e2
      split at e
      · rename_i el
        cases e
        exact hr Hs2 H2 x y dx dy _ Q S2.sub (S2.res rx X2 e1) (S2.res ry (Ex.refl _) e2) el (hk _ vs2 H2 Hs2 h S2 (X1.trans X2))
      · cases e
    · cases e
  · split at e
    · split at e <;> cases e
    · cases e
theorem bd_rt {α : Type} (F : M α) : bd F rt = F := by
  funext s
  unfold bd rt
  cases F s with
  | none => rfl
  | some q =>
    obtain ⟨q1, q2⟩ := q
    cases q1 <;> rfl
theorem dt_cmp {op : CmpOp} {r : R2} {f : D → D → Option Bool} (ho : OpR X (compareOp op) r) (hr : Cm2 X.K r f) (ha : PE X a (tK X.K W P Fa)) (hb : PE X b (tK X.K W P Fb)) (hm : behindInMarks op b = false) : PT X (.Compare a [op] [b] pos) (tB X.K W P (c2 f Fa Fb)) :=
  PT_weak (pt_cmpR ho ha hb hm) fun σ H Q ⟨fm, Hs, vs, r', vs', hF, hP, hS, hk, hE⟩ => re_c2 hr (g := rt) (by rw [bd_rt]; exact hF) hP hS hE fun k vs1 H1 Hs1 hg S1 X1 => by
    obtain ⟨rfl, rfl⟩ := Prod.mk.inj (Option.some.inj hg)
    exact ⟨k, rfl, hk k k H1 Hs1 [] rfl S1 X1 ⟨rfl, rfl⟩⟩
theorem de_cmp {op : CmpOp} {r : R2} {f : D → D → Option Bool} (ho : OpR X (compareOp op) r) (hr : Cm2 X.K r f) (ha : PE X a (tK X.K W P Fa)) (hb : PE X b (tK X.K W P Fb)) (hm : behindInMarks op b = false) : PE X (.Compare a [op] [b] pos) (tE X.K W P (fBl (c2 f Fa Fb))) :=
  PE_weak (pe_cmpR ho ha hb hm) fun σ H Q ⟨fm, Hs, vs, r', vs', hF, hP, hS, hk, hE⟩ => re_c2 hr (g := fun k => rt (D.bl k)) hF hP hS hE fun k vs1 H1 Hs1 hg S1 X1 => by
    obtain ⟨rfl, rfl⟩ := Prod.mk.inj (Option.some.inj hg)
    exact hk _ _ H1 Hs1 [] rfl S1 X1 ⟨.bl k, rfl⟩
def c3 (f f' : D → D → Option Bool) (Fa Fb Fc : M Pk) : M Bool := bd Fa fun a => bd Fb fun b => fun s => match res s a, res s b with
  | some x, some y => (match f x y with
    | some true => bd Fc (fun c s => match res s b, res s c with
      | some y, some z => (match f' y z with
        | some l => some (.ok l, s)
        | none => none)
      | _, _ => none) s
    | some false => some (.ok false, s)
    | none => none)
  | _, _ => none
theorem re_c3 {r r2 : R2} {f f' : D → D → Option Bool} (hr : Cm2 X.K r f) (hr' : Cm2 X.K r2 f') {fm : Fm} {Hs : Hp} {vs vs' : VS} {r' : Except Xn Bool} {σ : L2.St} {H : Hp} {Q : VK}
    (hF : c3 f f' Fa Fb Fc vs = some (r', vs')) (hP : fm.pin.map (·.1) = P) (hS : Sim X.K fm Hs vs σ H [])
    (hE : ∀ x c dd H' Hs', r' = .error x → Sim X.K fm Hs' vs' σ H' [] → Ex Hs Hs' → XOk X.K Hs' H' c dd x → W c dd σ H')
    (hk : ∀ k H1 Hs1, r' = .ok k → Sim X.K fm Hs1 vs' σ H1 [] → Ex Hs Hs1 → Q (.bl k) H1) : tChain r r2 (tK X.K W P Fa) (tK X.K W P Fb) (tK X.K W P Fc) σ H Q := by
  try dsimp only [tOp, tChain, tUn, tCons, tCB, tLst, tTup, tAnd, tOr, tNot, L2.tB, tAndV, tOrV, tNotV, tIf, tTest]
  refine go hF hP hS hE fun ka vs1 x H1 Hs1 xf hg S1 X1 ⟨rx, ex⟩ => ?_
  subst ex
  try dsimp only [tOp, tChain, tUn, tCons, tCB, tLst, tTup, tAnd, tOr, tNot, L2.tB, tAndV, tOrV, tNotV, tIf, tTest]
  refine go hg hP S1 (fun x c dd H' Hs' q S' X' o => hE x c dd H' Hs' q S' (X1.trans X') o) fun kb vs2 y H2 Hs2 xf hg S2 X2 ⟨ry, ex⟩ => ?_
  subst ex
  split at hg
  · rename_i dx dy e1 e2
    split at hg
    · rename_i el
      refine hr Hs2 H2 x y dx dy true _ S2.sub (S2.res rx X2 e1) (S2.res ry (Ex.refl _) e2) el ⟨true, rfl, ?_⟩
      rw [if_pos rfl]
      try dsimp only [tOp, tChain, tUn, tCons, tCB, tLst, tTup, tAnd, tOr, tNot, L2.tB, tAndV, tOrV, tNotV, tIf, tTest]
      refine go hg hP S2 (fun x c dd H' Hs' q S' X' o => hE x c dd H' Hs' q S' ((X1.trans X2).trans X') o) fun kc vs3 z H3 Hs3 xf hg S3 X3 ⟨rz, ex⟩ => ?_
      subst ex
      split at hg
      · rename_i dy' dz e3 e4
        split at hg
        · rename_i k' el'
          cases hg
          exact hr' Hs3 H3 y z dy' dz k' Q S3.sub (S3.res ry X3 e3) (S3.res rz (Ex.refl _) e4) el' (hk k' H3 Hs3 rfl S3 ((X1.trans X2).trans X3))
        · cases hg
      · cases hg
    · rename_i el
      cases hg
      refine hr Hs2 H2 x y dx dy false _ S2.sub (S2.res rx X2 e1) (S2.res ry (Ex.refl _) e2) el ⟨false, rfl, ?_⟩
      rw [if_neg Bool.false_ne_true]
      exact hk false H2 Hs2 rfl S2 (X1.trans X2)
    · cases hg
  · cases hg
theorem dt_chain {op op' : CmpOp} {r r' : R2} {f f' : D → D → Option Bool} (ho : OpR X (compareOp op) r) (ho' : OpR X (compareOp op') r') (hr : Cm2 X.K r f) (hr' : Cm2 X.K r' f') (ha : PE X a (tK X.K W P Fa)) (hb : PE X b (tK X.K W P Fb)) (hc : PE X c (tK X.K W P Fc))
    (hm : lastMarks [op, op'] [b, c] = false) : PT X (.Compare a [op, op'] [b, c] pos) (tB X.K W P (c3 f f' Fa Fb Fc)) :=
  PT_weak (pt_chain ho ho' ha hb hc hm) fun σ H Q ⟨fm, Hs, vs, r', vs', hF, hP, hS, hk, hE⟩ => re_c3 hr hr' hF hP hS hE fun k H1 Hs1 e S1 X1 => ⟨k, rfl, hk k k H1 Hs1 [] e S1 X1 ⟨rfl, rfl⟩⟩
theorem de_chain {op op' : CmpOp} {r r' : R2} {f f' : D → D → Option Bool} (ho : OpR X (compareOp op) r) (ho' : OpR X (compareOp op') r') (hr : Cm2 X.K r f) (hr' : Cm2 X.K r' f') (ha : PE X a (tK X.K W P Fa)) (hb : PE X b (tK X.K W P Fb)) (hc : PE X c (tK X.K W P Fc))
    (hm : lastMarks [op, op'] [b, c] = false) : PE X (.Compare a [op, op'] [b, c] pos) (tE X.K W P (fBl (c3 f f' Fa Fb Fc))) :=
  PE_weak (pe_chain ho ho' ha hb hc hm) fun σ H Q ⟨fm, Hs, vs, r', vs', hF, hP, hS, hk, hE⟩ => by
    rcases bd_cases hF with ⟨k, s1, e, h⟩ | ⟨z, s1, e, h⟩
    · obtain ⟨rfl, rfl⟩ := Prod.mk.inj (Option.some.inj h)
      exact re_c3 hr hr' e hP hS (fun _ _ _ _ _ q => (by cases q)) fun k' H1 Hs1 e S1 X1 => by cases e; exact hk _ _ H1 Hs1 [] rfl S1 X1 ⟨.bl _, rfl⟩
    · obtain ⟨rfl, rfl⟩ := Prod.mk.inj h
      exact re_c3 hr hr' e hP hS (fun x c dd H' Hs' q => hE x c dd H' Hs' (by cases q; rfl)) fun k' H1 Hs1 e => by cases e
def f1 (f : D → Option L) (Fa : M Pk) : M L := bd Fa fun a s => match res s a with
  | some x => (match f x with
    | some l => some (.ok l, s)
    | none => none)
  | none => none
def Op1 (K : PySem.W.Frag) (r : V → Hp → VK → Prop) (f : D → Option L) : Prop :=
  ∀ Hs H x dx l Q, Ex Hs H → Rep1 K Hs H x dx → f dx = some l → Res K Hs H Q l → r x H Q
theorem dl_un {op : UnaryOp} {r : V → Hp → VK → Prop} {f : D → Option L} (ho : UnR X (unaryOp op) r) (hr : Op1 X.K r f) (ha : PE X a (tK X.K W P Fa)) : PE X (.UnaryOp op a pos) (tL X.K W P (f1 f Fa)) :=
  PE_weak (pe_un ho ha) fun σ H Q ⟨fm, Hs, vs, r', vs', hF, hP, hS, hk, hE⟩ => by
    try dsimp only [tOp, tChain, tUn, tCons, tCB, tLst, tTup, tAnd, tOr, tNot, L2.tB, tAndV, tOrV, tNotV, tIf, tTest]
    refine go hF hP hS hE fun ka vs1 x H1 Hs1 xf hg S1 X1 ⟨rx, ex⟩ => ?_
    subst ex
    split at hg
    · rename_i dx e1
      split at hg
      · rename_i l el
        cases hg
        exact hr Hs1 H1 x dx l Q S1.sub (S1.res rx (Ex.refl _) e1) el (res_of S1 fun v H' Hs' xf S' X' r' => hk l v H' Hs' xf rfl S' (X1.trans X') r')
      · cases hg
    · cases hg
def kNil : M (List Pk) := rt []
def kCons (Fa : M Pk) (Fr : M (List Pk)) : M (List Pk) := bd Fa fun a => bd Fr fun r => rt (a :: r)
theorem dks_nil : PA X [] (tKs X.K W P kNil) := PA_weak pa_nil fun σ H Q ⟨fm, Hs, vs, r', vs', hF, hP, hS, hk, hE⟩ => by
  cases hF
  exact hk _ [] H Hs [] rfl hS (Ex.refl _) ⟨.nil, rfl⟩
theorem Paired_imp {α β : Type} {R S : α → β → Prop} : ∀ {l : List α} {m : List β}, Paired R l m → (∀ a b, R a b → S a b) → Paired S l m
  | _, _, .nil, _ => .nil
  | _, _, .cons r t, f => .cons (f _ _ r) (Paired_imp t f)
theorem dks_cons {es : List Expr} {Fr : M (List Pk)} (ha : PE X a (tK X.K W P Fa)) (hr : PA X es (tKs X.K W P Fr)) (hs : starEach (a :: es) X.env = (false, eval a X.env) :: starEach es X.env) : PA X (a :: es) (tKs X.K W P (kCons Fa Fr)) :=
  PA_weak (pa_cons ha hr hs) fun σ H Q ⟨fm, Hs, vs, r', vs', hF, hP, hS, hk, hE⟩ => by
    try dsimp only [tOp, tChain, tUn, tCons, tCB, tLst, tTup, tAnd, tOr, tNot, L2.tB, tAndV, tOrV, tNotV, tIf, tTest]
    refine go hF hP hS hE fun ka vs1 x H1 Hs1 xf hg S1 X1 ⟨rx, ex⟩ => ?_
    subst ex
    try dsimp only [tOp, tChain, tUn, tCons, tCB, tLst, tTup, tAnd, tOr, tNot, L2.tB, tAndV, tOrV, tNotV, tIf, tTest]
    refine go hg hP S1 (fun x c dd H' Hs' q S' X' o => hE x c dd H' Hs' q S' (X1.trans X') o) fun kr vs2 y H2 Hs2 xf hg S2 X2 ⟨ry, ex⟩ => ?_
    subst ex
    cases hg
    exact hk _ _ H2 Hs2 [] rfl S2 (X1.trans X2) ⟨.cons (rx.mono X2) ry, rfl⟩
theorem re_fN {r : List V → Hp → VK → Prop} {f : List D → Option L} {Fr : M (List Pk)} (hr : OpN X.K r f) : ∀ σ H Q, tL X.K W P (fN f Fr) σ H Q → tCB r (tKs X.K W P Fr) σ H Q := fun σ H Q ⟨fm, Hs, vs, r', vs', hF, hP, hS, hk, hE⟩ => by
  try dsimp only [tOp, tChain, tUn, tCons, tCB, tLst, tTup, tAnd, tOr, tNot, L2.tB, tAndV, tOrV, tNotV, tIf, tTest]
  refine go hF hP hS hE fun ka vs1 x H1 Hs1 xf hg S1 X1 ⟨rx, ex⟩ => ?_
  subst ex
  split at hg
  · rename_i ds e1
    split at hg
    · rename_i l el
      cases hg
      exact hr Hs1 H1 x ds l Q S1.sub (S1.resAll rx e1) el (res_of S1 fun v H' Hs' xf S' X' r' => hk l v H' Hs' xf rfl S' (X1.trans X') r')
    · cases hg
  · cases hg
def aNil : M (List D) := rt []
def aCons (Fa : M D) (Fr : M (List D)) : M (List D) := bd Fa fun a => bd Fr fun r => rt (a :: r)
theorem das_nil : PA X [] (tAs X.K W P aNil) := PA_weak pa_nil fun σ H Q ⟨fm, Hs, vs, r', vs', hF, hP, hS, hk, hE⟩ => by
  cases hF
  exact hk _ [] H Hs [] rfl hS (Ex.refl _) ⟨.nil, rfl⟩
theorem das_cons {es : List Expr} {Fa : M D} {Fr : M (List D)} (ha : PE X a (tE X.K W P Fa)) (hr : PA X es (tAs X.K W P Fr)) (hs : starEach (a :: es) X.env = (false, eval a X.env) :: starEach es X.env) : PA X (a :: es) (tAs X.K W P (aCons Fa Fr)) :=
  PA_weak (pa_cons ha hr hs) fun σ H Q ⟨fm, Hs, vs, r', vs', hF, hP, hS, hk, hE⟩ => by
    try dsimp only [tOp, tChain, tUn, tCons, tCB, tLst, tTup, tAnd, tOr, tNot, L2.tB, tAndV, tOrV, tNotV, tIf, tTest]
    refine go hF hP hS hE fun ka vs1 x H1 Hs1 xf hg S1 X1 ⟨rx, ex⟩ => ?_
    subst ex
    try dsimp only [tOp, tChain, tUn, tCons, tCB, tLst, tTup, tAnd, tOr, tNot, L2.tB, tAndV, tOrV, tNotV, tIf, tTest]
    refine go hg hP S1 (fun x c dd H' Hs' q S' X' o => hE x c dd H' Hs' q S' (X1.trans X') o) fun kr vs2 y H2 Hs2 xf hg S2 X2 ⟨ry, ex⟩ => ?_
    subst ex
    cases hg
    exact hk _ _ H2 Hs2 [] rfl S2 (X1.trans X2) ⟨.cons (rx.mono X2) ry, rfl⟩
def fLst (Fr : M (List D)) : M L := bd Fr fun ds s => if ds.length ≤ 100000 then some (.ok (.own ds), s) else none
def fTup (Fr : M (List D)) : M D := bd Fr fun ds s => if ds.length ≤ 100000 then some (.ok (.tup ds), s) else none
theorem dl_lst {es : List Expr} {Fr : M (List D)} (h : PA X es (tAs X.K W P Fr)) : PE X (.List es pos) (tL X.K W P (fLst Fr)) :=
  PE_weak (pe_lst h) fun σ H Q ⟨fm, Hs, vs, r', vs', hF, hP, hS, hk, hE⟩ => by
    try dsimp only [tOp, tChain, tUn, tCons, tCB, tLst, tTup, tAnd, tOr, tNot, L2.tB, tAndV, tOrV, tNotV, tIf, tTest]
    refine go hF hP hS hE fun ds vs1 us H1 Hs1 xf hg S1 X1 ⟨rx, ex⟩ => ?_
    subst ex
    split at hg
    · rename_i hl
      cases hg
      refine ⟨by rw [rx.length]; exact Evl.sz_of hl, fun p hp => ?_⟩
      exact hk _ _ _ Hs1 [p] rfl (S1.allocX hp _) X1 (.own upd_same rx)
    · cases hg
theorem de_tup {es : List Expr} {k : Nat} {Fr : M (List D)} (h : PA X es (tAs X.K W P Fr)) : PE X (.Tuple es k pos) (tE X.K W P (fTup Fr)) :=
  PE_weak (pe_tup h) fun σ H Q ⟨fm, Hs, vs, r', vs', hF, hP, hS, hk, hE⟩ => by
    try dsimp only [tOp, tChain, tUn, tCons, tCB, tLst, tTup, tAnd, tOr, tNot, L2.tB, tAndV, tOrV, tNotV, tIf, tTest]
    refine go hF hP hS hE fun ds vs1 us H1 Hs1 xf hg S1 X1 ⟨rx, ex⟩ => ?_
    subst ex
    split at hg
    · rename_i hl
      cases hg
      refine ⟨by rw [rx.length]; exact Evl.sz_of hl, fun p hp => ?_⟩
      have hn : Hs1 p = none := Evl.fresh_back S1.sub hp
      exact hk _ _ _ _ [] rfl (S1.alloc hp _) (X1.trans (Ex.new hn)) ⟨.tup upd_same (rx.mono (Ex.new hn)), rfl⟩
    · cases hg
def bAnd (A B : M Bool) : M Bool := bd A fun k => if k = true then B else rt false
def bOr (A B : M Bool) : M Bool := bd A fun k => if k = true then rt true else B
def bNot (A : M Bool) : M Bool := bd A fun k => rt (!k)
variable {FA FB : M Bool} {rest : List Expr}
theorem dw_and (ha : PT X a (tB X.K W P FA)) (hb : PW X (.BoolOp .And (b :: rest) pos) (tB X.K W P FB)) : PW X (.BoolOp .And (a :: b :: rest) pos) (tB X.K W P (bAnd FA FB)) :=
  PW_weak (pw_and ha hb) fun σ H Q ⟨fm, Hs, vs, r', vs', hF, hP, hS, hk, hE⟩ => by
    try dsimp only [tOp, tChain, tUn, tCons, tCB, tLst, tTup, tAnd, tOr, tNot, L2.tB, tAndV, tOrV, tNotV, tIf, tTest]
    refine go hF hP hS hE fun k vs1 k' H1 Hs1 xf hg S1 X1 ⟨rx, ex⟩ => ?_
    subst ex; subst rx
    cases k' with
    | true =>
      rw [if_pos rfl] at hg ⊢
      exact ⟨fm, Hs1, vs1, r', vs', hg, hP, S1, fun a b H' Hs' xf q S' X' => hk a b H' Hs' xf q S' (X1.trans X'), fun x c dd H' Hs' q S' X' => hE x c dd H' Hs' q S' (X1.trans X')⟩
    | false =>
      rw [if_neg Bool.false_ne_true] at hg ⊢
      cases hg
      exact hk _ _ H1 Hs1 [] rfl S1 X1 ⟨rfl, rfl⟩
theorem dw_or (ha : PT X a (tB X.K W P FA)) (hb : PW X (.BoolOp .Or (b :: rest) pos) (tB X.K W P FB)) : PW X (.BoolOp .Or (a :: b :: rest) pos) (tB X.K W P (bOr FA FB)) :=
  PW_weak (pw_or ha hb) fun σ H Q ⟨fm, Hs, vs, r', vs', hF, hP, hS, hk, hE⟩ => by
    try dsimp only [tOp, tChain, tUn, tCons, tCB, tLst, tTup, tAnd, tOr, tNot, L2.tB, tAndV, tOrV, tNotV, tIf, tTest]
    refine go hF hP hS hE fun k vs1 k' H1 Hs1 xf hg S1 X1 ⟨rx, ex⟩ => ?_
    subst ex; subst rx
    cases k' with
    | false =>
      rw [if_neg Bool.false_ne_true] at hg ⊢
      exact ⟨fm, Hs1, vs1, r', vs', hg, hP, S1, fun a b H' Hs' xf q S' X' => hk a b H' Hs' xf q S' (X1.trans X'), fun x c dd H' Hs' q S' X' => hE x c dd H' Hs' q S' (X1.trans X')⟩
    | true =>
      rw [if_pos rfl] at hg ⊢
      cases hg
      exact hk _ _ H1 Hs1 [] rfl S1 X1 ⟨rfl, rfl⟩
theorem dt_not (ha : PT X a (tB X.K W P FA)) : PT X (.UnaryOp .Not a pos) (tB X.K W P (bNot FA)) :=
  PT_weak (pt_not ha) fun σ H Q ⟨fm, Hs, vs, r', vs', hF, hP, hS, hk, hE⟩ => by
    try dsimp only [tOp, tChain, tUn, tCons, tCB, tLst, tTup, tAnd, tOr, tNot, L2.tB, tAndV, tOrV, tNotV, tIf, tTest]
    refine go hF hP hS hE fun k vs1 k' H1 Hs1 xf hg S1 X1 ⟨rx, ex⟩ => ?_
    subst ex; subst rx
    cases hg
    exact hk _ _ H1 Hs1 [] rfl S1 X1 ⟨rfl, rfl⟩
def fTest (F : M D) : M Bool := bd F fun d s => match d with
  | .bl k => some (.ok k, s)
  | _ => none
theorem dt_val {F : M D} (h : PE X e (tE X.K W P F)) (he : ∀ whole, isTrue e X.env whole = (do let v ← whole; standAt e.pos; holding [v] (truthy v))) : PT X e (tB X.K W P (fTest F)) :=
  PT_weak (pt_val h he) fun σ H Q ⟨fm, Hs, vs, r', vs', hF, hP, hS, hk, hE⟩ => by
    try dsimp only [tOp, tChain, tUn, tCons, tCB, tLst, tTup, tAnd, tOr, tNot, L2.tB, tAndV, tOrV, tNotV, tIf, tTest]
    refine go hF hP hS hE fun d vs1 v H1 Hs1 xf hg S1 X1 ⟨rx, ex⟩ => ?_
    subst ex
    split at hg
    · cases hg
      cases rx
      exact ⟨_, rfl, hk _ _ H1 Hs1 [] rfl S1 X1 ⟨rfl, rfl⟩⟩
    · cases hg
def vAnd (A B : M D) : M D := bd A fun d s => match d with
  | .bl true => B s
  | .bl false => some (.ok (.bl false), s)
  | _ => none
def vOr (A B : M D) : M D := bd A fun d s => match d with
  | .bl true => some (.ok (.bl true), s)
  | .bl false => B s
  | _ => none
def vNot (A : M D) : M D := bd A fun d s => match d with
  | .bl k => some (.ok (.bl (!k)), s)
  | _ => none
variable {F G : M D}
theorem de_and (ha : PE X a (tE X.K W P F)) (hb : PE X (.BoolOp .And (b :: rest) pos) (tE X.K W P G)) : PE X (.BoolOp .And (a :: b :: rest) pos) (tE X.K W P (vAnd F G)) :=
  PE_weak (pe_and ha hb) fun σ H Q ⟨fm, Hs, vs, r', vs', hF, hP, hS, hk, hE⟩ => by
    try dsimp only [tOp, tChain, tUn, tCons, tCB, tLst, tTup, tAnd, tOr, tNot, L2.tB, tAndV, tOrV, tNotV, tIf, tTest]
    refine go hF hP hS hE fun d vs1 v H1 Hs1 xf hg S1 X1 ⟨rx, ex⟩ => ?_
    subst ex
    split at hg
    · cases rx
      refine ⟨true, rfl, ?_⟩
      rw [if_pos rfl]
      exact ⟨fm, Hs1, vs1, r', vs', hg, hP, S1, fun a b H' Hs' xf q S' X' => hk a b H' Hs' xf q S' (X1.trans X'), fun x c dd H' Hs' q S' X' => hE x c dd H' Hs' q S' (X1.trans X')⟩
    · cases hg; cases rx
      refine ⟨false, rfl, ?_⟩
      rw [if_neg Bool.false_ne_true]
      exact hk _ _ H1 Hs1 [] rfl S1 X1 ⟨.bl _, rfl⟩
    · cases hg
theorem de_or (ha : PE X a (tE X.K W P F)) (hb : PE X (.BoolOp .Or (b :: rest) pos) (tE X.K W P G)) : PE X (.BoolOp .Or (a :: b :: rest) pos) (tE X.K W P (vOr F G)) :=
  PE_weak (pe_or ha hb) fun σ H Q ⟨fm, Hs, vs, r', vs', hF, hP, hS, hk, hE⟩ => by
    try dsimp only [tOp, tChain, tUn, tCons, tCB, tLst, tTup, tAnd, tOr, tNot, L2.tB, tAndV, tOrV, tNotV, tIf, tTest]
    refine go hF hP hS hE fun d vs1 v H1 Hs1 xf hg S1 X1 ⟨rx, ex⟩ => ?_
    subst ex
    split at hg
    · cases hg; cases rx
      refine ⟨true, rfl, ?_⟩
      rw [if_pos rfl]
      exact hk _ _ H1 Hs1 [] rfl S1 X1 ⟨.bl _, rfl⟩
    · cases rx
      refine ⟨false, rfl, ?_⟩
      rw [if_neg Bool.false_ne_true]
      exact ⟨fm, Hs1, vs1, r', vs', hg, hP, S1, fun a b H' Hs' xf q S' X' => hk a b H' Hs' xf q S' (X1.trans X'), fun x c dd H' Hs' q S' X' => hE x c dd H' Hs' q S' (X1.trans X')⟩
    · cases hg
theorem de_not (ha : PE X a (tE X.K W P F)) : PE X (.UnaryOp .Not a pos) (tE X.K W P (vNot F)) :=
  PE_weak (pe_not ha) fun σ H Q ⟨fm, Hs, vs, r', vs', hF, hP, hS, hk, hE⟩ => by
    try dsimp only [tOp, tChain, tUn, tCons, tCB, tLst, tTup, tAnd, tOr, tNot, L2.tB, tAndV, tOrV, tNotV, tIf, tTest]
    refine go hF hP hS hE fun d vs1 v H1 Hs1 xf hg S1 X1 ⟨rx, ex⟩ => ?_
    subst ex
    split at hg
    · cases hg; cases rx
      exact ⟨_, rfl, hk _ _ H1 Hs1 [] rfl S1 X1 ⟨.bl _, rfl⟩⟩
    · cases hg
def fIf {α : Type} (C : M Bool) (A B : M α) : M α := bd C fun k => if k = true then A else B
theorem dg_if {α : Type} {R : Hp → Hp → L2.St → V → α → List Addr → Prop} {A B : M α} {Cb : M Bool} (hc : PT X c (tB X.K W P Cb)) (ha : PE X a (tF X.K W P R A)) (hb : PE X b (tF X.K W P R B)) : PE X (.IfExp c a b pos) (tF X.K W P R (fIf Cb A B)) :=
  PE_weak (pe_ifExp hc ha hb) fun σ H Q ⟨fm, Hs, vs, r', vs', hF, hP, hS, hk, hE⟩ => by
    try dsimp only [tOp, tChain, tUn, tCons, tCB, tLst, tTup, tAnd, tOr, tNot, L2.tB, tAndV, tOrV, tNotV, tIf, tTest]
    refine go hF hP hS hE fun k vs1 k' H1 Hs1 xf hg S1 X1 ⟨rx, ex⟩ => ?_
    subst ex; subst rx
    cases k' with
    | true =>
      rw [if_pos rfl] at hg ⊢
      exact ⟨fm, Hs1, vs1, r', vs', hg, hP, S1, fun a b H' Hs' xf q S' X' => hk a b H' Hs' xf q S' (X1.trans X'), fun x c dd H' Hs' q S' X' => hE x c dd H' Hs' q S' (X1.trans X')⟩
    | false =>
      rw [if_neg Bool.false_ne_true] at hg ⊢
      exact ⟨fm, Hs1, vs1, r', vs', hg, hP, S1, fun a b H' Hs' xf q S' X' => hk a b H' Hs' xf q S' (X1.trans X'), fun x c dd H' Hs' q S' X' => hE x c dd H' Hs' q S' (X1.trans X')⟩
end
end Ev
namespace Ev
open PySem PySem.Spec PyProof.Rows L2
open Evl (Ex)
section
variable {K : PySem.W.Frag} {Hs H : Hp} {v : V}
theorem Rep1.isInt {i : Int} (h : Rep1 K Hs H v (.int i)) : v = .int i := by cases h with | top h => cases h; rfl
theorem Rep1.isStr {i : Str} (h : Rep1 K Hs H v (.str i)) : v = .str i := by cases h with | top h => cases h; rfl
theorem Rep1.isBl {i : Bool} (h : Rep1 K Hs H v (.bl i)) : v = .bl i := by cases h with | top h => cases h; rfl
theorem Rep1.isNon (h : Rep1 K Hs H v .non) : v = .non := by cases h with | top h => cases h; rfl
theorem Rep1.isLst {ds : List D} (e : Ex Hs H) (h : Rep1 K Hs H v (.lst ds)) : ∃ a vs, v = .ref a ∧ H a = some (.lst vs) ∧ RepL K Hs vs ds := by
  cases h with
  | top h => cases h with | lst h1 h2 => exact ⟨_, _, rfl, e _ _ h1, h2⟩
  | lst h1 h2 => exact ⟨_, _, rfl, h1, h2⟩
theorem Rep1.isTup {ds : List D} (e : Ex Hs H) (h : Rep1 K Hs H v (.tup ds)) : ∃ a vs, v = .ref a ∧ H a = some (.tup vs) ∧ RepL K Hs vs ds := by
  cases h with
  | top h => cases h with | tup h1 h2 => exact ⟨_, _, rfl, e _ _ h1, h2⟩
theorem Rep1.isScr {ns : List Int} (e : Ex Hs H) (h : Rep1 K Hs H v (.scr ns)) : ∃ a, v = .ref a ∧ SqL K H a (ns.map V.int) := by
  cases h with
  | top h => cases h with | scr h1 => exact ⟨_, rfl, Evl.ex_l e h1⟩
theorem Rep1.isDic {ks : List Key} {ds : List D} (e : Ex Hs H) (h : Rep1 K Hs H v (.dic ks ds)) : ∃ a kvs, v = .ref a ∧ H a = some (.dK kvs) ∧ kvs.map (·.1) = ks ∧ RepL K Hs (kvs.map (·.2)) ds := by
  cases h with
  | top h => cases h with | dic h1 h2 h3 => exact ⟨_, _, rfl, e _ _ h1, h2, h3⟩
  | dic h1 h2 h3 => exact ⟨_, _, rfl, h1, h2, h3⟩
end
theorem szl {n : Nat} (h : n ≤ 100000) : n ≤ sizeLine := Evl.sz_of h
def dAdd : D → D → Option L
  | .int i, .int j => some (.d (.int (i + j)))
  | .str a, .str b => if a.length + b.length ≤ 100000 then some (.d (.str (a ++ b))) else none
  | .lst a, .lst b => if a.length + b.length ≤ 100000 then some (.own (a ++ b)) else none
  | .tup a, .tup b => if a.length + b.length ≤ 100000 ∧ a.length ≠ 0 ∧ b.length ≠ 0 then some (.d (.tup (a ++ b))) else none
  | _, _ => none
def rAddA (K : PySem.W.Frag) : R2 := fun x y H Q => rI0 (fun i j => .int (i + j)) x y H Q ∨ (∃ i j, x = .str i ∧ y = .str j ∧ i.length + j.length ≤ sizeLine ∧ Q (.str (i ++ j)) H) ∨ rCat x y H Q ∨ rCatT K x y H Q
theorem op_addA {X : Cx} : OpR X (binaryOp .Add) (rAddA X.K) := op_add.or (op_add_str.or (op_cat.or op_catT))
theorem ok_add {K : PySem.W.Frag} : Op2 K (rAddA K) dAdd := fun Hs H x y dx dy l Q e h1 h2 hf hR => by
  unfold dAdd at hf
  split at hf
  · cases hf
    rw [h1.isInt, h2.isInt]
    exact .inl ⟨_, _, rfl, rfl, hR.1 _ (.int _)⟩
  · split at hf
    · rename_i hl
      cases hf
      rw [h1.isStr, h2.isStr]
      exact .inr (.inl ⟨_, _, rfl, rfl, szl hl, hR.1 _ (.str _)⟩)
    · cases hf
  · split at hf
    · rename_i hl
      cases hf
      obtain ⟨a, vs, rfl, ha, ra⟩ := h1.isLst e
      obtain ⟨b, us, rfl, hb, rb⟩ := h2.isLst e
      refine .inr (.inr (.inl ⟨a, b, vs, us, rfl, rfl, ha, hb, ?_, fun p hp => hR p _ hp (ra.append rb)⟩))
      rw [ra.length, rb.length]; exact szl hl
    · cases hf
  · split at hf
    · rename_i hl
      cases hf
      obtain ⟨a, vs, rfl, ha, ra⟩ := h1.isTup e
      obtain ⟨b, us, rfl, hb, rb⟩ := h2.isTup e
      have z1 : vs ≠ [] := fun q => by have := ra.length; rw [q] at this; exact hl.2.1 this.symm
      have z2 : us ≠ [] := fun q => by have := rb.length; rw [q] at this; exact hl.2.2 this.symm
      refine .inr (.inr (.inr ⟨a, b, vs, us, rfl, rfl, SqT.of ha, SqT.of hb, z1, ?_, fun q => absurd q z2, fun _ p hp => hR.2 _ p _ rfl hp (ra.append rb)⟩))
      rw [ra.length, rb.length]; exact szl hl.1
    · cases hf
  · cases hf
def dSub : D → D → Option L
  | .int i, .int j => some (.d (.int (i - j)))
  | _, _ => none
theorem ok_sub {K : PySem.W.Frag} : Op2 K (rI0 fun i j => .int (i - j)) dSub := fun Hs H x y dx dy l Q e h1 h2 hf hR => by
  unfold dSub at hf
  split at hf
  · cases hf
    rw [h1.isInt, h2.isInt]
    exact ⟨_, _, rfl, rfl, hR.1 _ (.int _)⟩
  · cases hf
def repS (z : Str) (k : Nat) : Str := ⟨(List.replicate k z.cps).foldl (· ++ ·) #[]⟩
theorem foldl_app (a : Array Nat) : ∀ (l : List (Array Nat)), l.foldl (· ++ ·) a = a ++ l.foldl (· ++ ·) #[]
  | [] => by simp
  | x :: l => by
    rw [List.foldl_cons, List.foldl_cons, foldl_app (a ++ x) l, foldl_app (#[] ++ x) l]
    simp
theorem repS_one (z : Str) : repS z 1 = z := by
  unfold repS
  simp [List.replicate]
theorem repS_empty (z : Str) (h : z.length = 0) : ∀ k, repS z k = ⟨#[]⟩
  | 0 => rfl
  | k + 1 => by
    have hz : z.cps = #[] := Array.eq_empty_of_size_eq_zero h
    have ih := repS_empty z h k
    unfold repS at ih ⊢
    rw [List.replicate_succ, List.foldl_cons]
    rw [hz] at ih ⊢
    exact ih
theorem repS_length (z : Str) : ∀ k, (repS z k).length = k * z.length
  | 0 => by simp [repS, Str.length]
  | k + 1 => by
    have ih := repS_length z k
    unfold repS Str.length at ih ⊢
    rw [List.replicate_succ, List.foldl_cons, foldl_app]
    simp only [Array.size_append, ih, Nat.add_mul]
    simp [Nat.add_comm]
def rRepS : R2 := fun x y H Q => ∃ z n, x = .str z ∧ y = .int n ∧ 1 ≤ n ∧ n ≤ 1000 ∧ z.length ≤ 1000 ∧ Q (.str (repS z n.toNat)) H
theorem op_repS {X : Cx} : OpR X (binaryOp .Mult) rRepS := by
  intro pins s σ H x y v u Q I r1 r2 h
  obtain ⟨z, n, e1, e2, h1, h2, h3, q⟩ := h
  subst e1; subst e2
  obtain ⟨t, rfl⟩ := r1
  obtain ⟨t', rfl⟩ := r2
  have hnn : (n.toNat : Int) = n := Int.toNat_of_nonneg (by omega)
  have hn : n.toNat ≤ 1000 := by omega
  refine PySem.P.mul_str ?_ (fun _ _ hgt => ?_) (fun _ _ => ?_) ?_
  · rw [decide_eq_false (by omega), decide_eq_false (by omega)]; rfl
  · have h5 : (1000 : Int) ≤ (2 ^ 63 - 1) / n := by
      rw [Int.le_ediv_iff_mul_le (by omega)]
      omega
    omega
  · have : z.length * n.toNat ≤ 1000 * 1000 := Nat.mul_le_mul h3 hn
    unfold Builtin.Str.tooLong
    rw [sizeLine_eq]
    apply decide_eq_false
    omega
  · rw [if_neg (by omega)]
    split
    · rename_i hc
      have e : repS z n.toNat = z := by
        rw [Bool.or_eq_true, beq_iff_eq, beq_iff_eq] at hc
        rcases hc with hc | hc
        · rw [hc]; exact repS_one z
        · rw [repS_empty z hc]
          have hz : z.cps = #[] := Array.eq_empty_of_size_eq_zero hc
          cases z; cases hz; rfl
      rw [e] at q
      exact ⟨.str z, H, I, ⟨_, rfl⟩, q⟩
    · refine ⟨?_, ⟨.str _, H, I.tok _, ⟨_, rfl⟩, q⟩⟩
      have : (repS z n.toNat).length ≤ 1000 * 1000 := by
        rw [repS_length]
        exact Nat.mul_le_mul hn h3
      rw [sizeLine_eq]
      exact Nat.le_trans this (by decide)
def rMulA : R2 := fun x y H Q => rI CMul (fun i j => .int (i * j)) x y H Q ∨ rRep x y H Q ∨ rRepS x y H Q
theorem op_mulA {X : Cx} : OpR X (binaryOp .Mult) rMulA := op_mul.or (op_rep.or op_repS)
def dMul : D → D → Option L
  | .int i, .int j => if (-(2 ^ 64) < i ∧ i < 2 ^ 64) ∨ (-(2 ^ 64) < j ∧ j < 2 ^ 64) then some (.d (.int (i * j))) else none
  | .lst a, .int k => if k ≤ 100000 ∧ -100000 ≤ k ∧ a.length * k.toNat ≤ 100000 then some (.own (List.replicate k.toNat a).flatten) else none
  | .str z, .int n => if 1 ≤ n ∧ n ≤ 1000 ∧ z.length ≤ 1000 then some (.d (.str (repS z n.toNat))) else none
  | _, _ => none
theorem ok_mul {K : PySem.W.Frag} : Op2 K rMulA dMul := fun Hs H x y dx dy l Q e h1 h2 hf hR => by
  unfold dMul at hf
  split at hf
  · split at hf
    · rename_i hc
      cases hf
      rw [h1.isInt, h2.isInt]
      exact .inl ⟨_, _, rfl, rfl, hc, hR.1 _ (.int _)⟩
    · cases hf
  · split at hf
    · rename_i hc
      cases hf
      obtain ⟨a, vs, rfl, ha, ra⟩ := h1.isLst e
      rw [h2.isInt]
      refine .inr (.inl ⟨a, _, vs, rfl, rfl, ha, by omega, by omega, ?_, fun p hp => hR p _ hp (ra.rep _)⟩)
      rw [ra.length]; exact szl hc.2.2
    · cases hf
  · split at hf
    · rename_i hc
      cases hf
      rw [h1.isStr, h2.isInt]
      exact .inr (.inr ⟨_, _, rfl, rfl, hc.1, hc.2.1, hc.2.2, hR.1 _ (.str _)⟩)
    · cases hf
  · cases hf
def dDiv : D → D → Option L
  | .int i, .int j => if 0 < j ∧ j < 1073741824 then some (.d (.int (i / j))) else none
  | _, _ => none
theorem ok_div {K : PySem.W.Frag} : Op2 K (rI CDiv fun i j => .int (i / j)) dDiv := fun Hs H x y dx dy l Q e h1 h2 hf hR => by
  unfold dDiv at hf
  split at hf
  · split at hf
    · rename_i hc
      cases hf
      rw [h1.isInt, h2.isInt]
      exact ⟨_, _, rfl, rfl, hc, hR.1 _ (.int _)⟩
    · cases hf
  · cases hf
def dMod : D → D → Option L
  | .int i, .int j => if 0 < j then some (.d (.int (i % j))) else none
  | _, _ => none
theorem ok_mod {K : PySem.W.Frag} : Op2 K (rI (fun _ j => 0 < j) fun i j => .int (i % j)) dMod := fun Hs H x y dx dy l Q e h1 h2 hf hR => by
  unfold dMod at hf
  split at hf
  · split at hf
    · rename_i hc
      cases hf
      rw [h1.isInt, h2.isInt]
      exact ⟨_, _, rfl, rfl, hc, hR.1 _ (.int _)⟩
    · cases hf
  · cases hf
def dPow : D → D → Option L
  | .int i, .int j => if 0 ≤ j ∧ j ≤ 1000 ∧ i.natAbs < 2 ^ 64 then some (.d (.int (i ^ j.toNat))) else none
  | _, _ => none
theorem ok_pow {K : PySem.W.Frag} : Op2 K (rI CPow fun i j => .int (i ^ j.toNat)) dPow := fun Hs H x y dx dy l Q e h1 h2 hf hR => by
  unfold dPow at hf
  split at hf
  · split at hf
    · rename_i hc
      cases hf
      rw [h1.isInt, h2.isInt]
      exact ⟨_, _, rfl, rfl, ⟨hc.1, by omega, hc.2.2⟩, hR.1 _ (.int _)⟩
    · cases hf
  · cases hf
def dNeg : D → Option L
  | .int i => some (.d (.int (-i)))
  | _ => none
theorem ok_neg {K : PySem.W.Frag} : Op1 K (rU fun i => .int (-i)) dNeg := fun Hs H x dx l Q e h1 hf hR => by
  unfold dNeg at hf
  split at hf
  · cases hf
    rw [h1.isInt]
    exact ⟨_, rfl, hR.1 _ (.int _)⟩
  · cases hf
theorem RepL.atI {K : PySem.W.Frag} {H : Hp} {ds : List D} {vs : List V} {i : Int} {d : D} (h : RepL K H vs ds) (e : atI ds i = some d) : ∃ v, L2.atI vs i = some v ∧ Rep K H v d := by
  unfold L2.atI at e ⊢
  rw [h.length]
  cases q : ixN ds.length i with
  | none => rw [q] at e; cases e
  | some j =>
    rw [q] at e
    exact h.get e
def dIx : D → D → Option L
  | .lst xs, .int i => (atI xs i).map L.d
  | .tup xs, .int i => (atI xs i).map L.d
  | .str z, .int i => if z.length ≤ 100000 then (atI z.cps.toList i).map fun c => .d (.str ⟨#[c]⟩) else none
  | _, _ => none
theorem ok_ix {K : PySem.W.Frag} : Op2 K (rIx K) dIx := fun Hs H x y dx dy l Q e h1 h2 hf hR => by
  unfold dIx at hf
  split at hf
  · rename_i xs i
    cases q : atI xs i with
    | none => rw [q] at hf; cases hf
    | some d =>
      rw [q] at hf; cases hf
      obtain ⟨a, vs, rfl, ha, ra⟩ := h1.isLst e
      obtain ⟨v, ev, rv⟩ := ra.atI q
      rw [h2.isInt]
      exact .inl ⟨a, vs, i, v, rfl, rfl, SqL.of ha, ev, hR.1 _ rv⟩
  · rename_i xs i
    cases q : atI xs i with
    | none => rw [q] at hf; cases hf
    | some d =>
      rw [q] at hf; cases hf
      obtain ⟨a, vs, rfl, ha, ra⟩ := h1.isTup e
      obtain ⟨v, ev, rv⟩ := ra.atI q
      rw [h2.isInt]
      exact .inr (.inl ⟨a, vs, i, v, rfl, rfl, SqT.of ha, ev, hR.1 _ rv⟩)
  · rename_i z i
    split at hf
    · rename_i hl
      cases q : atI z.cps.toList i with
      | none => rw [q] at hf; cases hf
      | some c =>
        rw [q] at hf; cases hf
        rw [h1.isStr, h2.isInt]
        exact .inr (.inr ⟨z, i, c, rfl, rfl, szl hl, q, hR.1 _ (.str _)⟩)
    · cases hf
  · cases hf
def dCmp (p : Int → Int → Bool) : D → D → Option Bool
  | .int i, .int j => some (p i j)
  | _, _ => none
theorem ok_cmp {K : PySem.W.Frag} (p : Int → Int → Bool) : Cm2 K (rI0 fun i j => .bl (p i j)) (dCmp p) := fun Hs H x y dx dy k Q e h1 h2 hf q => by
  unfold dCmp at hf
  split at hf
  · cases hf
    rw [h1.isInt, h2.isInt]
    exact ⟨_, _, rfl, rfl, q⟩
  · cases hf
abbrev dLt := dCmp fun i j => decide (i < j)
abbrev dLe := dCmp fun i j => decide (i ≤ j)
abbrev dGt := dCmp fun i j => decide (j < i)
abbrev dGe := dCmp fun i j => decide (j ≤ i)
mutual
def toPy : D → Option PyData
  | .non => some .none
  | .bl b => some (.bool b)
  | .int i => some (.int i)
  | .str x => some (.str x)
  | .tup xs => (toPys xs).map PyData.tuple
  | .lst xs => (toPys xs).map PyData.list
  | .scr _ => none
  | .ins _ _ _ => none
  | .dic _ _ => none
def toPys : List D → Option (List PyData)
  | [] => some []
  | d :: ds => match toPy d, toPys ds with
    | some p, some ps => some (p :: ps)
    | _, _ => none
end
mutual
theorem toPy_ok {K : PySem.W.Frag} {H : Hp} : ∀ (d : D) {v : V} {p : PyData}, Rep K H v d → toPy d = some p → Dp K H v p
  | .non, _, _, h, e => by cases h; cases e; exact .non
  | .bl b, _, _, h, e => by cases h; cases e; exact .bl b
  | .int i, _, _, h, e => by cases h; cases e; exact .int i
  | .str x, _, _, h, e => by cases h; cases e; exact .str x
  | .tup xs, _, p, h, e => by
    cases h with
    | tup h1 h2 =>
      unfold toPy at e
      cases q : toPys xs with
      | none => rw [q] at e; cases e
      | some ps => rw [q] at e; cases e; exact .tup (SqT.of h1) (toPys_ok xs h2 q)
  | .lst xs, _, p, h, e => by
    cases h with
    | lst h1 h2 =>
      unfold toPy at e
      cases q : toPys xs with
      | none => rw [q] at e; cases e
      | some ps => rw [q] at e; cases e; exact .lst (SqL.of h1) (toPys_ok xs h2 q)
  | .scr _, _, _, h, e => by unfold toPy at e; cases e
  | .ins _ _ _, _, _, h, e => by unfold toPy at e; cases e
  | .dic _ _, _, _, h, e => by unfold toPy at e; cases e
theorem toPys_ok {K : PySem.W.Frag} {H : Hp} : ∀ (ds : List D) {vs : List V} {ps : List PyData}, RepL K H vs ds → toPys ds = some ps → DpAll K H vs ps
  | [], _, _, h, e => by cases h; cases e; exact .nil
  | d :: ds, _, ps, h, e => by
    cases h with
    | cons h1 h2 =>
      unfold toPys at e
      split at e
      · rename_i p ps e1 e2
        cases e
        exact .cons (toPy_ok d h1 e1) (toPys_ok ds h2 e2)
      · cases e
end
def eqFl : D → D → Option Bool
  | .int i, .int j => some (decide (i = j))
  | .str a, .str b => some (decide (a = b))
  | .bl a, .bl b => some (decide (a = b))
  | .non, .non => some true
  | .non, .int _ => some false
  | .int _, .non => some false
  | .non, .str _ => some false
  | .str _, .non => some false
  | .non, .bl _ => some false
  | .bl _, .non => some false
  | .int _, .str _ => some false
  | .str _, .int _ => some false
  | _, _ => none
def eqDp (x y : D) : Option Bool := match toPy x, toPy y with
  | some p, some q => if (SeqAt.shaped p && SeqAt.shaped q) = true then some (PyData.eqv p q) else none
  | _, _ => none
def dEq (x y : D) : Option Bool := match eqFl x y with
  | some k => some k
  | none => eqDp x y
def dNe (x y : D) : Option Bool := (dEq x y).map (! ·)
theorem eqFl_ok {K : PySem.W.Frag} {Hs H : Hp} {x y : V} {dx dy : D} {k : Bool} (h1 : Rep1 K Hs H x dx) (h2 : Rep1 K Hs H y dy) (hf : eqFl dx dy = some k) : scal x y = true ∧ decide (x = y) = k := by
  unfold eqFl at hf
  split at hf <;> first
    | (cases hf; rw [h1.isInt, h2.isInt]; exact ⟨rfl, by simp⟩)
    | (cases hf; rw [h1.isStr, h2.isStr]; exact ⟨rfl, by simp⟩)
    | (cases hf; rw [h1.isBl, h2.isBl]; exact ⟨rfl, by simp⟩)
    | (cases hf; rw [h1.isNon, h2.isNon]; exact ⟨rfl, by simp⟩)
    | (cases hf; rw [h1.isNon, h2.isInt]; exact ⟨rfl, by simp⟩)
    | (cases hf; rw [h1.isInt, h2.isNon]; exact ⟨rfl, by simp⟩)
    | (cases hf; rw [h1.isNon, h2.isStr]; exact ⟨rfl, by simp⟩)
    | (cases hf; rw [h1.isStr, h2.isNon]; exact ⟨rfl, by simp⟩)
    | (cases hf; rw [h1.isNon, h2.isBl]; exact ⟨rfl, by simp⟩)
    | (cases hf; rw [h1.isBl, h2.isNon]; exact ⟨rfl, by simp⟩)
    | (cases hf; rw [h1.isInt, h2.isStr]; exact ⟨rfl, by simp⟩)
    | (cases hf; rw [h1.isStr, h2.isInt]; exact ⟨rfl, by simp⟩)
    | cases hf
theorem eqDp_ok {K : PySem.W.Frag} {Hs H : Hp} {x y : V} {dx dy : D} {k : Bool} (e : Ex Hs H) (h1 : Rep1 K Hs H x dx) (h2 : Rep1 K Hs H y dy) (hf : eqDp dx dy = some k) : ∃ p q, Dp K H x p ∧ Dp K H y q ∧ SeqAt.shaped p = true ∧ SeqAt.shaped q = true ∧ PyData.eqv p q = k := by
  unfold eqDp at hf
  split at hf
  · rename_i p q e1 e2
    split at hf
    · rename_i hs
      cases hf
      rw [Bool.and_eq_true] at hs
      exact ⟨p, q, toPy_ok _ (h1.full e) e1, toPy_ok _ (h2.full e) e2, hs.1, hs.2, rfl⟩
    · cases hf
  · cases hf
def rEqA (K : PySem.W.Frag) : R2 := fun x y H Q => rEq x y H Q ∨ rEqD K x y H Q
def rNeA (K : PySem.W.Frag) : R2 := fun x y H Q => rNe x y H Q ∨ rNeD K x y H Q
theorem op_eqA {X : Cx} (hu : X.A.units + 64 < cLine) : OpR X (compareOp .Eq) (rEqA X.K) := op_eq.or (op_eqD hu)
theorem op_neA {X : Cx} (hu : X.A.units + 64 < cLine) : OpR X (compareOp .NotEq) (rNeA X.K) := op_ne.or (op_neD hu)
theorem ok_eq {K : PySem.W.Frag} : Cm2 K (rEqA K) dEq := fun Hs H x y dx dy k Q e h1 h2 hf q => by
  unfold dEq at hf
  split at hf
  · rename_i k' hk
    cases hf
    obtain ⟨a, b⟩ := eqFl_ok h1 h2 hk
    exact .inl ⟨a, by rw [b]; exact q⟩
  · obtain ⟨p, p', a, b, c, d, z⟩ := eqDp_ok e h1 h2 hf
    exact .inr ⟨p, p', a, b, c, d, by rw [z]; exact q⟩
theorem ok_ne {K : PySem.W.Frag} : Cm2 K (rNeA K) dNe := fun Hs H x y dx dy k Q e h1 h2 hf q => by
  unfold dNe dEq at hf
  split at hf
  · rename_i k' hk
    cases hf
    obtain ⟨a, b⟩ := eqFl_ok h1 h2 hk
    exact .inl ⟨a, by rw [b]; exact q⟩
  · cases hk : eqDp dx dy with
    | none => rw [hk] at hf; cases hf
    | some k' =>
      rw [hk] at hf
      cases hf
      obtain ⟨p, p', a, b, c, d, z⟩ := eqDp_ok e h1 h2 hk
      exact .inr ⟨p, p', a, b, c, d, by rw [z]; exact q⟩
def flD : D → Bool
  | .non | .bl _ | .int _ | .str _ => true
  | _ => false
def eqF : D → D → Bool
  | .non, .non => true
  | .bl a, .bl b => a == b
  | .bl a, .int b => (if a then 1 else 0) == b
  | .int a, .bl b => a == (if b then 1 else 0)
  | .int a, .int b => a == b
  | .str a, .str b => a == b
  | _, _ => false
theorem flD_ok {K : PySem.W.Frag} {H : Hp} {v : V} {d : D} (h : Rep K H v d) (hf : flD d = true) : flatV v = true ∧ ∀ {u : V} {x : D}, Rep K H u x → flD x = true → eqV v u = eqF d x := by
  cases h with
  | non => exact ⟨rfl, fun h hx => by cases h <;> first | rfl | cases hx⟩
  | bl b => exact ⟨rfl, fun h hx => by cases h <;> first | rfl | cases hx⟩
  | int b => exact ⟨rfl, fun h hx => by cases h <;> first | rfl | cases hx⟩
  | str b => exact ⟨rfl, fun h hx => by cases h <;> first | rfl | cases hx⟩
  | tup _ _ => cases hf
  | lst _ _ => cases hf
  | scr _ => cases hf
  | ins _ _ _ => cases hf
  | dic _ _ _ => cases hf
theorem flAll {K : PySem.W.Frag} {H : Hp} {u : V} {x : D} (hu : Rep K H u x) (hx : flD x = true) : ∀ {ds : List D} {vs : List V}, RepL K H vs ds → ds.all flD = true → vs.all flatV = true ∧ inV u vs = ds.any fun y => eqF y x
  | [], _, h, _ => by cases h; exact ⟨rfl, rfl⟩
  | d :: ds, _, h, q => by
    cases h with
    | cons h1 h2 =>
      rw [List.all_cons, Bool.and_eq_true] at q
      obtain ⟨a, b⟩ := flAll hu hx h2 q.2
      obtain ⟨c, e⟩ := flD_ok h1 q.1
      refine ⟨by rw [List.all_cons, c, a]; rfl, ?_⟩
      unfold inV at b ⊢
      rw [List.any_cons, List.any_cons, b, e hu hx]
def dIn : D → D → Option Bool
  | x, .lst ys => if (flD x && ys.all flD) = true then some (ys.any fun y => eqF y x) else none
  | x, .tup ys => if (flD x && ys.all flD) = true then some (ys.any fun y => eqF y x) else none
  | .str ⟨⟨[c]⟩⟩, .str z => some (decide (c ∈ z.cps.toList))
  | _, _ => none
def dNotIn (x y : D) : Option Bool := (dIn x y).map (! ·)
def rInA (K : PySem.W.Frag) : R2 := fun x y H Q => rIn K false x y H Q ∨ ∃ (c : Nat) (z : Str), x = .str ⟨#[c]⟩ ∧ y = .str z ∧ Q (.bl (decide (c ∈ z.cps.toList))) H
def rNotInA (K : PySem.W.Frag) : R2 := fun x y H Q => rIn K true x y H Q ∨ ∃ (c : Nat) (z : Str), x = .str ⟨#[c]⟩ ∧ y = .str z ∧ Q (.bl (!decide (c ∈ z.cps.toList))) H
theorem op_inA {X : Cx} : OpR X (compareOp .In) (rInA X.K) := op_in_seq.or op_in_sign
theorem op_notInA {X : Cx} : OpR X (compareOp .NotIn) (rNotInA X.K) := op_notIn_seq.or op_notIn_sign
theorem rep1_flat {K : PySem.W.Frag} {Hs H : Hp} {v : V} {d : D} (h : Rep1 K Hs H v d) (hf : flD d = true) : Rep K Hs v d := by
  cases h with
  | top h => exact h
  | lst _ _ => cases hf
  | dic _ _ _ => cases hf
theorem dIn_ok {K : PySem.W.Frag} {Hs H : Hp} {x y : V} {dx dy : D} {k : Bool} (e : Ex Hs H) (h1 : Rep1 K Hs H x dx) (h2 : Rep1 K Hs H y dy) (hf : dIn dx dy = some k) :
    (∃ p xs, y = .ref p ∧ (SqL K H p xs ∨ SqT K H p xs) ∧ flatV x = true ∧ xs.all flatV = true ∧ inV x xs = k) ∨ ∃ (c : Nat) (z : Str), x = .str ⟨#[c]⟩ ∧ y = .str z ∧ decide (c ∈ z.cps.toList) = k := by
  unfold dIn at hf
  split at hf
  · split at hf
    · rename_i hq
      cases hf
      rw [Bool.and_eq_true] at hq
      obtain ⟨a, vs, rfl, ha, ra⟩ := h2.isLst e
      have rx := rep1_flat h1 hq.1
      obtain ⟨q1, q2⟩ := flAll rx hq.1 ra hq.2
      exact .inl ⟨a, vs, rfl, .inl (SqL.of ha), (flD_ok rx hq.1).1, q1, q2⟩
    · cases hf
  · split at hf
    · rename_i hq
      cases hf
      rw [Bool.and_eq_true] at hq
      obtain ⟨a, vs, rfl, ha, ra⟩ := h2.isTup e
      have rx := rep1_flat h1 hq.1
      obtain ⟨q1, q2⟩ := flAll rx hq.1 ra hq.2
      exact .inl ⟨a, vs, rfl, .inr (SqT.of ha), (flD_ok rx hq.1).1, q1, q2⟩
    · cases hf
  · cases hf
    rw [h1.isStr, h2.isStr]
    exact .inr ⟨_, _, rfl, rfl, rfl⟩
  · cases hf
theorem ok_in {K : PySem.W.Frag} : Cm2 K (rInA K) dIn := fun Hs H x y dx dy k Q e h1 h2 hf q => by
  rcases dIn_ok e h1 h2 hf with ⟨p, xs, e1, e2, e3, e4, e5⟩ | ⟨c, z, e1, e2, e3⟩
  · exact .inl ⟨p, xs, e1, e2, e3, e4, by rw [if_neg Bool.false_ne_true, e5]; exact q⟩
  · exact .inr ⟨c, z, e1, e2, by rw [e3]; exact q⟩
theorem ok_notIn {K : PySem.W.Frag} : Cm2 K (rNotInA K) dNotIn := fun Hs H x y dx dy k Q e h1 h2 hf q => by
  unfold dNotIn at hf
  cases hk : dIn dx dy with
  | none => rw [hk] at hf; cases hf
  | some k' =>
    rw [hk] at hf; cases hf
    rcases dIn_ok e h1 h2 hk with ⟨p, xs, e1, e2, e3, e4, e5⟩ | ⟨c, z, e1, e2, e3⟩
    · exact .inl ⟨p, xs, e1, e2, e3, e4, by rw [if_pos rfl, e5]; exact q⟩
    · exact .inr ⟨c, z, e1, e2, by rw [e3]; exact q⟩
def dIs : D → D → Option Bool
  | .bl a, .bl b => some (decide (a = b))
  | .non, .non => some true
  | .int _, .non => some false
  | .str _, .non => some false
  | .bl _, .non => some false
  | .lst _, .non => some false
  | .tup _, .non => some false
  | .ins _ _ _, .non => some false
  | .dic _ _, .non => some false
  | _, _ => none
def dIsNot (x y : D) : Option Bool := (dIs x y).map (! ·)
def rIsA : R2 := fun x y H Q => (y = .non ∧ Q (.bl (decide (x = .non))) H) ∨ rIsB x y H Q
def rIsNotA : R2 := fun x y H Q => (y = .non ∧ Q (.bl (!decide (x = .non))) H) ∨ rNotB x y H Q
theorem op_isA {X : Cx} : OpR X (compareOp .Is) rIsA := op_isN.or op_isBl
theorem op_isNotA {X : Cx} : OpR X (compareOp .IsNot) rIsNotA := op_notN.or op_notBl
theorem dIs_ok {K : PySem.W.Frag} {Hs H : Hp} {x y : V} {dx dy : D} {k : Bool} (e : Ex Hs H) (h1 : Rep1 K Hs H x dx) (h2 : Rep1 K Hs H y dy) (hf : dIs dx dy = some k) :
    (y = .non ∧ decide (x = .non) = k) ∨ ∃ a b, x = .bl a ∧ y = .bl b ∧ decide (a = b) = k := by
  unfold dIs at hf
  split at hf
  · cases hf
    rw [h1.isBl, h2.isBl]
    exact .inr ⟨_, _, rfl, rfl, rfl⟩
  · cases hf; rw [h1.isNon, h2.isNon]; exact .inl ⟨rfl, rfl⟩
  · cases hf; rw [h1.isInt, h2.isNon]; exact .inl ⟨rfl, rfl⟩
  · cases hf; rw [h1.isStr, h2.isNon]; exact .inl ⟨rfl, rfl⟩
  · cases hf; rw [h1.isBl, h2.isNon]; exact .inl ⟨rfl, rfl⟩
  · cases hf; obtain ⟨a, vs, rfl, _, _⟩ := h1.isLst e; rw [h2.isNon]; exact .inl ⟨rfl, rfl⟩
  · cases hf; obtain ⟨a, vs, rfl, _, _⟩ := h1.isTup e; rw [h2.isNon]; exact .inl ⟨rfl, rfl⟩
  · cases hf
    rw [h2.isNon]
    cases h1 with | top h => cases h; exact .inl ⟨rfl, rfl⟩
  · cases hf; obtain ⟨a, kvs, rfl, _⟩ := h1.isDic e; rw [h2.isNon]; exact .inl ⟨rfl, rfl⟩
  · cases hf
theorem ok_is {K : PySem.W.Frag} : Cm2 K rIsA dIs := fun Hs H x y dx dy k Q e h1 h2 hf q => by
  rcases dIs_ok e h1 h2 hf with ⟨a, b⟩ | ⟨a, b, c, d, z⟩
  · exact .inl ⟨a, by rw [b]; exact q⟩
  · exact .inr ⟨a, b, c, d, by rw [z]; exact q⟩
theorem ok_isNot {K : PySem.W.Frag} : Cm2 K rIsNotA dIsNot := fun Hs H x y dx dy k Q e h1 h2 hf q => by
  unfold dIsNot at hf
  cases hk : dIs dx dy with
  | none => rw [hk] at hf; cases hf
  | some k' =>
    rw [hk] at hf; cases hf
    rcases dIs_ok e h1 h2 hk with ⟨a, b⟩ | ⟨a, b, c, d, z⟩
    · exact .inl ⟨a, by rw [b]; exact q⟩
    · exact .inr ⟨a, b, c, d, by rw [z]; exact q⟩
end Ev
namespace Ev
open PySem PySem.Spec PyProof.Rows L2
open Evl (Ex)
theorem pair1 {K : PySem.W.Frag} {Hs H : Hp} {xs : List V} {d : D} (h : Paired (Rep1 K Hs H) xs [d]) : ∃ x, xs = [x] ∧ Rep1 K Hs H x d := by
  cases h with | cons r t => cases t; exact ⟨_, rfl, r⟩
theorem pair2 {K : PySem.W.Frag} {Hs H : Hp} {xs : List V} {d e : D} (h : Paired (Rep1 K Hs H) xs [d, e]) : ∃ x y, xs = [x, y] ∧ Rep1 K Hs H x d ∧ Rep1 K Hs H y e := by
  cases h with | cons r t => cases t with | cons r2 t2 => cases t2; exact ⟨_, _, rfl, r, r2⟩
def dLen : List D → Option L
  | [.str z] => if z.length ≤ 100000 then some (.d (.int z.length)) else none
  | [.lst xs] => some (.d (.int xs.length))
  | [.tup xs] => some (.d (.int xs.length))
  | [.scr xs] => some (.d (.int xs.length))
  | [.dic ks ds] => some (.d (.int ds.length))
  | _ => none
def rLenA (K : PySem.W.Frag) : List V → Hp → VK → Prop := fun xs H Q => (∃ x n, xs = [x] ∧ LenV K x H n ∧ Q (.int n) H) ∨ ∃ a kvs, xs = [V.ref a] ∧ H a = some (.dK kvs) ∧ Q (.int kvs.length) H
theorem cr_lenA {X : Cx} : CallR X (.builtin "len") (rLenA X.K) := call_len.or call_lenD
theorem ok_len {K : PySem.W.Frag} : OpN K (rLenA K) dLen := fun Hs H xs ds l Q e hp hf hR => by
  unfold dLen at hf
  split at hf
  · split at hf
    · rename_i hl
      cases hf
      obtain ⟨x, rfl, r⟩ := pair1 hp
      rw [r.isStr]
      exact .inl ⟨_, _, rfl, ⟨szl hl, rfl⟩, hR.1 _ (.int _)⟩
    · cases hf
  · cases hf
    obtain ⟨x, rfl, r⟩ := pair1 hp
    obtain ⟨a, vs, rfl, ha, ra⟩ := r.isLst e
    exact .inl ⟨_, _, rfl, .inl ⟨vs, SqL.of ha, rfl⟩, by rw [ra.length]; exact hR.1 _ (.int _)⟩
  · cases hf
    obtain ⟨x, rfl, r⟩ := pair1 hp
    obtain ⟨a, vs, rfl, ha, ra⟩ := r.isTup e
    exact .inl ⟨_, _, rfl, .inr ⟨vs, SqT.of ha, rfl⟩, by rw [ra.length]; exact hR.1 _ (.int _)⟩
  · cases hf
    obtain ⟨x, rfl, r⟩ := pair1 hp
    obtain ⟨a, rfl, ha⟩ := r.isScr e
    exact .inl ⟨_, _, rfl, .inl ⟨_, ha, rfl⟩, by rw [List.length_map]; exact hR.1 _ (.int _)⟩
  · cases hf
    obtain ⟨x, rfl, r⟩ := pair1 hp
    obtain ⟨a, kvs, rfl, ha, ek, ra⟩ := r.isDic e
    have := ra.length
    rw [List.length_map] at this
    exact .inr ⟨a, kvs, rfl, ha, by rw [this]; exact hR.1 _ (.int _)⟩
  · cases hf
def dAbs : List D → Option L
  | [.int i] => some (.d (.int (if i < 0 then -i else i)))
  | _ => none
theorem ok_abs {K : PySem.W.Frag} : OpN K (fun xs H Q => ∃ i, xs = [.int i] ∧ Q (.int (if i < 0 then -i else i)) H) dAbs := fun Hs H xs ds l Q e hp hf hR => by
  unfold dAbs at hf
  split at hf
  · cases hf
    obtain ⟨x, rfl, r⟩ := pair1 hp
    rw [r.isInt]
    exact ⟨_, rfl, hR.1 _ (.int _)⟩
  · cases hf
def dInt : List D → Option L
  | [.int i] => some (.d (.int i))
  | [.bl k] => some (.d (.int (if k then 1 else 0)))
  | _ => none
theorem ok_int {K : PySem.W.Frag} : OpN K (fun xs H Q => (∃ i, xs = [.int i] ∧ Q (.int i) H) ∨ ∃ k, xs = [.bl k] ∧ Q (.int (if k then 1 else 0)) H) dInt := fun Hs H xs ds l Q e hp hf hR => by
  unfold dInt at hf
  split at hf
  · cases hf
    obtain ⟨x, rfl, r⟩ := pair1 hp
    rw [r.isInt]
    exact .inl ⟨_, rfl, hR.1 _ (.int _)⟩
  · cases hf
    obtain ⟨x, rfl, r⟩ := pair1 hp
    rw [r.isBl]
    exact .inr ⟨_, rfl, hR.1 _ (.int _)⟩
  · cases hf
def intsOf : List D → Option (List Int)
  | [] => some []
  | .int i :: r => (intsOf r).map (i :: ·)
  | _ :: _ => none
theorem intsOf_eq : ∀ {ds : List D} {ns : List Int}, intsOf ds = some ns → ds = ns.map D.int
  | [], _, h => by cases h; rfl
  | .int i :: r, ns, h => by
    unfold intsOf at h
    cases q : intsOf r with
    | none => rw [q] at h; cases h
    | some ms => rw [q] at h; cases h; rw [intsOf_eq q]; rfl
  | .non :: _, _, h => by cases h
  | .bl _ :: _, _, h => by cases h
  | .str _ :: _, _, h => by cases h
  | .tup _ :: _, _, h => by cases h
  | .lst _ :: _, _, h => by cases h
  | .scr _ :: _, _, h => by cases h
  | .ins _ _ _ :: _, _, h => by cases h
  | .dic _ _ :: _, _, h => by cases h
@[simp] theorem intsOf_map : ∀ ns : List Int, intsOf (ns.map D.int) = some ns
  | [] => rfl
  | n :: ns => by rw [List.map_cons, intsOf, intsOf_map ns]; rfl
def dSum : List D → Option L
  | [.lst xs] => (intsOf xs).map fun ns => .d (.int ns.sum)
  | _ => none
theorem ok_sum {K : PySem.W.Frag} : OpN K (rSum K) dSum := fun Hs H xs ds l Q e hp hf hR => by
  unfold dSum at hf
  split at hf
  · rename_i ys
    cases q : intsOf ys with
    | none => rw [q] at hf; cases hf
    | some ns =>
      rw [q] at hf; cases hf
      obtain ⟨x, rfl, r⟩ := pair1 hp
      obtain ⟨a, vs, rfl, ha, ra⟩ := r.isLst e
      rw [intsOf_eq q] at ra
      rw [ra.ints] at ha
      exact ⟨a, ns, rfl, SqL.of ha, hR.1 _ (.int _)⟩
  · cases hf
def maxL : Int → List Int → Int
  | m, [] => m
  | m, n :: r => maxL (if n > m then n else m) r
def minL : Int → List Int → Int
  | m, [] => m
  | m, n :: r => minL (if n < m then n else m) r
theorem maxL_ok : ∀ (m : Int) (ns : List Int), maxL m ns ∈ m :: ns ∧ ∀ y ∈ m :: ns, y ≤ maxL m ns
  | m, [] => ⟨by simp [maxL], by simp [maxL]⟩
  | m, n :: r => by
    obtain ⟨h1, h2⟩ := maxL_ok (if n > m then n else m) r
    rw [maxL]
    have h3 := h2 _ (List.mem_cons_self)
    refine ⟨?_, fun y hy => ?_⟩
    · rcases List.mem_cons.mp h1 with e | e
      · rw [e]; split <;> simp
      · exact List.mem_cons_of_mem _ (List.mem_cons_of_mem _ e)
    · have k1 : m ≤ (if n > m then n else m) := by split <;> omega
      have k2 : n ≤ (if n > m then n else m) := by split <;> omega
      rcases List.mem_cons.mp hy with e | e
      · subst e; exact Int.le_trans k1 h3
      · rcases List.mem_cons.mp e with e | e
        · subst e; exact Int.le_trans k2 h3
        · exact h2 y (List.mem_cons_of_mem _ e)
theorem minL_ok : ∀ (m : Int) (ns : List Int), minL m ns ∈ m :: ns ∧ ∀ y ∈ m :: ns, minL m ns ≤ y
  | m, [] => ⟨by simp [minL], by simp [minL]⟩
  | m, n :: r => by
    obtain ⟨h1, h2⟩ := minL_ok (if n < m then n else m) r
    rw [minL]
    have h3 := h2 _ (List.mem_cons_self)
    refine ⟨?_, fun y hy => ?_⟩
    · rcases List.mem_cons.mp h1 with e | e
      · rw [e]; split <;> simp
      · exact List.mem_cons_of_mem _ (List.mem_cons_of_mem _ e)
    · have k1 : (if n < m then n else m) ≤ m := by split <;> omega
      have k2 : (if n < m then n else m) ≤ n := by split <;> omega
      rcases List.mem_cons.mp hy with e | e
      · subst e; exact Int.le_trans h3 k1
      · rcases List.mem_cons.mp e with e | e
        · subst e; exact Int.le_trans h3 k2
        · exact h2 y (List.mem_cons_of_mem _ e)
def dMax : List D → Option L
  | [.lst xs] => (match intsOf xs with
    | some (n :: ns) => some (.d (.int (maxL n ns)))
    | _ => none)
  | [.int i, .int j] => some (.d (.int (if j > i then j else i)))
  | _ => none
def dMin : List D → Option L
  | [.lst xs] => (match intsOf xs with
    | some (n :: ns) => some (.d (.int (minL n ns)))
    | _ => none)
  | [.int i, .int j] => some (.d (.int (if j < i then j else i)))
  | _ => none
def rMaxA (K : PySem.W.Frag) : List V → Hp → VK → Prop := fun xs H Q => rMax K xs H Q ∨ ∃ i j, xs = [.int i, .int j] ∧ Q (.int (if j > i then j else i)) H
def rMinA (K : PySem.W.Frag) : List V → Hp → VK → Prop := fun xs H Q => rMin K xs H Q ∨ ∃ i j, xs = [.int i, .int j] ∧ Q (.int (if j < i then j else i)) H
theorem cr_maxA {X : Cx} (hc : X.calm = true) : CallR X (.builtin "max") (rMaxA X.K) := (cr_max hc).or (call_max2 hc)
theorem cr_minA {X : Cx} (hc : X.calm = true) : CallR X (.builtin "min") (rMinA X.K) := (cr_min hc).or (call_min2 hc)
theorem ok_max {K : PySem.W.Frag} : OpN K (rMaxA K) dMax := fun Hs H xs ds l Q e hp hf hR => by
  unfold dMax at hf
  split at hf
  · rename_i ys
    split at hf
    · rename_i n ns q
      cases hf
      obtain ⟨x, rfl, r⟩ := pair1 hp
      obtain ⟨a, vs, rfl, ha, ra⟩ := r.isLst e
      rw [intsOf_eq q] at ra
      rw [ra.ints] at ha
      refine .inl ⟨a, n :: ns, rfl, SqL.of ha, by simp, fun m hm hall => ?_⟩
      obtain ⟨h1, h2⟩ := maxL_ok n ns
      have : m = maxL n ns := Int.le_antisymm (h2 m hm) (hall _ h1)
      rw [this]
      exact hR.1 _ (.int _)
    · cases hf
  · cases hf
    obtain ⟨x, y, rfl, r, r2⟩ := pair2 hp
    rw [r.isInt, r2.isInt]
    exact .inr ⟨_, _, rfl, hR.1 _ (.int _)⟩
  · cases hf
theorem ok_min {K : PySem.W.Frag} : OpN K (rMinA K) dMin := fun Hs H xs ds l Q e hp hf hR => by
  unfold dMin at hf
  split at hf
  · rename_i ys
    split at hf
    · rename_i n ns q
      cases hf
      obtain ⟨x, rfl, r⟩ := pair1 hp
      obtain ⟨a, vs, rfl, ha, ra⟩ := r.isLst e
      rw [intsOf_eq q] at ra
      rw [ra.ints] at ha
      refine .inl ⟨a, n :: ns, rfl, SqL.of ha, by simp, fun m hm hall => ?_⟩
      obtain ⟨h1, h2⟩ := minL_ok n ns
      have : m = minL n ns := Int.le_antisymm (hall _ h1) (h2 m hm)
      rw [this]
      exact hR.1 _ (.int _)
    · cases hf
  · cases hf
    obtain ⟨x, y, rfl, r, r2⟩ := pair2 hp
    rw [r.isInt, r2.isInt]
    exact .inr ⟨_, _, rfl, hR.1 _ (.int _)⟩
  · cases hf
def dList : List D → Option L
  | [.lst xs] => some (.own xs)
  | [.tup xs] => some (.own xs)
  | _ => none
theorem ok_list {K : PySem.W.Frag} : OpN K (fun xs H Q => ∃ p ys, xs = [.ref p] ∧ (SqL K H p ys ∨ SqT K H p ys) ∧ ∀ l, H l = none → Q (.ref l) (upd H l (.lst ys))) dList := fun Hs H xs ds l Q e hp hf hR => by
  unfold dList at hf
  split at hf
  · cases hf
    obtain ⟨x, rfl, r⟩ := pair1 hp
    obtain ⟨a, vs, rfl, ha, ra⟩ := r.isLst e
    exact ⟨a, vs, rfl, .inl (SqL.of ha), fun p hp => hR p vs hp ra⟩
  · cases hf
    obtain ⟨x, rfl, r⟩ := pair1 hp
    obtain ⟨a, vs, rfl, ha, ra⟩ := r.isTup e
    exact ⟨a, vs, rfl, .inr (SqT.of ha), fun p hp => hR p vs hp ra⟩
  · cases hf
def dTuple : List D → Option L
  | [.lst xs] => some (.d (.tup xs))
  | _ => none
theorem ok_tuple {K : PySem.W.Frag} : OpN K (fun xs H Q => ∃ p ys, xs = [.ref p] ∧ ((SqL K H p ys ∧ ∀ l, H l = none → Q (.ref l) (upd H l (.tup ys))) ∨ (SqT K H p ys ∧ Q (.ref p) H))) dTuple := fun Hs H xs ds l Q e hp hf hR => by
  unfold dTuple at hf
  split at hf
  · cases hf
    obtain ⟨x, rfl, r⟩ := pair1 hp
    obtain ⟨a, vs, rfl, ha, ra⟩ := r.isLst e
    exact ⟨a, vs, rfl, .inl ⟨SqL.of ha, fun p hp => hR.2 _ p vs rfl hp ra⟩⟩
  · cases hf
def blsOf : List D → Option (List Bool)
  | [] => some []
  | .bl i :: r => (blsOf r).map (i :: ·)
  | _ :: _ => none
theorem blsOf_eq : ∀ {ds : List D} {ns : List Bool}, blsOf ds = some ns → ds = ns.map D.bl
  | [], _, h => by cases h; rfl
  | .bl i :: r, ns, h => by
    unfold blsOf at h
    cases q : blsOf r with
    | none => rw [q] at h; cases h
    | some ms => rw [q] at h; cases h; rw [blsOf_eq q]; rfl
  | .non :: _, _, h => by cases h
  | .int _ :: _, _, h => by cases h
  | .str _ :: _, _, h => by cases h
  | .tup _ :: _, _, h => by cases h
  | .lst _ :: _, _, h => by cases h
  | .scr _ :: _, _, h => by cases h
  | .ins _ _ _ :: _, _, h => by cases h
  | .dic _ _ :: _, _, h => by cases h
@[simp] theorem blsOf_map : ∀ ns : List Bool, blsOf (ns.map D.bl) = some ns
  | [] => rfl
  | n :: ns => by rw [List.map_cons, blsOf, blsOf_map ns]; rfl
def dAll : List D → Option L
  | [.lst xs] => (blsOf xs).map fun bs => .d (.bl (bs.all id))
  | _ => none
theorem ok_all {K : PySem.W.Frag} : OpN K (rAll K) dAll := fun Hs H xs ds l Q e hp hf hR => by
  unfold dAll at hf
  split at hf
  · rename_i ys
    cases q : blsOf ys with
    | none => rw [q] at hf; cases hf
    | some ns =>
      rw [q] at hf; cases hf
      obtain ⟨x, rfl, r⟩ := pair1 hp
      obtain ⟨a, vs, rfl, ha, ra⟩ := r.isLst e
      rw [blsOf_eq q] at ra
      rw [ra.bls] at ha
      exact ⟨a, ns, rfl, SqL.of ha, hR.1 _ (.bl _)⟩
  · cases hf
def dStr : List D → Option L
  | [.int i] => if i.natAbs.log2 < 1920 then some (.d (.str (toString i))) else none
  | _ => none
theorem ok_str {K : PySem.W.Frag} : OpN K (fun xs H Q => ∃ i, xs = [.int i] ∧ i.natAbs.log2 < 1920 ∧ Q (.str (toString i)) H) dStr := fun Hs H xs ds l Q e hp hf hR => by
  unfold dStr at hf
  split at hf
  · split at hf
    · rename_i hl
      cases hf
      obtain ⟨x, rfl, r⟩ := pair1 hp
      rw [r.isInt]
      exact ⟨_, rfl, hl, hR.1 _ (.str _)⟩
    · cases hf
  · cases hf
abbrev tO (K : PySem.W.Frag) (W : WX) (P : List Nat) (F : M (Option Int)) : TO := tF K W P (fun _ _ _ o a xf => o = a ∧ xf = []) F
theorem PO_weak {X : Cx} {e : Option Expr} {t t' : TO} (h : PO X e t) (hw : ∀ σ H Q, t' σ H Q → t σ H Q) : PO X e t' := ⟨fun pins s σ H Q I q => h.run pins s σ H Q I (hw σ H Q q)⟩
section
variable {X : Cx} {W : WX} {P : List Nat} {e a b c : Expr} {pos : Pos} {Fa : M Pk} {F : M D}
def oNone : M (Option Int) := rt none
def oSome (F : M D) : M (Option Int) := bd F fun d s => match d with
  | .int i => some (.ok (some i), s)
  | _ => none
theorem do_none : PO X none (tO X.K W P oNone) := PO_weak po_none fun σ H Q ⟨fm, Hs, vs, r', vs', hF, hP, hS, hk, hE⟩ => by
  cases hF
  exact hk _ _ H Hs [] rfl hS (Ex.refl _) ⟨rfl, rfl⟩
theorem do_some (h : PE X e (tE X.K W P F)) : PO X (some e) (tO X.K W P (oSome F)) := PO_weak (po_some h) fun σ H Q ⟨fm, Hs, vs, r', vs', hF, hP, hS, hk, hE⟩ => by
  dsimp only [tPart]
  refine go hF hP hS hE fun d vs1 v H1 Hs1 xf hg S1 X1 ⟨rx, ex⟩ => ?_
  subst ex
  split at hg
  · cases hg; cases rx
    exact ⟨_, rfl, hk _ _ H1 Hs1 [] rfl S1 X1 ⟨rfl, rfl⟩⟩
  · cases hg
def cutL {α : Type} (xs : List α) (lo hi : Option Int) : List α := (xs.drop (HT.sIx xs.length 0 lo)).take (HT.sIx xs.length xs.length hi - HT.sIx xs.length 0 lo)
def dSl : D → Option Int → Option Int → Option L
  | .lst xs, lo, hi => some (.own (cutL xs lo hi))
  | .tup xs, lo, hi => if HT.sIx xs.length 0 lo = 0 ∧ HT.sIx xs.length xs.length hi = xs.length then none else some (.d (.tup (cutL xs lo hi)))
  | .str z, lo, hi => if z.length ≤ 100000 then some (.d (.str (cutS z lo hi))) else none
  | _, _, _ => none
def rSlA (K : PySem.W.Frag) : V → Option Int → Option Int → Hp → VK → Prop := fun x lo hi H Q => rSlL K x lo hi H Q ∨ rSlT K x lo hi H Q ∨ rSlS x lo hi H Q
theorem sl_all : SlR X (rSlA X.K) := sl_list.or (sl_tup.or sl_str)
theorem RepL.cut {K : PySem.W.Frag} {H : Hp} {ds : List D} {vs : List V} (h : RepL K H vs ds) (lo hi : Option Int) : RepL K H (cutV vs lo hi) (cutL ds lo hi) := by
  unfold cutV cutL
  rw [h.length]
  exact (h.drop _).take _
theorem ok_sl {K : PySem.W.Frag} {Hs H : Hp} {x : V} {dx : D} {lo hi : Option Int} {l : L} {Q : VK} (e : Ex Hs H) (h1 : Rep1 K Hs H x dx) (hf : dSl dx lo hi = some l) (hR : Res K Hs H Q l) : rSlA K x lo hi H Q := by
  unfold dSl at hf
  split at hf
  · cases hf
    obtain ⟨a, vs, rfl, ha, ra⟩ := h1.isLst e
    exact .inl ⟨a, vs, rfl, SqL.of ha, fun p hp => hR p _ hp (ra.cut _ _)⟩
  · split at hf
    · cases hf
    · rename_i hw
      cases hf
      obtain ⟨a, vs, rfl, ha, ra⟩ := h1.isTup e
      exact .inr (.inl ⟨a, vs, rfl, SqT.of ha, by rw [ra.length]; exact hw, fun p hp => hR.2 _ p _ rfl hp (ra.cut _ _)⟩)
  · split at hf
    · rename_i hl
      cases hf
      rw [h1.isStr]
      exact .inr (.inr ⟨_, rfl, szl hl, hR.1 _ (.str _)⟩)
    · cases hf
  · cases hf
def fSl (Fa : M Pk) (Fl Fh : M (Option Int)) : M L := bd Fa fun a => bd Fl fun lo => bd Fh fun hi s => match res s a with
  | some x => (match dSl x lo hi with
    | some l => some (.ok l, s)
    | none => none)
  | none => none
theorem dl_slice {lo hi : Option Expr} {Fl Fh : M (Option Int)} {p2 : Pos} (ha : PE X a (tK X.K W P Fa)) (hl : PO X lo (tO X.K W P Fl)) (hh : PO X hi (tO X.K W P Fh)) : PE X (.Subscript a (.Slice lo hi none p2) pos) (tL X.K W P (fSl Fa Fl Fh)) :=
  PE_weak (pe_slice sl_all ha hl hh) fun σ H Q ⟨fm, Hs, vs, r', vs', hF, hP, hS, hk, hE⟩ => by
    dsimp only [tSl]
    refine go hF hP hS hE fun ka vs1 x H1 Hs1 xf hg S1 X1 ⟨rx, ex⟩ => ?_
    subst ex
    refine go hg hP S1 (fun x c dd H' Hs' q S' X' o => hE x c dd H' Hs' q S' (X1.trans X') o) fun lo' vs2 y H2 Hs2 xf hg S2 X2 ⟨ry, ex⟩ => ?_
    subst ex; subst ry
    refine go hg hP S2 (fun x c dd H' Hs' q S' X' o => hE x c dd H' Hs' q S' ((X1.trans X2).trans X') o) fun hi' vs3 y H3 Hs3 xf hg S3 X3 ⟨ry, ex⟩ => ?_
    subst ex; subst ry
    split at hg
    · rename_i dx e1
      split at hg
      · rename_i l el
        cases hg
        exact ok_sl S3.sub (S3.res rx (X2.trans X3) e1) el (res_of S3 fun v H' Hs' xf S' X' r' => hk l v H' Hs' xf rfl S' (((X1.trans X2).trans X3).trans X') r')
      · cases hg
    · cases hg
theorem dl_callB {x : Str} {id : String} {p : Pos} {es : List Expr} {Fr : M (List Pk)} {r : List V → Hp → VK → Prop} {f : List D → Option L} (hc : CallR X (.builtin id) r) (hr : OpN X.K r f) (hg : Gl X x) (hm : X.mg x = none) (hv : bootBuiltins x = some (.builtin id))
    (ha : PA X (e :: es) (tKs X.K W P Fr)) (hn : x ≠ "__name__") (hdb : (x == ("__debug__" : Str)) = false) (he : starEach (e :: es) X.env = (false, eval e X.env) :: starEach es X.env) (hpl : (backTo pos (starEach es X.env)).any (·.1) = false) :
    PE X (.Call (.Name x p) (e :: es) [] pos) (tL X.K W P (fN f Fr)) := PE_weak (pe_callB hc hg hm hv ha hn hdb he hpl) (re_fN hr)
theorem dl_callT {x : Str} {T : String} {p : Pos} {es : List Expr} {Fr : M (List Pk)} {r : List V → Hp → VK → Prop} {f : List D → Option L} (hc : CallR X (.type T) r) (hr : OpN X.K r f) (hg : Gl X x) (hm : X.mg x = none) (hv : bootBuiltins x = some (.type T))
    (ha : PA X (e :: es) (tKs X.K W P Fr)) (hn : x ≠ "__name__") (hdb : (x == ("__debug__" : Str)) = false) (he : starEach (e :: es) X.env = (false, eval e X.env) :: starEach es X.env) (hpl : (backTo pos (starEach es X.env)).any (·.1) = false) :
    PE X (.Call (.Name x p) (e :: es) [] pos) (tL X.K W P (fN f Fr)) := PE_weak (pe_callTy hc hg hm hv ha hn hdb he hpl) (re_fN hr)
def rgD (a : Int) (n : Nat) : List D := (List.range n).map fun i => D.int (a + (i : Nat))
def fLRg (F : M D) : M L := bd F fun d s => match d with
  | .int n => if 0 ≤ n ∧ n ≤ 100000 then some (.ok (.own (rgD 0 n.toNat)), s) else none
  | _ => none
theorem RepL_rg {K : PySem.W.Frag} {H : Hp} (a : Int) : ∀ (l : List Nat), RepL K H (l.map fun (i : Nat) => V.int (a + (i : Nat))) (l.map fun (i : Nat) => D.int (a + (i : Nat)))
  | [] => .nil
  | x :: l => .cons (.int _) (RepL_rg a l)
theorem dl_listRg {p p2 pos2 : Pos} (hc : X.calm = true) (hg : Gl X "list") (hm : X.mg "list" = none) (hg2 : Gl X "range") (hm2 : X.mg "range" = none) (ha : PE X a (tE X.K W P F)) (na : starEach [a] X.env = (false, eval a X.env) :: starEach [] X.env) :
    PE X (.Call (.Name "list" p) [.Call (.Name "range" p2) [a] [] pos2] [] pos) (tL X.K W P (fLRg F)) :=
  PE_weak (pe_listRg hc hg hm (prg_1 hg2 hm2 ha na)) fun σ H Q ⟨fm, Hs, vs, r', vs', hF, hP, hS, hk, hE⟩ => by
    dsimp only [tLstRg, tRg1]
    refine go hF hP hS hE fun d vs1 v H1 Hs1 xf hg S1 X1 ⟨rx, ex⟩ => ?_
    subst ex
    split at hg
    · split at hg
      · rename_i hl
        cases hg; cases rx
        refine ⟨_, rfl, ⟨by omega, by omega, by omega, by omega, by omega⟩, fun p hp => ?_⟩
        refine hk _ _ _ Hs1 [p] rfl (S1.allocX hp _) X1 (.own upd_same ?_)
        unfold rgV rgD
        rw [Int.sub_zero]
        exact RepL_rg 0 _
      · cases hg
    · cases hg
def isT (T : String) : D → Bool
  | .lst _ => T == "list"
  | .str _ => T == "str"
  | .dic _ _ => T == "dict"
  | _ => false
theorem isT_ok {K : PySem.W.Frag} {Hs H : Hp} {v : V} {d : D} {T : String} (e : Ex Hs H) (h : Rep1 K Hs H v d) (ht : isT T d = true) : tyV K T v H := by
  cases d with
  | lst xs =>
    obtain ⟨a, vs, rfl, ha, _⟩ := h.isLst e
    exact .inl ⟨beq_iff_eq.mp ht, vs, SqL.of ha⟩
  | str z => rw [h.isStr]; exact beq_iff_eq.mp ht
  | dic ks ds =>
    obtain ⟨a, kvs, rfl, ha, _⟩ := h.isDic e
    exact .inr (.inr (.inl ⟨beq_iff_eq.mp ht, .inl ⟨kvs, ha⟩⟩))
  | non => cases ht
  | bl _ => cases ht
  | int _ => cases ht
  | tup _ => cases ht
  | scr _ => cases ht
  | ins _ _ _ => cases ht
def OpM (K : PySem.W.Frag) (r : V → List V → Hp → VK → Prop) (f : D → List D → Option L) : Prop :=
  ∀ Hs H x xs dx ds l Q, Ex Hs H → Rep1 K Hs H x dx → Paired (Rep1 K Hs H) xs ds → f dx ds = some l → Res K Hs H Q l → r x xs H Q
def fM (T : String) (f : D → List D → Option L) (Fo : M Pk) (Fr : M (List Pk)) : M L := bd Fo fun o s1 => match res s1 o with
  | some d1 => if isT T d1 = true then bd Fr (fun ks s2 => match res s2 o, resAll s2 ks with
    | some d, some ds => (match f d ds with
      | some l => some (.ok l, s2)
      | none => none)
    | _, _ => none) s1 else none
  | none => none
theorem re_fM {T : String} {r : V → List V → Hp → VK → Prop} {f : D → List D → Option L} {Fr : M (List Pk)} (hr : OpM X.K r f) : ∀ σ H Q, tL X.K W P (fM T f Fa Fr) σ H Q → tBM X.K T r (tK X.K W P Fa) (tKs X.K W P Fr) σ H Q := fun σ H Q ⟨fm, Hs, vs, r', vs', hF, hP, hS, hk, hE⟩ => by
  dsimp only [tBM]
  refine go hF hP hS hE fun ka vs1 x H1 Hs1 xf hg S1 X1 ⟨rx, ex⟩ => ?_
  subst ex
  split at hg
  · rename_i d1 e1
    split at hg
    · rename_i ht
      refine ⟨isT_ok S1.sub (S1.res rx (Ex.refl _) e1) ht, ?_⟩
      refine go hg hP S1 (fun x c dd H' Hs' q S' X' o => hE x c dd H' Hs' q S' (X1.trans X') o) fun kr vs2 y H2 Hs2 xf hg S2 X2 ⟨ry, ex⟩ => ?_
      subst ex
      split at hg
      · rename_i d ds e2 e3
        split at hg
        · rename_i l el
          cases hg
          exact hr Hs2 H2 x y d ds l Q S2.sub (S2.res rx X2 e2) (S2.resAll ry e3) el (res_of S2 fun v H' Hs' xf S' X' r' => hk l v H' Hs' xf rfl S' ((X1.trans X2).trans X') r')
        · cases hg
      · cases hg
    · cases hg
  · cases hg
def idxF (y : D) : List D → Option Nat
  | [] => none
  | x :: xs => if eqF x y = true then some 0 else (idxF y xs).map (· + 1)
def dIndex : D → List D → Option L
  | .lst xs, [y] => if (flD y && xs.all flD) = true then (idxF y xs).map fun (j : Nat) => .d (.int (j : Int)) else none
  | _, _ => none
theorem idxF_ok {y : D} : ∀ {xs : List D} {j : Nat}, idxF y xs = some j → (∃ z, xs[j]? = some z ∧ eqF z y = true) ∧ ∀ m z', m < j → xs[m]? = some z' → eqF z' y = false
  | [], _, h => by cases h
  | x :: xs, j, h => by
    unfold idxF at h
    split at h
    · rename_i q
      cases h
      exact ⟨⟨x, rfl, q⟩, fun m z' hm => absurd hm (Nat.not_lt_zero m)⟩
    · rename_i q
      cases e : idxF y xs with
      | none => rw [e] at h; cases h
      | some k =>
        rw [e] at h; cases h
        obtain ⟨⟨z, h1, h2⟩, h3⟩ := idxF_ok e
        refine ⟨⟨z, by simpa using h1, h2⟩, fun m z' hm hz => ?_⟩
        cases m with
        | zero =>
          have : x = z' := by simpa using hz
          subst this
          simpa using q
        | succ m => exact h3 m z' (Nat.lt_of_succ_lt_succ hm) (by simpa using hz)
theorem ok_index {K : PySem.W.Frag} : OpM K (rIndex K) dIndex := fun Hs H x xs dx ds l Q e h1 hp hf hR => by
  unfold dIndex at hf
  split at hf
  · rename_i zs y
    split at hf
    · rename_i hq
      rw [Bool.and_eq_true] at hq
      cases q : idxF y zs with
      | none => rw [q] at hf; cases hf
      | some j =>
        rw [q] at hf; cases hf
        obtain ⟨a, vs, rfl, ha, ra⟩ := h1.isLst e
        obtain ⟨u, rfl, ru⟩ := pair1 hp
        have ru := rep1_flat ru hq.1
        obtain ⟨⟨z, i1, i2⟩, i3⟩ := idxF_ok q
        obtain ⟨v, e1, rv⟩ := ra.get i1
        have fl : ∀ z ∈ zs, flD z = true := fun z hz => List.all_eq_true.mp hq.2 z hz
        refine ⟨a, vs, u, j, v, rfl, rfl, SqL.of ha, (flD_ok ru hq.1).1, (flAll ru hq.1 ra hq.2).1, e1, ?_, fun m z' hm hz => ?_, hR.1 _ (.int _)⟩
        · rw [(flD_ok rv (fl z (List.mem_of_getElem? i1))).2 ru hq.1]; exact i2
        · obtain ⟨d', e2, rd⟩ := ra.getv hz
          rw [(flD_ok rd (fl d' (List.mem_of_getElem? e2))).2 ru hq.1]
          exact i3 m d' hm e2
    · cases hf
  · cases hf
end
end Ev
namespace Ev
open PySem PySem.Spec PyProof.Rows L2
open Evl (Ex)
def OpW (K : PySem.W.Frag) (r : V → List V → Hp → VK → Prop) (g : List D → List D → Option (D × List D)) : Prop :=
  ∀ Hs H a us xs vs ds z xs' Q, H a = some (.lst us) → RepL K Hs us xs → RepL K Hs vs ds → g xs ds = some (z, xs') → (∀ v us', Rep K Hs v z → RepL K Hs us' xs' → Q v (upd H a (.lst us'))) → r (.ref a) vs H Q
def fW (i : Nat) (g : List D → List D → Option (D × List D)) (Fr : M (List D)) : M D := fun s0 => match s0[i]? with
  | some (some (.own _)) => bd Fr (fun ds s => match s[i]? with
    | some (some (.own xs)) => (match g xs ds with
      | some (z, xs') => some (.ok z, s.set i (some (.own xs')))
      | none => none)
    | _ => none) s0
  | _ => none
def gAppend : List D → List D → Option (D × List D)
  | xs, [d] => if xs.length < 100000 then some (.non, xs ++ [d]) else none
  | _, _ => none
theorem ow_append {K : PySem.W.Frag} : OpW K rAppend gAppend := fun Hs H a us xs vs ds z xs' Q ha ru rv hg hk => by
  unfold gAppend at hg
  split at hg
  · split at hg
    · rename_i hl
      cases hg
      cases rv with
      | cons r t =>
        cases t
        refine ⟨a, us, _, rfl, rfl, ha, ?_, hk _ _ .non (ru.append (.one r))⟩
        rw [ru.length]; exact Evl.sz_lt hl
    · cases hg
  · cases hg
def gPop : List D → List D → Option (D × List D)
  | xs, [] => (xs[xs.length - 1]?).map fun y => (y, xs.dropLast)
  | xs, [.int i] => if xs.length ≤ 100000 then (ixN xs.length i).bind fun k => (xs[k]?).map fun y => (y, xs.eraseIdx k) else none
  | _, _ => none
theorem ow_pop {K : PySem.W.Frag} : OpW K (fun x vs H Q => rPop x vs H Q ∨ rPopAt x vs H Q) gPop := fun Hs H a us xs vs ds z xs' Q ha ru rv hg hk => by
  unfold gPop at hg
  split at hg
  · cases rv
    cases e : xs[xs.length - 1]? with
    | none => rw [e] at hg; cases hg
    | some y =>
      rw [e] at hg; cases hg
      obtain ⟨v, e1, r1⟩ := ru.get e
      exact .inl ⟨a, us, v, rfl, rfl, ha, by rw [ru.length]; exact e1, hk v _ r1 ru.dropLast⟩
  · rename_i i
    split at hg
    · rename_i hl
      cases rv with
      | cons r t =>
        cases t; cases r
        cases e : ixN xs.length i with
        | none => rw [e] at hg; cases hg
        | some k =>
          rw [e] at hg
          have hg : (xs[k]?).map (fun y => (y, xs.eraseIdx k)) = some (z, xs') := hg
          cases e2 : xs[k]? with
          | none => rw [e2] at hg; cases hg
          | some y =>
            rw [e2] at hg; cases hg
            obtain ⟨v, e1, r1⟩ := ru.get e2
            obtain ⟨q1, q2, q3, q4⟩ := ixN_seq e
            exact .inr ⟨a, us, i, k, v, rfl, rfl, ha, by omega, by omega, by rw [ru.length]; exact q1, e1, hk v _ r1 (ru.erase k)⟩
    · cases hg
  · cases hg
def gInsert : List D → List D → Option (D × List D)
  | xs, [.int i, y] => if 0 ≤ i ∧ i ≤ 100000 ∧ xs.length < 100000 then some (.non, xs.take i.toNat ++ [y] ++ xs.drop i.toNat) else none
  | _, _ => none
theorem ow_insert {K : PySem.W.Frag} : OpW K (fun x vs H Q => ∃ (l : Addr) (xs : List V) (i : Int) (y : V), x = .ref l ∧ vs = [.int i, y] ∧ H l = some (.lst xs) ∧ xs.length < sizeLine ∧ 0 ≤ i ∧ i < 2 ^ 63 ∧
    Q .non (upd H l (.lst (xs.take i.toNat ++ [y] ++ xs.drop i.toNat)))) gInsert := fun Hs H a us xs vs ds z xs' Q ha ru rv hg hk => by
  unfold gInsert at hg
  split at hg
  · split at hg
    · rename_i hl
      cases hg
      cases rv with
      | cons r t =>
        cases t with
        | cons r2 t2 =>
          cases t2; cases r
          refine ⟨a, us, _, _, rfl, rfl, ha, ?_, hl.1, by omega, hk _ _ .non (((ru.take _).append (.one r2)).append (ru.drop _))⟩
          rw [ru.length]; exact Evl.sz_lt hl.2.2
    · cases hg
  · cases hg
def gClear : List D → List D → Option (D × List D)
  | _, [] => some (.non, [])
  | _, _ => none
theorem ow_clear {K : PySem.W.Frag} : OpW K rClear gClear := fun Hs H a us xs vs ds z xs' Q ha ru rv hg hk => by
  unfold gClear at hg
  split at hg
  · cases hg; cases rv
    exact ⟨a, us, rfl, rfl, ha, hk _ _ .non .nil⟩
  · cases hg
section
variable {X : Cx} {W : WX} {P : List Nat} {e a b c : Expr} {pos : Pos}
theorem own_write {K : PySem.W.Frag} {fm : Fm} {Hs : Hp} {vs : VS} {σ : L2.St} {H : Hp} {xf : List Addr} {i : Nat} {xs xs' : List D} {a : Addr} {us' : List V} (S : Sim K fm Hs vs σ H xf) (e : vs[i]? = some (some (.own xs))) (ev : σ[i]? = some (some (.ref a))) (r : RepL K Hs us' xs') :
    Sim K fm Hs (vs.set i (some (.own xs'))) σ (upd H a (.lst us')) xf := S.write e ev fun f h => by
  cases h with
  | own h1 h2 => exact ⟨rfl, .own upd_same r⟩
theorem re_fW {i : Nat} {T : V → List V → Hp → VK → Prop} {g : List D → List D → Option (D × List D)} {Fr : M (List D)} (hr : OpW X.K T g) : ∀ σ H Q, tE X.K W P (fW i g Fr) σ H Q → tBM X.K "list" T (tVar i) (tAs X.K W P Fr) σ H Q := fun σ H Q ⟨fm, Hs, vs, r', vs', hF, hP, hS, hk, hE⟩ => by
  unfold fW at hF
  split at hF
  · rename_i xs0 e0
    obtain ⟨v, f, e1, rv⟩ := hS.slot e0
    cases rv with
    | own h1 h2 =>
      refine ⟨_, e1, .inl ⟨rfl, _, SqL.of h1⟩, ?_⟩
      refine go hF hP hS hE fun ds vs1 us H1 Hs1 xf hg S1 X1 ⟨rx, ex⟩ => ?_
      subst ex
      split at hg
      · rename_i xs e2
        split at hg
        · rename_i z xs' eg
          cases hg
          obtain ⟨v', f', e3, rv'⟩ := S1.slot e2
          rw [e1] at e3; cases e3
          cases rv' with
          | own k1 k2 =>
            refine hr Hs1 H1 _ _ xs us ds z xs' Q k1 k2 rx eg fun v us' hv hus => ?_
            exact hk z v _ Hs1 [] rfl (own_write S1 e2 e1 hus) X1 ⟨hv, rfl⟩
        · cases hg
      · cases hg
  · cases hF
theorem re_fW0 {i : Nat} {T : V → List V → Hp → VK → Prop} {g : List D → List D → Option (D × List D)} (hr : OpW X.K T g) : ∀ σ H Q, tE X.K W P (fW i g aNil) σ H Q → tBM0 X.K "list" T (tVar i) σ H Q := fun σ H Q ⟨fm, Hs, vs, r', vs', hF, hP, hS, hk, hE⟩ => by
  unfold fW at hF
  split at hF
  · rename_i xs0 e0
    obtain ⟨v, f, e1, rv⟩ := hS.slot e0
    cases rv with
    | own h1 h2 =>
      refine ⟨_, e1, .inl ⟨rfl, _, SqL.of h1⟩, ?_⟩
      have hF : (match vs[i]? with
        | some (some (.own xs)) => (match g xs [] with
          | some (z, xs') => some (Except.ok z, vs.set i (some (.own xs')))
          | none => none)
        | _ => none) = some (r', vs') := hF
      rw [e0] at hF
      dsimp only at hF
      split at hF
      · rename_i z xs' eg
        cases hF
        exact hr Hs H _ _ xs0 [] [] z xs' Q h1 h2 .nil eg fun v us' hv hus => hk z v _ Hs [] rfl (own_write hS e0 e1 hus) (Ex.refl _) ⟨hv, rfl⟩
      · cases hF
  · cases hF
end
inductive Fl where
  | nx | bk | ct | rt (l : L)
structure Kt (K : PySem.W.Frag) (W : WX) (fm : Fm) (Hs : Hp) (r : Except Xn Fl) (vs' : VS) (E : Ends) : Prop where
  nx : ∀ σ' H' Hs', r = .ok .nx → Sim K fm Hs' vs' σ' H' [] → Ex Hs Hs' → E.nx σ' H'
  bk : ∀ σ' H' Hs', r = .ok .bk → Sim K fm Hs' vs' σ' H' [] → Ex Hs Hs' → E.bk σ' H'
  ct : ∀ σ' H' Hs', r = .ok .ct → Sim K fm Hs' vs' σ' H' [] → Ex Hs Hs' → E.ct σ' H'
  rt : ∀ l v σ' H' Hs' xf, r = .ok (.rt l) → Sim K fm Hs' vs' σ' H' xf → Ex Hs Hs' → LOk K Hs' H' v l xf → E.rt v H'
  er : ∀ x c dd σ' H' Hs', r = .error x → Sim K fm Hs' vs' σ' H' [] → Ex Hs Hs' → XOk K Hs' H' c dd x → W c dd σ' H'
theorem Kt.mono {K : PySem.W.Frag} {W : WX} {fm : Fm} {Hs Hs1 : Hp} {r : Except Xn Fl} {vs' : VS} {E : Ends} (k : Kt K W fm Hs r vs' E) (e : Ex Hs Hs1) : Kt K W fm Hs1 r vs' E :=
  ⟨fun a b c d f g => k.nx a b c d f (e.trans g), fun a b c d f g => k.bk a b c d f (e.trans g), fun a b c d f g => k.ct a b c d f (e.trans g), fun l v a b c x d f g => k.rt l v a b c x d f (e.trans g), fun x c dd a b h d f g => k.er x c dd a b h d f (e.trans g)⟩
def tS (K : PySem.W.Frag) (W : WX) (P : List Nat) (F : M Fl) : TS := fun E σ H =>
  ∃ fm Hs vs r vs', F vs = some (r, vs') ∧ fm.pin.map (·.1) = P ∧ Sim K fm Hs vs σ H [] ∧ Kt K W fm Hs r vs' E
theorem goS {K : PySem.W.Frag} {W : WX} {P : List Nat} {α β : Type} {R : Hp → Hp → L2.St → β → α → List Addr → Prop} {F : M α} {g : α → M Fl} {fm : Fm} {Hs : Hp} {vs vs' : VS} {r : Except Xn Fl} {σ : L2.St} {H : Hp} {Q : β → Hp → Prop} {E : Ends}
    (hF : bd F g vs = some (r, vs')) (hP : fm.pin.map (·.1) = P) (hS : Sim K fm Hs vs σ H []) (hE : Kt K W fm Hs r vs' E)
    (hk : ∀ a vs1 b H1 Hs1 xf, g a vs1 = some (r, vs') → Sim K fm Hs1 vs1 σ H1 xf → Ex Hs Hs1 → R Hs1 H1 σ b a xf → Q b H1) : tF K W P R F σ H Q :=
  go hF hP hS (fun x c dd H' Hs' q S' X' o => hE.er x c dd σ H' Hs' q S' X' o) hk
theorem PS_weak {X : Cx} {e : Stmt} {t t' : TS} (h : PS X e t) (hw : ∀ E σ H, t' E σ H → t E σ H) : PS X e t' := ⟨fun pins s σ H E I q => h.run pins s σ H E I (hw E σ H q)⟩
theorem PSs_weak {X : Cx} {e : List Stmt} {t t' : TS} (h : PSs X e t) (hw : ∀ E σ H, t' E σ H → t E σ H) : PSs X e t' := ⟨fun pins s σ H E I q => h.run pins s σ H E I (hw E σ H q)⟩
section
variable {X : Cx} {W : WX} {P : List Nat} {e a b c : Expr} {pos : Pos} {st : Stmt} {sts : List Stmt} {F G : M Fl}
def sNil : M Fl := rt .nx
def sSeq (F G : M Fl) : M Fl := bd F fun f => match f with
  | .nx => G
  | .bk => rt .bk
  | .ct => rt .ct
  | .rt l => rt (.rt l)
theorem dss_nil : PSs X [] (tS X.K W P sNil) := PSs_weak pss_nil fun E σ H ⟨fm, Hs, vs, r, vs', hF, hP, hS, hk⟩ => by
  cases hF
  exact hk.nx σ H Hs rfl hS (Ex.refl _)
theorem dss_cons (h1 : PS X st (tS X.K W P F)) (h2 : PSs X sts (tS X.K W P G)) : PSs X (st :: sts) (tS X.K W P (sSeq F G)) := PSs_weak (pss_cons h1 h2) fun E σ H ⟨fm, Hs, vs, r, vs', hF, hP, hS, hk⟩ => by
  dsimp only [tSeq]
  rcases bd_cases hF with ⟨f, s1, e, h⟩ | ⟨x, s1, e, h⟩
  · cases f with
    | nx =>
      exact ⟨fm, Hs, vs, _, s1, e, hP, hS, ⟨fun σ' H' Hs' _ S' X' => ⟨fm, Hs', s1, r, vs', h, hP, S', hk.mono X'⟩, fun _ _ _ q => (by cases q), fun _ _ _ q => (by cases q), fun _ _ _ _ _ _ q => (by cases q), fun _ _ _ _ _ _ q => (by cases q)⟩⟩
    | bk =>
      obtain ⟨rfl, rfl⟩ := Prod.mk.inj (Option.some.inj h)
      exact ⟨fm, Hs, vs, _, s1, e, hP, hS, ⟨fun _ _ _ q => (by cases q), hk.bk, hk.ct, hk.rt, hk.er⟩⟩
    | ct =>
      obtain ⟨rfl, rfl⟩ := Prod.mk.inj (Option.some.inj h)
      exact ⟨fm, Hs, vs, _, s1, e, hP, hS, ⟨fun _ _ _ q => (by cases q), hk.bk, hk.ct, hk.rt, hk.er⟩⟩
    | rt l =>
      obtain ⟨rfl, rfl⟩ := Prod.mk.inj (Option.some.inj h)
      exact ⟨fm, Hs, vs, _, s1, e, hP, hS, ⟨fun _ _ _ q => (by cases q), hk.bk, hk.ct, hk.rt, hk.er⟩⟩
  · obtain ⟨rfl, rfl⟩ := Prod.mk.inj h
    exact ⟨fm, Hs, vs, _, _, e, hP, hS, ⟨fun _ _ _ q => (by cases q), fun _ _ _ q => (by cases q), fun _ _ _ q => (by cases q), fun _ _ _ _ _ _ q => (by cases q), fun x' c dd σ' H' Hs' q S' X' o => hk.er x' c dd σ' H' Hs' (by cases q; rfl) S' X' o⟩⟩
def sExpr (F : M D) : M Fl := bd F fun _ => rt .nx
theorem ds_expr {Fe : M D} (h : PE X e (tE X.K W P Fe)) (hs : swapsWith e none pos.line X.env = pure false) : PS X (.Expr e pos) (tS X.K W P (sExpr Fe)) := PS_weak (ps_expr h hs) fun E σ H ⟨fm, Hs, vs, r, vs', hF, hP, hS, hk⟩ => by
  dsimp only [tDrop]
  refine goS hF hP hS hk fun d vs1 v H1 Hs1 xf hg S1 X1 ⟨rx, ex⟩ => ?_
  subst ex
  cases hg
  exact hk.nx σ H1 Hs1 rfl S1 X1
def sRet (F : M L) : M Fl := bd F fun l => rt (.rt l)
theorem ds_ret {Fe : M L} (h : PE X e (tL X.K W P Fe)) : PS X (.Return (some e) pos) (tS X.K W P (sRet Fe)) := PS_weak (ps_ret h) fun E σ H ⟨fm, Hs, vs, r, vs', hF, hP, hS, hk⟩ => by
  dsimp only [tRet]
  refine goS hF hP hS hk fun d vs1 v H1 Hs1 xf hg S1 X1 rx => ?_
  cases hg
  exact hk.rt _ v σ H1 Hs1 xf rfl S1 X1 rx
def sRetN : M Fl := rt (.rt (.d .non))
theorem ds_retN : PS X (.Return none pos) (tS X.K W P sRetN) := PS_weak ps_retN fun E σ H ⟨fm, Hs, vs, r, vs', hF, hP, hS, hk⟩ => by
  cases hF
  exact hk.rt _ _ σ H Hs [] rfl hS (Ex.refl _) (.d .non)
theorem ds_pass : PS X (.Pass pos) (tS X.K W P sNil) := PS_weak ps_pass fun E σ H ⟨fm, Hs, vs, r, vs', hF, hP, hS, hk⟩ => by
  cases hF
  exact hk.nx σ H Hs rfl hS (Ex.refl _)
def sIf (C : M Bool) (A B : M Fl) : M Fl := bd C fun k => if k = true then A else B
theorem ds_if {C : M Bool} {sa sb : List Stmt} (hc : PT X c (tB X.K W P C)) (ha : PSs X sa (tS X.K W P F)) (hb : PSs X sb (tS X.K W P G)) : PS X (.If c sa sb pos) (tS X.K W P (sIf C F G)) := PS_weak (ps_if hc ha hb) fun E σ H ⟨fm, Hs, vs, r, vs', hF, hP, hS, hk⟩ => by
  dsimp only [tIfS]
  refine goS hF hP hS hk fun k vs1 k' H1 Hs1 xf hg S1 X1 ⟨rx, ex⟩ => ?_
  subst ex; subst rx
  cases k' with
  | true => rw [if_pos rfl] at hg ⊢; exact ⟨fm, Hs1, vs1, r, vs', hg, hP, S1, hk.mono X1⟩
  | false => rw [if_neg Bool.false_ne_true] at hg ⊢; exact ⟨fm, Hs1, vs1, r, vs', hg, hP, S1, hk.mono X1⟩
def sSet (i : Nat) (F : M L) : M Fl := bd F fun l s => if i < s.length then some (.ok .nx, s.set i (some l)) else none
theorem re_set {i : Nat} {Fe : M L} {te : TE} (hi : i ∉ P) (h : ∀ σ H Q, tL X.K W P Fe σ H Q → te σ H Q) : ∀ E σ H, tS X.K W P (sSet i Fe) E σ H → tAsg te (gName i) E σ H := fun E σ H ⟨fm, Hs, vs, r, vs', hF, hP, hS, hk⟩ => by
  refine h _ _ _ (goS hF hP hS hk fun l vs1 v H1 Hs1 xf hg S1 X1 rx => ?_)
  split at hg
  · rename_i hl
    cases hg
    have hlen : vs1.length = σ.length := (let ⟨ft, s⟩ := S1; s.len)
    exact hk.nx _ H1 Hs1 rfl (S1.set rx (by rw [← hlen]; exact hl) (by rw [hP]; exact hi)) X1
  · cases hg
theorem ds_set {i : Nat} {x : Str} {pos' : Pos} {Fe : M L} (hp : i ∉ P) (hN : X.N.Nodup) (hi : X.N[i]? = some x) (hx : Loc X.env.scope x) (he : PE X e (tL X.K W P Fe)) (hs : swapsWith e (some (.Name x pos')) pos.line X.env = pure false) (hf : X.fn x = true ∨ X.env.scope.names.lookup x = some .local) :
    PS X (.Assign [.Name x pos'] e pos) (tS X.K W P (sSet i Fe)) := PS_weak (ps_set hN hi hx he hs hf) (re_set hp fun _ _ _ h => h)
def dSetN (xs : List D) : D → Option Nat
  | .int j => ixN xs.length j
  | _ => none
def sSetI (i : Nat) (Fv Fi : M D) : M Fl := bd Fv fun v s1 => match s1[i]? with
  | some (some (.own _)) => bd Fi (fun k s => match s[i]? with
    | some (some (.own xs)) => (match dSetN xs k with
      | some n => some (.ok .nx, s.set i (some (.own (xs.set n v))))
      | none => none)
    | _ => none) s1
  | _ => none
theorem ds_setI {i : Nat} {x : Str} {pos1 pos' : Pos} {ie : Expr} {Fv Fi : M D} (ho : PE X (.Name x pos1) (tVar i)) (hi : PE X ie (tE X.K W P Fi)) (he : PE X e (tE X.K W P Fv)) (hs : swapsWithSole [.Subscript (.Name x pos1) ie pos'] e pos.line X.env = pure false) (hw : swappedStores [.Subscript (.Name x pos1) ie pos'] e X.env = pure none)
    (h1 : (assignEach [.Subscript (.Name x pos1) ie pos'] X.env).map (·.2) = [assign (.Subscript (.Name x pos1) ie pos') X.env])
    (ha : ∀ v, assign (.Subscript (.Name x pos1) ie pos') X.env v = (do
      let ov ← holding [v] (eval (.Name x pos1) X.env)
      let iv ← holding [v, ov] (eval ie X.env)
      standAt pos'
      holding [v, ov, iv] (setItem ov iv v)
      release [v, ov, iv] [])) :
    PS X (.Assign [.Subscript (.Name x pos1) ie pos'] e pos) (tS X.K W P (sSetI i Fv Fi)) := PS_weak (ps_asg he (pg_sub ho hi set_list ha) hs hw h1) fun E σ H ⟨fm, Hs, vs, r, vs', hF, hP, hS, hk⟩ => by
  dsimp only [tAsg, gSub]
  refine goS hF hP hS hk fun d vs1 v H1 Hs1 xf hg S1 X1 ⟨rx, ex⟩ => ?_
  subst ex
  split at hg
  · rename_i xs0 e0
    obtain ⟨u, f, e1, ru⟩ := S1.slot e0
    cases ru with
    | own k1 k2 =>
      refine ⟨_, e1, ?_⟩
      refine goS hg hP S1 (hk.mono X1) fun k vs2 y H2 Hs2 xf hg S2 X2 ⟨ry, ex⟩ => ?_
      subst ex
      split at hg
      · rename_i xs e2
        split at hg
        · rename_i n en
          cases hg
          obtain ⟨j, rfl, en⟩ : ∃ j, k = .int j ∧ ixN xs.length j = some n := by
            cases k with
            | int j => exact ⟨j, rfl, en⟩
            | _ => cases en
          cases ry
          obtain ⟨u', f', e3, ru'⟩ := S2.slot e2
          rw [e1] at e3; cases e3
          cases ru' with
          | own q1 q2 =>
            refine ⟨_, _, j, n, rfl, rfl, q1, by rw [q2.length]; exact en, ?_⟩
            exact hk.nx σ _ Hs2 rfl (own_write S2 e2 e1 (q2.set n (rx.mono X2))) (X1.trans X2)
        · cases hg
      · cases hg
  · cases hg
end
end Ev
namespace Ev
open PySem PySem.Spec PyProof.Rows L2
open Evl (Ex)
inductive Tg where
  | nm (i : Nat)
  | tp (ts : List Tg)
mutual
def asg : Tg → D → VS → Option VS
  | .nm i, d, s => if i < s.length then some (s.set i (some (.d d))) else none
  | .tp ts, d, s => match d with
    | .tup ds => asgs ts ds s
    | _ => none
def asgs : List Tg → List D → VS → Option VS
  | [], [], s => some s
  | t :: ts, d :: ds, s => match asg t d s with
    | some s1 => asgs ts ds s1
    | none => none
  | _, _, _ => none
end
mutual
def Tg.ix : Tg → List Nat
  | .nm i => [i]
  | .tp ts => Tg.ixs ts
def Tg.ixs : List Tg → List Nat
  | [] => []
  | t :: ts => Tg.ix t ++ Tg.ixs ts
end
def Same1 (I : List Nat) (σ σ' : L2.St) : Prop := σ'.length = σ.length ∧ ∀ j, j ∉ I → σ'[j]? = σ[j]?
def tG (K : PySem.W.Frag) (P : List Nat) (tg : Tg) : TG := fun v σ H Q =>
  ∃ fm Hs vs vs' d, asg tg d vs = some vs' ∧ fm.pin.map (·.1) = P ∧ Sim K fm Hs vs σ H [] ∧ Rep K Hs v d ∧ ∀ σ', Sim K fm Hs vs' σ' H [] → Same1 tg.ix σ σ' → Q σ' H
def tGs (K : PySem.W.Frag) (P : List Nat) (ts : List Tg) : TGs := fun us σ H Q =>
  ∃ fm Hs vs vs' ds, asgs ts ds vs = some vs' ∧ fm.pin.map (·.1) = P ∧ Sim K fm Hs vs σ H [] ∧ RepL K Hs us ds ∧ ∀ σ', Sim K fm Hs vs' σ' H [] → Same1 (Tg.ixs ts) σ σ' → Q σ' H
theorem PG_weak {X : Cx} {e : Expr} {t t' : TG} (h : PG X e t) (hw : ∀ v σ H Q, t' v σ H Q → t v σ H Q) : PG X e t' := ⟨fun pins s σ H v u Q I r q => h.run pins s σ H v u Q I r (hw v σ H Q q)⟩
theorem PGs_weak {X : Cx} {e : List Expr} {t t' : TGs} (h : PGs X e t) (hw : ∀ v σ H Q, t' v σ H Q → t v σ H Q) : PGs X e t' := ⟨fun pins s σ H v u Q I r q => h.run pins s σ H v u Q I r (hw v σ H Q q)⟩
section
variable {X : Cx} {W : WX} {P : List Nat} {e a b c : Expr} {pos : Pos}
theorem Sim.leneq {K : PySem.W.Frag} {fm : Fm} {Hs : Hp} {vs : VS} {σ : L2.St} {H : Hp} {xf : List Addr} (S : Sim K fm Hs vs σ H xf) : vs.length = σ.length := let ⟨ft, s⟩ := S; s.len
theorem dg_name {i : Nat} {x : Str} (hp : i ∉ P) (hN : X.N.Nodup) (hi : X.N[i]? = some x) (hx : Loc X.env.scope x) (hf : X.fn x = true ∨ X.env.scope.names.lookup x = some .local) : PG X (.Name x pos) (tG X.K P (.nm i)) := PG_weak (pg_name hN hi hx hf) fun v σ H Q ⟨fm, Hs, vs, vs', d, hF, hP, hS, r, hk⟩ => by
  unfold asg at hF
  split at hF
  · rename_i hl
    cases hF
    refine hk _ (hS.set (.d r) (by rw [← hS.leneq]; exact hl) (by rw [hP]; exact hp)) ⟨by simp, fun j hj => ?_⟩
    rw [List.getElem?_set_ne]
    intro q
    exact hj (by rw [← q]; simp [Tg.ix])
  · cases hF
theorem dgs_nil : PGs X [] (tGs X.K P []) := PGs_weak pgs_nil fun us σ H Q ⟨fm, Hs, vs, vs', ds, hF, hP, hS, r, hk⟩ => by
  cases r with
  | nil =>
    cases hF
    exact ⟨rfl, hk σ hS ⟨rfl, fun _ _ => rfl⟩⟩
  | cons _ _ => cases hF
theorem dgs_cons {es : List Expr} {t : Tg} {ts : List Tg} (h1 : PG X e (tG X.K P t)) (h2 : PGs X es (tGs X.K P ts)) (hs : (assignEach (e :: es) X.env).map (·.2) = assign e X.env :: (assignEach es X.env).map (·.2)) : PGs X (e :: es) (tGs X.K P (t :: ts)) :=
  PGs_weak (pgs_cons h1 h2 hs) fun us σ H Q ⟨fm, Hs, vs, vs', ds, hF, hP, hS, r, hk⟩ => by
    cases r with
    | nil => cases hF
    | cons r1 r2 =>
      unfold asgs at hF
      split at hF
      · rename_i s1 e1
        refine ⟨_, _, rfl, fm, Hs, vs, s1, _, e1, hP, hS, r1, fun σ1 S1 q1 => ?_⟩
        refine ⟨fm, Hs, s1, vs', _, hF, hP, S1, r2, fun σ2 S2 q2 => hk σ2 S2 ⟨q2.1.trans q1.1, fun j hj => ?_⟩⟩
        rw [q2.2 j fun z => hj (by unfold Tg.ixs; exact List.mem_append_right _ z), q1.2 j fun z => hj (by unfold Tg.ixs; exact List.mem_append_left _ z)]
      · cases hF
theorem asgs_len : ∀ {ts : List Tg} {ds : List D} {s s' : VS}, asgs ts ds s = some s' → ts.length = ds.length
  | [], [], _, _, _ => rfl
  | t :: ts, d :: ds, s, s', h => by
    unfold asgs at h
    split at h
    · rw [List.length_cons, List.length_cons, asgs_len h]
    · cases h
  | [], _ :: _, _, _, h => by cases h
  | _ :: _, [], _, _, h => by cases h
theorem dg_tup {es : List Expr} {k n : Nat} {ts : List Tg} (hc : X.calm = true) (h : PGs X es (tGs X.K P ts)) (hl : ts.length = n) (hn : (assignEach es X.env).length = n) (hst : (assignEach es X.env).findIdx? (·.1) = none) : PG X (.Tuple es k pos) (tG X.K P (.tp ts)) :=
  PG_weak (pg_tup hc h hn hst) fun v σ H Q ⟨fm, Hs, vs, vs', d, hF, hP, hS, r, hk⟩ => by
    unfold asg at hF
    split at hF
    · rename_i ds
      cases r with
      | tup h1 h2 =>
        exact ⟨_, _, rfl, SqT.of (hS.sub _ _ h1), by rw [h2.length, ← asgs_len hF]; exact hl, fm, Hs, vs, vs', ds, hF, hP, hS, h2, fun σ' S' q => hk σ' S' (by unfold Tg.ix; exact q)⟩
    · cases hF
def sSetT (tg : Tg) (F : M D) : M Fl := bd F fun d s => match asg tg d s with
  | some s1 => some (.ok .nx, s1)
  | none => none
theorem ds_setT {tg : Expr} {t : Tg} {Fe : M D} (hg : PG X tg (tG X.K P t)) (he : PE X e (tE X.K W P Fe)) (hs : swapsWithSole [tg] e pos.line X.env = pure false) (hw : swappedStores [tg] e X.env = pure none) (h1 : (assignEach [tg] X.env).map (·.2) = [assign tg X.env]) :
    PS X (.Assign [tg] e pos) (tS X.K W P (sSetT t Fe)) := PS_weak (ps_asg he hg hs hw h1) fun E σ H ⟨fm, Hs, vs, r, vs', hF, hP, hS, hk⟩ => by
  dsimp only [tAsg]
  refine goS hF hP hS hk fun d vs1 v H1 Hs1 xf hg S1 X1 ⟨rx, ex⟩ => ?_
  subst ex
  split at hg
  · rename_i s1 e1
    cases hg
    exact ⟨fm, Hs1, vs1, vs', d, e1, hP, S1, rx, fun σ' S' _ => hk.nx σ' H1 Hs1 rfl S' X1⟩
  · cases hg
end
def ItOk (K : PySem.W.Frag) (Hs : Hp) (J : It) (ds : List D) : Prop :=
  (∀ i H, Ex Hs H → ds.length ≤ i → J.stop i H) ∧
  ∀ i d H, Ex Hs H → ds[i]? = some d → J.go i H ∧ ∀ x H', J.yld i H x H' → (H' = H ∧ Rep K Hs x d) ∨ ∃ T vs es, H T = none ∧ x = .ref T ∧ H' = upd H T (.tup vs) ∧ d = .tup es ∧ RepL K Hs vs es
theorem ItOk.mono {K : PySem.W.Frag} {Hs Hs' : Hp} {J : It} {ds : List D} (h : ItOk K Hs J ds) (e : Ex Hs Hs') : ItOk K Hs' J ds :=
  ⟨fun i H x => h.1 i H (e.trans x), fun i d H x q => by
    obtain ⟨g, y⟩ := h.2 i d H (e.trans x) q
    refine ⟨g, fun v H' hy => ?_⟩
    rcases y v H' hy with ⟨a, b⟩ | ⟨T, vs, es, a, b, c, d, f⟩
    · exact .inl ⟨a, b.mono e⟩
    · exact .inr ⟨T, vs, es, a, b, c, d, f.mono e⟩⟩
abbrev tI (K : PySem.W.Frag) (W : WX) (P : List Nat) (F : M (List D)) : TI := tF K W P (fun Hs _ _ J ds xf => ItOk K Hs J ds ∧ xf = []) F
theorem PI_weak {X : Cx} {tg e : Expr} {t t' : TI} (h : PI X tg e t) (hw : ∀ σ H R, t' σ H R → t σ H R) : PI X tg e t' := ⟨fun pins s σ H R I q => h.run pins s σ H R I (hw σ H R q)⟩
theorem PI_or {X : Cx} {tg e : Expr} {t t' : TI} (h : PI X tg e t) (h' : PI X tg e t') : PI X tg e (fun σ H R => t σ H R ∨ t' σ H R) := ⟨fun pins s σ H R I q => by
  rcases q with q | q
  · exact h.run pins s σ H R I q
  · exact h'.run pins s σ H R I q⟩
theorem itok_list {K : PySem.W.Frag} {Hs : Hp} {a : Addr} {us : List V} {ds : List D} (h1 : ∀ H, Ex Hs H → SqL K H a us) (inj : ∀ H xs, Ex Hs H → SqL K H a xs → True) (h2 : RepL K Hs us ds) : ItOk K Hs (Itl K a) ds := by
  refine ⟨fun i H e hi => ⟨us, h1 H e, by rw [h2.length]; exact hi⟩, fun i d H e hd => ?_⟩
  obtain ⟨v, ev, rv⟩ := h2.get hd
  refine ⟨⟨us, v, h1 H e, ev⟩, fun x H' hy => ?_⟩
  obtain ⟨q1, q2⟩ := hy
  have := q2 us (h1 H e)
  rw [ev] at this
  cases this
  exact .inl ⟨q1, rv⟩
theorem itok_tup {K : PySem.W.Frag} {Hs : Hp} {a : Addr} {us : List V} {ds : List D} (h1 : ∀ H, Ex Hs H → SqT K H a us) (h2 : RepL K Hs us ds) : ItOk K Hs (Itt K a) ds := by
  refine ⟨fun i H e hi => ⟨us, h1 H e, by rw [h2.length]; exact hi⟩, fun i d H e hd => ?_⟩
  obtain ⟨v, ev, rv⟩ := h2.get hd
  refine ⟨⟨us, v, h1 H e, ev⟩, fun x H' hy => ?_⟩
  obtain ⟨q1, q2⟩ := hy
  have := q2 us (h1 H e)
  rw [ev] at this
  cases this
  exact .inl ⟨q1, rv⟩
def signs (z : Str) : List D := z.cps.toList.map fun c => D.str ⟨#[c]⟩
def iSeq (F : M D) : M (List D) := bd F fun d s => match d with
  | .lst xs => some (.ok xs, s)
  | .tup xs => some (.ok xs, s)
  | .scr ns => some (.ok (ns.map D.int), s)
  | .str z => some (.ok (signs z), s)
  | _ => none
section
variable {X : Cx} {W : WX} {P : List Nat} {e a b c tg : Expr} {pos : Pos} {F : M D}
theorem di_seq (h : PE X e (tE X.K W P F)) : PI X tg e (tI X.K W P (iSeq F)) := PI_weak (PI_or (pi_list h) (PI_or (pi_tup h) (pi_str h))) fun σ H R ⟨fm, Hs, vs, r', vs', hF, hP, hS, hk, hE⟩ => by
  rcases bd_cases hF with ⟨d, s1, e1, h1⟩ | ⟨x, s1, e1, h1⟩
  · split at h1
    · rename_i xs
      cases h1
      refine .inl ?_
      show tE X.K W P F σ H _
      refine ⟨fm, Hs, vs, _, vs', e1, hP, hS, fun a v H' Hs' xf q S' X' ⟨r1, r2⟩ => ?_, fun x c dd H' Hs' q => (by cases q)⟩
      cases q
      subst r2
      cases r1 with
      | lst k1 k2 => exact ⟨_, rfl, ⟨_, SqL.of (S'.sub _ _ k1)⟩, hk _ _ H' Hs' [] rfl S' X' ⟨itok_list (fun H e => SqL.of (e _ _ k1)) (fun _ _ _ _ => trivial) k2, rfl⟩⟩
    · rename_i xs
      cases h1
      refine .inr (.inl ?_)
      show tE X.K W P F σ H _
      refine ⟨fm, Hs, vs, _, vs', e1, hP, hS, fun a v H' Hs' xf q S' X' ⟨r1, r2⟩ => ?_, fun x c dd H' Hs' q => (by cases q)⟩
      cases q
      subst r2
      cases r1 with
      | tup k1 k2 => exact ⟨_, rfl, ⟨_, SqT.of (S'.sub _ _ k1)⟩, hk _ _ H' Hs' [] rfl S' X' ⟨itok_tup (fun H e => SqT.of (e _ _ k1)) k2, rfl⟩⟩
    · rename_i ns
      cases h1
      refine .inl ?_
      show tE X.K W P F σ H _
      refine ⟨fm, Hs, vs, _, vs', e1, hP, hS, fun a v H' Hs' xf q S' X' ⟨r1, r2⟩ => ?_, fun x c dd H' Hs' q => (by cases q)⟩
      cases q
      subst r2
      cases r1 with
      | scr k1 => exact ⟨_, rfl, ⟨_, Evl.ex_l S'.sub k1⟩, hk _ _ H' Hs' [] rfl S' X' ⟨itok_list (fun H e => Evl.ex_l e k1) (fun _ _ _ _ => trivial) (RepL.of_ints _), rfl⟩⟩
    · rename_i z
      cases h1
      refine .inr (.inr ?_)
      show tE X.K W P F σ H _
      refine ⟨fm, Hs, vs, _, vs', e1, hP, hS, fun a v H' Hs' xf q S' X' ⟨r1, r2⟩ => ?_, fun x c dd H' Hs' q => (by cases q)⟩
      cases q
      subst r2
      cases r1
      refine ⟨z, rfl, hk _ _ H' Hs' [] rfl S' X' ⟨⟨fun i H e hi => ?_, fun i d H e hd => ?_⟩, rfl⟩⟩
      · show z.cps.size ≤ i
        unfold signs at hi
        rw [List.length_map, Array.length_toList] at hi
        exact hi
      · unfold signs at hd
        rw [List.getElem?_map] at hd
        cases q : z.cps.toList[i]? with
        | none => rw [q] at hd; cases hd
        | some c =>
          rw [q] at hd; cases hd
          rw [Array.getElem?_toList] at q
          refine ⟨(Array.getElem?_eq_some_iff.mp q).1, fun x H' hy => ?_⟩
          obtain ⟨q1, c', q2, q3⟩ := hy
          rw [q] at q2; cases q2
          subst q3
          exact .inl ⟨q1, .str _⟩
    · cases h1
  · obtain ⟨rfl, rfl⟩ := Prod.mk.inj h1
    refine .inl ?_
    show tE X.K W P F σ H _
    exact ⟨fm, Hs, vs, _, _, e1, hP, hS, fun _ _ _ _ _ q => (by cases q), fun x' c dd H' Hs' q => hE x' c dd H' Hs' (by cases q; rfl)⟩
theorem itok_rng {K : PySem.W.Frag} {Hs : Hp} (lo : Int) (n : Nat) : ItOk K Hs (Itr lo n) (rgD lo n) := by
  refine ⟨fun i H _ hi => ?_, fun i d H _ hd => ?_⟩
  · unfold rgD at hi
    rw [List.length_map, List.length_range] at hi
    exact hi
  · unfold rgD at hd
    rw [List.getElem?_map] at hd
    cases q : (List.range n)[i]? with
    | none => rw [q] at hd; cases hd
    | some j =>
      rw [q] at hd; cases hd
      have hi : i < n := by
        have := (List.getElem?_eq_some_iff.mp q).1
        rw [List.length_range] at this
        exact this
      rw [List.getElem?_range hi] at q
      cases q
      refine ⟨hi, fun x H' hy => .inl ⟨hy.1, ?_⟩⟩
      rw [hy.2]
      exact .int _
def iRng1F (F : M D) : M (List D) := bd F fun d s => match d with
  | .int n => if -100000 ≤ n ∧ n ≤ 100000 then some (.ok (rgD 0 n.toNat), s) else none
  | _ => none
theorem di_rng1 {p : Pos} (hg : Gl X "range") (hm : X.mg "range" = none) (h : PE X a (tE X.K W P F)) (hs : starEach [a] X.env = [(false, eval a X.env)]) : PI X tg (.Call (.Name "range" p) [a] [] pos) (tI X.K W P (iRng1F F)) :=
  PI_weak (pi_range1 hg hm (pa_cons h pa_nil (by rw [hs]; rfl)) hs) fun σ H R ⟨fm, Hs, vs, r', vs', hF, hP, hS, hk, hE⟩ => by
    dsimp only [iRng1, tCons, tNil]
    refine go hF hP hS hE fun d vs1 v H1 Hs1 xf hg S1 X1 ⟨rx, ex⟩ => ?_
    subst ex
    split at hg
    · split at hg
      · rename_i hl
        cases hg; cases rx
        exact ⟨_, rfl, by omega, by omega, hk _ _ H1 Hs1 [] rfl S1 X1 ⟨itok_rng 0 _, rfl⟩⟩
      · cases hg
    · cases hg
def dRng2 : D → D → Option (List D)
  | .int i, .int j => if (-100000 ≤ i ∧ i ≤ 100000) ∧ (-100000 ≤ j ∧ j ≤ 100000) then some (rgD i (j - i).toNat) else none
  | _, _ => none
def iRng2F (F G : M D) : M (List D) := bd F fun d => bd G fun d2 s => match dRng2 d d2 with
  | some l => some (.ok l, s)
  | none => none
theorem di_rng2 {G : M D} {p : Pos} (hg : Gl X "range") (hm : X.mg "range" = none) (h : PE X a (tE X.K W P F)) (h2 : PE X b (tE X.K W P G)) (hs : starEach [a, b] X.env = [(false, eval a X.env), (false, eval b X.env)]) (hs2 : starEach [b] X.env = [(false, eval b X.env)]) : PI X tg (.Call (.Name "range" p) [a, b] [] pos) (tI X.K W P (iRng2F F G)) :=
  PI_weak (pi_range2 hg hm (pa_cons h (pa_cons h2 pa_nil (by rw [hs2]; rfl)) (by rw [hs, hs2])) hs hs2) fun σ H R ⟨fm, Hs, vs, r', vs', hF, hP, hS, hk, hE⟩ => by
    dsimp only [iRng2, tCons, tNil]
    refine go hF hP hS hE fun d vs1 v H1 Hs1 xf hg S1 X1 ⟨rx, ex⟩ => ?_
    subst ex
    refine go hg hP S1 (fun x c dd H' Hs' q S' X' o => hE x c dd H' Hs' q S' (X1.trans X') o) fun d2 vs2 y H2 Hs2 xf hg S2 X2 ⟨ry, ex⟩ => ?_
    subst ex
    split at hg
    · rename_i l el
      cases hg
      unfold dRng2 at el
      split at el
      · split at el
        · rename_i hl
          cases el; cases rx; cases ry
          exact ⟨_, _, rfl, ⟨by omega, by omega, by omega, by omega⟩, hk _ _ H2 Hs2 [] rfl S2 (X1.trans X2) ⟨itok_rng _ _, rfl⟩⟩
        · cases el
      · cases el
    · cases hg
end
def loopF (tg : Tg) (B : M Fl) : List D → M Fl
  | [] => rt .nx
  | d :: r => fun s => match asg tg d s with
    | none => none
    | some s1 => bd B (fun f => match f with
      | .nx => loopF tg B r
      | .ct => loopF tg B r
      | .bk => rt .nx
      | .rt l => rt (.rt l)) s1
def sFor (Fi : M (List D)) (tg : Tg) (B : M Fl) : M Fl := bd Fi fun ds => loopF tg B ds
section
variable {X : Cx} {W : WX} {P : List Nat} {e a b c tg : Expr} {pos : Pos} {F : M D}
theorem yld_ok {K : PySem.W.Frag} {fm : Fm} {Hs : Hp} {vs : VS} {σ : L2.St} {H H' : Hp} {x : V} {d : D} {xf : List Addr} (S : Sim K fm Hs vs σ H xf) (h : (H' = H ∧ Rep K Hs x d) ∨ ∃ T vs es, H T = none ∧ x = .ref T ∧ H' = upd H T (.tup vs) ∧ d = .tup es ∧ RepL K Hs vs es) :
    ∃ Hs', Sim K fm Hs' vs σ H' xf ∧ Ex Hs Hs' ∧ Rep K Hs' x d := by
  rcases h with ⟨rfl, r⟩ | ⟨T, us, es, hT, rfl, rfl, rfl, r⟩
  · exact ⟨Hs, S, Ex.refl _, r⟩
  · have hn : Hs T = none := Evl.fresh_back S.sub hT
    exact ⟨_, S.alloc hT _, Ex.new hn, .tup upd_same (r.mono (Ex.new hn))⟩
theorem ds_for {iter : Expr} {body : List Stmt} {Fi : M (List D)} {t : Tg} {B : M Fl} (hp : PassesOwn (model X.prog X.w) X.A X.env X.xe) (hc : X.calm = true) (hi : PI X tg iter (tI X.K W P Fi)) (hg : PG X tg (tG X.K P t)) (hb : PSs X body (tS X.K W P B)) (hs : ∀ x, foldedSetIterable iter X.env x = pure x) :
    PS X (.For tg iter body [] pos) (tS X.K W P (sFor Fi t B)) := PS_weak (ps_for hp hc hi hg hb hs) fun E σ H ⟨fm, Hs, vs, r, vs', hF, hP, hS, hk⟩ => by
  dsimp only [tFor]
  refine goS hF hP hS hk fun ds vs1 J H1 Hs1 xf hg S1 X1 ⟨ok, ex⟩ => ?_
  subst ex
  refine ⟨fun i m σ H => m = ds.length - i ∧ ∃ s Hs2, loopF t B (ds.drop i) s = some (r, vs') ∧ Sim X.K fm Hs2 s σ H [] ∧ Ex Hs1 Hs2, ⟨_, rfl, vs1, Hs1, by rw [List.drop_zero]; exact hg, S1, Ex.refl _⟩, ?_⟩
  rintro i m σ2 H2 ⟨rfl, s, Hs2, hl, S2, X2⟩
  cases hd : ds[i]? with
  | none =>
    have hle : ds.length ≤ i := List.getElem?_eq_none_iff.mp hd
    rw [List.drop_eq_nil_of_le hle] at hl
    cases hl
    exact .inl ⟨ok.1 i H2 (X2.trans S2.sub) hle, hk.nx σ2 H2 Hs2 rfl S2 (X1.trans X2)⟩
  | some d =>
    have hlt : i < ds.length := (List.getElem?_eq_some_iff.mp hd).1
    have hdr : ds.drop i = d :: ds.drop (i + 1) := by
      rw [List.drop_eq_getElem_cons hlt]
      have := (List.getElem?_eq_some_iff.mp hd).2
      rw [this]
    rw [hdr] at hl
    unfold loopF at hl
    split at hl
    · cases hl
    · rename_i s1 e1
      obtain ⟨g1, y1⟩ := ok.2 i d H2 (X2.trans S2.sub) hd
      refine .inr ⟨g1, fun σ' H' => ∃ s' Hs', loopF t B (ds.drop (i + 1)) s' = some (r, vs') ∧ Sim X.K fm Hs' s' σ' H' [] ∧ Ex Hs1 Hs', ?_, fun x H' hy => ?_⟩
      · rintro σ' H' ⟨s', Hs', q1, q2, q3⟩
        exact ⟨_, by omega, rfl, s', Hs', q1, q2, q3⟩
      · have hyy := y1 x H' hy
        have hyy : (H' = H2 ∧ Rep X.K Hs2 x d) ∨ ∃ T vs es, H2 T = none ∧ x = .ref T ∧ H' = upd H2 T (.tup vs) ∧ d = .tup es ∧ RepL X.K Hs2 vs es := by
          rcases hyy with ⟨a, b⟩ | ⟨T, vs, es, a, b, c, d, f⟩
          · exact .inl ⟨a, b.mono X2⟩
          · exact .inr ⟨T, vs, es, a, b, c, d, f.mono X2⟩
        obtain ⟨Hs3, S3, X3, r3⟩ := yld_ok S2 hyy
        refine ⟨fm, Hs3, s, s1, d, e1, hP, S3, r3, fun σ3 S4 _ => ?_⟩
        rcases bd_cases hl with ⟨f, s5, e5, h5⟩ | ⟨z, s5, e5, h5⟩
        · refine ⟨fm, Hs3, s1, _, s5, e5, hP, S4, ⟨fun σ' H' Hs' q S' X' => ?_, fun σ' H' Hs' q S' X' => ?_, fun σ' H' Hs' q S' X' => ?_, fun l v σ' H' Hs' xf q S' X' o => ?_, fun x c dd σ' H' Hs' q => (by cases q)⟩⟩
          · cases q
            exact ⟨s5, Hs', h5, S', (X2.trans X3).trans X'⟩
          · cases q
            cases h5
            exact hk.nx σ' H' Hs' rfl S' (((X1.trans X2).trans X3).trans X')
          · cases q
            exact ⟨s5, Hs', h5, S', (X2.trans X3).trans X'⟩
          · cases q
            cases h5
            exact hk.rt l v σ' H' Hs' xf rfl S' (((X1.trans X2).trans X3).trans X') o
        · obtain ⟨rfl, rfl⟩ := Prod.mk.inj h5
          exact ⟨fm, Hs3, s1, _, _, e5, hP, S4, ⟨fun σ' H' Hs' q => (by cases q), fun σ' H' Hs' q => (by cases q), fun σ' H' Hs' q => (by cases q), fun l v σ' H' Hs' xf q => (by cases q), fun x c dd σ' H' Hs' q S' X' o => hk.er x c dd σ' H' Hs' (by cases q; rfl) S' (((X1.trans X2).trans X3).trans X') o⟩⟩
def sWhile (C : M Bool) (B : M Fl) : Nat → M Fl
  | 0 => fun _ => none
  | n + 1 => bd C fun k => if k = true then bd B (fun f => match f with
      | .nx => sWhile C B n
      | .ct => sWhile C B n
      | .bk => rt .nx
      | .rt l => rt (.rt l)) else rt .nx
theorem ds_while {C : M Bool} {B : M Fl} {body : List Stmt} (n : Nat) (hp : PassesOwn (model X.prog X.w) X.A X.env X.xe) (hc : PT X c (tB X.K W P C)) (hb : PSs X body (tS X.K W P B)) : PS X (.While c body [] pos) (tS X.K W P (sWhile C B n)) := PS_weak (ps_while hp hc hb) fun E σ H ⟨fm, Hs, vs, r, vs', hF, hP, hS, hk⟩ => by
  refine ⟨fun m σ H => ∃ s Hs2, sWhile C B m s = some (r, vs') ∧ Sim X.K fm Hs2 s σ H [] ∧ Ex Hs Hs2, ⟨n, vs, Hs, hF, hS, Ex.refl _⟩, ?_⟩
  rintro m σ2 H2 ⟨s, Hs2, hl, S2, X2⟩
  cases m with
  | zero => cases hl
  | succ m =>
    unfold sWhile at hl
    refine goS hl hP S2 (hk.mono X2) fun k vs1 k' H1 Hs1 xf hg S1 X1 ⟨rx, ex⟩ => ?_
    subst ex; subst rx
    cases k' with
    | false =>
      rw [if_neg Bool.false_ne_true] at hg ⊢
      cases hg
      exact hk.nx σ2 H1 Hs1 rfl S1 (X2.trans X1)
    | true =>
      rw [if_pos rfl] at hg ⊢
      refine ⟨fun σ' H' => ∃ s' Hs', sWhile C B m s' = some (r, vs') ∧ Sim X.K fm Hs' s' σ' H' [] ∧ Ex Hs Hs', fun σ' H' q => ⟨m, Nat.lt_succ_self m, q⟩, ?_⟩
      rcases bd_cases hg with ⟨f, s5, e5, h5⟩ | ⟨z, s5, e5, h5⟩
      · refine ⟨fm, Hs1, vs1, _, s5, e5, hP, S1, ⟨fun σ' H' Hs' q S' X' => ?_, fun σ' H' Hs' q S' X' => ?_, fun σ' H' Hs' q S' X' => ?_, fun l v σ' H' Hs' xf q S' X' o => ?_, fun x c dd σ' H' Hs' q => (by cases q)⟩⟩
        · cases q
          exact ⟨s5, Hs', h5, S', (X2.trans X1).trans X'⟩
        · cases q
          cases h5
          exact hk.nx σ' H' Hs' rfl S' ((X2.trans X1).trans X')
        · cases q
          exact ⟨s5, Hs', h5, S', (X2.trans X1).trans X'⟩
        · cases q
          cases h5
          exact hk.rt l v σ' H' Hs' xf rfl S' ((X2.trans X1).trans X') o
      · obtain ⟨rfl, rfl⟩ := Prod.mk.inj h5
        exact ⟨fm, Hs1, vs1, _, _, e5, hP, S1, ⟨fun σ' H' Hs' q => (by cases q), fun σ' H' Hs' q => (by cases q), fun σ' H' Hs' q => (by cases q), fun l v σ' H' Hs' xf q => (by cases q), fun x c dd σ' H' Hs' q S' X' o => hk.er x c dd σ' H' Hs' (by cases q; rfl) S' ((X2.trans X1).trans X') o⟩⟩
end
end Ev
namespace Ev
open PySem PySem.Spec PyProof.Rows L2
open Evl (Ex)
def Fm.park (fm : Fm) (a : Addr) (o : HO) : Fm := { fm with B := upd fm.B a o }
section
variable {K : PySem.W.Frag} {fm : Fm} {Hs : Hp} {vs : VS} {σ : L2.St} {H : Hp} {a : Addr} {o : HO}
theorem Sim.park (S : Sim K fm Hs vs σ H [a]) (ha : H a = some o) : Sim K (fm.park a o) Hs vs σ H [] := by
  obtain ⟨ft, s⟩ := S
  obtain ⟨hs, hb, hh⟩ := s.xsp a (by simp)
  refine ⟨ft, ⟨s.sub, fun b u e => ?_, s.grow, fun b e => ?_, s.len, s.ok, s.nd, s.dj, fun i b hb' => ?_, by simp, fun _ _ _ q => by simp at q, fun _ q => by simp at q, s.pins⟩⟩
  · have e : upd fm.B a o b = some u := e
    by_cases q : b = a
    · subst q; rw [upd_same] at e; cases e; exact ha
    · rw [upd_ne q] at e; exact s.base b u e
  · rcases s.new b e with h | h
    · exact .inl h
    · refine .inr ?_
      show upd fm.B a o b = none
      rw [upd_ne]
      · exact h
      · intro q; rw [q] at e; exact e hs
  · obtain ⟨h1, h2, h3⟩ := s.sp i b hb'
    refine ⟨h1, ?_, h3⟩
    show upd fm.B a o b = none
    rw [upd_ne]
    · exact h2
    · intro q; exact s.xdj i b hb' (by simp [q])
theorem Sim.unpark (S : Sim K (fm.park a o) Hs vs σ H []) (hB : fm.B a = none) (hS : fm.S a = none) : H a = some o ∧ Sim K fm Hs vs σ H [a] := by
  obtain ⟨ft, s⟩ := S
  have hb : (fm.park a o).B a = some o := upd_same
  have ha : H a = some o := s.base a o hb
  have hs : Hs a = none := by
    cases q : Hs a with
    | none => rfl
    | some u =>
      rcases s.new a (by rw [q]; simp) with h | h
      · exact absurd hS h
      · rw [hb] at h; cases h
  refine ⟨ha, ft, ⟨s.sub, fun b u e => ?_, s.grow, fun b e => ?_, s.len, s.ok, s.nd, s.dj, fun i b hb' => ?_, by simp, fun i b hb' q => ?_, fun b q => ?_, s.pins⟩⟩
  · have : b ≠ a := fun z => by rw [z, hB] at e; cases e
    exact s.base b u (show upd fm.B a o b = some u by rw [upd_ne this]; exact e)
  · rcases s.new b e with h | h
    · exact .inl h
    · have h : upd fm.B a o b = none := h
      have : b ≠ a := fun z => by rw [z, upd_same] at h; cases h
      rw [upd_ne this] at h
      exact .inr h
  · obtain ⟨h1, h2, h3⟩ := s.sp i b hb'
    have h2 : upd fm.B a o b = none := h2
    have : b ≠ a := fun z => by rw [z, upd_same] at h2; cases h2
    rw [upd_ne this] at h2
    exact ⟨h1, h2, h3⟩
  · have q : b = a := by simpa using q
    obtain ⟨h1, h2, h3⟩ := s.sp i b hb'
    rw [q, hb] at h2; cases h2
  · have q : b = a := by simpa using q
    subst q
    exact ⟨hs, hB, by rw [ha]; simp⟩
theorem Sim.writeX {u : HO} (S : Sim K fm Hs vs σ H [a]) : Sim K fm Hs vs σ (upd H a u) [a] := by
  obtain ⟨ft, s⟩ := S
  obtain ⟨hs, hb, hh⟩ := s.xsp a (by simp)
  have up : ∀ b, H b ≠ none → upd H a u b ≠ none := fun b h => by
    unfold upd; split
    · simp
    · exact h
  refine ⟨ft, ⟨fun b x e => ?_, fun b x e => ?_, s.grow, s.new, s.len, fun i l e => ?_, s.nd, s.dj, fun i b hb' => ?_, s.xnd, s.xdj, fun b q => ?_, s.pins⟩⟩
  · rw [upd_ne fun z => by rw [z, hs] at e; cases e]; exact s.sub b x e
  · rw [upd_ne fun z => by rw [z, hb] at e; cases e]; exact s.base b x e
  · obtain ⟨v, e1, r⟩ := s.ok i l e
    exact ⟨v, e1, r.mono (Ex.refl _) l fun b hb' => upd_ne fun z => s.xdj i b hb' (by simp [z])⟩
  · obtain ⟨h1, h2, h3⟩ := s.sp i b hb'
    exact ⟨h1, h2, up b h3⟩
  · obtain ⟨h1, h2, h3⟩ := s.xsp b q
    exact ⟨h1, h2, up b h3⟩
end
def wipeV (s : VS) : List Nat → VS
  | [] => s
  | i :: is => (wipeV s is).set i none
def keepD (o : Option (Option L)) : Option L := match o with
  | some (some (.d x)) => some (.d x)
  | _ => none
def restV (s0 s : VS) : List Nat → VS
  | [] => s
  | i :: is => (restV s0 s is).set i (keepD s0[i]?)
theorem wipeV_get {s : VS} {j : Nat} {l : L} : ∀ {is : List Nat}, (wipeV s is)[j]? = some (some l) → s[j]? = some (some l) ∧ j ∉ is
  | [], h => ⟨h, by simp⟩
  | i :: is, h => by
    unfold wipeV at h
    by_cases q : i = j
    · subst q
      by_cases hl : i < (wipeV s is).length
      · rw [List.getElem?_set_self hl] at h; cases h
      · rw [List.getElem?_eq_none (by simpa using hl)] at h; cases h
    · rw [List.getElem?_set_ne q] at h
      obtain ⟨h1, h2⟩ := wipeV_get h
      exact ⟨h1, by simp only [List.mem_cons, not_or]; exact ⟨fun z => q z.symm, h2⟩⟩
theorem wipeV_len (s : VS) : ∀ is : List Nat, (wipeV s is).length = s.length
  | [] => rfl
  | i :: is => by unfold wipeV; rw [List.length_set, wipeV_len s is]
theorem restV_len (s0 s : VS) : ∀ is : List Nat, (restV s0 s is).length = s.length
  | [] => rfl
  | i :: is => by unfold restV; rw [List.length_set, restV_len s0 s is]
theorem wipe_out {σ : L2.St} {j : Nat} : ∀ {is : List Nat}, j ∉ is → (wipe σ is)[j]? = σ[j]?
  | [], _ => rfl
  | i :: is, h => by
    simp only [List.mem_cons, not_or] at h
    unfold wipe
    rw [List.getElem?_set_ne fun z => h.1 z.symm, wipe_out h.2]
theorem restV_get {s0 s : VS} {j : Nat} {l : L} : ∀ {is : List Nat}, (restV s0 s is)[j]? = some (some l) → (j ∉ is ∧ s[j]? = some (some l)) ∨ (j ∈ is ∧ ∃ x, l = .d x ∧ s0[j]? = some (some (.d x)))
  | [], h => .inl ⟨by simp, h⟩
  | i :: is, h => by
    unfold restV at h
    by_cases q : i = j
    · subst q
      by_cases hl : i < (restV s0 s is).length
      · rw [List.getElem?_set_self hl] at h
        have h : keepD s0[i]? = some l := Option.some.inj h
        unfold keepD at h
        split at h
        · rename_i x e
          cases h
          exact .inr ⟨by simp, x, rfl, e⟩
        · cases h
      · rw [List.getElem?_eq_none (by simpa using hl)] at h; cases h
    · rw [List.getElem?_set_ne q] at h
      rcases restV_get h with ⟨h1, h2⟩ | ⟨h1, h2⟩
      · exact .inl ⟨by simp only [List.mem_cons, not_or]; exact ⟨fun z => q z.symm, h1⟩, h2⟩
      · exact .inr ⟨List.mem_cons_of_mem _ h1, h2⟩
theorem wipe_eq {σ σ' : L2.St} {I : List Nat} : ∀ {is : List Nat}, Same1 I σ σ' → (∀ j ∈ I, j ∈ is) → wipe σ' is = wipe σ is := fun {is} q hI => by
  apply List.ext_getElem?
  intro j
  by_cases hj : j ∈ is
  · have none_at : ∀ (τ : L2.St) (is : List Nat), j ∈ is → (wipe τ is)[j]? = if j < τ.length then some none else none := by
      intro τ is
      induction is with
      | nil => intro h; simp at h
      | cons i is ih =>
        intro h
        unfold wipe
        by_cases z : i = j
        · subst z
          by_cases hl : i < τ.length
          · rw [List.getElem?_set_self (by rw [wipe_length]; exact hl), if_pos hl]
          · rw [List.getElem?_eq_none (by rw [List.length_set, wipe_length]; omega), if_neg hl]
        · rw [List.getElem?_set_ne z]
          exact ih ((List.mem_cons.mp h).resolve_left fun y => z y.symm)
    rw [none_at σ' is hj, none_at σ is hj, q.1]
  · rw [wipe_out hj, wipe_out hj]
    exact q.2 j fun z => hj (hI j z)
section
variable {K : PySem.W.Frag} {fm : Fm} {Hs : Hp} {vs : VS} {σ : L2.St} {H : Hp} {xf : List Addr}
theorem Sim.wipe (S : Sim K fm Hs vs σ H xf) (is : List Nat) (hp : ∀ i ∈ is, i ∉ fm.pin.map (·.1)) : Sim K fm Hs (wipeV vs is) (L2.wipe σ is) H xf := by
  obtain ⟨ft, s⟩ := S
  refine ⟨ft, ⟨s.sub, s.base, s.grow, s.new, by rw [wipeV_len, wipe_length]; exact s.len, fun j l e => ?_, s.nd, s.dj, s.sp, s.xnd, s.xdj, s.xsp, fun p hp' => ?_⟩⟩
  · obtain ⟨h1, h2⟩ := wipeV_get e
    obtain ⟨v, e1, r⟩ := s.ok j l h1
    exact ⟨v, by rw [wipe_out h2]; exact e1, r⟩
  · rw [wipe_out fun z => hp p.1 z (List.mem_map_of_mem hp')]
    exact s.pins p hp'
theorem Sim.rest {Hs0 : Hp} {s0 : VS} {H0 : Hp} {is : List Nat} {xf0 : List Addr} (S0 : Sim K fm Hs0 s0 σ H0 xf0) (e : Ex Hs0 Hs) (S : Sim K fm Hs vs (L2.wipe σ is) H xf) (hw : ∀ i ∈ is, ∀ l, vs[i]? ≠ some (some l)) : Sim K fm Hs (restV s0 vs is) σ H xf := by
  obtain ⟨ft, s⟩ := S
  refine ⟨fun j => if j ∈ is then [] else ft j, ⟨s.sub, s.base, s.grow, s.new, by rw [restV_len, s.len, wipe_length], fun j l ej => ?_, fun j => ?_, fun j k a h1 h2 => ?_, fun j a ha => ?_, s.xnd, fun j a ha => ?_, s.xsp, fun p hp' => ?_⟩⟩
  · rcases restV_get ej with ⟨h1, h2⟩ | ⟨h1, x, rfl, h3⟩
    · rw [if_neg h1]
      obtain ⟨v, e1, r⟩ := s.ok j l h2
      rw [wipe_out h1] at e1
      exact ⟨v, e1, r⟩
    · rw [if_pos h1]
      obtain ⟨v, e1, r⟩ := S0.slotD h3
      exact ⟨v, e1, .d (r.mono e)⟩
  · show List.Nodup (if _ then _ else _)
    split
    · simp
    · exact s.nd j
  · try dsimp only at h1 h2
    split at h1
    · simp at h1
    · split at h2
      · simp at h2
      · exact s.dj j k a h1 h2
  · try dsimp only at ha
    split at ha
    · simp at ha
    · exact s.sp j a ha
  · try dsimp only at ha
    split at ha
    · simp at ha
    · exact s.xdj j a ha
  · obtain ⟨ft0, s0'⟩ := S0
    exact s0'.pins p hp'
end
def lcF (tg : Tg) (own : List Nat) (C : M Bool) (Fe : M D) : List D → List D → VS → Option (List D × VS)
  | [], acc, s => some (acc, s)
  | d :: r, acc, s => match asg tg d s with
    | none => none
    | some s1 => match C s1 with
      | some (.ok true, s2) => (match Fe s2 with
        | some (.ok y, s3) => if acc.length < 100000 then lcF tg own C Fe r (acc ++ [y]) (wipeV s3 own) else none
        | _ => none)
      | some (.ok false, s2) => lcF tg own C Fe r acc (wipeV s2 own)
      | _ => none
def fComp (own : List Nat) (Fi : M (List D)) (tg : Tg) (C : M Bool) (Fe : M D) : M L := bd Fi fun ds s => match lcF tg own C Fe ds [] (wipeV s own) with
  | some (acc, s2) => some (.ok (.own acc), restV s s2 own)
  | none => none
theorem PTs_weak {X : Cx} {e : List Expr} {t t' : TT} (h : PTs X e t) (hw : ∀ σ H Q, t' σ H Q → t σ H Q) : PTs X e t' := ⟨fun pins s σ H Q I q => h.run pins s σ H Q I (hw σ H Q q)⟩
def bYes : M Bool := rt true
abbrev W0 : WX := fun _ _ _ _ => False
section
variable {X : Cx} {W : WX} {P : List Nat} {e a b c tg : Expr} {pos : Pos} {F : M D}
theorem dts_nil : PTs X [] (tB X.K W P bYes) := PTs_weak pts_nil fun σ H Q ⟨fm, Hs, vs, r', vs', hF, hP, hS, hk, hE⟩ => by
  cases hF
  exact hk _ _ H Hs [] rfl hS (Ex.refl _) ⟨rfl, rfl⟩
theorem asg_own {tg : Tg} {own : List Nat} (h : ∀ j ∈ tg.ix, j ∈ own) : ∀ j, j ∈ tg.ix → j ∈ own := h
theorem wiped_none (s : VS) (own : List Nat) : ∀ i ∈ own, ∀ l, (wipeV s own)[i]? ≠ some (some l) := fun i hi l e => (wipeV_get e).2 hi
theorem lcF_end {tg : Tg} {own : List Nat} {C : M Bool} {Fe : M D} : ∀ {ds acc : List D} {s : VS} {r : List D × VS}, (∀ i ∈ own, ∀ l, s[i]? ≠ some (some l)) → lcF tg own C Fe ds acc s = some r → ∀ i ∈ own, ∀ l, r.2[i]? ≠ some (some l)
  | [], _, _, _, h0, h => by cases h; exact h0
  | d :: r, acc, s, _, h0, h => by
    unfold lcF at h
    split at h
    · cases h
    · split at h
      · split at h
        · split at h
          · exact lcF_end (wiped_none _ _) h
          · cases h
        · cases h
      · exact lcF_end (wiped_none _ _) h
      · cases h
theorem re_comp {own : List Nat} {Fi : M (List D)} {t : Tg} {C : M Bool} {Fe : M D} (hown : ∀ j ∈ t.ix, j ∈ own) (hpo : ∀ i ∈ own, i ∉ P) : ∀ σ H Q, tL X.K W P (fComp own Fi t C Fe) σ H Q → tLc (tI X.K W P Fi) (tG X.K P t) (tB X.K W0 P C) (tE X.K W0 P Fe) own σ H Q := fun σ H Q ⟨fm, Hs, vs, r', vs', hF, hP, hS, hk, hE⟩ => by
  dsimp only [tLc]
  refine go hF hP hS hE fun ds vs1 J H1 Hs1 xf hg S1 X1 ⟨ok, ex⟩ => ?_
  subst ex
  split at hg
  · rename_i acc s2 hl
    cases hg
    intro Da hD
    have hBn : fm.B Da = none := Evl.fresh_back (let ⟨_, s⟩ := S1; s.base) hD
    have hsn : Hs1 Da = none := Evl.fresh_back S1.sub hD
    have hSn : fm.S Da = none := Evl.fresh_back (let ⟨_, s⟩ := S1; s.grow) hsn
    have hpin : ∀ i ∈ own, i ∉ fm.pin.map (·.1) := fun i hi => by rw [hP]; exact hpo i hi
    refine ⟨fun i m H => m = ds.length - i ∧ ∃ s ac us Hs2, lcF t own C Fe (ds.drop i) ac s = some (acc, s2) ∧ H Da = some (.lst us) ∧ RepL X.K Hs2 us ac ∧ Sim X.K fm Hs2 s (L2.wipe σ own) H [Da] ∧ Ex Hs1 Hs2,
      ⟨_, rfl, wipeV vs1 own, [], [], Hs1, by rw [List.drop_zero]; exact hl, upd_same, .nil, (S1.wipe own hpin).allocX hD _, Ex.refl _⟩, ?_⟩
    rintro i m H2 ⟨rfl, s, ac, us, Hs2, hl2, hDa, rus, S2, X2⟩
    cases hd : ds[i]? with
    | none =>
      have hle : ds.length ≤ i := List.getElem?_eq_none_iff.mp hd
      rw [List.drop_eq_nil_of_le hle] at hl2
      cases hl2
      refine .inl ⟨ok.1 i H2 (X2.trans S2.sub) hle, ?_⟩
      exact hk _ _ H2 Hs2 [Da] rfl (Sim.rest S1 X2 S2 (lcF_end (wiped_none _ _) hl)) (X1.trans X2) (.own hDa rus)
    | some d =>
      have hlt : i < ds.length := (List.getElem?_eq_some_iff.mp hd).1
      have hdr : ds.drop i = d :: ds.drop (i + 1) := by
        rw [List.drop_eq_getElem_cons hlt]
        have := (List.getElem?_eq_some_iff.mp hd).2
        rw [this]
      rw [hdr] at hl2
      unfold lcF at hl2
      split at hl2
      · cases hl2
      · rename_i s1 e1
        obtain ⟨g1, y1⟩ := ok.2 i d H2 (X2.trans S2.sub) hd
        refine .inr ⟨g1, fun H' => ∃ s ac us Hs2, lcF t own C Fe (ds.drop (i + 1)) ac s = some (acc, s2) ∧ H' Da = some (.lst us) ∧ RepL X.K Hs2 us ac ∧ Sim X.K fm Hs2 s (L2.wipe σ own) H' [Da] ∧ Ex Hs1 Hs2, ?_, fun x H' hy => ?_⟩
        · rintro H' q
          exact ⟨_, by omega, rfl, q⟩
        · have hyy : (H' = H2 ∧ Rep X.K Hs2 x d) ∨ ∃ T vs es, H2 T = none ∧ x = .ref T ∧ H' = upd H2 T (.tup vs) ∧ d = .tup es ∧ RepL X.K Hs2 vs es := by
            rcases y1 x H' hy with ⟨a, b⟩ | ⟨T, vs, es, a, b, c, d, f⟩
            · exact .inl ⟨a, b.mono X2⟩
            · exact .inr ⟨T, vs, es, a, b, c, d, f.mono X2⟩
          obtain ⟨Hs3, S3, X3, r3⟩ := yld_ok S2 hyy
          have hDa3 : H' Da = some (.lst us) := by
            rcases hyy with ⟨rfl, _⟩ | ⟨T, vs, es, hT, rfl, rfl, rfl, _⟩
            · exact hDa
            · rw [upd_ne (ne_of_none hDa hT)]; exact hDa
          have S3p := S3.park hDa3
          refine ⟨fm.park Da (.lst us), Hs3, s, s1, d, e1, hP, S3p, r3, fun σ4 S4 same => ?_⟩
          refine ⟨wipe_wipe same hown, ?_⟩
          split at hl2
          · rename_i s5 e5
            refine ⟨fm.park Da (.lst us), Hs3, s1, _, s5, e5, hP, S4, fun k k' H5 Hs5 xf q S5 X5 ⟨q1, q2⟩ => ?_, fun _ _ _ _ _ q => (by cases q)⟩
            cases q; subst q1; subst q2
            rw [if_pos rfl]
            split at hl2
            · rename_i y s6 e6
              refine ⟨fm.park Da (.lst us), Hs5, s5, _, s6, e6, hP, S5, fun y' v H6 Hs6 xf q S6 X6 ⟨q1, q2⟩ => ?_, fun _ _ _ _ _ q => (by cases q)⟩
              cases q; subst q2
              split at hl2
              · rename_i hlen
                obtain ⟨hDa6, S6u⟩ := S6.unpark hBn hSn
                refine ⟨us, hDa6, by rw [rus.length]; exact Evl.sz_lt hlen, ?_⟩
                have Xa : Ex Hs2 Hs6 := (X3.trans X5).trans X6
                refine ⟨_, _, us ++ [v], Hs6, hl2, upd_same, (rus.mono Xa).append (.one q1), ?_, X2.trans Xa⟩
                have S7 := (S6u.wipe own hpin).writeX (u := .lst (us ++ [v]))
                rw [wipe_wipe same hown] at S7
                exact S7
              · cases hl2
            · cases hl2
          · rename_i s5 e5
            refine ⟨fm.park Da (.lst us), Hs3, s1, _, s5, e5, hP, S4, fun k k' H5 Hs5 xf q S5 X5 ⟨q1, q2⟩ => ?_, fun _ _ _ _ _ q => (by cases q)⟩
            cases q; subst q1; subst q2
            rw [if_neg Bool.false_ne_true]
            obtain ⟨hDa5, S5u⟩ := S5.unpark hBn hSn
            have Xa : Ex Hs2 Hs5 := X3.trans X5
            have S7 := S5u.wipe own hpin
            rw [wipe_wipe same hown] at S7
            exact ⟨_, _, us, Hs5, hl2, hDa5, rus.mono Xa, S7, X2.trans Xa⟩
          · cases hl2
  · cases hg
where
  wipe_wipe {σ σ4 : L2.St} {t : Tg} {own : List Nat} (same : Same1 t.ix (L2.wipe σ own) σ4) (hown : ∀ j ∈ t.ix, j ∈ own) : L2.wipe σ4 own = L2.wipe σ own := by
    rw [wipe_eq same hown]
    apply List.ext_getElem?
    intro j
    by_cases hj : j ∈ own
    · have h : ∀ (τ : L2.St) (is : List Nat), j ∈ is → (L2.wipe τ is)[j]? = if j < τ.length then some none else none := by
        intro τ is
        induction is with
        | nil => intro h; simp at h
        | cons i is ih =>
          intro h
          unfold L2.wipe
          by_cases z : i = j
          · subst z
            by_cases hl : i < τ.length
            · rw [List.getElem?_set_self (by rw [wipe_length]; exact hl), if_pos hl]
            · rw [List.getElem?_eq_none (by rw [List.length_set, wipe_length]; omega), if_neg hl]
          · rw [List.getElem?_set_ne z]
            exact ih ((List.mem_cons.mp h).resolve_left fun y => z y.symm)
      rw [h _ _ hj, h _ _ hj, wipe_length]
    · rw [wipe_out hj]
end
end Ev
namespace Ev
open PySem PySem.Spec PyProof.Rows L2
open Evl (Ex)
section
variable {X : Cx} {W : WX} {P : List Nat} {e a b c tg : Expr} {pos : Pos} {F : M D}
theorem dl_comp {elt iter : Expr} {ifs : List Expr} {scope : Scope} {own : List (Str × Nat)} {Fi : M (List D)} {t : Tg} {C : M Bool} {Fe : M D} (hown : ∀ j ∈ t.ix, j ∈ own.map (·.2)) (hpo : ∀ i ∈ own.map (·.2), i ∉ P) (hc : X.calm = true) (hN : X.N.Nodup) (hi : PI X tg iter (tI X.K W P Fi)) (ok : BlkOk X.N X.env.scope scope own)
    (hg : ∀ (s : Shared) (H : Hp) (C : Addr) (cl : List (Str × Addr)) (fp : List Addr), PG (X.blk s H scope (compEnvC scope cl C X.env) fp) tg (tG X.K P t)) (ht : ∀ (s : Shared) (H : Hp) (C1 : Addr) (cl : List (Str × Addr)) (fp : List Addr), PTs (X.blk s H scope (compEnvC scope cl C1 X.env) fp) ifs (tB X.K W0 P C))
    (he : ∀ (s : Shared) (H : Hp) (C : Addr) (cl : List (Str × Addr)) (fp : List Addr), PE (X.blk s H scope (compEnvC scope cl C X.env) fp) elt (tE X.K W0 P Fe)) (hs : ∀ x, foldedSetIterable iter X.env x = pure x) :
    PE X (.ListComp elt [⟨tg, iter, ifs, 0⟩] scope pos) (tL X.K W P (fComp (own.map (·.2)) Fi t C Fe)) := PE_weak (pe_lc hc hN hi ok hg ht he hs) (re_comp hown hpo)
theorem ds_setLc {elt iter : Expr} {ifs : List Expr} {scope : Scope} {own : List (Str × Nat)} {Fi : M (List D)} {t : Tg} {C : M Bool} {Fe : M D} {i : Nat} {y : Str} {py spos : Pos} (hp : i ∉ P) (hy : X.N[i]? = some y) (hyl : X.env.scope.names.lookup y = some .local)
    (hsw : swapsWith (.ListComp elt [⟨tg, iter, ifs, 0⟩] scope pos) (some (.Name y py)) spos.line X.env = pure true) (hown : ∀ j ∈ t.ix, j ∈ own.map (·.2)) (hpo : ∀ i ∈ own.map (·.2), i ∉ P) (hc : X.calm = true) (hN : X.N.Nodup) (hi : PI X tg iter (tI X.K W P Fi)) (ok : BlkOk X.N X.env.scope scope own)
    (hg : ∀ (s : Shared) (H : Hp) (C : Addr) (cl : List (Str × Addr)) (fp : List Addr), PG (X.blk s H scope (compEnvC scope cl C X.env) fp) tg (tG X.K P t)) (ht : ∀ (s : Shared) (H : Hp) (C1 : Addr) (cl : List (Str × Addr)) (fp : List Addr), PTs (X.blk s H scope (compEnvC scope cl C1 X.env) fp) ifs (tB X.K W0 P C))
    (he : ∀ (s : Shared) (H : Hp) (C : Addr) (cl : List (Str × Addr)) (fp : List Addr), PE (X.blk s H scope (compEnvC scope cl C X.env) fp) elt (tE X.K W0 P Fe)) (hs : ∀ x, foldedSetIterable iter X.env x = pure x) :
    PS X (.Assign [.Name y py] (.ListComp elt [⟨tg, iter, ifs, 0⟩] scope pos) spos) (tS X.K W P (sSet i (fComp (own.map (·.2)) Fi t C Fe))) :=
  PS_weak (ps_setLc hc hN hy hyl hsw hi ok hg ht he hs) (re_set hp (re_comp hown hpo))
end
structure Fn where
  n : Nat
  io : List Nat
  run : M L
def SpF (K : PySem.W.Frag) (fn : Fn) : Sp := fun us H Q E => us.length = fn.n ∧ ∃ B Hs ps r ps', fn.run ps = some (r, ps') ∧ Sim K ⟨B, Hs, []⟩ Hs ps (us.map some) H [] ∧
  (∀ l v H' Hs' xf, r = .ok l → ps'.length = us.length → Sim K ⟨B, Hs, []⟩ Hs' ps' (us.map some) H' xf → LOk K Hs' H' v l xf → Q v H') ∧
  (∀ x c dd H' Hs', r = .error x → ps'.length = us.length → Sim K ⟨B, Hs, []⟩ Hs' ps' (us.map some) H' [] → XOk K Hs' H' c dd x → E c dd H')
def outs (n : Nat) (io : List Nat) (s : VS) : VS := (List.range n).map fun i => if i ∈ io then (s[i]?).getD none else none
def mkRun (n nn : Nat) (io : List Nat) (F : M Fl) : M L := fun ps => match F (ps ++ List.replicate (nn - n) none) with
  | some (.ok (.rt l), s') => some (.ok l, outs n io s')
  | some (.ok .nx, s') => some (.ok (.d .non), outs n io s')
  | some (.error x, s') => some (.error x, outs n io s')
  | _ => none
theorem outs_get {n : Nat} {io : List Nat} {s : VS} {i : Nat} {l : L} (h : (outs n io s)[i]? = some (some l)) : i < n ∧ i ∈ io ∧ s[i]? = some (some l) := by
  unfold outs at h
  rw [List.getElem?_map] at h
  cases q : (List.range n)[i]? with
  | none => rw [q] at h; cases h
  | some j =>
    rw [q] at h
    have hi : i < n := by
      have := (List.getElem?_eq_some_iff.mp q).1
      rw [List.length_range] at this
      exact this
    rw [List.getElem?_range hi] at q
    cases q
    have h : (if i ∈ io then (s[i]?).getD none else none) = some l := Option.some.inj h
    split at h
    · rename_i hio
      refine ⟨hi, hio, ?_⟩
      cases q : s[i]? with
      | none => rw [q] at h; cases h
      | some o => rw [q] at h; exact congrArg some h
    · cases h
section
variable {K : PySem.W.Frag}
theorem sim_enter {B Hs H : Hp} {ps : VS} {us : List V} {io : List Nat} (k : Nat) (S : Sim K ⟨B, Hs, []⟩ Hs ps (us.map some) H []) (hio : ∀ i ∈ io, i < us.length) :
    Sim K ⟨B, Hs, io.map fun i => (i, us.getD i .non)⟩ Hs (ps ++ List.replicate k none) (us.map some ++ List.replicate k none) H [] := by
  obtain ⟨ft, s⟩ := S
  refine ⟨ft, ⟨s.sub, s.base, s.grow, s.new, ?_, fun i l e => ?_, s.nd, s.dj, s.sp, s.xnd, s.xdj, s.xsp, fun p hp => ?_⟩⟩
  · rw [List.length_append, List.length_append, s.len]
    simp
  · have hl := s.len
    by_cases hi : i < ps.length
    · rw [List.getElem?_append_left hi] at e
      rw [List.getElem?_append_left (by omega)]
      exact s.ok i l e
    · rw [List.getElem?_append_right (by omega)] at e
      have := List.mem_of_getElem? e
      have := List.eq_of_mem_replicate this
      cases this
  · obtain ⟨i, hi, rfl⟩ := List.mem_map.mp hp
    have hl := hio i hi
    rw [List.getElem?_append_left (by simpa using hl), List.getElem?_map]
    simp [List.getD, List.getElem?_eq_getElem hl]
theorem sim_leave {B Hs Hs' H' : Hp} {s' : VS} {σ' : L2.St} {us : List V} {io : List Nat} {xf : List Addr} (S : Sim K ⟨B, Hs, io.map fun i => (i, us.getD i .non)⟩ Hs' s' σ' H' xf) (hio : ∀ i ∈ io, i < us.length) : Sim K ⟨B, Hs, []⟩ Hs' (outs us.length io s') (us.map some) H' xf := by
  obtain ⟨ft, s⟩ := S
  refine ⟨ft, ⟨s.sub, s.base, s.grow, s.new, by unfold outs; simp, fun i l e => ?_, s.nd, s.dj, s.sp, s.xnd, s.xdj, s.xsp, fun p hp => by cases hp⟩⟩
  obtain ⟨h1, h2, h3⟩ := outs_get e
  obtain ⟨v, e1, r⟩ := s.ok i l h3
  have q := s.pins (i, us.getD i .non) (List.mem_map_of_mem h2)
  have q : σ'[i]? = some (some (us.getD i .non)) := q
  rw [e1] at q
  cases q
  refine ⟨_, ?_, r⟩
  rw [List.getElem?_map, List.getElem?_eq_getElem h1]
  simp [List.getD, List.getElem?_eq_getElem h1]
end
theorem pin_fst (us : List V) : ∀ io : List Nat, ((io.map fun i => (i, us.getD i V.non)).map (·.1)) = io
  | [] => rfl
  | i :: r => by rw [List.map_cons, List.map_cons, pin_fst us r]
theorem fn_ok {P : Program} {w : World} {K : PySem.W.Frag} {mg : Str → Option Value} {base : Heap} {x qual : Str} {st : Stmt} {f : Addr} {fd : FuncData} {N ps : List Str} {k : Nat} {io : List Nat} {F : M Fl} (Fu : Fun K x qual st f fd) (S : FnScope N ps (defScope st)) (hio : ∀ i ∈ io, i < ps.length)
    (hB : ∀ (cdv : Value) (A : Around) (outer : List Env) (s : Shared) (H : Hp) (E : XK), Room k (A.deeper (envOfC qual (defScope st) s.heap.objs.size f cdv)) →
      PSs (cxOf (L2.CX P w) P w K mg base N qual (defScope st) f cdv A outer s H E) (defBody st) (tS K (fun c dd _ H => E c dd H) io F)) :
    FnOk P w K mg base (L2.CX P w) (k + 1) f fd ps (SpF K ⟨ps.length, io, mkRun ps.length N.length io F⟩) := by
  refine Fu.okX S (fun vs H Q E h => h.1) (fun cdv A outer s H us Q E hr h => ?_)
  obtain ⟨hl, B, Hs, qs, r, qs', hF, hS, hk, hE⟩ := h
  have hl : us.length = ps.length := hl
  refine ⟨_, hB cdv A outer s H E hr, ?_⟩
  have hio' : ∀ i ∈ io, i < us.length := fun i hi => by rw [hl]; exact hio i hi
  have S1 := sim_enter (N.length - ps.length) hS hio'
  have hst : L2.start N us = us.map some ++ List.replicate (N.length - ps.length) none := by unfold L2.start; rw [hl]
  rw [hst]
  have hF : mkRun ps.length N.length io F qs = some (r, qs') := hF
  unfold mkRun at hF
  have hol : ∀ s : VS, (outs ps.length io s).length = us.length := fun s => by unfold outs; simp [hl]
  split at hF
  · rename_i l s' e
    cases hF
    refine ⟨_, Hs, _, _, s', e, pin_fst us io, S1, ⟨fun _ _ _ q => (by cases q), fun _ _ _ q => (by cases q), fun _ _ _ q => (by cases q), fun l' v σ' H' Hs' xf q S' X' o => ?_, fun _ _ _ _ _ _ q => (by cases q)⟩⟩
    cases q
    have S2 := sim_leave S' hio'
    rw [hl] at S2
    exact hk _ v H' Hs' xf rfl (hol _) S2 o
  · rename_i s' e
    cases hF
    refine ⟨_, Hs, _, _, s', e, pin_fst us io, S1, ⟨fun σ' H' Hs' q S' X' => ?_, fun _ _ _ q => (by cases q), fun _ _ _ q => (by cases q), fun _ _ _ _ _ _ q => (by cases q), fun _ _ _ _ _ _ q => (by cases q)⟩⟩
    have S2 := sim_leave S' hio'
    rw [hl] at S2
    exact hk _ .non H' Hs' [] rfl (hol _) S2 (.d .non)
  · rename_i x s' e
    cases hF
    refine ⟨_, Hs, _, _, s', e, pin_fst us io, S1, ⟨fun _ _ _ q => (by cases q), fun _ _ _ q => (by cases q), fun _ _ _ q => (by cases q), fun _ _ _ _ _ _ q => (by cases q), fun x' c dd σ' H' Hs' q S' X' o => ?_⟩⟩
    cases q
    have S2 := sim_leave S' hio'
    rw [hl] at S2
    exact hE _ c dd H' Hs' rfl (hol _) S2 o
  · cases hF
def argsOf (s : VS) : List Pk → Option VS
  | [] => some []
  | .dat d :: ks => (argsOf s ks).map (some (.d d) :: ·)
  | .sl j :: ks => match s[j]? with
    | some (some l) => (argsOf s ks).map (some l :: ·)
    | _ => none
def hasSl (j : Nat) : List Pk → Bool
  | [] => false
  | .sl i :: ks => decide (i = j) || hasSl j ks
  | .dat _ :: ks => hasSl j ks
def slND : List Pk → Bool
  | [] => true
  | .sl j :: ks => !hasSl j ks && slND ks
  | .dat _ :: ks => slND ks
def setO : VS → List Pk → VS → VS
  | s, .sl j :: ks, o :: os => (setO s ks os).set j o
  | s, .dat _ :: ks, _ :: os => setO s ks os
  | s, _, _ => s
theorem hasSl_of {j : Nat} : ∀ {ks : List Pk} {i : Nat}, ks[i]? = some (.sl j) → hasSl j ks = true
  | [], _, h => by cases h
  | .sl a :: ks, 0, h => by
    have : Pk.sl a = Pk.sl j := by simpa using h
    cases this
    simp [hasSl]
  | .sl a :: ks, i + 1, h => by
    have := hasSl_of (ks := ks) (i := i) (by simpa using h)
    simp [hasSl, this]
  | .dat d :: ks, 0, h => by simp at h
  | .dat d :: ks, i + 1, h => by
    have := hasSl_of (ks := ks) (i := i) (by simpa using h)
    simp [hasSl, this]
theorem slND_uniq {j : Nat} : ∀ {ks : List Pk} {i i' : Nat}, slND ks = true → ks[i]? = some (.sl j) → ks[i']? = some (.sl j) → i = i'
  | [], _, _, _, h, _ => by cases h
  | .sl a :: ks, 0, 0, _, _, _ => rfl
  | .sl a :: ks, 0, i' + 1, nd, h, h' => by
    have e : Pk.sl a = Pk.sl j := by simpa using h
    cases e
    have q := hasSl_of (ks := ks) (i := i') (j := j) (by simpa using h')
    simp [slND, q] at nd
  | .sl a :: ks, i + 1, 0, nd, h, h' => by
    have e : Pk.sl a = Pk.sl j := by simpa using h'
    cases e
    have q := hasSl_of (ks := ks) (i := i) (j := j) (by simpa using h)
    simp [slND, q] at nd
  | .sl a :: ks, i + 1, i' + 1, nd, h, h' => by
    have nd : slND ks = true := by simp [slND] at nd; exact nd.2
    rw [slND_uniq (ks := ks) (i := i) (i' := i') nd (by simpa using h) (by simpa using h')]
  | .dat d :: ks, 0, _, _, h, _ => by simp at h
  | .dat d :: ks, _, 0, _, _, h => by simp at h
  | .dat d :: ks, i + 1, i' + 1, nd, h, h' => by
    have nd : slND ks = true := nd
    rw [slND_uniq (ks := ks) (i := i) (i' := i') nd (by simpa using h) (by simpa using h')]
theorem setO_len (s : VS) : ∀ (ks : List Pk) (os : VS), (setO s ks os).length = s.length
  | [], _ => by unfold setO; rfl
  | .sl j :: ks, [] => by unfold setO; rfl
  | .dat d :: ks, [] => by unfold setO; rfl
  | .sl j :: ks, o :: os => by unfold setO; rw [List.length_set, setO_len s ks os]
  | .dat d :: ks, o :: os => by unfold setO; rw [setO_len s ks os]
theorem setO_get {s : VS} {j : Nat} {l : L} : ∀ {ks : List Pk} {os : VS}, os.length = ks.length → (setO s ks os)[j]? = some (some l) → (∃ i : Nat, ks[i]? = some (Pk.sl j) ∧ os[i]? = some (some l)) ∨ ((∀ i : Nat, ks[i]? ≠ some (Pk.sl j)) ∧ s[j]? = some (some l))
  | [], [], _, h => .inr ⟨fun i => by simp, h⟩
  | .sl a :: ks, o :: os, hl, h => by
    unfold setO at h
    by_cases q : a = j
    · subst q
      by_cases hj : a < (setO s ks os).length
      · rw [List.getElem?_set_self hj] at h
        exact .inl ⟨0, rfl, by simpa using h⟩
      · rw [List.getElem?_eq_none (by simpa using hj)] at h; cases h
    · rw [List.getElem?_set_ne q] at h
      rcases setO_get (ks := ks) (os := os) (by simpa using hl) h with ⟨i, h1, h2⟩ | ⟨h1, h2⟩
      · exact .inl ⟨i + 1, by simpa using h1, by simpa using h2⟩
      · refine .inr ⟨fun i => ?_, h2⟩
        cases i with
        | zero =>
          intro z
          have : Pk.sl a = Pk.sl j := by simpa using z
          cases this; exact q rfl
        | succ i => simpa using h1 i
  | .dat d :: ks, o :: os, hl, h => by
    unfold setO at h
    rcases setO_get (ks := ks) (os := os) (by simpa using hl) h with ⟨i, h1, h2⟩ | ⟨h1, h2⟩
    · exact .inl ⟨i + 1, by simpa using h1, by simpa using h2⟩
    · refine .inr ⟨fun i => ?_, h2⟩
      cases i with
      | zero => simp
      | succ i => simpa using h1 i
  | [], _ :: _, hl, _ => by cases hl
  | _ :: _, [], hl, _ => by cases hl
theorem argsOf_get {s : VS} : ∀ {ks : List Pk} {ls : VS}, argsOf s ks = some ls → ls.length = ks.length ∧ ∀ (i : Nat) (o : Option L), ls[i]? = some o → ∃ l, o = some l ∧ ∃ k, ks[i]? = some k ∧ ((∃ d, k = Pk.dat d ∧ l = L.d d) ∨ ∃ j : Nat, k = Pk.sl j ∧ s[j]? = some (some l))
  | [], ls, h => by cases h; exact ⟨rfl, fun i o e => by simp at e⟩
  | .dat d :: ks, ls, h => by
    unfold argsOf at h
    cases q : argsOf s ks with
    | none => rw [q] at h; cases h
    | some r =>
      rw [q] at h; cases h
      obtain ⟨h1, h2⟩ := argsOf_get q
      refine ⟨by simp [h1], fun i o e => ?_⟩
      cases i with
      | zero =>
        have : some (L.d d) = o := by simpa using e
        subst this
        exact ⟨_, rfl, _, rfl, .inl ⟨d, rfl, rfl⟩⟩
      | succ i => obtain ⟨l, a, k, b, c⟩ := h2 i o (by simpa using e); exact ⟨l, a, k, by simpa using b, c⟩
  | .sl j :: ks, ls, h => by
    unfold argsOf at h
    split at h
    · rename_i l0 e0
      cases q : argsOf s ks with
      | none => rw [q] at h; cases h
      | some r =>
        rw [q] at h; cases h
        obtain ⟨h1, h2⟩ := argsOf_get q
        refine ⟨by simp [h1], fun i o e => ?_⟩
        cases i with
        | zero =>
          have : some l0 = o := by simpa using e
          subst this
          exact ⟨_, rfl, _, rfl, .inr ⟨j, rfl, e0⟩⟩
        | succ i => obtain ⟨l, a, k, b, c⟩ := h2 i o (by simpa using e); exact ⟨l, a, k, by simpa using b, c⟩
    · cases h
theorem Paired_get {α β : Type} {R : α → β → Prop} : ∀ {l : List α} {m : List β} {i : Nat} {b : β}, Paired R l m → m[i]? = some b → ∃ a, l[i]? = some a ∧ R a b
  | _, _, i, b, .nil, h => by simp at h
  | _, _, 0, b, .cons r t, h => by simp at h; subst h; exact ⟨_, rfl, r⟩
  | _, _, i + 1, b, .cons r t, h => by
    obtain ⟨a, h1, h2⟩ := Paired_get (i := i) t (by simpa using h)
    exact ⟨a, by simpa using h1, h2⟩
theorem Paired_len {α β : Type} {R : α → β → Prop} : ∀ {l : List α} {m : List β}, Paired R l m → l.length = m.length
  | _, _, .nil => rfl
  | _, _, .cons r t => by rw [List.length_cons, List.length_cons, Paired_len t]
open Classical in
theorem call_sim {K : PySem.W.Frag} {fm : Fm} {Hs : Hp} {vs : VS} {σ : L2.St} {H : Hp} {ks : List Pk} {us : List V} {ls : VS} (S : Sim K fm Hs vs σ H []) (hk : Paired (PkOk K Hs σ) us ks) (ha : argsOf vs ks = some ls) (nd : slND ks = true) :
    ∃ B, Sim K ⟨B, Hs, []⟩ Hs ls (us.map some) H [] ∧ ∀ Hs' H' os xf, os.length = us.length → Sim K ⟨B, Hs, []⟩ Hs' os (us.map some) H' xf → Sim K fm Hs' (setO vs ks os) σ H' xf ∧ Ex Hs Hs' := by
  obtain ⟨ft, s⟩ := S
  obtain ⟨hlen, hget⟩ := argsOf_get ha
  have hul := Paired_len hk
  let fc : Nat → List Addr := fun i => match ks[i]? with
    | some (.sl j) => ft j
    | _ => []
  have fc_sl : ∀ i j, ks[i]? = some (.sl j) → fc i = ft j := fun i j e => by
    show (match ks[i]? with | some (.sl j) => ft j | _ => []) = ft j
    rw [e]
  have fc_mem : ∀ i b, b ∈ fc i → ∃ j, ks[i]? = some (.sl j) ∧ b ∈ ft j := fun i b hb => by
    have hb : b ∈ (match ks[i]? with | some (.sl j) => ft j | _ => []) := hb
    split at hb
    · rename_i j e; exact ⟨j, e, hb⟩
    · simp at hb
  let B : Hp := fun b => if ∃ i, b ∈ fc i then none else H b
  have B_in : ∀ i b, b ∈ fc i → B b = none := fun i b hb => if_pos ⟨i, hb⟩
  have B_out : ∀ b, (∀ i, b ∉ fc i) → B b = H b := fun b hb => if_neg fun ⟨i, h⟩ => hb i h
  have B_ex : Ex B H := fun b u e => by
    have e : (if ∃ i, b ∈ fc i then none else H b) = some u := e
    split at e
    · cases e
    · exact e
  refine ⟨B, ⟨fc, ⟨s.sub, B_ex, Ex.refl _, fun b hb => .inl hb, ?_, fun i l e => ?_, fun i => ?_, fun i j b h1 h2 => ?_, fun i b hb => ?_, by simp, fun _ _ _ q => by simp at q, fun _ q => by simp at q, fun p hp => by cases hp⟩⟩, fun Hs' H' os xf hol S' => ?_⟩
  · rw [hlen, List.length_map, hul]
  · obtain ⟨l', el, k, ek, hkk⟩ := hget i _ e
    cases el
    obtain ⟨u, eu, pk⟩ := Paired_get hk ek
    refine ⟨u, by rw [List.getElem?_map, eu]; rfl, ?_⟩
    rcases hkk with ⟨d, rfl, rfl⟩ | ⟨j, rfl, ej⟩
    · have : fc i = [] := by
        show (match ks[i]? with | some (.sl j) => ft j | _ => []) = []
        rw [ek]
      rw [this]
      exact .d pk
    · rw [fc_sl i j ek]
      obtain ⟨v, e1, r⟩ := s.ok j l ej
      have pk : σ[j]? = some (some u) := pk
      rw [pk] at e1
      cases e1
      exact r
  · show List.Nodup (match ks[i]? with | some (.sl j) => ft j | _ => [])
    split
    · exact s.nd _
    · simp
  · obtain ⟨j1, e1, m1⟩ := fc_mem i b h1
    obtain ⟨j2, e2, m2⟩ := fc_mem j b h2
    have := s.dj j1 j2 b m1 m2
    subst this
    exact slND_uniq nd e1 e2
  · obtain ⟨j1, e1, m1⟩ := fc_mem i b hb
    obtain ⟨h1, h2, h3⟩ := s.sp j1 b m1
    exact ⟨h1, B_in i b hb, h3⟩
  · obtain ⟨fo, t⟩ := S'
    have grow : Ex Hs Hs' := t.grow
    have notin : ∀ j b, b ∈ ft j → (∀ i : Nat, ks[i]? ≠ some (Pk.sl j)) → ∀ i, b ∉ fc i := fun j b hb hn i hi => by
      obtain ⟨j', e', m'⟩ := fc_mem i b hi
      have := s.dj j j' b hb m'
      subst this
      exact hn i e'
    have Bsome : ∀ j b, b ∈ ft j → (∀ i : Nat, ks[i]? ≠ some (Pk.sl j)) → B b ≠ none := fun j b hb hn => by
      rw [B_out b (notin j b hb hn)]
      exact (s.sp j b hb).2.2
    have keepH : ∀ j b, b ∈ ft j → (∀ i : Nat, ks[i]? ≠ some (Pk.sl j)) → H' b = H b := fun j b hb hn => by
      have q := B_out b (notin j b hb hn)
      cases e : H b with
      | none => exact absurd e (s.sp j b hb).2.2
      | some o => exact t.base b o (by show B b = some o; rw [q]; exact e)
    let fn : Nat → List Addr := fun j => match ks.findIdx? (fun k => match k with | .sl i => decide (i = j) | _ => false) with
      | some i => fo i
      | none => ft j
    have idx : ∀ j, (∃ i : Nat, ks[i]? = some (Pk.sl j) ∧ fn j = fo i) ∨ ((∀ i : Nat, ks[i]? ≠ some (Pk.sl j)) ∧ fn j = ft j) := fun j => by
      show (∃ i : Nat, ks[i]? = some (Pk.sl j) ∧ (match ks.findIdx? (fun k => match k with | .sl i => decide (i = j) | _ => false) with | some i => fo i | none => ft j) = fo i) ∨ _
      cases q : ks.findIdx? (fun k => match k with | .sl i => decide (i = j) | _ => false) with
      | some i =>
        refine .inl ⟨i, ?_, rfl⟩
        obtain ⟨hi, hp, _⟩ := List.findIdx?_eq_some_iff_getElem.mp q
        rw [List.getElem?_eq_getElem hi]
        revert hp
        cases ks[i] with
        | dat d => intro hp; cases hp
        | sl a => intro hp; rw [of_decide_eq_true hp]
      | none =>
        refine .inr ⟨fun i e => ?_, ?_⟩
        · have hm := List.findIdx?_eq_none_iff.mp q (.sl j) (List.mem_of_getElem? e)
          simp at hm
        · show (match ks.findIdx? (fun k => match k with | .sl i => decide (i = j) | _ => false) with | some i => fo i | none => ft j) = ft j
          rw [q]
    refine ⟨⟨fn, ⟨t.sub, fun b u e => ?_, fun b u e => grow b u (s.grow b u e), fun b hb => ?_, ?_, fun j l e => ?_, fun j => ?_, fun j k b h1 h2 => ?_, fun j b hb => ?_, t.xnd, fun j b hb => ?_, fun b hb => ?_, s.pins⟩⟩, grow⟩
    · refine t.base b u ?_
      show B b = some u
      rw [B_out b fun i hi => ?_]
      · exact s.base b u e
      · obtain ⟨j, _, m⟩ := fc_mem i b hi
        rw [(s.sp j b m).2.1] at e; cases e
    · rcases t.new b hb with h | h
      · exact s.new b h
      · have h : B b = none := h
        refine .inr ?_
        by_cases hx : ∃ i, b ∈ fc i
        · obtain ⟨i, hi⟩ := hx
          obtain ⟨j, _, m⟩ := fc_mem i b hi
          exact (s.sp j b m).2.1
        · rw [B_out b fun i hi => hx ⟨i, hi⟩] at h
          exact Evl.fresh_back s.base h
    · rw [setO_len]; exact s.len
    · rcases setO_get (by rw [hol, hul]) e with ⟨i, h1, h2⟩ | ⟨h1, h2⟩
      · obtain ⟨v, e1, r⟩ := t.ok i l h2
        obtain ⟨u, eu, pk⟩ := Paired_get hk h1
        rw [List.getElem?_map, eu] at e1
        cases e1
        refine ⟨_, pk, ?_⟩
        rcases idx j with ⟨i', h3, h4⟩ | ⟨h3, _⟩
        · have := slND_uniq nd h1 h3
          subst this
          rw [h4]; exact r
        · exact absurd h1 (h3 i)
      · obtain ⟨v, e1, r⟩ := s.ok j l h2
        refine ⟨v, e1, ?_⟩
        rcases idx j with ⟨i', h3, h4⟩ | ⟨h3, h4⟩
        · exact absurd h3 (h1 i')
        · rw [h4]
          exact r.mono grow l fun b hb => keepH j b hb h3
    · rcases idx j with ⟨i', h3, h4⟩ | ⟨h3, h4⟩
      · rw [h4]; exact t.nd i'
      · rw [h4]; exact s.nd j
    · rcases idx j with ⟨i, h3, h4⟩ | ⟨h3, h4⟩ <;> rcases idx k with ⟨i', h5, h6⟩ | ⟨h5, h6⟩ <;> rw [h4] at h1 <;> rw [h6] at h2
      · have := t.dj i i' b h1 h2
        subst this
        rw [h3] at h5; cases h5; rfl
      · exact absurd (t.sp i b h1).2.1 (Bsome k b h2 h5)
      · exact absurd (t.sp i' b h2).2.1 (Bsome j b h1 h3)
      · exact s.dj j k b h1 h2
    · rcases idx j with ⟨i, h3, h4⟩ | ⟨h3, h4⟩ <;> rw [h4] at hb
      · obtain ⟨q1, q2, q3⟩ := t.sp i b hb
        have q2 : B b = none := q2
        refine ⟨q1, ?_, q3⟩
        by_cases hx : ∃ i, b ∈ fc i
        · obtain ⟨i, hi⟩ := hx
          obtain ⟨j, _, m⟩ := fc_mem i b hi
          exact (s.sp j b m).2.1
        · rw [B_out b fun i hi => hx ⟨i, hi⟩] at q2
          exact Evl.fresh_back s.base q2
      · obtain ⟨q1, q2, q3⟩ := s.sp j b hb
        refine ⟨?_, q2, ?_⟩
        · cases q : Hs' b with
          | none => rfl
          | some o =>
            rcases t.new b (by rw [q]; simp) with h | h
            · exact absurd q1 h
            · exact absurd h (Bsome j b hb h3)
        · rw [keepH j b hb h3]; exact q3
    · rcases idx j with ⟨i, h3, h4⟩ | ⟨h3, h4⟩ <;> rw [h4] at hb
      · exact t.xdj i b hb
      · intro hx
        exact absurd (t.xsp b hx).2.1 (Bsome j b hb h3)
    · obtain ⟨q1, q2, q3⟩ := t.xsp b hb
      have q2 : B b = none := q2
      refine ⟨q1, ?_, q3⟩
      by_cases hx : ∃ i, b ∈ fc i
      · obtain ⟨i, hi⟩ := hx
        obtain ⟨j, _, m⟩ := fc_mem i b hi
        exact (s.sp j b m).2.1
      · rw [B_out b fun i hi => hx ⟨i, hi⟩] at q2
        exact Evl.fresh_back s.base q2
end Ev
namespace Ev
open PySem PySem.Spec PyProof.Rows L2
open Evl (Ex)
structure FnAt (P : Program) (w : World) (K : PySem.W.Frag) (mg : Str → Option Value) (base : Heap) (k : Nat) (x : Str) (fn : Fn) : Prop where
  ex : ∃ f fd ps, mg x = some (.ref f) ∧ PySem.W.keepIn K (.ref f) = true ∧ Binds K fd ps [] ∧ FnOk P w K mg base (L2.CX P w) k f fd ps (SpF K fn)
structure MtAt (P : Program) (w : World) (K : PySem.W.Frag) (mg : Str → Option Value) (base : Heap) (k : Nat) (C : Addr) (m : Str) (fn : Fn) : Prop where
  cls : Cls K C
  ex : ∃ f fd ps, Meth K C m f ∧ Binds K fd ps [] ∧ FnOk P w K mg base (L2.CX P w) k f fd ps (SpF K fn)
structure MkAt (P : Program) (w : World) (K : PySem.W.Frag) (mg : Str → Option Value) (base : Heap) (k : Nat) (x : Str) (C : Addr) (fn : Fn) : Prop where
  ex : ∃ f fd ps, mg x = some (.ref C) ∧ Mk K C f ∧ Binds K fd ps [] ∧ FnOk P w K mg base (L2.CX P w) k f fd ps (SpF K fn)
@[irreducible] def callF (fn : Fn) (ks : List Pk) : M L := fun s => match argsOf s ks with
  | some ls => if slND ks = true ∧ ks.length = fn.n then (match fn.run ls with
    | some (r, os) => some (r, setO s ks os)
    | none => none) else none
  | none => none
def fCall (fn : Fn) (Fr : M (List Pk)) : M L := bd Fr fun ks => callF fn ks
theorem callF_sp {K : PySem.W.Frag} {fn : Fn} {fm : Fm} {Hs : Hp} {vs vs' : VS} {σ : L2.St} {H : Hp} {ks : List Pk} {us : List V} {r : Except Xn L} {Q : VK} {E : XK} (S : Sim K fm Hs vs σ H []) (hk : Paired (PkOk K Hs σ) us ks) (hF : callF fn ks vs = some (r, vs'))
    (hQ : ∀ l v H' Hs' xf, r = .ok l → Sim K fm Hs' vs' σ H' xf → Ex Hs Hs' → LOk K Hs' H' v l xf → Q v H')
    (hE : ∀ x c dd H' Hs', r = .error x → Sim K fm Hs' vs' σ H' [] → Ex Hs Hs' → XOk K Hs' H' c dd x → E c dd H') : SpF K fn us H Q E := by
  unfold callF at hF
  split at hF
  · rename_i ls ea
    split at hF
    · rename_i hc
      split at hF
      · rename_i r' os er
        cases hF
        obtain ⟨B, S1, back⟩ := call_sim S hk ea hc.1
        refine ⟨by rw [Paired_len hk]; exact hc.2, B, Hs, ls, r, os, er, S1, fun l v H' Hs' xf q hl S' o => ?_, fun x c dd H' Hs' q hl S' o => ?_⟩
        · obtain ⟨S2, X2⟩ := back Hs' H' os xf hl S'
          exact hQ l v H' Hs' xf q S2 X2 o
        · obtain ⟨S2, X2⟩ := back Hs' H' os [] hl S'
          exact hE x c dd H' Hs' q S2 X2 o
      · cases hF
    · cases hF
  · cases hF
section
variable {X : Cx} {W : WX} {P : List Nat} {e a b c o : Expr} {es : List Expr} {pos apos p : Pos} {k : Nat} {x m : Str} {fn : Fn} {Fr : M (List Pk)} {Fo : M Pk} {C : Addr}
theorem dl_call (Fk : FnAt X.prog X.w X.K X.mg X.base k x fn) (hr : Room k X.A) (hg : Gl X x) (tk : Takes X W) (ha : PA X (e :: es) (tKs X.K W P Fr)) (hdb : (x == ("__debug__" : Str)) = false) (he : starEach (e :: es) X.env = (false, eval e X.env) :: starEach es X.env) (hpl : (backTo pos (starEach es X.env)).any (·.1) = false) :
    PE X (.Call (.Name x p) (e :: es) [] pos) (tL X.K W P (fCall fn Fr)) := by
  obtain ⟨f, fd, ps, hm, hk, hb, F⟩ := Fk.ex
  refine PE_weak (pe_callS F hr hg hm hk hb (fun σ => passAt tk σ) ha hdb he hpl) fun σ H Q ⟨fm, Hs, vs, r', vs', hF, hP, hS, hk, hE⟩ => ?_
  dsimp only [tCallS]
  refine go hF hP hS hE fun ks vs1 us H1 Hs1 xf hg S1 X1 ⟨rx, ex⟩ => ?_
  subst ex
  exact callF_sp S1 rx hg (fun l v H' Hs' xf q S' X' o => hk l v H' Hs' xf q S' (X1.trans X') o) fun x c dd H' Hs' q S' X' o => hE x c dd H' Hs' q S' (X1.trans X') o
def tMethS (C : Addr) (m : Str) (sp : Sp) (E : L2.St → XK) (ta : TE) (t : TA) : TE := fun σ H Q => ta σ H fun x H1 => ∃ a dx fs, x = .ref a ∧ H1 a = some (.ins C dx fs) ∧ fs.lookup m = none ∧ t σ H1 fun vs H2 => sp (x :: vs) H2 Q (E σ)
theorem pe_methP {CX : CXT} {f : Addr} {fd : FuncData} {ps : List Str} {sp : Sp} {E : L2.St → XK} {ta : TE} {t : TA} {pl : Sem Bool} (he : PE X o ta) (c : Cls X.K C) (hm : Meth X.K C m f) (F : FnOk X.prog X.w X.K X.mg X.base CX k f fd ps sp) (hr : Room k X.A) (hb : Binds X.K fd ps []) (hx : ∀ σ, PassesAt CX X σ (E σ)) (ha : PA X (e :: es) t)
    (hst : starEach (e :: es) X.env = (false, eval e X.env) :: starEach es X.env) (hpl : (backTo pos (starEach es X.env)).any (·.1) = false)
    (ht : eval (.Call (.Attribute o m apos) (e :: es) [] pos) X.env = (do
      let ov ← eval o X.env
      standAt apos.atName
      let (f, first) ← holding [ov] (getMethod ov m pl)
      callWith pos f first (backTo pos (starEach (e :: es) X.env)) (backToKw pos (keywordEach [] X.env)))) :
    PE X (.Call (.Attribute o m apos) (e :: es) [] pos) (tMethS C m sp E ta t) := by
  refine ⟨fun pins s σ H Q I h => ?_⟩
  refine PySem.W.methodCall_KW (pl := pl) (thn (he.run pins s σ H _ I h) fun u s1 ⟨x, H1, I1, rx, a, dx, fs, ex, ea, l, q⟩ => ?_) ht
  subst ex
  obtain rfl : u = Value.ref a := rx
  refine getmeth_ok I1 ea c hm l ?_
  refine PySem.W.callWith_K (first := [.ref a]) (h₀ := X.base) I.ok.mod.kin hm.kp (thn (ha.run pos pins s1 σ H1 _ I1 q) fun us s2 ⟨vs, H2, I2, r, q2⟩ => ⟨I2.kIn, ?_⟩) hst hpl
  exact run_fnS (us := .ref a :: us) (vs := .ref a :: vs) F hr hb (hx σ) I2 (.cons rfl r) q2
theorem pe_methP0 {CX : CXT} {f : Addr} {fd : FuncData} {ps : List Str} {sp : Sp} {E : L2.St → XK} {ta : TE} {pl : Sem Bool} (he : PE X o ta) (c : Cls X.K C) (hm : Meth X.K C m f) (F : FnOk X.prog X.w X.K X.mg X.base CX k f fd ps sp) (hr : Room k X.A) (hb : Binds X.K fd ps []) (hx : ∀ σ, PassesAt CX X σ (E σ))
    (ht : eval (.Call (.Attribute o m apos) [] [] pos) X.env = (do
      let ov ← eval o X.env
      standAt apos.atName
      let (f, first) ← holding [ov] (getMethod ov m pl)
      callWith pos f first (backTo pos (starEach [] X.env)) (backToKw pos (keywordEach [] X.env)))) :
    PE X (.Call (.Attribute o m apos) [] [] pos) (tMethS C m sp E ta tNil) := by
  refine ⟨fun pins s σ H Q I h => ?_⟩
  refine PySem.W.methodCall_KW (pl := pl) (thn (he.run pins s σ H _ I h) fun u s1 ⟨x, H1, I1, rx, a, dx, fs, ex, ea, l, q⟩ => ?_) ht
  subst ex
  obtain rfl : u = Value.ref a := rx
  refine getmeth_ok I1 ea c hm l ?_
  exact PySem.W.callWith_K0 (first := [.ref a]) I1.kIn hm.kp (run_fnS (us := [.ref a]) (vs := [.ref a]) F hr hb (hx σ) I1 (.cons rfl .nil) q)
def clsOf (s : VS) : Pk → Option (Addr × List Str)
  | .dat (.ins C fs _) => some (C, fs)
  | .dat _ => none
  | .sl j => match s[j]? with
    | some (some (.obj C fs _)) => some (C, fs)
    | some (some (.d (.ins C fs _))) => some (C, fs)
    | _ => none
theorem lookup_none {β : Type} {m : Str} : ∀ {kvs : List (Str × β)}, m ∉ kvs.map (·.1) → kvs.lookup m = none
  | [], _ => rfl
  | (k, v) :: r, h => by
    simp only [List.map_cons, List.mem_cons, not_or] at h
    have : (m == k) = false := by simpa using h.1
    rw [List.lookup_cons, this]
    exact lookup_none h.2
theorem Sim.cls {K : PySem.W.Frag} {fm : Fm} {Hs : Hp} {vs : VS} {σ : L2.St} {H : Hp} {xf : List Addr} {v : V} {k : Pk} {C : Addr} {fs : List Str} (S : Sim K fm Hs vs σ H xf) (hk : PkOk K Hs σ v k) (hc : clsOf vs k = some (C, fs)) : ∃ a dx kvs, v = .ref a ∧ H a = some (.ins C dx kvs) ∧ kvs.map (·.1) = fs := by
  unfold clsOf at hc
  split at hc
  · cases hc
    cases hk with
    | ins h1 h2 h3 => exact ⟨_, _, _, rfl, S.sub _ _ h1, h2⟩
  · cases hc
  · have hk : σ[_]? = some (some v) := hk
    split at hc
    · rename_i e
      cases hc
      obtain ⟨v', f, e1, r⟩ := S.slot e
      rw [hk] at e1; cases e1
      cases r with
      | obj h1 h2 h3 => exact ⟨_, _, _, rfl, h1, h2⟩
    · rename_i e
      cases hc
      obtain ⟨v', e1, r⟩ := S.slotD e
      rw [hk] at e1; cases e1
      cases r with
      | ins h1 h2 h3 => exact ⟨_, _, _, rfl, S.sub _ _ h1, h2⟩
    · cases hc
def fMeth (C : Addr) (m : Str) (fn : Fn) (Fo : M Pk) (Fr : M (List Pk)) : M L := bd Fo fun o s1 => match clsOf s1 o with
  | some (C', fs) => if C' = C ∧ m ∉ fs then bd Fr (fun ks => callF fn (o :: ks)) s1 else none
  | none => none
theorem re_meth {ta : TE} {t : TA} (h1 : ∀ σ H Q, tK X.K W P Fo σ H Q → ta σ H Q) (h2 : ∀ σ H Q, tKs X.K W P Fr σ H Q → t σ H Q) : ∀ σ H Q, tL X.K W P (fMeth C m fn Fo Fr) σ H Q → tMethS C m (SpF X.K fn) (WE W) ta t σ H Q := fun σ H Q ⟨fm, Hs, vs, r', vs', hF, hP, hS, hk, hE⟩ => by
  refine h1 _ _ _ (go hF hP hS hE fun ko vs1 v H1 Hs1 xf hg S1 X1 ⟨rx, ex⟩ => ?_)
  subst ex
  split at hg
  · rename_i C' fs ec
    split at hg
    · rename_i hc
      obtain ⟨rfl, hm⟩ := hc
      obtain ⟨a, dx, kvs, rfl, ha, ek⟩ := S1.cls rx ec
      refine ⟨a, dx, kvs, rfl, ha, lookup_none (by rw [ek]; exact hm), h2 _ _ _ (go hg hP S1 (fun x c dd H' Hs' q S' X' o => hE x c dd H' Hs' q S' (X1.trans X') o) fun ks vs2 us H2 Hs2 xf hg S2 X2 ⟨ry, ex⟩ => ?_)⟩
      subst ex
      exact callF_sp S2 (.cons (rx.mono X2) ry) hg (fun l v H' Hs' xf q S' X' o => hk l v H' Hs' xf q S' ((X1.trans X2).trans X') o) fun x c dd H' Hs' q S' X' o => hE x c dd H' Hs' q S' ((X1.trans X2).trans X') o
    · cases hg
  · cases hg
theorem mtree {env : Env} {args : List Expr} (hbase : attributeBase o m env (eval o env) = eval o env) (hf : methodCallForm args.length (backTo pos (starEach args env)) (backToKw pos (keywordEach [] env)) = true) (hl : (apos.endLine == pos.line) = true) :
    eval (.Call (.Attribute o m apos) args [] pos) env = (do
      let ov ← eval o env
      standAt apos.atName
      let (f, first) ← holding [ov] (getMethod ov m (plainOf o env))
      callWith pos f first (backTo pos (starEach args env)) (backToKw pos (keywordEach [] env))) := by
  have e : eval (.Call (.Attribute o m apos) args [] pos) env = (do
    let ov ← attributeBase o m env (eval o env)
    standAt apos.atName
    methodCall o m apos pos env ov (args.length + ([] : List Keyword).length) (backTo pos (starEach args env)) (backToKw pos (keywordEach [] env))) := by rfl
  rw [e, hbase]
  congr 1
  funext ov
  congr 1
  funext _
  exact mcall_line hf hl
theorem dl_meth (Mk : MtAt X.prog X.w X.K X.mg X.base k C m fn) (hr : Room k X.A) (tk : Takes X W) (ho : PE X o (tK X.K W P Fo)) (ha : PA X (e :: es) (tKs X.K W P Fr)) (he : starEach (e :: es) X.env = (false, eval e X.env) :: starEach es X.env) (hpl : (backTo pos (starEach es X.env)).any (·.1) = false)
    (hbase : attributeBase o m X.env (eval o X.env) = eval o X.env) (hf : methodCallForm (e :: es).length (backTo pos (starEach (e :: es) X.env)) (backToKw pos (keywordEach [] X.env)) = true) (hl : (apos.endLine == pos.line) = true) :
    PE X (.Call (.Attribute o m apos) (e :: es) [] pos) (tL X.K W P (fMeth C m fn Fo Fr)) := by
  obtain ⟨f, fd, ps, hm, hb, F⟩ := Mk.ex
  exact PE_weak (pe_methP ho Mk.cls hm F hr hb (fun σ => passAt tk σ) ha he hpl (mtree hbase hf hl)) (re_meth (fun _ _ _ h => h) fun _ _ _ h => h)
theorem tnil_ok : ∀ σ H Q, tKs X.K W P kNil σ H Q → tNil σ H Q := fun σ H Q ⟨fm, Hs, vs, r', vs', hF, hP, hS, hk, hE⟩ => by
  cases hF
  exact hk _ [] H Hs [] rfl hS (Ex.refl _) ⟨.nil, rfl⟩
theorem dl_meth0 (Mk : MtAt X.prog X.w X.K X.mg X.base k C m fn) (hr : Room k X.A) (tk : Takes X W) (ho : PE X o (tK X.K W P Fo))
    (hbase : attributeBase o m X.env (eval o X.env) = eval o X.env) (hf : methodCallForm ([] : List Expr).length (backTo pos (starEach [] X.env)) (backToKw pos (keywordEach [] X.env)) = true) (hl : (apos.endLine == pos.line) = true) :
    PE X (.Call (.Attribute o m apos) [] [] pos) (tL X.K W P (fMeth C m fn Fo kNil)) := by
  obtain ⟨f, fd, ps, hm, hb, F⟩ := Mk.ex
  exact PE_weak (pe_methP0 ho Mk.cls hm F hr hb (fun σ => passAt tk σ) (mtree hbase hf hl)) (re_meth (fun _ _ _ h => h) tnil_ok)
def look {α : Type} (f : Str) : List Str → List α → Option α
  | k :: ks, d :: ds => if k = f then some d else look f ks ds
  | _, _ => none
theorem look_rep {K : PySem.W.Frag} {H : Hp} {f : Str} : ∀ {kvs : List (Str × V)} {ds : List D} {d : D}, RepL K H (kvs.map (·.2)) ds → look f (kvs.map (·.1)) ds = some d → ∃ v, kvs.lookup f = some v ∧ Rep K H v d
  | [], ds, d, h, e => by cases ds <;> cases e
  | (k, v) :: r, [], d, h, e => by cases h
  | (k, v) :: r, x :: ds, d, h, e => by
    cases h with
    | cons h1 h2 =>
      have e : (if k = f then some x else look f (r.map (·.1)) ds) = some d := e
      by_cases q : k = f
      · rw [if_pos q] at e; cases e
        subst q
        exact ⟨v, by rw [List.lookup_cons, beq_self_eq_true], h1⟩
      · rw [if_neg q] at e
        obtain ⟨u, e1, r1⟩ := look_rep h2 e
        have : (f == k) = false := by simpa using fun z => q z.symm
        exact ⟨u, by rw [List.lookup_cons, this]; exact e1, r1⟩
theorem look_lok {K : PySem.W.Frag} {Hs H : Hp} {f : Str} : ∀ {kvs : List (Str × V)} {ls : List L} {d : D} {g : List Addr}, LOkL K Hs H (kvs.map (·.2)) ls g → look f (kvs.map (·.1)) ls = some (.d d) → ∃ v, kvs.lookup f = some v ∧ Rep K Hs v d
  | [], ls, d, g, h, e => by cases ls <;> cases e
  | (k, v) :: r, [], d, g, h, e => by cases h
  | (k, v) :: r, x :: ls, d, g, h, e => by
    cases h with
    | cons h1 h2 =>
      have e : (if k = f then some x else look f (r.map (·.1)) ls) = some (.d d) := e
      by_cases q : k = f
      · rw [if_pos q] at e; cases e
        subst q
        cases h1 with
        | d h1 => exact ⟨v, by rw [List.lookup_cons, beq_self_eq_true], h1⟩
      · rw [if_neg q] at e
        obtain ⟨u, e1, r1⟩ := look_lok h2 e
        have : (f == k) = false := by simpa using fun z => q z.symm
        exact ⟨u, by rw [List.lookup_cons, this]; exact e1, r1⟩
def fldOf (C : Addr) (f : Str) (s : VS) : Pk → Option D
  | .dat (.ins C' fs ds) => if C' = C then look f fs ds else none
  | .dat _ => none
  | .sl j => match s[j]? with
    | some (some (.obj C' fs ls)) => if C' = C then (match look f fs ls with
      | some (.d x) => some x
      | _ => none) else none
    | some (some (.d (.ins C' fs ds))) => if C' = C then look f fs ds else none
    | _ => none
def fFld (C : Addr) (f : Str) (Fo : M Pk) : M D := bd Fo fun o s => match fldOf C f s o with
  | some d => some (.ok d, s)
  | none => none
theorem de_fld {f : Str} (hC : Cls X.K C) (hn : NoAttr X.K C f) (ho : PE X o (tK X.K W P Fo)) (hb : attributeBase o f X.env (eval o X.env) = eval o X.env) : PE X (.Attribute o f pos) (tE X.K W P (fFld C f Fo)) :=
  PE_weak (pe_fld ho hb) fun σ H Q ⟨fm, Hs, vs, r', vs', hF, hP, hS, hk, hE⟩ => by
    dsimp only [tFld]
    refine go hF hP hS hE fun ko vs1 v H1 Hs1 xf hg S1 X1 ⟨rx, ex⟩ => ?_
    subst ex
    split at hg
    · rename_i d ed
      cases hg
      have fin : ∃ a dx kvs u, v = .ref a ∧ H1 a = some (.ins C dx kvs) ∧ kvs.lookup f = some u ∧ Rep X.K Hs1 u d := by
        unfold fldOf at ed
        split at ed
        · split at ed
          · rename_i hc
            subst hc
            cases rx with
            | ins h1 h2 h3 =>
              subst h2
              obtain ⟨u, e1, r1⟩ := look_rep h3 ed
              exact ⟨_, _, _, u, rfl, S1.sub _ _ h1, e1, r1⟩
          · cases ed
        · cases ed
        · have rx : σ[_]? = some (some v) := rx
          split at ed
          · rename_i e0
            split at ed
            · rename_i hc
              subst hc
              split at ed
              · rename_i x el
                cases ed
                obtain ⟨v', g, e1, r⟩ := S1.slot e0
                rw [rx] at e1; cases e1
                cases r with
                | obj h1 h2 h3 =>
                  subst h2
                  obtain ⟨u, e2, r2⟩ := look_lok h3 el
                  exact ⟨_, _, _, u, rfl, h1, e2, r2⟩
              · cases ed
            · cases ed
          · rename_i e0
            split at ed
            · rename_i hc
              subst hc
              obtain ⟨v', e1, r⟩ := S1.slotD e0
              rw [rx] at e1; cases e1
              cases r with
              | ins h1 h2 h3 =>
                subst h2
                obtain ⟨u, e2, r2⟩ := look_rep h3 ed
                exact ⟨_, _, _, u, rfl, S1.sub _ _ h1, e2, r2⟩
            · cases ed
          · cases ed
      obtain ⟨a, dx, kvs, u, e1, e2, e3, r⟩ := fin
      exact ⟨a, C, dx, kvs, u, e1, e2, hC, hn, e3, hk d u H1 Hs1 [] rfl S1 X1 ⟨r, rfl⟩⟩
    · cases hg
end
theorem putF_new {f : Str} {v : V} : ∀ {kvs : List (Str × V)}, f ∉ kvs.map (·.1) → putF f v kvs = kvs ++ [(f, v)]
  | [], _ => rfl
  | (k, x) :: r, h => by
    simp only [List.map_cons, List.mem_cons, not_or] at h
    show (if k = f then _ else (k, x) :: putF f v r) = _
    rw [if_neg fun z => h.1 z.symm, putF_new h.2]
    rfl
theorem LOkL.snoc {K : PySem.W.Frag} {Hs H : Hp} {v : V} {l : L} {g : List Addr} (h : LOk K Hs H v l g) : ∀ {ls : List L} {vs : List V} {f : List Addr}, LOkL K Hs H vs ls f → LOkL K Hs H (vs ++ [v]) (ls ++ [l]) (f ++ g)
  | [], _, _, k => by
    cases k
    have := LOkL.cons h (LOkL.nil (K := K) (Hs := Hs) (H := H))
    rw [List.append_nil] at this
    exact this
  | x :: ls, _, _, k => by
    cases k with
    | cons k1 k2 =>
      rw [List.append_assoc]
      exact .cons k1 (LOkL.snoc h k2)
def sFldSet (j : Nat) (C : Addr) (f : Str) (Fv : M L) : M Fl := bd Fv fun l s => match s[j]? with
  | some (some (.obj C' fs ls)) => if C' = C ∧ f ∉ fs ∧ fs.length < 900 then some (.ok .nx, s.set j (some (.obj C' (fs ++ [f]) (ls ++ [l])))) else none
  | _ => none
theorem fld_write {K : PySem.W.Frag} {fm : Fm} {Hs : Hp} {vs : VS} {σ : L2.St} {H : Hp} {xf : List Addr} {j : Nat} {C dx a : Addr} {fs : List Str} {ls : List L} {kvs : List (Str × V)} {v : V} {l : L} {f : Str} (S : Sim K fm Hs vs σ H xf) (r : LOk K Hs H v l xf) (e : vs[j]? = some (some (.obj C fs ls))) (ev : σ[j]? = some (some (.ref a))) (ha : H a = some (.ins C dx kvs)) (ek : kvs.map (·.1) = fs) :
    Sim K fm Hs (vs.set j (some (.obj C (fs ++ [f]) (ls ++ [l])))) σ (upd H a (.ins C dx (kvs ++ [(f, v)]))) [] := by
  obtain ⟨ft, s⟩ := S
  obtain ⟨v', e1, r1⟩ := s.ok j _ e
  rw [ev] at e1; cases e1
  cases h : ft j with
  | nil => rw [h] at r1; cases r1
  | cons a' g =>
    rw [h] at r1
    cases r1 with
    | obj h1 h2 h3 =>
      rw [ha] at h1; cases h1
      have ham : a ∈ ft j := by rw [h]; simp
      have hnd : (a :: g).Nodup := by rw [← h]; exact s.nd j
      obtain ⟨hs, hb, hh⟩ := s.sp j a ham
      have hne : ∀ b, Hs b ≠ none → b ≠ a := fun b q z => q (by rw [z]; exact hs)
      have up : ∀ b, H b ≠ none → upd H a (.ins C dx (kvs ++ [(f, v)])) b ≠ none := fun b h => by
        unfold upd; split
        · simp
        · exact h
      have gne : ∀ b ∈ g, b ≠ a := fun b hbg z => (List.nodup_cons.mp hnd).1 (by rw [← z]; exact hbg)
      have xne : ∀ b ∈ xf, b ≠ a := fun b hb z => s.xdj j a ham (by rw [← z]; exact hb)
      refine ⟨fun i => if i = j then a :: (g ++ xf) else ft i, ⟨fun b u q => ?_, fun b u q => ?_, s.grow, s.new, by simp [s.len], fun i m ei => ?_, fun i => ?_, fun i k b q1 q2 => ?_, fun i b q => ?_, by simp, fun _ _ _ q => by simp at q, fun _ q => by simp at q, s.pins⟩⟩
      · rw [upd_ne (hne b (by rw [q]; simp))]; exact s.sub b u q
      · rw [upd_ne fun z => by rw [z, hb] at q; cases q]; exact s.base b u q
      · by_cases q : i = j
        · subst q
          rw [List.getElem?_set_self (List.getElem?_eq_some_iff.mp e).1] at ei
          cases ei
          rw [if_pos rfl]
          refine ⟨_, ev, .obj upd_same (by rw [List.map_append, ek]; rfl) ?_⟩
          rw [List.map_append]
          refine LOkL.snoc (r.mono (Ex.refl _) l fun b hb => upd_ne (xne b hb)) (h3.mono (Ex.refl _) ls fun b hb => upd_ne (gne b hb))
        · rw [List.getElem?_set_ne (Ne.symm q)] at ei
          rw [if_neg q]
          obtain ⟨u, e2, r2⟩ := s.ok i m ei
          exact ⟨u, e2, r2.mono (Ex.refl _) m fun b hb => upd_ne fun z => q (s.dj i j a (by rw [← z]; exact hb) ham)⟩
      · show List.Nodup (if _ then _ else _)
        split
        · refine List.nodup_cons.mpr ⟨fun q => ?_, List.nodup_append.mpr ⟨(List.nodup_cons.mp hnd).2, s.xnd, fun b hb c hc z => ?_⟩⟩
          · rcases List.mem_append.mp q with q | q
            · exact gne a q rfl
            · exact xne a q rfl
          · subst z
            exact s.xdj j b (by rw [h]; exact List.mem_cons_of_mem _ hb) hc
        · exact s.nd i
      · try dsimp only at q1 q2
        have key : ∀ i b, b ∈ (if i = j then a :: (g ++ xf) else ft i) → b ∈ xf ∨ b ∈ ft i := fun i b q => by
          split at q
          · rename_i z
            subst z
            rcases List.mem_cons.mp q with q | q
            · exact .inr (by rw [q]; exact ham)
            · rcases List.mem_append.mp q with q | q
              · exact .inr (by rw [h]; exact List.mem_cons_of_mem _ q)
              · exact .inl q
          · exact .inr q
        by_cases z1 : i = j
        · by_cases z2 : k = j
          · rw [z1, z2]
          · rw [if_neg z2] at q2
            rcases key i b q1 with q | q
            · exact absurd q (s.xdj k b q2)
            · exact s.dj i k b q q2
        · rw [if_neg z1] at q1
          rcases key k b q2 with q | q
          · exact absurd q (s.xdj i b q1)
          · exact s.dj i k b q1 q
      · try dsimp only at q
        split at q
        · rename_i z
          subst z
          rcases List.mem_cons.mp q with q | q
          · rw [q]; exact ⟨hs, hb, up a hh⟩
          · rcases List.mem_append.mp q with q | q
            · obtain ⟨k1, k2, k3⟩ := s.sp i b (by rw [h]; exact List.mem_cons_of_mem _ q)
              exact ⟨k1, k2, up b k3⟩
            · obtain ⟨k1, k2, k3⟩ := s.xsp b q
              exact ⟨k1, k2, up b k3⟩
        · obtain ⟨k1, k2, k3⟩ := s.sp i b q
          exact ⟨k1, k2, up b k3⟩
section
variable {X : Cx} {W : WX} {P : List Nat} {e : Expr} {pos pos' p1 : Pos} {C : Addr} {x f : Str} {j : Nat} {Fv : M L}
theorem ds_fld (hC : Cls X.K C) (hn : NoAttr X.K C f) (ho : PE X (.Name x p1) (tVar j)) (he : PE X e (tL X.K W P Fv)) (hs : swapsWith e (some (.Attribute (.Name x p1) f pos')) pos.line X.env = pure false) : PS X (.Assign [.Attribute (.Name x p1) f pos'] e pos) (tS X.K W P (sFldSet j C f Fv)) :=
  PS_weak (ps_fld ho he hs) fun E σ H ⟨fm, Hs, vs, r, vs', hF, hP, hS, hk⟩ => by
    dsimp only [sFld]
    refine goS hF hP hS hk fun l vs1 v H1 Hs1 xf hg S1 X1 rx => ?_
    split at hg
    · rename_i C' fs ls e0
      split at hg
      · rename_i hc
        obtain ⟨rfl, hf, hlen⟩ := hc
        cases hg
        obtain ⟨v', g, e1, r1⟩ := S1.slot e0
        cases r1 with
        | obj h1 h2 h3 =>
          refine ⟨_, e1, _, _, _, _, rfl, h1, hC, hn, ?_, ?_⟩
          · have := congrArg List.length h2
            rw [List.length_map] at this
            omega
          · rw [putF_new (by rw [h2]; exact hf)]
            exact hk.nx σ _ Hs1 rfl (fld_write S1 rx e0 e1 h1 h2) X1
      · cases hg
    · cases hg
end
end Ev
namespace Ev
open PySem PySem.Spec PyProof.Rows L2
open Evl (Ex)
section
variable {K : PySem.W.Frag} {fm : Fm} {Hs : Hp} {vs : VS} {σ : L2.St} {H : Hp} {xf : List Addr} {v : V} {l : L}
theorem Sim.push (S : Sim K fm Hs vs σ H xf) (r : LOk K Hs H v l xf) : Sim K fm Hs (vs ++ [some l]) (σ ++ [some v]) H [] := by
  obtain ⟨ft, s⟩ := S
  have hl := s.len
  refine ⟨fun i => if i = vs.length then xf else (if i < vs.length then ft i else []), ⟨s.sub, s.base, s.grow, s.new, by simp [s.len], fun i m e => ?_, fun i => ?_, fun i j b h1 h2 => ?_, fun i b h => ?_, by simp, fun _ _ _ q => by simp at q, fun _ q => by simp at q, fun p hp => ?_⟩⟩
  · by_cases q : i = vs.length
    · subst q
      rw [List.getElem?_append_right (Nat.le_refl _), Nat.sub_self] at e
      have e : some (some l) = some (some m) := e
      cases e
      rw [if_pos rfl]
      refine ⟨v, ?_, r⟩
      rw [hl, List.getElem?_append_right (Nat.le_refl _), Nat.sub_self]
      rfl
    · have hi : i < vs.length := by
        have := (List.getElem?_eq_some_iff.mp e).1
        rw [List.length_append] at this
        simp at this
        omega
      rw [List.getElem?_append_left hi] at e
      rw [if_neg q, if_pos hi, List.getElem?_append_left (by omega)]
      exact s.ok i m e
  · show List.Nodup (if _ then _ else _)
    split
    · exact s.xnd
    · split
      · exact s.nd i
      · simp
  · try dsimp only at h1 h2
    split at h1
    · rename_i z1
      split at h2
      · rename_i z2; rw [z1, z2]
      · split at h2
        · exact absurd h1 (s.xdj j b h2)
        · simp at h2
    · split at h1
      · split at h2
        · exact absurd h2 (s.xdj i b h1)
        · split at h2
          · exact s.dj i j b h1 h2
          · simp at h2
      · simp at h1
  · try dsimp only at h
    split at h
    · exact s.xsp b h
    · split at h
      · exact s.sp i b h
      · simp at h
  · have q := s.pins p hp
    rw [List.getElem?_append_left (List.getElem?_eq_some_iff.mp q).1]
    exact q
theorem Sim.pop (S : Sim K fm Hs (vs ++ [some l]) (σ ++ [some v]) H []) (hl : vs.length = σ.length) (hp : ∀ p ∈ fm.pin, σ[p.1]? = some (some p.2)) : ∃ xf, Sim K fm Hs vs σ H xf ∧ LOk K Hs H v l xf := by
  obtain ⟨ft, s⟩ := S
  have e0 : (vs ++ [some l])[vs.length]? = some (some l) := by rw [List.getElem?_append_right (Nat.le_refl _), Nat.sub_self]; rfl
  obtain ⟨v', e1, r⟩ := s.ok vs.length l e0
  rw [hl, List.getElem?_append_right (Nat.le_refl _), Nat.sub_self] at e1
  have e1 : some (some v) = some (some v') := e1
  cases e1
  refine ⟨ft vs.length, ⟨fun i => if i = vs.length then [] else ft i, ⟨s.sub, s.base, s.grow, s.new, hl, fun i m e => ?_, fun i => ?_, fun i j b h1 h2 => ?_, fun i b h => ?_, s.nd _, fun i b h q => ?_, fun b h => s.sp _ b h, hp⟩⟩, r⟩
  · have hi := (List.getElem?_eq_some_iff.mp e).1
    rw [if_neg (by omega)]
    obtain ⟨u, e2, r2⟩ := s.ok i m (by rw [List.getElem?_append_left hi]; exact e)
    rw [List.getElem?_append_left (by omega)] at e2
    exact ⟨u, e2, r2⟩
  · show List.Nodup (if _ then _ else _)
    split
    · simp
    · exact s.nd i
  · try dsimp only at h1 h2
    split at h1
    · simp at h1
    · split at h2
      · simp at h2
      · exact s.dj i j b h1 h2
  · try dsimp only at h
    split at h
    · simp at h
    · exact s.sp i b h
  · try dsimp only at h
    split at h
    · simp at h
    · rename_i z; exact z (s.dj i _ b h q)
theorem Sim.pop0 {o : Option L} (S : Sim K fm Hs (vs ++ [o]) (σ ++ [some v]) H []) (hl : vs.length = σ.length) (hp : ∀ p ∈ fm.pin, σ[p.1]? = some (some p.2)) : Sim K fm Hs vs σ H [] := by
  obtain ⟨ft, s⟩ := S
  refine ⟨ft, ⟨s.sub, s.base, s.grow, s.new, hl, fun i m e => ?_, s.nd, s.dj, s.sp, by simp, fun _ _ _ q => by simp at q, fun _ q => by simp at q, hp⟩⟩
  have hi := (List.getElem?_eq_some_iff.mp e).1
  obtain ⟨u, e2, r2⟩ := s.ok i m (by rw [List.getElem?_append_left hi]; exact e)
  rw [List.getElem?_append_left (by omega)] at e2
  exact ⟨u, e2, r2⟩
theorem Sim.other (S : Sim K fm Hs vs σ H xf) {p : Addr} (hp : H p = none) (o : HO) : Sim K fm Hs vs σ (upd H p o) xf := by
  obtain ⟨ft, s⟩ := S
  have ne : ∀ a, H a ≠ none → a ≠ p := fun a ha e => ha (by rw [e]; exact hp)
  refine ⟨ft, ⟨fun a u e => ?_, fun a u e => ?_, s.grow, s.new, s.len, fun i m e => ?_, s.nd, s.dj, fun i a ha => ?_, s.xnd, s.xdj, fun a ha => ?_, s.pins⟩⟩
  · rw [upd_ne (ne_of_none (s.sub a u e) hp)]; exact s.sub a u e
  · rw [upd_ne (ne_of_none (s.base a u e) hp)]; exact s.base a u e
  · obtain ⟨v, e1, r⟩ := s.ok i m e
    exact ⟨v, e1, r.mono (Ex.refl _) m fun a ha => upd_ne (ne a (s.sp i a ha).2.2)⟩
  · obtain ⟨h1, h2, h3⟩ := s.sp i a ha
    exact ⟨h1, h2, by rw [upd_ne (ne a h3)]; exact h3⟩
  · obtain ⟨h1, h2, h3⟩ := s.xsp a ha
    exact ⟨h1, h2, by rw [upd_ne (ne a h3)]; exact h3⟩
end
theorem argsOf_app {s : VS} {o : Option L} : ∀ {ks : List Pk} {ls : VS}, argsOf s ks = some ls → argsOf (s ++ [o]) ks = some ls ∧ hasSl s.length ks = false ∧ ∀ os, setO (s ++ [o]) ks os = setO s ks os ++ [o]
  | [], ls, h => ⟨h, rfl, fun os => by unfold setO; rfl⟩
  | .dat d :: ks, ls, h => by
    unfold argsOf at h ⊢
    cases q : argsOf s ks with
    | none => rw [q] at h; cases h
    | some r =>
      rw [q] at h
      obtain ⟨h1, h2, h3⟩ := argsOf_app (o := o) q
      refine ⟨by rw [h1]; exact h, h2, fun os => ?_⟩
      cases os with
      | nil => unfold setO; rfl
      | cons a os => unfold setO; exact h3 os
  | .sl j :: ks, ls, h => by
    unfold argsOf at h ⊢
    split at h
    · rename_i l e
      have hj := (List.getElem?_eq_some_iff.mp e).1
      cases q : argsOf s ks with
      | none => rw [q] at h; cases h
      | some r =>
        rw [q] at h
        obtain ⟨h1, h2, h3⟩ := argsOf_app (o := o) q
        refine ⟨?_, ?_, fun os => ?_⟩
        · rw [List.getElem?_append_left hj, e, h1]
          exact h
        · unfold hasSl
          rw [h2, decide_eq_false (by omega)]
          rfl
        · cases os with
          | nil => unfold setO; rfl
          | cons a os =>
            unfold setO
            rw [h3 os, List.set_append_left]
            rw [setO_len]; exact hj
    · cases h
def tMakeS (C : Addr) (sp : Sp) (E : L2.St → XK) (t : TA) : TE := fun σ H Q => t σ H fun vs H1 => ∀ x dx, H1 x = none → H1 dx = none → dx ≠ x →
  sp (.ref x :: vs) (upd (upd H1 dx (.own x)) x (.ins C dx [])) (fun v H2 => v = .non ∧ Q (.ref x) H2) (E σ)
section
variable {X : Cx} {W : WX} {P : List Nat} {e : Expr} {es : List Expr} {pos p : Pos} {k : Nat} {x : Str} {fn : Fn} {Fr : M (List Pk)} {C : Addr}
theorem run_makeS {CX : CXT} {f : Addr} {fd : FuncData} {ps : List Str} {sp : Sp} {E : L2.St → XK} {pins : List (Addr × Obj)} {σ : L2.St} {H : Hp} {s : Shared} {Q : VK} {us : List Value} {vs : List V} (M : Mk X.K C f) (F : FnOk X.prog X.w X.K X.mg X.base CX k f fd ps sp) (hr : Room (k + 1) X.A) (hb : Binds X.K fd ps [])
    (hx : PassesAt CX X σ (E σ)) (I : Inv X pins σ H s) (r : Vals vs us)
    (h : ∀ x dx, H x = none → H dx = none → dx ≠ x → sp (.ref x :: vs) (upd (upd H dx (.own x)) x (.ins C dx [])) (fun v H2 => v = .non ∧ Q (.ref x) H2) (E σ)) :
    wpAny (model X.prog X.w) X.A (call (.ref C) us) (EP X pins σ Q) X.xe s := by
  have hq := h (s.heap.objs.size + 1) s.heap.objs.size (I.hok.fresh (Nat.le_succ _)) (I.hok.fresh (Nat.le_refl _)) (Nat.ne_of_lt (Nat.lt_succ_self _))
  have I2 := Inv.made (C := C) I
  have r2 : Vals (V.ref (s.heap.objs.size + 1) :: vs) (Value.ref (s.heap.objs.size + 1) :: us) := .cons rfl r
  have hl : (Value.ref (s.heap.objs.size + 1) :: us).length = ps.length := by
    have e := r2.length
    rw [F.len _ _ _ _ hq] at e
    exact e.symm
  have b := hb _ (Value.ref (s.heap.objs.size + 1) :: us) I2.kIn (by rw [List.append_nil]; exact hl)
  rw [List.append_nil] at b
  refine wpAny_call (make_map (f := f) I.kIn M.makes M.init (beq_iff_eq.mp M.fn) (codeAny_mono (F.run _ X.stack _ _ ⟨Value.ref (s.heap.objs.size + 1) :: us, []⟩ (Value.ref (s.heap.objs.size + 1) :: us) _ _ (E σ) (hr.make C us [])
    (I2.env0.make C us []) b r2 hq) fun r s' hq' => ?_))
  cases r with
  | error e => exact hx pins _ _ e s' I2 hq'
  | ok fl =>
    cases fl with
    | ret u =>
      obtain ⟨v, H', I3, rv, ev, q3⟩ := I2.after hq'
      subst ev
      exact ⟨rv, ⟨V.ref (s.heap.objs.size + 1), H', I3, rfl, q3⟩⟩
    | next => exact False.elim hq'
    | brk => exact False.elim hq'
    | cont => exact False.elim hq'
theorem pe_makeS {CX : CXT} {f : Addr} {fd : FuncData} {ps : List Str} {sp : Sp} {E : L2.St → XK} {t : TA} (M : Mk X.K C f) (F : FnOk X.prog X.w X.K X.mg X.base CX k f fd ps sp) (hr : Room (k + 1) X.A) (hg : Gl X x) (hm : X.mg x = some (.ref C)) (hb : Binds X.K fd ps []) (hx : ∀ σ, PassesAt CX X σ (E σ))
    (ha : PA X (e :: es) t) (hdb : (x == ("__debug__" : Str)) = false) (he : starEach (e :: es) X.env = (false, eval e X.env) :: starEach es X.env) (hpl : (backTo pos (starEach es X.env)).any (·.1) = false) :
    PE X (.Call (.Name x p) (e :: es) [] pos) (tMakeS C sp E t) := by
  refine ⟨fun pins s σ H Q I h => ?_⟩
  refine wpAny_Call_Name_kw (ld_glob I hg hm ?_ hdb)
  refine PySem.W.callWith_K (h₀ := X.base) I.ok.mod.kin M.kp (thn (ha.run pos pins s σ H _ I h) fun us s1 ⟨vs, H1, I1, r, q⟩ => ⟨I1.kIn, ?_⟩) he hpl
  exact run_makeS M F hr hb (hx σ) I1 r q
@[irreducible] def makeF (C : Addr) (fn : Fn) (ks : List Pk) : M L := fun s => match argsOf s ks with
  | some ls => if slND ks = true ∧ ks.length + 1 = fn.n then (match fn.run (some (.obj C [] []) :: ls) with
    | some (.ok (.d .non), some l :: os) => some (.ok l, setO s ks os)
    | some (.error x, _ :: os) => some (.error x, setO s ks os)
    | _ => none) else none
  | none => none
def fMake (C : Addr) (fn : Fn) (Fr : M (List Pk)) : M L := bd Fr fun ks => makeF C fn ks
theorem dl_make (Mk : MkAt X.prog X.w X.K X.mg X.base k x C fn) (hr : Room (k + 1) X.A) (hg : Gl X x) (tk : Takes X W) (ha : PA X (e :: es) (tKs X.K W P Fr)) (hdb : (x == ("__debug__" : Str)) = false) (he : starEach (e :: es) X.env = (false, eval e X.env) :: starEach es X.env) (hpl : (backTo pos (starEach es X.env)).any (·.1) = false) :
    PE X (.Call (.Name x p) (e :: es) [] pos) (tL X.K W P (fMake C fn Fr)) := by
  obtain ⟨f, fd, ps, hm, hk, hb, F⟩ := Mk.ex
  refine PE_weak (pe_makeS hk F hr hg hm hb (fun σ => passAt tk σ) ha hdb he hpl) fun σ H Q ⟨fm, Hs, vs, r', vs', hF, hP, hS, hk, hE⟩ => ?_
  dsimp only [tMakeS]
  refine go hF hP hS hE fun ks vs1 us H1 Hs1 xf hg S1 X1 ⟨rx, ex⟩ => ?_
  subst ex
  intro xa dx hx hdx hne
  have hxd : upd H1 dx (.own xa) xa = none := by rw [upd_ne hne.symm]; exact hx
  have hl1 : vs1.length = σ.length := S1.leneq
  have hpin : ∀ p ∈ fm.pin, σ[p.1]? = some (some p.2) := (let ⟨ft, s⟩ := S1; s.pins)
  have S2 := ((S1.other hdx (.own xa)).allocX hxd (.ins C dx [])).push (v := .ref xa) (l := .obj C [] []) (.obj upd_same rfl .nil)
  unfold makeF at hg
  split at hg
  · rename_i ls ea
    split at hg
    · rename_i hc
      obtain ⟨a1, a2, a3⟩ := argsOf_app (o := some (.obj C [] [])) ea
      have ea2 : argsOf (vs1 ++ [some (.obj C [] [])]) (.sl vs1.length :: ks) = some (some (.obj C [] []) :: ls) := by
        unfold argsOf
        rw [List.getElem?_append_right (Nat.le_refl _), Nat.sub_self]
        show (argsOf (vs1 ++ [some (.obj C [] [])]) ks).map _ = _
        rw [a1]; rfl
      have nd2 : slND (.sl vs1.length :: ks) = true := by
        unfold slND
        rw [a2, hc.1]; rfl
      have hk2 : Paired (PkOk X.K Hs1 (σ ++ [some (.ref xa)])) (.ref xa :: us) (.sl vs1.length :: ks) := by
        refine .cons ?_ (Paired_imp rx fun u k q => ?_)
        · show (σ ++ [some (V.ref xa)])[vs1.length]? = some (some (V.ref xa))
          rw [hl1, List.getElem?_append_right (Nat.le_refl _), Nat.sub_self]; rfl
        · cases k with
          | dat d => exact q
          | sl j =>
            have q : σ[j]? = some (some u) := q
            show (σ ++ [some (V.ref xa)])[j]? = some (some u)
            rw [List.getElem?_append_left (List.getElem?_eq_some_iff.mp q).1]; exact q
      obtain ⟨B, S3, back⟩ := call_sim S2 hk2 ea2 nd2
      have hlen : (V.ref xa :: us).length = fn.n := by rw [List.length_cons, Paired_len rx]; exact hc.2
      split at hg
      · rename_i l os er
        cases hg
        refine ⟨hlen, B, Hs1, _, _, _, er, S3, fun l' v H' Hs' xf q hl' S' o => ?_, fun _ _ _ _ _ q => (by cases q)⟩
        cases q
        cases o with
        | d o =>
          cases o
          refine ⟨rfl, ?_⟩
          obtain ⟨S4, X4⟩ := back Hs' H' _ [] hl' S'
          unfold setO at S4
          rw [a3 os, List.set_append_right _ _ (by rw [setO_len]; exact Nat.le_refl _), setO_len, Nat.sub_self] at S4
          obtain ⟨xf, S5, r5⟩ := Sim.pop (vs := setO vs1 ks os) (l := l) (v := .ref xa) S4 (by rw [setO_len]; exact hl1) hpin
          exact hk l _ H' Hs' xf rfl S5 (X1.trans X4) r5
      · rename_i z o os er
        cases hg
        refine ⟨hlen, B, Hs1, _, _, _, er, S3, fun _ _ _ _ _ q => (by cases q), fun x' c dd H' Hs' q hl' S' o' => ?_⟩
        cases q
        obtain ⟨S4, X4⟩ := back Hs' H' _ [] hl' S'
        unfold setO at S4
        rw [a3 os, List.set_append_right _ _ (by rw [setO_len]; exact Nat.le_refl _), setO_len, Nat.sub_self] at S4
        have S5 := Sim.pop0 (vs := setO vs1 ks os) (v := .ref xa) S4 (by rw [setO_len]; exact hl1) hpin
        exact hE _ c dd H' Hs' rfl S5 (X1.trans X4) o'
      · cases hg
    · cases hg
  · cases hg
end
end Ev
namespace Ev
open PySem PySem.Spec PyProof.Rows L2
open Evl (Ex)
section
variable {P : Program} {w : World} {K : PySem.W.Frag} {mg : Str → Option Value} {base : Heap} {j k : Nat} {x m : Str} {fn : Fn} {C : Addr}
theorem FnAt.mono (F : FnAt P w K mg base j x fn) (h : j ≤ k) : FnAt P w K mg base k x fn := let ⟨f, fd, ps, a, b, c, d⟩ := F.ex; ⟨⟨f, fd, ps, a, b, c, d.mono h⟩⟩
theorem MtAt.mono (F : MtAt P w K mg base j C m fn) (h : j ≤ k) : MtAt P w K mg base k C m fn := let ⟨f, fd, ps, a, b, c⟩ := F.ex; ⟨F.cls, ⟨f, fd, ps, a, b, c.mono h⟩⟩
theorem MkAt.mono (F : MkAt P w K mg base j x C fn) (h : j ≤ k) : MkAt P w K mg base k x C fn := let ⟨f, fd, ps, a, b, c, d⟩ := F.ex; ⟨⟨f, fd, ps, a, b, c, d.mono h⟩⟩
end
def GInt (mg : Str → Option Value) (x : Str) (i : Int) : Prop := ∃ t, mg x = some (.int i t)
def GStr (mg : Str → Option Value) (x : Str) (z : Str) : Prop := ∃ t, mg x = some (.str z t)
section
variable {X : Cx} {W : WX} {P : List Nat} {e a b c o : Expr} {es : List Expr} {pos apos p : Pos} {k : Nat} {x m : Str} {fn : Fn} {C : Addr} {Fa Fb Fc Fo : M Pk} {F G : M D} {FL : M L} {Fr : M (List Pk)}
theorem de_gint {i : Int} (g : GInt X.mg x i) (hg : Gl X x := by rfl) (hd : (x == ("__debug__" : Str)) = false := by decide) : PE X (.Name x pos) (tE X.K W P (rt (.int i))) := by
  obtain ⟨t, h⟩ := g
  exact de_const (pe_glob (v := .int i) hg h ⟨_, rfl⟩ hd) fun _ => .int i
theorem de_gstr {z : Str} (g : GStr X.mg x z) (hg : Gl X x := by rfl) (hd : (x == ("__debug__" : Str)) = false := by decide) : PE X (.Name x pos) (tE X.K W P (rt (.str z))) := by
  obtain ⟨t, h⟩ := g
  exact de_const (pe_glob (v := .str z) hg h ⟨_, rfl⟩ hd) fun _ => .str z
def sNever : M Fl := fun _ => none
theorem ds_never {st : Stmt} : PS X st (tS X.K W P sNever) := PS_weak ps_never fun E σ H ⟨fm, Hs, vs, r, vs', hF, hP, hS, hk⟩ => by cases hF
def tyD : D → Option String
  | .non => some "NoneType"
  | .bl _ => some "bool"
  | .int _ => some "int"
  | .str _ => some "str"
  | .tup _ => some "tuple"
  | .lst _ => some "list"
  | .dic _ _ => some "dict"
  | _ => none
def kitD (a b : String) : Option Bool := match b with
  | "bool" => some (a == "bool")
  | "int" => some (a == "int" || a == "bool")
  | "str" => some (a == "str")
  | "dict" => some (a == "dict")
  | "tuple" => some (a == "tuple")
  | "list" => some (a == "list")
  | _ => none
theorem kitD_ok {d : D} {a b : String} {r : Bool} (h1 : tyD d = some a) (h : kitD a b = some r) : kitB a b = some r := by
  have ha : a ∈ ["NoneType", "bool", "int", "str", "tuple", "list", "dict"] := by
    unfold tyD at h1
    split at h1 <;> first | (cases h1; decide) | cases h1
  have hb : b ∈ ["bool", "int", "str", "dict", "tuple", "list"] := by
    unfold kitD at h
    split at h <;> first | decide | cases h
  have key : ∀ a ∈ ["NoneType", "bool", "int", "str", "tuple", "list", "dict"], ∀ b ∈ ["bool", "int", "str", "dict", "tuple", "list"], kitB a b = kitD a b := by decide +kernel
  rw [key a ha b hb]
  exact h
theorem tyD_ok {K : PySem.W.Frag} {Hs H : Hp} {v : V} {d : D} {a : String} (e : Ex Hs H) (h : Rep1 K Hs H v d) (ht : tyD d = some a) : TyX K H v (.type a) := by
  cases d with
  | non => cases ht; rw [h.isNon]; exact .base .non
  | bl b => cases ht; rw [h.isBl]; exact .base (.bl b)
  | int i => cases ht; rw [h.isInt]; exact .base (.int i)
  | str z => cases ht; rw [h.isStr]; exact .base (.str z)
  | tup xs => cases ht; obtain ⟨a, vs, rfl, ha, _⟩ := h.isTup e; exact .base (.tup ha)
  | lst xs => cases ht; obtain ⟨a, vs, rfl, ha, _⟩ := h.isLst e; exact .base (.lst ha)
  | dic ks ds => cases ht; obtain ⟨a, kvs, rfl, ha, _⟩ := h.isDic e; exact .base (.dK ha)
  | scr _ => cases ht
  | ins _ _ _ => cases ht
def dIsi (T : String) (d : D) : Option Bool := match tyD d with
  | some a => kitD a T
  | none => none
def fIsi (T : String) (Fa : M Pk) : M D := bd Fa fun k s => match res s k with
  | some d => (match dIsi T d with
    | some b => some (.ok (.bl b), s)
    | none => none)
  | none => none
theorem de_isi {T : String} {y : Str} {p2 : Pos} (hm : X.mg "isinstance" = none) (hy : X.mg y = none) (hv : bootBuiltins y = some (.type T)) (ha : PE X a (tK X.K W P Fa)) (hg : Gl X "isinstance" := by rfl) (hgy : Gl X y := by rfl) (hn : y ≠ "__name__" := by decide) (hdb : (y == ("__debug__" : Str)) = false := by decide)
    (h1 : starEach [a, .Name y p2] X.env = (false, eval a X.env) :: starEach [.Name y p2] X.env := by rfl) (h2 : (backTo pos (starEach [.Name y p2] X.env)).any (·.1) = false := by rfl) :
    PE X (.Call (.Name "isinstance" p) [a, .Name y p2] [] pos) (tE X.K W P (fIsi T Fa)) :=
  PE_weak (pe_callB call_isi hg hm boot_isinstance (pa_cons ha (pa_cons (pe_bltn hgy hy hv (v := .ty T) rfl hn hdb) pa_nil rfl) h1) (by decide) (by decide) h1 h2) fun σ H Q ⟨fm, Hs, vs, r', vs', hF, hP, hS, hk, hE⟩ => by
    dsimp only [tCB, tCons, tNil, tC]
    refine go hF hP hS hE fun ka vs1 v H1 Hs1 xf hg S1 X1 ⟨rx, ex⟩ => ?_
    subst ex
    split at hg
    · rename_i d ed
      split at hg
      · rename_i b eb
        cases hg
        unfold dIsi at eb
        split at eb
        · rename_i a' ea
          have r1 := S1.res rx (Ex.refl _) ed
          exact ⟨v, .ty T, .type a', .type T, b, rfl, .ty T, tyD_ok S1.sub r1 ea, kit_ty (kitD_ok ea eb), hk _ _ H1 Hs1 [] rfl S1 X1 ⟨.bl b, rfl⟩⟩
        · cases eb
      · cases hg
    · cases hg
structure Tab (K : PySem.W.Frag) (w : World) (mg : Str → Option Value) (x : Str) (t : List (Str × Int)) : Prop where
  ex : ∃ d es n, mg x = some (.ref d) ∧ KDict K w d es n ∧ ∀ z : Str, ∃ r, PySem.W.nsIn K d z = some r ∧ (match t.lookup z with
    | some i => ∃ tk, r = some (.int i tk)
    | none => r = none)
def dTab (t : List (Str × Int)) : D → D → Option D
  | .str z, d => some (match t.lookup z with
    | some i => .int i
    | none => d)
  | _, _ => none
def fTab (t : List (Str × Int)) (F G : M D) : M D := bd F fun z => bd G fun d s => match dTab t z d with
  | some r => some (.ok r, s)
  | none => none
theorem de_tab {t : List (Str × Int)} {f : Expr} (T : Tab X.K X.w X.mg x t) (he : PE X e (tE X.K W P F)) (hf : PE X f (tE X.K W P G)) (m : M2 X (.Name x p) "get" apos e f pos) (hg : Gl X x := by rfl) (hd : (x == ("__debug__" : Str)) = false := by decide) :
    PE X (.Call (.Attribute (.Name x p) "get" apos) [e, f] [] pos) (tE X.K W P (fTab t F G)) := by
  obtain ⟨d, es, n, hm, D, hz⟩ := T.ex
  refine ⟨fun pins s σ H Q I h => ?_⟩
  have hx : PE X (.Name x p) (tC (.ref d)) := pe_glob hg hm rfl hd
  refine wpAny_Call_method m.base m.few m.line PySem.F.plainAttrs_dict PySem.F.slot_dict_get PySem.F.type_dict_get (thn (hx.run pins s σ H (fun x H1 => x = .ref d ∧ H1 = H) I ⟨rfl, rfl⟩) fun u s1 ⟨y, H1, I1, ry, ey, eH⟩ => ?_)
  subst ey; subst eH
  obtain rfl : u = Value.ref d := ry
  refine ⟨kd_type D I1, fun b q => ?_, ?_⟩
  · cases q
    exact ⟨_, I1.kIn _ _ D.at_, rfl⟩
  rw [m.trees]
  obtain ⟨fm, Hs, vs, r', vs', hF, hP, hS, hk, hE⟩ := h
  have q1 : tE X.K W P F σ H1 (fun zv H2 => tE X.K W P G σ H2 fun dv H3 => ∃ z, zv = .str z ∧ Q (match t.lookup z with
    | some i => .int i
    | none => dv) H3) := by
    refine go hF hP hS hE fun zd vs1 v H2 Hs1 xf hg S1 X1 ⟨rx, ex⟩ => ?_
    subst ex
    refine go hg hP S1 (fun x c dd H' Hs' q S' X' o => hE x c dd H' Hs' q S' (X1.trans X') o) fun dd vs2 y H3 Hs2 xf hg S2 X2 ⟨ry, ex⟩ => ?_
    subst ex
    split at hg
    · rename_i r er
      cases hg
      unfold dTab at er
      split at er
      · cases rx
        cases er
        refine ⟨_, rfl, hk _ _ H3 Hs2 [] rfl S2 (X1.trans X2) ⟨?_, rfl⟩⟩
        split
        · exact .int _
        · exact ry
      · cases er
    · cases hg
  refine Calls.callWith_builtin rfl (Calls.evalArgs_plain (Calls.spliced_cons (thn (he.run pins s1 σ H1 _ I1 q1) fun iv s2 ⟨y, H2, I2, ry, q2⟩ =>
    Calls.spliced_cons (thn (hf.run pins s2 σ H2 _ I2 q2) fun fv s3 ⟨z, H3, I3, rz, zz, ez, q3⟩ => Calls.spliced_nil ?_))))
  subst ez
  obtain ⟨tk, rfl⟩ := ry
  obtain ⟨r, er, hr⟩ := hz zz
  refine call_meetsIn PySem.F.slot_dict_get (kd_type D I3) PySem.F.entry_dict_get (PySem.F.args_dict_get_3 _ _ _) (meets_dict_get_default (strKind X.prog X.w) d (PySem.strKind_is X.prog X.w zz tk) D.low fv) ⟨_, PySem.W.mapOf_K (prog := X.prog) I3.kIn D.at_ D.lit, ?_⟩
  rw [PySem.W.find_K D.at_ er]
  cases q : t.lookup zz with
  | none =>
    rw [q] at hr q3
    have hr : r = none := hr
    subst hr
    exact ⟨z, H3, I3.tok _, rz, q3⟩
  | some i =>
    rw [q] at hr q3
    obtain ⟨tk2, hr⟩ := (show ∃ tk, r = some (.int i tk) from hr)
    subst hr
    exact ⟨.int i, H3, I3.tok _, ⟨_, rfl⟩, q3⟩
theorem g_set {i : Nat} {pos' : Pos} (hp : i ∉ P) (hN : X.N.Nodup) (he : PE X e (tL X.K W P FL)) (hi : X.N[i]? = some x := by rfl) (hx : Loc X.env.scope x := by first | exact .inl rfl | exact .inr rfl) (hs : swapsWith e (some (.Name x pos')) pos.line X.env = pure false := by rfl) (hf : X.fn x = true ∨ X.env.scope.names.lookup x = some .local := by first | exact .inl rfl | exact .inr rfl) :
    PS X (.Assign [.Name x pos'] e pos) (tS X.K W P (sSet i FL)) := ds_set hp hN hi hx he hs hf
theorem g_name {i : Nat} (hp : i ∉ P) (hN : X.N.Nodup) (hi : X.N[i]? = some x := by rfl) (hx : Loc X.env.scope x := by first | exact .inl rfl | exact .inr rfl) (hf : X.fn x = true ∨ X.env.scope.names.lookup x = some .local := by first | exact .inl rfl | exact .inr rfl) : PG X (.Name x pos) (tG X.K P (.nm i)) := dg_name hp hN hi hx hf
theorem g_append {i : Nat} {Fd : M D} (ha : PE X e (tE X.K W P Fd)) (ho : PE X (.Name x p) (tVar i)) (hbase : attributeBase (.Name x p) "append" X.env (eval (.Name x p) X.env) = eval (.Name x p) X.env := by rfl)
    (hfew : ((backTo pos (starEach [e] X.env)).all (fun x => !x.1) && (backToKw pos (keywordEach [] X.env)).all (fun x => x.1.isSome) && decide (([e] : List Expr).length + ([] : List Keyword).length + (if ([] : List Keyword).isEmpty then 0 else 1) < 30)) = true := by rfl)
    (hline : (apos.endLine == pos.line) = true := by rfl) (hs : starEach [e] X.env = (false, eval e X.env) :: starEach [] X.env := by rfl) (hplain : (backTo pos (starEach [] X.env)).any (·.1) = false := by rfl) :
    PE X (.Call (.Attribute (.Name x p) "append" apos) [e] [] pos) (tE X.K W P (fW i gAppend (aCons Fd aNil))) :=
  PE_weak (pe_bm PySem.F.plainAttrs_list PySem.F.slot_list_append PySem.F.type_list_append mt_append ho (das_cons ha das_nil hs) hbase hfew hline hs hplain) (re_fW ow_append)
theorem g_pop1 {i : Nat} {Fd : M D} (ha : PE X e (tE X.K W P Fd)) (ho : PE X (.Name x p) (tVar i)) (hbase : attributeBase (.Name x p) "pop" X.env (eval (.Name x p) X.env) = eval (.Name x p) X.env := by rfl)
    (hfew : ((backTo pos (starEach [e] X.env)).all (fun x => !x.1) && (backToKw pos (keywordEach [] X.env)).all (fun x => x.1.isSome) && decide (([e] : List Expr).length + ([] : List Keyword).length + (if ([] : List Keyword).isEmpty then 0 else 1) < 30)) = true := by rfl)
    (hline : (apos.endLine == pos.line) = true := by rfl) (hs : starEach [e] X.env = (false, eval e X.env) :: starEach [] X.env := by rfl) (hplain : (backTo pos (starEach [] X.env)).any (·.1) = false := by rfl) :
    PE X (.Call (.Attribute (.Name x p) "pop" apos) [e] [] pos) (tE X.K W P (fW i gPop (aCons Fd aNil))) :=
  PE_weak (pe_bm PySem.F.plainAttrs_list PySem.F.slot_list_pop PySem.F.type_list_pop (MtR.or mt_pop mt_popAt) ho (das_cons ha das_nil hs) hbase hfew hline hs hplain) (re_fW ow_pop)
theorem g_pop0 {i : Nat} (ho : PE X (.Name x p) (tVar i)) (hbase : attributeBase (.Name x p) "pop" X.env (eval (.Name x p) X.env) = eval (.Name x p) X.env := by rfl) (hline : (apos.endLine == pos.line) = true := by rfl) :
    PE X (.Call (.Attribute (.Name x p) "pop" apos) [] [] pos) (tE X.K W P (fW i gPop aNil)) :=
  PE_weak (pe_bm0 PySem.F.plainAttrs_list PySem.F.slot_list_pop PySem.F.type_list_pop (MtR.or mt_pop mt_popAt) ho hbase hline) (re_fW0 ow_pop)
theorem g_clear {i : Nat} (ho : PE X (.Name x p) (tVar i)) (hbase : attributeBase (.Name x p) "clear" X.env (eval (.Name x p) X.env) = eval (.Name x p) X.env := by rfl) (hline : (apos.endLine == pos.line) = true := by rfl) :
    PE X (.Call (.Attribute (.Name x p) "clear" apos) [] [] pos) (tE X.K W P (fW i gClear aNil)) :=
  PE_weak (pe_bm0 PySem.F.plainAttrs_list PySem.F.slot_list_clear PySem.F.type_list_clear mt_clear ho hbase hline) (re_fW0 ow_clear)
theorem g_index (ho : PE X o (tK X.K W P Fo)) (ha : PA X [e] (tKs X.K W P Fr)) (hbase : attributeBase o "index" X.env (eval o X.env) = eval o X.env := by rfl)
    (hfew : ((backTo pos (starEach [e] X.env)).all (fun x => !x.1) && (backToKw pos (keywordEach [] X.env)).all (fun x => x.1.isSome) && decide (([e] : List Expr).length + ([] : List Keyword).length + (if ([] : List Keyword).isEmpty then 0 else 1) < 30)) = true := by rfl)
    (hline : (apos.endLine == pos.line) = true := by rfl) (hs : starEach [e] X.env = (false, eval e X.env) :: starEach [] X.env := by rfl) (hplain : (backTo pos (starEach [] X.env)).any (·.1) = false := by rfl) :
    PE X (.Call (.Attribute o "index" apos) [e] [] pos) (tL X.K W P (fM "list" dIndex Fo Fr)) :=
  PE_weak (pe_bm PySem.F.plainAttrs_list PySem.F.slot_list_index PySem.F.type_list_index mt_index ho ha hbase hfew hline hs hplain) (re_fM ok_index)
end
end Ev
namespace Ev
open PySem PySem.Spec PyProof.Rows L2
open Evl (Ex)
structure FunG (K : PySem.W.Frag) (mg : Str → Option Value) (x : Str) (ps : List Str) (st : Stmt) : Prop where
  ex : ∃ f fd, mg x = some (.ref f) ∧ PySem.W.keepIn K (.ref f) = true ∧ Binds K fd ps [] ∧ Fun K x x st f fd
structure FunM (K : PySem.W.Frag) (C : Addr) (m qual : Str) (ps : List Str) (st : Stmt) : Prop where
  ex : ∃ f fd, Meth K C m f ∧ Binds K fd ps [] ∧ Fun K m qual st f fd
structure FunI (K : PySem.W.Frag) (mg : Str → Option Value) (x : Str) (C : Addr) (qual : Str) (ps : List Str) (st : Stmt) : Prop where
  ex : ∃ f fd, mg x = some (.ref C) ∧ Mk K C f ∧ Binds K fd ps [] ∧ Fun K "__init__" qual st f fd
def mkFn (n nn : Nat) (io : List Nat) (F : M Fl) : Fn := ⟨n, io, mkRun n nn io F⟩
abbrev BodyOk (P : Program) (w : World) (K : PySem.W.Frag) (mg : Str → Option Value) (base : Heap) (N : List Str) (qual : Str) (st : Stmt) (k : Nat) (io : List Nat) (F : M Fl) : Prop :=
  ∀ (f : Addr) (cdv : Value) (A : Around) (outer : List Env) (s : Shared) (H : Hp) (E : XK), Room k (A.deeper (envOfC qual (defScope st) s.heap.objs.size f cdv)) →
      PSs (cxOf (L2.CX P w) P w K mg base N qual (defScope st) f cdv A outer s H E) (defBody st) (tS K (fun c dd _ H => E c dd H) io F)
section
variable {P : Program} {w : World} {K : PySem.W.Frag} {mg : Str → Option Value} {base : Heap} {x qual m : Str} {st : Stmt} {N ps : List Str} {k : Nat} {io : List Nat} {F : M Fl} {C : Addr}
theorem fn_at (G : FunG K mg x ps st) (S : FnScope N ps (defScope st)) (hio : ∀ i ∈ io, i < ps.length) (hB : BodyOk P w K mg base N x st k io F) : FnAt P w K mg base (k + 1) x (mkFn ps.length N.length io F) := by
  obtain ⟨f, fd, h1, h2, h3, h4⟩ := G.ex
  exact ⟨⟨f, fd, ps, h1, h2, h3, fn_ok h4 S hio (hB f)⟩⟩
theorem mt_at (c : Cls K C) (G : FunM K C m qual ps st) (S : FnScope N ps (defScope st)) (hio : ∀ i ∈ io, i < ps.length) (hB : BodyOk P w K mg base N qual st k io F) : MtAt P w K mg base (k + 1) C m (mkFn ps.length N.length io F) := by
  obtain ⟨f, fd, h1, h3, h4⟩ := G.ex
  exact ⟨c, ⟨f, fd, ps, h1, h3, fn_ok h4 S hio (hB f)⟩⟩
theorem mk_at (G : FunI K mg x C qual ps st) (S : FnScope N ps (defScope st)) (hio : ∀ i ∈ io, i < ps.length) (hB : BodyOk P w K mg base N qual st k io F) : MkAt P w K mg base (k + 1) x C (mkFn ps.length N.length io F) := by
  obtain ⟨f, fd, h1, h2, h3, h4⟩ := G.ex
  exact ⟨⟨f, fd, ps, h1, h2, h3, fn_ok h4 S hio (hB f)⟩⟩
end
section
variable {X : Cx} {W : WX} {P : List Nat} {e a b c o : Expr} {es : List Expr} {pos apos p : Pos} {k : Nat} {x m : Str} {fn : Fn} {C : Addr} {Fa Fb Fc Fo : M Pk} {F G : M D} {FL : M L} {Fr : M (List Pk)}
theorem dss_never {sts : List Stmt} : PSs X sts (tS X.K W P sNever) := ⟨fun pins s σ H E I ⟨fm, Hs, vs, r, vs', hF, hP, hS, hk⟩ => by cases hF⟩
theorem g_callB {id : String} {r : List V → Hp → VK → Prop} {f : List D → Option L} (hc : CallR X (.builtin id) r) (hr : OpN X.K r f) (hv : bootBuiltins x = some (.builtin id)) (hm : X.mg x = none) (ha : PA X (e :: es) (tKs X.K W P Fr)) (hg : Gl X x := by rfl)
    (hn : x ≠ "__name__" := by decide) (hdb : (x == ("__debug__" : Str)) = false := by decide) (he : starEach (e :: es) X.env = (false, eval e X.env) :: starEach es X.env := by rfl) (hpl : (backTo pos (starEach es X.env)).any (·.1) = false := by rfl) :
    PE X (.Call (.Name x p) (e :: es) [] pos) (tL X.K W P (fN f Fr)) := dl_callB hc hr hg hm hv ha hn hdb he hpl
theorem g_callT {T : String} {r : List V → Hp → VK → Prop} {f : List D → Option L} (hc : CallR X (.type T) r) (hr : OpN X.K r f) (hv : bootBuiltins x = some (.type T)) (hm : X.mg x = none) (ha : PA X (e :: es) (tKs X.K W P Fr)) (hg : Gl X x := by rfl)
    (hn : x ≠ "__name__" := by decide) (hdb : (x == ("__debug__" : Str)) = false := by decide) (he : starEach (e :: es) X.env = (false, eval e X.env) :: starEach es X.env := by rfl) (hpl : (backTo pos (starEach es X.env)).any (·.1) = false := by rfl) :
    PE X (.Call (.Name x p) (e :: es) [] pos) (tL X.K W P (fN f Fr)) := dl_callT hc hr hg hm hv ha hn hdb he hpl
theorem g_call (Fk : FnAt X.prog X.w X.K X.mg X.base k x fn) (hr : Room k X.A) (tk : Takes X W) (ha : PA X (e :: es) (tKs X.K W P Fr)) (hg : Gl X x := by rfl) (hdb : (x == ("__debug__" : Str)) = false := by decide) (he : starEach (e :: es) X.env = (false, eval e X.env) :: starEach es X.env := by rfl) (hpl : (backTo pos (starEach es X.env)).any (·.1) = false := by rfl) :
    PE X (.Call (.Name x p) (e :: es) [] pos) (tL X.K W P (fCall fn Fr)) := dl_call Fk hr hg tk ha hdb he hpl
theorem g_make (Mk : MkAt X.prog X.w X.K X.mg X.base k x C fn) (hr : Room (k + 1) X.A) (tk : Takes X W) (ha : PA X (e :: es) (tKs X.K W P Fr)) (hg : Gl X x := by rfl) (hdb : (x == ("__debug__" : Str)) = false := by decide) (he : starEach (e :: es) X.env = (false, eval e X.env) :: starEach es X.env := by rfl) (hpl : (backTo pos (starEach es X.env)).any (·.1) = false := by rfl) :
    PE X (.Call (.Name x p) (e :: es) [] pos) (tL X.K W P (fMake C fn Fr)) := dl_make Mk hr hg tk ha hdb he hpl
theorem g_meth (Mk : MtAt X.prog X.w X.K X.mg X.base k C m fn) (hr : Room k X.A) (tk : Takes X W) (ho : PE X o (tK X.K W P Fo)) (ha : PA X (e :: es) (tKs X.K W P Fr)) (he : starEach (e :: es) X.env = (false, eval e X.env) :: starEach es X.env := by rfl) (hpl : (backTo pos (starEach es X.env)).any (·.1) = false := by rfl)
    (hbase : attributeBase o m X.env (eval o X.env) = eval o X.env := by rfl) (hf : methodCallForm (e :: es).length (backTo pos (starEach (e :: es) X.env)) (backToKw pos (keywordEach [] X.env)) = true := by rfl) (hl : (apos.endLine == pos.line) = true := by rfl) :
    PE X (.Call (.Attribute o m apos) (e :: es) [] pos) (tL X.K W P (fMeth C m fn Fo Fr)) := dl_meth Mk hr tk ho ha he hpl hbase hf hl
theorem g_meth0 (Mk : MtAt X.prog X.w X.K X.mg X.base k C m fn) (hr : Room k X.A) (tk : Takes X W) (ho : PE X o (tK X.K W P Fo))
    (hbase : attributeBase o m X.env (eval o X.env) = eval o X.env := by rfl) (hf : methodCallForm ([] : List Expr).length (backTo pos (starEach [] X.env)) (backToKw pos (keywordEach [] X.env)) = true := by rfl) (hl : (apos.endLine == pos.line) = true := by rfl) :
    PE X (.Call (.Attribute o m apos) [] [] pos) (tL X.K W P (fMeth C m fn Fo kNil)) := dl_meth0 Mk hr tk ho hbase hf hl
theorem g_fld {f : Str} (hC : Cls X.K C) (hn : NoAttr X.K C f) (ho : PE X o (tK X.K W P Fo)) (hb : attributeBase o f X.env (eval o X.env) = eval o X.env := by rfl) : PE X (.Attribute o f pos) (tE X.K W P (fFld C f Fo)) := de_fld hC hn ho hb
theorem g_tab {t : List (Str × Int)} {f : Expr} (T : Tab X.K X.w X.mg x t) (he : PE X e (tE X.K W P F)) (hf : PE X f (tE X.K W P G)) (h1 : attributeBase (.Name x p) "get" X.env (eval (.Name x p) X.env) = eval (.Name x p) X.env := by rfl)
    (h2 : ((backTo pos (starEach [e, f] X.env)).all (fun x => !x.1) && (backToKw pos (keywordEach [] X.env)).all (fun x => x.1.isSome) && decide (([e, f] : List Expr).length + ([] : List Keyword).length + (if ([] : List Keyword).isEmpty then 0 else 1) < 30)) = true := by rfl)
    (h3 : (apos.endLine == pos.line) = true := by rfl) (h4 : backTo pos (starEach [e, f] X.env) = [(false, eval e X.env), (false, eval f X.env)] := by rfl) (hg : Gl X x := by rfl) (hd : (x == ("__debug__" : Str)) = false := by decide) :
    PE X (.Call (.Attribute (.Name x p) "get" apos) [e, f] [] pos) (tE X.K W P (fTab t F G)) := de_tab T he hf ⟨h1, h2, h3, h4⟩ hg hd
theorem g_ix {r : R2} {f : D → D → Option L} (ho : IxR X r) (hr : Op2 X.K r f) (ha : PE X a (tK X.K W P Fa)) (hb : PE X b (tK X.K W P Fb)) (hs : PlainIx b := by exact fun _ _ => rfl) : PE X (.Subscript a b pos) (tL X.K W P (f2 f Fa Fb)) := dl_ix ho hr ha hb hs
theorem gt_cmp {op : CmpOp} {r : R2} {f : D → D → Option Bool} (ho : OpR X (compareOp op) r) (hr : Cm2 X.K r f) (ha : PE X a (tK X.K W P Fa)) (hb : PE X b (tK X.K W P Fb)) (hm : behindInMarks op b = false := by rfl) : PT X (.Compare a [op] [b] pos) (tB X.K W P (c2 f Fa Fb)) := dt_cmp ho hr ha hb hm
theorem ge_cmp {op : CmpOp} {r : R2} {f : D → D → Option Bool} (ho : OpR X (compareOp op) r) (hr : Cm2 X.K r f) (ha : PE X a (tK X.K W P Fa)) (hb : PE X b (tK X.K W P Fb)) (hm : behindInMarks op b = false := by rfl) : PE X (.Compare a [op] [b] pos) (tE X.K W P (fBl (c2 f Fa Fb))) := de_cmp ho hr ha hb hm
theorem gt_chain {op op' : CmpOp} {r r' : R2} {f f' : D → D → Option Bool} (ho : OpR X (compareOp op) r) (ho' : OpR X (compareOp op') r') (hr : Cm2 X.K r f) (hr' : Cm2 X.K r' f') (ha : PE X a (tK X.K W P Fa)) (hb : PE X b (tK X.K W P Fb)) (hc : PE X c (tK X.K W P Fc)) (hm : lastMarks [op, op'] [b, c] = false := by rfl) :
    PT X (.Compare a [op, op'] [b, c] pos) (tB X.K W P (c3 f f' Fa Fb Fc)) := dt_chain ho ho' hr hr' ha hb hc hm
theorem ge_chain {op op' : CmpOp} {r r' : R2} {f f' : D → D → Option Bool} (ho : OpR X (compareOp op) r) (ho' : OpR X (compareOp op') r') (hr : Cm2 X.K r f) (hr' : Cm2 X.K r' f') (ha : PE X a (tK X.K W P Fa)) (hb : PE X b (tK X.K W P Fb)) (hc : PE X c (tK X.K W P Fc)) (hm : lastMarks [op, op'] [b, c] = false := by rfl) :
    PE X (.Compare a [op, op'] [b, c] pos) (tE X.K W P (fBl (c3 f f' Fa Fb Fc))) := de_chain ho ho' hr hr' ha hb hc hm
theorem gk_cons (ha : PE X a (tK X.K W P Fa)) (hr : PA X es (tKs X.K W P Fr)) (hs : starEach (a :: es) X.env = (false, eval a X.env) :: starEach es X.env := by rfl) : PA X (a :: es) (tKs X.K W P (kCons Fa Fr)) := dks_cons ha hr hs
theorem ga_cons {Fs : M (List D)} (ha : PE X a (tE X.K W P F)) (hr : PA X es (tAs X.K W P Fs)) (hs : starEach (a :: es) X.env = (false, eval a X.env) :: starEach es X.env := by rfl) : PA X (a :: es) (tAs X.K W P (aCons F Fs)) := das_cons ha hr hs
theorem gt_val (h : PE X e (tE X.K W P F)) (he : ∀ whole, isTrue e X.env whole = (do let v ← whole; standAt e.pos; holding [v] (truthy v)) := by intro _; rfl) : PT X e (tB X.K W P (fTest F)) := dt_val h he
theorem gi_rng1 {tg : Expr} (hm : X.mg "range" = none) (h : PE X a (tE X.K W P F)) (hg : Gl X "range" := by rfl) (hs : starEach [a] X.env = [(false, eval a X.env)] := by rfl) : PI X tg (.Call (.Name "range" p) [a] [] pos) (tI X.K W P (iRng1F F)) := di_rng1 hg hm h hs
theorem gi_rng2 {tg : Expr} (hm : X.mg "range" = none) (h : PE X a (tE X.K W P F)) (h2 : PE X b (tE X.K W P G)) (hg : Gl X "range" := by rfl) (hs : starEach [a, b] X.env = [(false, eval a X.env), (false, eval b X.env)] := by rfl) (hs2 : starEach [b] X.env = [(false, eval b X.env)] := by rfl) : PI X tg (.Call (.Name "range" p) [a, b] [] pos) (tI X.K W P (iRng2F F G)) := di_rng2 hg hm h h2 hs hs2
theorem g_listRg {p2 pos2 : Pos} (hm : X.mg "list" = none) (hm2 : X.mg "range" = none) (ha : PE X a (tE X.K W P F)) (hc : X.calm = true := by rfl) (hg : Gl X "list" := by rfl) (hg2 : Gl X "range" := by rfl) (na : starEach [a] X.env = (false, eval a X.env) :: starEach [] X.env := by rfl) :
    PE X (.Call (.Name "list" p) [.Call (.Name "range" p2) [a] [] pos2] [] pos) (tL X.K W P (fLRg F)) := dl_listRg hc hg hm hg2 hm2 ha na
theorem g_setT {tg : Expr} {t : Tg} (hg : PG X tg (tG X.K P t)) (he : PE X e (tE X.K W P F)) (hs : swapsWithSole [tg] e pos.line X.env = pure false := by rfl) (hw : swappedStores [tg] e X.env = pure none := by rfl) (h1 : (assignEach [tg] X.env).map (·.2) = [assign tg X.env] := by rfl) :
    PS X (.Assign [tg] e pos) (tS X.K W P (sSetT t F)) := ds_setT hg he hs hw h1
theorem gg_tup {k : Nat} {ts : List Tg} (h : PGs X es (tGs X.K P ts)) (hc : X.calm = true := by rfl) (hn : (assignEach es X.env).length = ts.length := by rfl) (hst : (assignEach es X.env).findIdx? (·.1) = none := by rfl) : PG X (.Tuple es k pos) (tG X.K P (.tp ts)) := dg_tup hc h rfl hn hst
theorem gg_cons {t : Tg} {ts : List Tg} (h1 : PG X e (tG X.K P t)) (h2 : PGs X es (tGs X.K P ts)) (hs : (assignEach (e :: es) X.env).map (·.2) = assign e X.env :: (assignEach es X.env).map (·.2) := by rfl) : PGs X (e :: es) (tGs X.K P (t :: ts)) := dgs_cons h1 h2 hs
theorem g_for {iter tg : Expr} {body : List Stmt} {Fi : M (List D)} {t : Tg} {B : M Fl} (hp : PassesOwn (model X.prog X.w) X.A X.env X.xe) (hi : PI X tg iter (tI X.K W P Fi)) (hg : PG X tg (tG X.K P t)) (hb : PSs X body (tS X.K W P B)) (hc : X.calm = true := by rfl) (hs : ∀ x, foldedSetIterable iter X.env x = pure x := by intro _; rfl) :
    PS X (.For tg iter body [] pos) (tS X.K W P (sFor Fi t B)) := ds_for hp hc hi hg hb hs
theorem g_expr (h : PE X e (tE X.K W P F)) (hs : swapsWith e none pos.line X.env = pure false := by rfl) : PS X (.Expr e pos) (tS X.K W P (sExpr F)) := ds_expr h hs
end
end Ev
namespace Ev
open PySem PySem.Spec PyProof.Rows L2
open Evl (Ex)
theorem Sim.base {K : PySem.W.Frag} {fm : Fm} {Hs : Hp} {vs : VS} {σ : L2.St} {H : Hp} {xf : List Addr} (S : Sim K fm Hs vs σ H xf) : Ex fm.B H := let ⟨_, s⟩ := S; s.base
section
variable {K : PySem.W.Frag} {fm : Fm} {Hs : Hp} {vs : VS} {σ : L2.St} {H : Hp} {xf : List Addr} {a : Addr} {us : List V} {xs : List D} {i : Nat}
theorem Sim.move {l : L} (hS : Sim K fm Hs vs σ H []) (e : vs[i]? = some (some l)) : ∃ v f, σ[i]? = some (some v) ∧ LOk K Hs H v l f ∧ Sim K fm Hs (vs.set i none) σ H f := by
  obtain ⟨ft, s⟩ := hS
  obtain ⟨v, e1, rv⟩ := s.ok i l e
  refine ⟨v, ft i, e1, rv, ⟨fun j => if j = i then [] else ft j, ⟨s.sub, s.base, s.grow, s.new, by simp [s.len], fun j m ej => ?_, fun j => ?_, fun j k b h1 h2 => ?_, fun j b hb' => ?_, s.nd i, fun j b hb' q => ?_, fun b q => s.sp i b q, s.pins⟩⟩⟩
  · by_cases z : j = i
    · subst z
      rw [List.getElem?_set_self (List.getElem?_eq_some_iff.mp e).1] at ej
      cases ej
    · rw [List.getElem?_set_ne (Ne.symm z)] at ej
      rw [if_neg z]
      exact s.ok j m ej
  · show List.Nodup (if _ then _ else _)
    split
    · simp
    · exact s.nd j
  · try dsimp only at h1 h2
    split at h1
    · simp at h1
    · split at h2
      · simp at h2
      · exact s.dj j k b h1 h2
  · try dsimp only at hb'
    split at hb'
    · simp at hb'
    · exact s.sp j b hb'
  · try dsimp only at hb'
    split at hb'
    · simp at hb'
    · rename_i z; exact z (s.dj j i b hb' q)
theorem Sim.lend (S : Sim K fm Hs vs σ H []) (e : vs[i]? = some (some (.own xs))) : ∃ a us, σ[i]? = some (some (.ref a)) ∧ H a = some (.lst us) ∧ RepL K Hs us xs ∧ fm.B a = none ∧ fm.S a = none ∧ Sim K (fm.park a (.lst us)) Hs (vs.set i none) σ H [] := by
  obtain ⟨v, f, e1, r, S1⟩ := S.move e
  cases r with
  | own h1 h2 =>
    have hs := S1.xhd
    have hb := (let ⟨_, s⟩ := S1; (s.xsp _ List.mem_cons_self).2.1)
    exact ⟨_, _, e1, h1, h2, hb, Evl.fresh_back (let ⟨_, s⟩ := S1; s.grow) hs, S1.park h1⟩
theorem Sim.back (S : Sim K (fm.park a (.lst us)) Hs vs σ H xf) (hB : fm.B a = none) (hS : fm.S a = none) (e : σ[i]? = some (some (.ref a))) (r : RepL K Hs us xs) : Sim K fm Hs (vs.set i (some (.own xs))) σ H xf := by
  obtain ⟨ft, s⟩ := S
  have hb : (fm.park a (.lst us)).B a = some (.lst us) := upd_same
  have ha : H a = some (.lst us) := s.base a _ hb
  have hs : Hs a = none := by
    cases q : Hs a with
    | none => rfl
    | some u =>
      rcases s.new a (by rw [q]; simp) with h | h
      · exact absurd hS h
      · rw [hb] at h; cases h
  have na : ∀ {b}, (fm.park a (.lst us)).B b = none → b ≠ a ∧ fm.B b = none := fun {b} h => by
    have h : upd fm.B a (.lst us) b = none := h
    have z : b ≠ a := fun z => by rw [z, upd_same] at h; cases h
    rw [upd_ne z] at h
    exact ⟨z, h⟩
  have hil : i < vs.length := by rw [s.len]; exact (List.getElem?_eq_some_iff.mp e).1
  refine ⟨fun j => if j = i then [a] else ft j, ⟨s.sub, fun b u e => ?_, s.grow, fun b e => ?_, by simp [s.len], fun j m ej => ?_, fun j => ?_, fun j k b h1 h2 => ?_, fun j b hb' => ?_, s.xnd, fun j b hb' q => ?_, fun b q => ?_, s.pins⟩⟩
  · have z : b ≠ a := fun z => by rw [z, hB] at e; cases e
    exact s.base b u (show upd fm.B a _ b = some u by rw [upd_ne z]; exact e)
  · rcases s.new b e with h | h
    · exact .inl h
    · exact .inr (na h).2
  · by_cases z : j = i
    · subst z
      rw [List.getElem?_set_self hil] at ej
      cases ej
      rw [if_pos rfl]
      exact ⟨_, e, .own ha r⟩
    · rw [List.getElem?_set_ne (Ne.symm z)] at ej
      rw [if_neg z]
      exact s.ok j m ej
  · show List.Nodup (if _ then _ else _)
    split
    · simp
    · exact s.nd j
  · try dsimp only at h1 h2
    split at h1
    · split at h2
      · simp_all
      · have h1 : b = a := by simpa using h1
        exact absurd h1 (na (s.sp k b h2).2.1).1
    · split at h2
      · have h2 : b = a := by simpa using h2
        exact absurd h2 (na (s.sp j b h1).2.1).1
      · exact s.dj j k b h1 h2
  · try dsimp only at hb'
    split at hb'
    · have hb' : b = a := by simpa using hb'
      subst hb'
      exact ⟨hs, hB, by rw [ha]; simp⟩
    · obtain ⟨h1, h2, h3⟩ := s.sp j b hb'
      exact ⟨h1, (na h2).2, h3⟩
  · try dsimp only at hb'
    split at hb'
    · have hb' : b = a := by simpa using hb'
      exact absurd hb' (na (s.xsp b q).2.1).1
    · exact s.xdj j b hb' q
  · obtain ⟨h1, h2, h3⟩ := s.xsp b q
    exact ⟨h1, (na h2).2, h3⟩
end
def ItOkB (K : PySem.W.Frag) (B Hs : Hp) (J : It) (ds : List D) : Prop :=
  (∀ i H, Ex B H → Ex Hs H → ds.length ≤ i → J.stop i H) ∧
  ∀ i d H, Ex B H → Ex Hs H → ds[i]? = some d → J.go i H ∧ ∀ x H', J.yld i H x H' → (H' = H ∧ Rep K Hs x d) ∨ ∃ T vs es, H T = none ∧ x = .ref T ∧ H' = upd H T (.tup vs) ∧ d = .tup es ∧ RepL K Hs vs es
theorem itokB_list {K : PySem.W.Frag} {B Hs : Hp} {a : Addr} {us : List V} {ds : List D} (h1 : B a = some (.lst us)) (h2 : RepL K Hs us ds) : ItOkB K B Hs (Itl K a) ds := by
  have sq : ∀ H, Ex B H → SqL K H a us := fun H e => SqL.of (e _ _ h1)
  refine ⟨fun i H e _ hi => ⟨us, sq H e, by rw [h2.length]; exact hi⟩, fun i d H e _ hd => ?_⟩
  obtain ⟨v, ev, rv⟩ := h2.get hd
  refine ⟨⟨us, v, sq H e, ev⟩, fun x H' hy => ?_⟩
  obtain ⟨q1, q2⟩ := hy
  have := q2 us (sq H e)
  rw [ev] at this
  cases this
  exact .inl ⟨q1, rv⟩
section
variable {X : Cx} {W : WX} {P : List Nat} {e a b c tg : Expr} {pos : Pos} {F : M D}
theorem comp_core {own : List Nat} {t : Tg} {C : M Bool} {Fe : M D} {fm : Fm} {Hs1 : Hp} {vs1 s2 : VS} {σ : L2.St} {H1 : Hp} {J : It} {ds acc : List D} {Q : VK} (hown : ∀ j ∈ t.ix, j ∈ own) (hpo : ∀ i ∈ own, i ∉ P) (hP : fm.pin.map (·.1) = P) (S1 : Sim X.K fm Hs1 vs1 σ H1 []) (ok : ItOkB X.K fm.B Hs1 J ds)
    (hl : lcF t own C Fe ds [] (wipeV vs1 own) = some (acc, s2)) (hk : ∀ v H' Hs' xf, Sim X.K fm Hs' (restV vs1 s2 own) σ H' xf → Ex Hs1 Hs' → LOk X.K Hs' H' v (.own acc) xf → Q v H') :
    ∀ D, H1 D = none → ∃ W : Nat → Nat → Hp → Prop, (∃ m, W 0 m (upd H1 D (.lst []))) ∧ ∀ i m H, W i m H →
  (J.stop i H ∧ Q (.ref D) H) ∨ (J.go i H ∧ ∃ Nx : Hp → Prop, (∀ H', Nx H' → ∃ m', m' < m ∧ W (i + 1) m' H') ∧ ∀ x H', J.yld i H x H' → (tG X.K P t) x (wipe σ own) H' fun σ2 H2 => wipe σ2 own = wipe σ own ∧ (tB X.K W0 P C) σ2 H2 fun b H3 =>
    if b = true then (tE X.K W0 P Fe) σ2 H3 fun y H4 => ∃ acc, H4 D = some (.lst acc) ∧ acc.length < sizeLine ∧ Nx (upd H4 D (.lst (acc ++ [y]))) else Nx H3) := by
  intro Da hD
  have hBn : fm.B Da = none := Evl.fresh_back (let ⟨_, s⟩ := S1; s.base) hD
  have hsn : Hs1 Da = none := Evl.fresh_back S1.sub hD
  have hSn : fm.S Da = none := Evl.fresh_back (let ⟨_, s⟩ := S1; s.grow) hsn
  have hpin : ∀ i ∈ own, i ∉ fm.pin.map (·.1) := fun i hi => by rw [hP]; exact hpo i hi
  refine ⟨fun i m H => m = ds.length - i ∧ ∃ s ac us Hs2, lcF t own C Fe (ds.drop i) ac s = some (acc, s2) ∧ H Da = some (.lst us) ∧ RepL X.K Hs2 us ac ∧ Sim X.K fm Hs2 s (L2.wipe σ own) H [Da] ∧ Ex Hs1 Hs2,
    ⟨_, rfl, wipeV vs1 own, [], [], Hs1, by rw [List.drop_zero]; exact hl, upd_same, .nil, (S1.wipe own hpin).allocX hD _, Ex.refl _⟩, ?_⟩
  rintro i m H2 ⟨rfl, s, ac, us, Hs2, hl2, hDa, rus, S2, X2⟩
  cases hd : ds[i]? with
  | none =>
    have hle : ds.length ≤ i := List.getElem?_eq_none_iff.mp hd
    rw [List.drop_eq_nil_of_le hle] at hl2
    cases hl2
    refine .inl ⟨ok.1 i H2 S2.base (X2.trans S2.sub) hle, ?_⟩
    exact hk _ H2 Hs2 [Da] (Sim.rest S1 X2 S2 (lcF_end (wiped_none _ _) hl)) X2 (.own hDa rus)
  | some d =>
    have hlt : i < ds.length := (List.getElem?_eq_some_iff.mp hd).1
    have hdr : ds.drop i = d :: ds.drop (i + 1) := by
      rw [List.drop_eq_getElem_cons hlt]
      have := (List.getElem?_eq_some_iff.mp hd).2
      rw [this]
    rw [hdr] at hl2
    unfold lcF at hl2
    split at hl2
    · cases hl2
    · rename_i s1 e1
      obtain ⟨g1, y1⟩ := ok.2 i d H2 S2.base (X2.trans S2.sub) hd
      refine .inr ⟨g1, fun H' => ∃ s ac us Hs2, lcF t own C Fe (ds.drop (i + 1)) ac s = some (acc, s2) ∧ H' Da = some (.lst us) ∧ RepL X.K Hs2 us ac ∧ Sim X.K fm Hs2 s (L2.wipe σ own) H' [Da] ∧ Ex Hs1 Hs2, ?_, fun x H' hy => ?_⟩
      · rintro H' q
        exact ⟨_, by omega, rfl, q⟩
      · have hyy : (H' = H2 ∧ Rep X.K Hs2 x d) ∨ ∃ T vs es, H2 T = none ∧ x = .ref T ∧ H' = upd H2 T (.tup vs) ∧ d = .tup es ∧ RepL X.K Hs2 vs es := by
          rcases y1 x H' hy with ⟨a, b⟩ | ⟨T, vs, es, a, b, c, d, f⟩
          · exact .inl ⟨a, b.mono X2⟩
          · exact .inr ⟨T, vs, es, a, b, c, d, f.mono X2⟩
        obtain ⟨Hs3, S3, X3, r3⟩ := yld_ok S2 hyy
        have hDa3 : H' Da = some (.lst us) := by
          rcases hyy with ⟨rfl, _⟩ | ⟨T, vs, es, hT, rfl, rfl, rfl, _⟩
          · exact hDa
          · rw [upd_ne (ne_of_none hDa hT)]; exact hDa
        have S3p := S3.park hDa3
        refine ⟨fm.park Da (.lst us), Hs3, s, s1, d, e1, hP, S3p, r3, fun σ4 S4 same => ?_⟩
        refine ⟨wipe_wipe same hown, ?_⟩
        split at hl2
        · rename_i s5 e5
          refine ⟨fm.park Da (.lst us), Hs3, s1, _, s5, e5, hP, S4, fun k k' H5 Hs5 xf q S5 X5 ⟨q1, q2⟩ => ?_, fun _ _ _ _ _ q => (by cases q)⟩
          cases q; subst q1; subst q2
          rw [if_pos rfl]
          split at hl2
          · rename_i y s6 e6
            refine ⟨fm.park Da (.lst us), Hs5, s5, _, s6, e6, hP, S5, fun y' v H6 Hs6 xf q S6 X6 ⟨q1, q2⟩ => ?_, fun _ _ _ _ _ q => (by cases q)⟩
            cases q; subst q2
            split at hl2
            · rename_i hlen
              obtain ⟨hDa6, S6u⟩ := S6.unpark hBn hSn
              refine ⟨us, hDa6, by rw [rus.length]; exact Evl.sz_lt hlen, ?_⟩
              have Xa : Ex Hs2 Hs6 := (X3.trans X5).trans X6
              refine ⟨_, _, us ++ [v], Hs6, hl2, upd_same, (rus.mono Xa).append (.one q1), ?_, X2.trans Xa⟩
              have S7 := (S6u.wipe own hpin).writeX (u := .lst (us ++ [v]))
              rw [wipe_wipe same hown] at S7
              exact S7
            · cases hl2
          · cases hl2
        · rename_i s5 e5
          refine ⟨fm.park Da (.lst us), Hs3, s1, _, s5, e5, hP, S4, fun k k' H5 Hs5 xf q S5 X5 ⟨q1, q2⟩ => ?_, fun _ _ _ _ _ q => (by cases q)⟩
          cases q; subst q1; subst q2
          rw [if_neg Bool.false_ne_true]
          obtain ⟨hDa5, S5u⟩ := S5.unpark hBn hSn
          have Xa : Ex Hs2 Hs5 := X3.trans X5
          have S7 := S5u.wipe own hpin
          rw [wipe_wipe same hown] at S7
          exact ⟨_, _, us, Hs5, hl2, hDa5, rus.mono Xa, S7, X2.trans Xa⟩
        · cases hl2
where
  wipe_wipe {σ σ4 : L2.St} {t : Tg} {own : List Nat} (same : Same1 t.ix (L2.wipe σ own) σ4) (hown : ∀ j ∈ t.ix, j ∈ own) : L2.wipe σ4 own = L2.wipe σ own := by
    rw [wipe_eq same hown]
    apply List.ext_getElem?
    intro j
    by_cases hj : j ∈ own
    · have h : ∀ (τ : L2.St) (is : List Nat), j ∈ is → (L2.wipe τ is)[j]? = if j < τ.length then some none else none := by
        intro τ is
        induction is with
        | nil => intro h; simp at h
        | cons i is ih =>
          intro h
          unfold L2.wipe
          by_cases z : i = j
          · subst z
            by_cases hl : i < τ.length
            · rw [List.getElem?_set_self (by rw [wipe_length]; exact hl), if_pos hl]
            · rw [List.getElem?_eq_none (by rw [List.length_set, wipe_length]; omega), if_neg hl]
          · rw [List.getElem?_set_ne z]
            exact ih ((List.mem_cons.mp h).resolve_left fun y => z y.symm)
      rw [h _ _ hj, h _ _ hj, wipe_length]
    · rw [wipe_out hj]
def fCompO (i : Nat) (own : List Nat) (tg : Tg) (C : M Bool) (Fe : M D) : M L := fun s => match s[i]? with
  | some (some (.own xs)) => (match lcF tg own C Fe xs [] (wipeV (s.set i none) own) with
    | some (acc, s2) => some (.ok (.own acc), (restV (s.set i none) s2 own).set i (some (.own xs)))
    | none => none)
  | _ => none
theorem re_compO {i : Nat} {own : List Nat} {t : Tg} {C : M Bool} {Fe : M D} (hown : ∀ j ∈ t.ix, j ∈ own) (hpo : ∀ i ∈ own, i ∉ P) : ∀ σ H Q, tL X.K W P (fCompO i own t C Fe) σ H Q → tLc (iList X.K (tVar i)) (tG X.K P t) (tB X.K W0 P C) (tE X.K W0 P Fe) own σ H Q := fun σ H Q ⟨fm, Hs, vs, r', vs', hF, hP, hS, hk, hE⟩ => by
  unfold fCompO at hF
  split at hF
  · rename_i xs e0
    split at hF
    · rename_i acc s2 hl
      cases hF
      obtain ⟨a, us, e1, ha, ru, hB, hSn, S1⟩ := hS.lend e0
      refine ⟨_, e1, a, rfl, ⟨us, SqL.of ha⟩, comp_core (fm := fm.park a (.lst us)) hown hpo hP S1 (itokB_list upd_same ru) hl fun v H' Hs' xf S' X' r' => ?_⟩
      exact hk _ v H' Hs' xf rfl (S'.back hB hSn e1 (ru.mono X')) X' r'
    · cases hF
  · cases hF
theorem dl_compO {elt : Expr} {ifs : List Expr} {scope : Scope} {own : List (Str × Nat)} {i : Nat} {x : Str} {p : Pos} {t : Tg} {C : M Bool} {Fe : M D} (hown : ∀ j ∈ t.ix, j ∈ own.map (·.2)) (hpo : ∀ i ∈ own.map (·.2), i ∉ P) (hc : X.calm = true) (hN : X.N.Nodup) (hi : PE X (.Name x p) (tVar i)) (ok : BlkOk X.N X.env.scope scope own)
    (hg : ∀ (s : Shared) (H : Hp) (C : Addr) (cl : List (Str × Addr)) (fp : List Addr), PG (X.blk s H scope (compEnvC scope cl C X.env) fp) tg (tG X.K P t)) (ht : ∀ (s : Shared) (H : Hp) (C1 : Addr) (cl : List (Str × Addr)) (fp : List Addr), PTs (X.blk s H scope (compEnvC scope cl C1 X.env) fp) ifs (tB X.K W0 P C))
    (he : ∀ (s : Shared) (H : Hp) (C : Addr) (cl : List (Str × Addr)) (fp : List Addr), PE (X.blk s H scope (compEnvC scope cl C X.env) fp) elt (tE X.K W0 P Fe)) (hs : ∀ y, foldedSetIterable (.Name x p) X.env y = pure y := by intro _; rfl) :
    PE X (.ListComp elt [⟨tg, .Name x p, ifs, 0⟩] scope pos) (tL X.K W P (fCompO i (own.map (·.2)) t C Fe)) := PE_weak (pe_lc hc hN (pi_list hi) ok hg ht he hs) (re_compO hown hpo)
end
end Ev
namespace Ev
open PySem PySem.Spec PyProof.Rows L2
open Evl (Ex)
def entOf (e : DictEntry) : Option (Str × Int) := match e.key, e.val with
  | .str x _, .int i _ => some (x, i)
  | _, _ => none
def entsW (K : PySem.W.Frag) (a : Addr) : Option (List (Option (Str × Int))) := match K.lookup a with
  | some ⟨_, _, .dict es _, _⟩ => some (es.toList.map entOf)
  | _ => none
abbrev TabU : Type := (PySem.W.Frag → Addr) × List (Str × Int)
def tabsT (ts : List TabU) : List He.Tab := ts.map fun t => (t.1, t.2.map (·.1))
abbrev AlU : Type := He.AlT × List (Option (List (Option (Str × Int))))
def obsU (fa : List He.Fa) (fn : List He.DefD) (ts : List TabU) (K : PySem.W.Frag) : AlU := (He.obsT fa fn (tabsT ts) K, ts.map fun t => entsW K (t.1 K))
def valU (fn : List He.DefD) (ts : List TabU) (w : World) : AlU := (He.valT fn (tabsT ts) w, ts.map fun t => some (t.2.map some))
def obsUG (n : Nat) (fa : List He.Fa) (fn : List He.DefD) (ts : List TabU) (g : Addr → Option Obj) : AlU := obsU fa fn ts (He.frG g (He.asD g n))
def SaysU (fa : List He.Fa) (fn : List He.DefD) (ts : List TabU) (w : World) (K : PySem.W.Frag) : Prop := obsU fa fn ts K = valU fn ts w
def hookU (n : Nat) (fa : List He.Fa) (fn : List He.DefD) (ts : List TabU) : PySem.W.Hook where
  α := AlU
  obs := fun s => obsUG n fa fn ts s.heap.get?
  val := fun w => valU fn ts w
  says := fun w h => ∃ K : PySem.W.Frag, K.In h ∧ SaysU fa fn ts w K
  of := fun _ _ e => ⟨_, He.frG_in, e⟩
  keeps := fun _ _ _ ⟨K, hK, c⟩ k => ⟨K, PySem.W.Frag.In.keeps hK k, c⟩
theorem obsUG_eq {n : Nat} {fa : List He.Fa} {fn : List He.DefD} {ts : List TabU} {g : Addr → Option Obj} {s : Shared} (h : ∀ a, g a = s.heap.get? a) : obsUG n fa fn ts g = (hookU n fa fn ts).obs s := by
  have e : g = s.heap.get? := funext h
  rw [e] <;> rfl
theorem isStr_eq {y z : Str} {t : Tok} : (Value.str y t).isStr z = (z == y) := by
  have e : (Value.str y t).isStr z = (y == z) := rfl
  rw [e, Bool.eq_iff_iff, beq_iff_eq, beq_iff_eq]
  exact eq_comm
theorem ents_find {z : Str} : ∀ {l : List DictEntry} {t : List (Str × Int)}, l.map entOf = t.map some → (match t.lookup z with
    | some i => ∃ e tk, l.find? (·.key.isStr z) = some e ∧ e.val = .int i tk
    | none => l.find? (·.key.isStr z) = none) ∧ l.any (·.refKey) = false
  | [], [], _ => ⟨rfl, rfl⟩
  | [], _ :: _, h => by cases h
  | _ :: _, [], h => by cases h
  | e :: l, (y, i) :: t, h => by
    have h1 : entOf e :: l.map entOf = some (y, i) :: t.map some := h
    injection h1 with h2 h3
    obtain ⟨ih1, ih2⟩ := ents_find (z := z) h3
    unfold entOf at h2
    split at h2
    · rename_i x tk j tk2 ek ev
      cases h2
      have er : e.refKey = false := by unfold DictEntry.refKey; rw [ek]
      refine ⟨?_, by rw [List.any_cons, er, ih2]; rfl⟩
      rw [List.lookup_cons]
      have ei : e.key.isStr z = (z == y) := by rw [ek, isStr_eq]
      cases q : (z == y) with
      | true =>
        refine ⟨e, tk2, ?_, ev⟩
        rw [List.find?_cons, ei, q]
      | false =>
        rw [q] at ei
        rw [List.find?_cons, ei]
        exact ih1
    · cases h2
section
variable {fa : List He.Fa} {fn : List He.DefD} {ts : List TabU} {w : World} {K : PySem.W.Frag} {h : Heap} {mg : Str → Option Value}
theorem SaysU.t (c : SaysU fa fn ts w K) : He.SaysT fa fn (tabsT ts) w K := congrArg (fun z : AlU => z.1) c
theorem SaysU.fact (c : SaysU fa fn ts w K) (i : Nat) {f : He.Fa} (h : fa[i]? = some f := by rfl) : f.ok K = true := c.t.d.fact i h
theorem SaysU.tab (c : SaysU fa fn ts w K) (i : Nat) {t : TabU} {x : Str} (hm : mg x = some (.ref (t.1 K))) (h : ts[i]? = some t := by rfl) : Tab K w mg x t.2 := by
  have hT : (tabsT ts)[i]? = some (t.1, t.2.map (·.1)) := by unfold tabsT; rw [List.getElem?_map, h]; rfl
  obtain ⟨es, n, D⟩ := c.t.tab i hT
  have e : ts.map (fun t => entsW K (t.1 K)) = ts.map fun t => some (t.2.map some) := congrArg (fun z : AlU => z.2) c
  have e2 : (ts.map fun t => entsW K (t.1 K))[i]? = (ts.map fun t => some (t.2.map some))[i]? := by rw [e]
  rw [List.getElem?_map, List.getElem?_map, h] at e2
  have e3 : entsW K (t.1 K) = some (t.2.map some) := Option.some.inj e2
  have D : KDict K w (t.1 K) es n := D
  unfold entsW at e3
  rw [D.at_] at e3
  have e4 : es.toList.map entOf = t.2.map some := Option.some.inj e3
  refine ⟨⟨_, es, n, hm, D, fun z => ?_⟩⟩
  obtain ⟨h1, h2⟩ := ents_find (z := z) e4
  unfold PySem.W.nsIn
  rw [D.at_]
  cases q : t.2.lookup z with
  | none =>
    rw [q] at h1
    have h1 : es.toList.find? (·.key.isStr z) = none := h1
    refine ⟨none, ?_, rfl⟩
    simp only [h1, h2]
    rfl
  | some i =>
    rw [q] at h1
    obtain ⟨en, tk, h1, h3⟩ := h1
    refine ⟨some (.int i tk), ?_, tk, rfl⟩
    simp only [h1, h3]
theorem FunD.fun_ {K : PySem.W.Frag} {x qual : Str} {st : Stmt} {f : Addr} {fd : FuncData} {dvs : List V} {kws : List (Str × V)} (F : L2.FunD K x qual (L2.defArgs st) (L2.defBody st) (L2.defScope st) dvs kws f fd) (hd : dvs = []) : L2.Fun K x qual st f fd := by
  subst hd
  exact He5.fun_of F
end
theorem FnOk.calm {P : Program} {w : World} {K : PySem.W.Frag} {mg : Str → Option Value} {base : Heap} {k : Nat} {f : Addr} {fd : FuncData} {ps : List Str} {sp : Sp} (F : FnOk P w K mg base (L2.CX P w) k f fd ps sp) :
    FnOk P w K mg base L2.CX0 k f fd ps (fun vs H Q _ => sp vs H Q fun _ _ _ => False) :=
  ⟨fun vs H Q E h => F.len vs H Q _ h, fun A outer s H args us vs Q E hr he hb hv hs => codeAny_mono (F.run A outer s H args us vs Q _ hr he hb hv hs) fun r s' h => by
    cases r with
    | ok x =>
      cases x <;> exact h
    | error e =>
      obtain ⟨_, _, _, _, _, _, _, _, _, _, _, _, z⟩ := h
      exact z.elim⟩
theorem law_sp {K : PySem.W.Frag} {fn : Fn} {H : Hp} {a : Addr} {ns : List Int} {ps : VS} (hn : fn.n = 1) (h : fn.run [some (.d (.scr ns))] = some (.ok (.d (.bl true)), ps)) (hO : Only H) (hS : SqL K H a (ns.map V.int)) : SpF K fn [.ref a] H (fun v _ => v = .bl true) fun _ _ _ => False := by
  refine ⟨hn.symm, H, H, [some (.d (.scr ns))], _, ps, h, ?_, fun l v H' Hs' xf e _ _ r => ?_, fun x c dd H' Hs' e => (by cases e)⟩
  · refine ⟨fun _ => [], ⟨Ex.refl _, Ex.refl _, Ex.refl _, fun a h => .inl h, rfl, fun i l e => ?_, fun _ => List.nodup_nil, fun i j a h => by simp at h, fun i a h => by simp at h, List.nodup_nil, fun i a h => by simp at h, fun a h => by simp at h, fun p hp => by cases hp⟩⟩
    match i, e with
    | 0, e =>
      cases e
      exact ⟨_, rfl, .d (.scr hS)⟩
    | i + 1, e => simp at e
  · cases e
    cases r with | d r => cases r; rfl
end Ev
namespace Ev
open PySem PySem.Spec PyProof.Rows L2
def fin {α : Type} (o : Option (Except Xn α × VS)) (Q : α → VS → Prop) : Prop := match o with
  | some (.ok a, s) => Q a s
  | _ => False
def wp {α : Type} (F : M α) (s : VS) (Q : α → VS → Prop) : Prop := fin (F s) Q
section
variable {α β : Type} {s : VS}
@[simp] theorem fin_ok {a : α} {Q : α → VS → Prop} : fin (some (.ok a, s)) Q ↔ Q a s := Iff.rfl
@[simp] theorem fin_none {Q : α → VS → Prop} : fin none Q ↔ False := Iff.rfl
@[simp] theorem fin_er {x : Xn} {Q : α → VS → Prop} : fin (some (.error x, s)) Q ↔ False := Iff.rfl
theorem wp_out {F : M α} {Q : α → VS → Prop} (h : wp F s Q) : ∃ a s', F s = some (.ok a, s') ∧ Q a s' := by
  unfold wp fin at h
  split at h
  · rename_i a s' e; exact ⟨a, s', e, h⟩
  · exact h.elim
theorem wp_in {F : M α} {Q : α → VS → Prop} {a : α} {s' : VS} (e : F s = some (.ok a, s')) (q : Q a s') : wp F s Q := by unfold wp; rw [e]; exact q
theorem wp_mono {F : M α} {Q Q' : α → VS → Prop} (h : wp F s Q) (hq : ∀ a s', Q a s' → Q' a s') : wp F s Q' := let ⟨a, s', e, q⟩ := wp_out h; wp_in e (hq a s' q)
theorem wp_congr {F : M α} {Q Q' : α → VS → Prop} (h : ∀ a s', Q a s' ↔ Q' a s') : wp F s Q ↔ wp F s Q' := by
  have e : Q = Q' := funext fun a => funext fun s => propext (h a s)
  rw [e]
@[simp] theorem wp_rt {a : α} {Q : α → VS → Prop} : wp (rt a) s Q ↔ Q a s := Iff.rfl
@[simp] theorem wp_bd {F : M α} {g : α → M β} {Q : β → VS → Prop} : wp (bd F g) s Q ↔ wp F s fun a s' => wp (g a) s' Q := by
  unfold wp bd
  split <;> rename_i e <;> simp [e]
theorem wp_fun {F : M α} {G : VS → Option (Except Xn β × VS)} {Q : β → VS → Prop} : wp (fun s => G s) s Q ↔ wp G s Q := Iff.rfl
def to {α : Type} (o : Option α) (s : VS) (Q : α → VS → Prop) : Prop := match o with
  | some a => Q a s
  | none => False
@[simp] theorem to_some {a : α} {Q : α → VS → Prop} : to (some a) s Q ↔ Q a s := Iff.rfl
@[simp] theorem to_none {Q : α → VS → Prop} : to none s Q ↔ False := Iff.rfl
theorem to_out {o : Option α} {Q : α → VS → Prop} (h : to o s Q) : ∃ a, o = some a ∧ Q a s := by
  cases o with
  | none => exact h.elim
  | some a => exact ⟨a, rfl, h⟩
theorem to_in {o : Option α} {Q : α → VS → Prop} {a : α} (e : o = some a) (q : Q a s) : to o s Q := by rw [e]; exact q
@[simp] theorem to_map {f : α → β} {o : Option α} {Q : β → VS → Prop} : to (o.map f) s Q ↔ to o s fun a s' => Q (f a) s' := by cases o <;> rfl
@[simp] theorem to_ite {c : Prop} [Decidable c] {a b : Option α} {Q : α → VS → Prop} : to (if c then a else b) s Q ↔ if c then to a s Q else to b s Q := by split <;> rfl
theorem wp_opt {o : Option α} {Q : α → VS → Prop} : wp (fun s => match o with | some l => some (.ok l, s) | none => none) s Q ↔ to o s Q := by cases o <;> rfl
@[simp] theorem wp_fK {F : M D} {Q : Pk → VS → Prop} : wp (fK F) s Q ↔ wp F s fun d s' => Q (.dat d) s' := by unfold fK; simp
@[simp] theorem wp_fD {F : M D} {Q : L → VS → Prop} : wp (fD F) s Q ↔ wp F s fun d s' => Q (.d d) s' := by unfold fD; simp
@[simp] theorem wp_fS {F : M L} {Q : D → VS → Prop} : wp (fS F) s Q ↔ wp F s fun l s' => to l.data s' Q := by
  unfold fS; rw [wp_bd]; refine wp_congr fun l s => ?_
  unfold wp; dsimp only; cases l.data <;> simp
@[simp] theorem data_d {x : D} : (L.d x).data = some x := rfl
@[simp] theorem data_own {x : List D} : (L.own x).data = some (.lst x) := rfl
@[simp] theorem data_odi {ks : List Key} {x : List D} : (L.odi ks x).data = some (.dic ks x) := rfl
def pkOf (i : Nat) : L → Pk
  | .d x => .dat x
  | _ => .sl i
@[simp] theorem pkOf_d {i : Nat} {x : D} : pkOf i (.d x) = .dat x := rfl
@[simp] theorem pkOf_own {i : Nat} {x : List D} : pkOf i (.own x) = .sl i := rfl
@[simp] theorem pkOf_odi {i : Nat} {k : List Key} {x : List D} : pkOf i (.odi k x) = .sl i := rfl
@[simp] theorem pkOf_obj {i : Nat} {C : Addr} {k : List Str} {x : List L} : pkOf i (.obj C k x) = .sl i := rfl
def at? (s : VS) (i : Nat) : Option L := match s[i]? with
  | some (some l) => some l
  | _ => none
@[simp] theorem at_zero {l : L} {s : VS} : at? (some l :: s) 0 = some l := rfl
@[simp] theorem at_succ {o : Option L} {s : VS} {i : Nat} : at? (o :: s) (i + 1) = at? s i := rfl
@[simp] theorem wp_vLook {i : Nat} {Q : Pk → VS → Prop} : wp (vLook i) s Q ↔ to (at? s i) s fun l s' => Q (pkOf i l) s' := by
  unfold wp vLook at? to
  cases h : s[i]? with
  | none => simp
  | some o =>
    cases o with
    | none => simp
    | some l => cases l <;> simp
@[simp] theorem wp_vGet {i : Nat} {Q : D → VS → Prop} : wp (vGet i) s Q ↔ to (at? s i) s fun l s' => to l.data s' fun d s' => Q d (s'.set i (some (.d d))) := by
  have hid : ∀ x, s[i]? = some (some (L.d x)) → s.set i (some (.d x)) = s := fun x e => by
    apply List.ext_getElem?
    intro j
    by_cases q : i = j
    · subst q
      rw [List.getElem?_set_self (List.getElem?_eq_some_iff.mp e).1, e]
    · rw [List.getElem?_set_ne q]
  unfold wp vGet at?
  cases h : s[i]? with
  | none => simp
  | some o =>
    cases o with
    | none => simp
    | some l =>
      cases l with
      | d x => simp [hid x h]
      | own x => simp
      | odi k x => simp
      | obj C fs ls =>
        simp only [to_some]
        unfold L.data
        split <;> simp_all
@[simp] theorem wp_vMove {i : Nat} {Q : L → VS → Prop} : wp (vMove i) s Q ↔ to (at? s i) s fun l s' => Q l (s'.set i none) := by
  unfold wp vMove at?
  cases h : s[i]? with
  | none => simp
  | some o => cases o <;> simp
def resL : L → Option D
  | .d x => some x
  | .own xs => some (.lst xs)
  | .odi ks ds => some (.dic ks ds)
  | _ => none
@[simp] theorem res_dat {d : D} : res s (.dat d) = some d := rfl
@[simp] theorem res_sl0 {o : L} : res (some o :: s) (.sl 0) = resL o := by cases o <;> rfl
@[simp] theorem res_slS {o : Option L} {i : Nat} : res (o :: s) (.sl (i + 1)) = res s (.sl i) := rfl
@[simp] theorem resL_d {x : D} : resL (.d x) = some x := rfl
@[simp] theorem resL_own {x : List D} : resL (.own x) = some (.lst x) := rfl
@[simp] theorem resL_odi {k : List Key} {x : List D} : resL (.odi k x) = some (.dic k x) := rfl
@[simp] theorem wp_f2 {f : D → D → Option L} {Fa Fb : M Pk} {Q : L → VS → Prop} : wp (f2 f Fa Fb) s Q ↔ wp Fa s fun a s => wp Fb s fun b s => to (res s a) s fun x s => to (res s b) s fun y s => to (f x y) s Q := by
  unfold f2; rw [wp_bd]; refine wp_congr fun a s => ?_; rw [wp_bd]; refine wp_congr fun b s => ?_
  unfold wp; dsimp only
  cases h1 : res s a with
  | none => simp
  | some x =>
    cases h2 : res s b with
    | none => simp [h2]
    | some y => cases h : f x y <;> simp [h2, h]
@[simp] theorem wp_c2 {f : D → D → Option Bool} {Fa Fb : M Pk} {Q : Bool → VS → Prop} : wp (c2 f Fa Fb) s Q ↔ wp Fa s fun a s => wp Fb s fun b s => to (res s a) s fun x s => to (res s b) s fun y s => to (f x y) s Q := by
  unfold c2; rw [wp_bd]; refine wp_congr fun a s => ?_; rw [wp_bd]; refine wp_congr fun b s => ?_
  unfold wp; dsimp only
  cases h1 : res s a with
  | none => simp
  | some x =>
    cases h2 : res s b with
    | none => simp [h2]
    | some y => cases h : f x y <;> simp [h2, h]
@[simp] theorem wp_f1 {f : D → Option L} {Fa : M Pk} {Q : L → VS → Prop} : wp (f1 f Fa) s Q ↔ wp Fa s fun a s => to (res s a) s fun x s => to (f x) s Q := by
  unfold f1; rw [wp_bd]; refine wp_congr fun a s => ?_
  unfold wp; dsimp only
  cases h1 : res s a with
  | none => simp
  | some x => cases h : f x <;> simp [h]
@[simp] theorem wp_fBl {F : M Bool} {Q : D → VS → Prop} : wp (fBl F) s Q ↔ wp F s fun b s => Q (.bl b) s := by unfold fBl; simp
@[simp] theorem wp_c3 {f f' : D → D → Option Bool} {Fa Fb Fc : M Pk} {Q : Bool → VS → Prop} : wp (c3 f f' Fa Fb Fc) s Q ↔ wp Fa s fun a s => wp Fb s fun b s => to (res s a) s fun x s => to (res s b) s fun y s => to (f x y) s fun k s =>
    if k = true then wp Fc s fun c s => to (res s b) s fun y s => to (res s c) s fun z s => to (f' y z) s Q else Q false s := by
  unfold c3; rw [wp_bd]; refine wp_congr fun a s => ?_; rw [wp_bd]; refine wp_congr fun b s => ?_
  have e1 : ∀ s, wp (bd Fc (fun c s => match res s b, res s c with
    | some y, some z => (match f' y z with
      | some l => some (.ok l, s)
      | none => none)
    | _, _ => none)) s Q ↔ wp Fc s fun c s => to (res s b) s fun y s => to (res s c) s fun z s => to (f' y z) s Q := fun s => by
    refine wp_bd.trans (wp_congr fun c s => ?_)
    unfold wp; dsimp only
    cases h1 : res s b with
    | none => simp
    | some y =>
      cases h2 : res s c with
      | none => simp [h2]
      | some z => cases h : f' y z <;> simp [h2, h]
  simp only [← e1]
  unfold wp; dsimp only
  cases h1 : res s a with
  | none => simp
  | some x =>
    cases h2 : res s b with
    | none => simp [h2]
    | some y =>
      cases h : f x y with
      | none => simp [h2, h]
      | some k =>
        cases k with
        | false => simp [h2, h]
        | true =>
          simp only [h2, h, to_some, if_true] <;> exact Iff.rfl
@[simp] theorem wp_kNil {Q : List Pk → VS → Prop} : wp kNil s Q ↔ Q [] s := by unfold kNil; simp
@[simp] theorem wp_kCons {Fa : M Pk} {Fr : M (List Pk)} {Q : List Pk → VS → Prop} : wp (kCons Fa Fr) s Q ↔ wp Fa s fun a s => wp Fr s fun r s => Q (a :: r) s := by unfold kCons; simp
@[simp] theorem wp_aNil {Q : List D → VS → Prop} : wp aNil s Q ↔ Q [] s := by unfold aNil; simp
@[simp] theorem wp_aCons {Fa : M D} {Fr : M (List D)} {Q : List D → VS → Prop} : wp (aCons Fa Fr) s Q ↔ wp Fa s fun a s => wp Fr s fun r s => Q (a :: r) s := by unfold aCons; simp
@[simp] theorem resAll_nil : resAll s [] = some [] := rfl
@[simp] theorem to_resAll {k : Pk} {ks : List Pk} {Q : List D → VS → Prop} : to (resAll s (k :: ks)) s Q ↔ to (res s k) s fun d s => to (resAll s ks) s fun ds s => Q (d :: ds) s := by
  rw [resAll]
  cases h : res s k with
  | none => simp
  | some d => cases h2 : resAll s ks <;> simp [h2]
@[simp] theorem wp_fN {f : List D → Option L} {Fr : M (List Pk)} {Q : L → VS → Prop} : wp (fN f Fr) s Q ↔ wp Fr s fun ks s => to (resAll s ks) s fun ds s => to (f ds) s Q := by
  unfold fN; rw [wp_bd]; refine wp_congr fun ks s => ?_
  unfold wp; dsimp only
  cases h1 : resAll s ks with
  | none => simp
  | some ds => cases h : f ds <;> simp [h]
theorem wp_ite {c : Prop} [Decidable c] {F G : M α} {Q : α → VS → Prop} : wp (if c then F else G) s Q ↔ if c then wp F s Q else wp G s Q := by split <;> rfl
@[simp] theorem wp_fLst {Fr : M (List D)} {Q : L → VS → Prop} : wp (fLst Fr) s Q ↔ wp Fr s fun ds s => ds.length ≤ 100000 ∧ Q (.own ds) s := by
  unfold fLst; rw [wp_bd]; refine wp_congr fun ds s => ?_
  unfold wp; dsimp only; split
  · rename_i h; simp [h]
  · rename_i h; simp [h]
@[simp] theorem wp_fTup {Fr : M (List D)} {Q : D → VS → Prop} : wp (fTup Fr) s Q ↔ wp Fr s fun ds s => ds.length ≤ 100000 ∧ Q (.tup ds) s := by
  unfold fTup; rw [wp_bd]; refine wp_congr fun ds s => ?_
  unfold wp; dsimp only; split
  · rename_i h; simp [h]
  · rename_i h; simp [h]
@[simp] theorem wp_bAnd {A B : M Bool} {Q : Bool → VS → Prop} : wp (bAnd A B) s Q ↔ wp A s fun k s => if k = true then wp B s Q else Q false s := by unfold bAnd; simp [wp_ite]
@[simp] theorem wp_bOr {A B : M Bool} {Q : Bool → VS → Prop} : wp (bOr A B) s Q ↔ wp A s fun k s => if k = true then Q true s else wp B s Q := by unfold bOr; simp [wp_ite]
@[simp] theorem wp_bNot {A : M Bool} {Q : Bool → VS → Prop} : wp (bNot A) s Q ↔ wp A s fun k s => Q (!k) s := by unfold bNot; simp
def dTest : D → Option Bool
  | .bl k => some k
  | _ => none
@[simp] theorem dTest_bl {k : Bool} : dTest (.bl k) = some k := rfl
@[simp] theorem wp_fTest {F : M D} {Q : Bool → VS → Prop} : wp (fTest F) s Q ↔ wp F s fun d s => to (dTest d) s Q := by
  unfold fTest; rw [wp_bd]; refine wp_congr fun d s => ?_
  cases d <;> rfl
@[simp] theorem wp_vAnd {A B : M D} {Q : D → VS → Prop} : wp (vAnd A B) s Q ↔ wp A s fun d s => to (dTest d) s fun k s => if k = true then wp B s Q else Q (.bl false) s := by
  unfold vAnd; rw [wp_bd]; refine wp_congr fun d s => ?_
  cases d with
  | bl k => cases k <;> simp [wp]
  | _ => rfl
@[simp] theorem wp_vOr {A B : M D} {Q : D → VS → Prop} : wp (vOr A B) s Q ↔ wp A s fun d s => to (dTest d) s fun k s => if k = true then Q (.bl true) s else wp B s Q := by
  unfold vOr; rw [wp_bd]; refine wp_congr fun d s => ?_
  cases d with
  | bl k => cases k <;> simp [wp]
  | _ => rfl
@[simp] theorem wp_vNot {A : M D} {Q : D → VS → Prop} : wp (vNot A) s Q ↔ wp A s fun d s => to (dTest d) s fun k s => Q (.bl (!k)) s := by
  unfold vNot; rw [wp_bd]; refine wp_congr fun d s => ?_
  cases d <;> rfl
@[simp] theorem wp_fIf {C : M Bool} {A B : M α} {Q : α → VS → Prop} : wp (fIf C A B) s Q ↔ wp C s fun k s => if k = true then wp A s Q else wp B s Q := by unfold fIf; simp [wp_ite]
@[simp] theorem wp_sNil {Q : Fl → VS → Prop} : wp sNil s Q ↔ Q .nx s := by unfold sNil; simp
def thenF (G : M Fl) (Q : Fl → VS → Prop) : Fl → VS → Prop
  | .nx, s => wp G s Q
  | f, s => Q f s
@[simp] theorem thenF_nx {G : M Fl} {Q : Fl → VS → Prop} : thenF G Q .nx s ↔ wp G s Q := Iff.rfl
@[simp] theorem thenF_rt {G : M Fl} {Q : Fl → VS → Prop} {l : L} : thenF G Q (.rt l) s ↔ Q (.rt l) s := Iff.rfl
@[simp] theorem wp_sSeq {F G : M Fl} {Q : Fl → VS → Prop} : wp (sSeq F G) s Q ↔ wp F s (thenF G Q) := by
  unfold sSeq; rw [wp_bd]; refine wp_congr fun f s => ?_
  cases f <;> rfl
@[simp] theorem wp_sExpr {F : M D} {Q : Fl → VS → Prop} : wp (sExpr F) s Q ↔ wp F s fun _ s => Q .nx s := by unfold sExpr; simp
@[simp] theorem wp_sRet {F : M L} {Q : Fl → VS → Prop} : wp (sRet F) s Q ↔ wp F s fun l s => Q (.rt l) s := by unfold sRet; simp
@[simp] theorem wp_sRetN {Q : Fl → VS → Prop} : wp sRetN s Q ↔ Q (.rt (.d .non)) s := by unfold sRetN; simp
@[simp] theorem wp_sIf {C : M Bool} {A B : M Fl} {Q : Fl → VS → Prop} : wp (sIf C A B) s Q ↔ wp C s fun k s => if k = true then wp A s Q else wp B s Q := by unfold sIf; simp [wp_ite]
@[simp] theorem wp_sSet {i : Nat} {F : M L} {Q : Fl → VS → Prop} : wp (sSet i F) s Q ↔ wp F s fun l s => i < s.length ∧ Q .nx (s.set i (some l)) := by
  unfold sSet; rw [wp_bd]; refine wp_congr fun l s => ?_
  unfold wp; dsimp only; split
  · rename_i h; simp [h]
  · rename_i h; simp [h]
@[simp] theorem wp_sSetT {t : Tg} {F : M D} {Q : Fl → VS → Prop} : wp (sSetT t F) s Q ↔ wp F s fun d s => to (asg t d s) s fun s' _ => Q .nx s' := by
  unfold sSetT; rw [wp_bd]; refine wp_congr fun d s => ?_
  unfold wp; dsimp only; cases asg t d s <;> simp
@[simp] theorem asg_nm {i : Nat} {d : D} : asg (.nm i) d s = if i < s.length then some (s.set i (some (.d d))) else none := by unfold asg; rfl
@[simp] theorem asg_tp {ts : List Tg} {ds : List D} : asg (.tp ts) (.tup ds) s = asgs ts ds s := by unfold asg; rfl
@[simp] theorem asgs_nil : asgs [] [] s = some s := by unfold asgs; rfl
@[simp] theorem to_asgs {t : Tg} {ts : List Tg} {d : D} {ds : List D} {s0 : VS} {Q : VS → VS → Prop} : to (asgs (t :: ts) (d :: ds) s) s0 Q ↔ to (asg t d s) s0 fun s1 s0 => to (asgs ts ds s1) s0 Q := by
  rw [asgs]
  cases h : asg t d s <;> simp
def ownAt (s : VS) (i : Nat) : Option (List D) := match s[i]? with
  | some (some (.own xs)) => some xs
  | _ => none
@[simp] theorem ownAt_zero {x : List D} {s : VS} : ownAt (some (.own x) :: s) 0 = some x := rfl
@[simp] theorem ownAt_succ {o : Option L} {s : VS} {i : Nat} : ownAt (o :: s) (i + 1) = ownAt s i := rfl
theorem ownAt_none {s : VS} {i : Nat} (h : ∀ xs, s[i]? ≠ some (some (.own xs))) : ownAt s i = none := by
  unfold ownAt
  split
  · rename_i xs e; exact (h xs e).elim
  · rfl
@[simp] theorem wp_fW {i : Nat} {g : List D → List D → Option (D × List D)} {Fr : M (List D)} {Q : D → VS → Prop} : wp (fW i g Fr) s Q ↔ to (ownAt s i) s fun _ s => wp Fr s fun ds s => to (ownAt s i) s fun xs s => to (g xs ds) s fun p s => Q p.1 (s.set i (some (.own p.2))) := by
  unfold fW; unfold wp; dsimp only; unfold ownAt
  cases s[i]? with
  | none => simp
  | some o =>
    cases o with
    | none => simp
    | some l =>
      cases l with
      | own xs =>
        simp only [to_some]
        refine (wp_bd (F := Fr) (s := s) (Q := Q)).trans (wp_congr fun ds s => ?_)
        unfold wp; dsimp only
        cases s[i]? with
        | none => simp
        | some o =>
          cases o with
          | none => simp
          | some l =>
            cases l with
            | own xs => dsimp only [to_some]; cases h : g xs ds <;> simp [h]
            | _ => simp
      | _ => simp
@[simp] theorem wp_sSetI {i : Nat} {Fv Fi : M D} {Q : Fl → VS → Prop} : wp (sSetI i Fv Fi) s Q ↔ wp Fv s fun v s => to (ownAt s i) s fun _ s => wp Fi s fun k s => to (ownAt s i) s fun xs s => to (dSetN xs k) s fun n s => Q .nx (s.set i (some (.own (xs.set n v)))) := by
  unfold sSetI; rw [wp_bd]; refine wp_congr fun v s => ?_
  unfold wp; dsimp only; unfold ownAt
  cases s[i]? with
  | none => simp
  | some o =>
    cases o with
    | none => simp
    | some l =>
      cases l with
      | own xs =>
        simp only [to_some]
        refine (wp_bd (F := Fi) (s := s) (Q := Q)).trans (wp_congr fun k s => ?_)
        unfold wp; dsimp only
        cases s[i]? with
        | none => simp
        | some o =>
          cases o with
          | none => simp
          | some l =>
            cases l with
            | own xs => dsimp only [to_some]; cases h : dSetN xs k <;> simp [h]
            | _ => simp
      | _ => simp
@[simp] theorem wp_oNone {Q : Option Int → VS → Prop} : wp oNone s Q ↔ Q none s := by unfold oNone; simp
def dInt? : D → Option Int
  | .int i => some i
  | _ => none
@[simp] theorem dInt?_int {i : Int} : dInt? (.int i) = some i := rfl
@[simp] theorem wp_oSome {F : M D} {Q : Option Int → VS → Prop} : wp (oSome F) s Q ↔ wp F s fun d s => to (dInt? d) s fun i s => Q (some i) s := by
  unfold oSome; rw [wp_bd]; refine wp_congr fun d s => ?_
  cases d <;> rfl
@[simp] theorem wp_fSl {Fa : M Pk} {Fl Fh : M (Option Int)} {Q : L → VS → Prop} : wp (fSl Fa Fl Fh) s Q ↔ wp Fa s fun a s => wp Fl s fun lo s => wp Fh s fun hi s => to (res s a) s fun x s => to (dSl x lo hi) s Q := by
  unfold fSl; rw [wp_bd]; refine wp_congr fun a s => ?_; rw [wp_bd]; refine wp_congr fun lo s => ?_; rw [wp_bd]; refine wp_congr fun hi s => ?_
  unfold wp; dsimp only
  cases h1 : res s a with
  | none => simp
  | some x => cases h : dSl x lo hi <;> simp [h]
@[simp] theorem wp_fLRg {F : M D} {Q : L → VS → Prop} : wp (fLRg F) s Q ↔ wp F s fun d s => to (dInt? d) s fun n s => (0 ≤ n ∧ n ≤ 100000) ∧ Q (.own (rgD 0 n.toNat)) s := by
  unfold fLRg; rw [wp_bd]; refine wp_congr fun d s => ?_
  cases d with
  | int n =>
    unfold wp; dsimp only [dInt?_int, to_some]
    split
    · rename_i h; simp [h]
    · rename_i h; simp [h]
  | _ => rfl
@[simp] theorem wp_iSeq {F : M D} {Q : List D → VS → Prop} : wp (iSeq F) s Q ↔ wp F s fun d s => to (match d with
  | .lst xs => some xs
  | .tup xs => some xs
  | .scr ns => some (ns.map D.int)
  | .str z => some (signs z)
  | _ => none) s Q := by
  unfold iSeq; rw [wp_bd]; refine wp_congr fun d s => ?_
  cases d <;> rfl
@[simp] theorem wp_iRng1F {F : M D} {Q : List D → VS → Prop} : wp (iRng1F F) s Q ↔ wp F s fun d s => to (dInt? d) s fun n s => (-100000 ≤ n ∧ n ≤ 100000) ∧ Q (rgD 0 n.toNat) s := by
  unfold iRng1F; rw [wp_bd]; refine wp_congr fun d s => ?_
  cases d with
  | int n =>
    unfold wp; dsimp only [dInt?_int, to_some]
    split
    · rename_i h; simp [h]
    · rename_i h; simp [h]
  | _ => rfl
@[simp] theorem wp_iRng2F {F G : M D} {Q : List D → VS → Prop} : wp (iRng2F F G) s Q ↔ wp F s fun a s => wp G s fun b s => to (dRng2 a b) s Q := by
  unfold iRng2F; rw [wp_bd]; refine wp_congr fun a s => ?_; rw [wp_bd]; refine wp_congr fun b s => ?_
  unfold wp; dsimp only
  cases dRng2 a b <;> simp
@[simp] theorem wp_fM {T : String} {f : D → List D → Option L} {Fo : M Pk} {Fr : M (List Pk)} {Q : L → VS → Prop} : wp (fM T f Fo Fr) s Q ↔ wp Fo s fun o s => to (res s o) s fun d1 s => isT T d1 = true ∧ wp Fr s fun ks s => to (res s o) s fun d s => to (resAll s ks) s fun ds s => to (f d ds) s Q := by
  unfold fM; rw [wp_bd]; refine wp_congr fun o s => ?_
  have e1 : ∀ s, wp (bd Fr (fun ks s2 => match res s2 o, resAll s2 ks with
    | some d, some ds => (match f d ds with
      | some l => some (.ok l, s2)
      | none => none)
    | _, _ => none)) s Q ↔ wp Fr s fun ks s => to (res s o) s fun d s => to (resAll s ks) s fun ds s => to (f d ds) s Q := fun s => by
    refine wp_bd.trans (wp_congr fun ks s => ?_)
    unfold wp; dsimp only
    cases h1 : res s o with
    | none => simp
    | some d =>
      cases h2 : resAll s ks with
      | none => simp [h2]
      | some ds => cases h : f d ds <;> simp [h2, h]
  simp only [← e1]
  unfold wp; dsimp only
  cases h1 : res s o with
  | none => simp
  | some d =>
    dsimp only [to_some]
    split
    · rename_i h; simp only [h, true_and, to_some] <;> exact Iff.rfl
    · rename_i h; simp [h]
@[simp] theorem wp_fIsi {T : String} {Fa : M Pk} {Q : D → VS → Prop} : wp (fIsi T Fa) s Q ↔ wp Fa s fun a s => to (res s a) s fun d s => to (dIsi T d) s fun b s => Q (.bl b) s := by
  unfold fIsi; rw [wp_bd]; refine wp_congr fun a s => ?_
  unfold wp; dsimp only
  cases h1 : res s a with
  | none => simp
  | some x => cases h : dIsi T x <;> simp [h]
@[simp] theorem wp_fTab {t : List (Str × Int)} {F G : M D} {Q : D → VS → Prop} : wp (fTab t F G) s Q ↔ wp F s fun z s => wp G s fun d s => to (dTab t z d) s Q := by
  unfold fTab; rw [wp_bd]; refine wp_congr fun a s => ?_; rw [wp_bd]; refine wp_congr fun b s => ?_
  unfold wp; dsimp only
  cases dTab t a b <;> simp
@[simp] theorem wp_fFld {C : Addr} {f : Str} {Fo : M Pk} {Q : D → VS → Prop} : wp (fFld C f Fo) s Q ↔ wp Fo s fun o s => to (fldOf C f s o) s Q := by
  unfold fFld; rw [wp_bd]; refine wp_congr fun o s => ?_
  unfold wp; dsimp only
  cases fldOf C f s o <;> simp
@[simp] theorem argsOf_nil : argsOf s [] = some [] := rfl
@[simp] theorem to_args_dat {s0 : VS} {d : D} {ks : List Pk} {Q : VS → VS → Prop} : to (argsOf s (.dat d :: ks)) s0 Q ↔ to (argsOf s ks) s0 fun ls s0 => Q (some (.d d) :: ls) s0 := by
  rw [argsOf, to_map]
@[simp] theorem to_args_sl {s0 : VS} {j : Nat} {ks : List Pk} {Q : VS → VS → Prop} : to (argsOf s (.sl j :: ks)) s0 Q ↔ to (at? s j) s0 fun l s0 => to (argsOf s ks) s0 fun ls s0 => Q (some l :: ls) s0 := by
  rw [argsOf]; unfold at?
  cases h : s[j]? with
  | none => simp
  | some o => cases o <;> simp
@[simp] theorem wp_fCall {fn : Fn} {Fr : M (List Pk)} {Q : L → VS → Prop} : wp (fCall fn Fr) s Q ↔ wp Fr s fun ks s => wp (callF fn ks) s Q := by unfold fCall; simp
theorem wp_callF {fn : Fn} {ks : List Pk} {Q : L → VS → Prop} : wp (callF fn ks) s Q ↔ to (argsOf s ks) s fun ls s => (slND ks = true ∧ ks.length = fn.n) ∧ wp fn.run ls fun l os => Q l (setO s ks os) := by
  unfold wp callF
  cases h : argsOf s ks with
  | none => simp
  | some ls =>
    dsimp only [to_some]
    split
    · rename_i h1
      cases h2 : fn.run ls with
      | none => simp [h2]
      | some p =>
        obtain ⟨r, os⟩ := p
        cases r <;> simp [h1, h2]
    · rename_i h1; simp [h1]
theorem wp_fMeth {C : Addr} {m : Str} {fn : Fn} {Fo : M Pk} {Fr : M (List Pk)} {Q : L → VS → Prop} : wp (fMeth C m fn Fo Fr) s Q ↔ wp Fo s fun o s => to (clsOf s o) s fun p s => (p.1 = C ∧ m ∉ p.2) ∧ wp Fr s fun ks s => wp (callF fn (o :: ks)) s Q := by
  unfold fMeth; rw [wp_bd]; refine wp_congr fun o s => ?_
  have e1 : ∀ s, wp (bd Fr fun ks => callF fn (o :: ks)) s Q ↔ wp Fr s fun ks s => wp (callF fn (o :: ks)) s Q := fun s => wp_bd
  simp only [← e1]
  unfold wp; dsimp only
  cases h1 : clsOf s o with
  | none => simp
  | some p =>
    obtain ⟨C', fs⟩ := p
    dsimp only [to_some]
    split
    · rename_i h; simp [h]
    · rename_i h; simp only [h, false_and, to_some] <;> exact Iff.rfl
theorem wp_fMake {C : Addr} {fn : Fn} {Fr : M (List Pk)} {Q : L → VS → Prop} : wp (fMake C fn Fr) s Q ↔ wp Fr s fun ks s => wp (makeF C fn ks) s Q := by unfold fMake; simp
theorem makeF_in {C : Addr} {fn : Fn} {ks : List Pk} {Q : L → VS → Prop} {ls os : VS} {l : L} (h1 : argsOf s ks = some ls) (h2 : slND ks = true) (h3 : ks.length + 1 = fn.n) (h4 : fn.run (some (.obj C [] []) :: ls) = some (.ok (.d .non), some l :: os)) (q : Q l (setO s ks os)) : wp (makeF C fn ks) s Q := by
  unfold wp makeF
  simp only [h1, h2, h3, h4, and_self, if_true]
  exact q
@[simp] theorem slND_nil : slND [] = true := rfl
@[simp] theorem slND_sl {j : Nat} {ks : List Pk} : slND (.sl j :: ks) = (!hasSl j ks && slND ks) := rfl
@[simp] theorem slND_dat {d : D} {ks : List Pk} : slND (.dat d :: ks) = slND ks := rfl
@[simp] theorem hasSl_nil {j : Nat} : hasSl j [] = false := rfl
@[simp] theorem hasSl_sl {j i : Nat} {ks : List Pk} : hasSl j (.sl i :: ks) = (decide (i = j) || hasSl j ks) := rfl
@[simp] theorem hasSl_dat {j : Nat} {d : D} {ks : List Pk} : hasSl j (.dat d :: ks) = hasSl j ks := rfl
@[simp] theorem setO_nil {os : VS} : setO s [] os = s := by cases os <;> rfl
@[simp] theorem setO_sl {j : Nat} {ks : List Pk} {o : Option L} {os : VS} : setO s (.sl j :: ks) (o :: os) = (setO s ks os).set j o := rfl
@[simp] theorem setO_dat {d : D} {ks : List Pk} {o : Option L} {os : VS} : setO s (.dat d :: ks) (o :: os) = setO s ks os := rfl
@[simp] theorem mkFn_n {n nn : Nat} {io : List Nat} {F : M Fl} : (mkFn n nn io F).n = n := rfl
theorem wp_run {n nn : Nat} {io : List Nat} {F : M Fl} {Q : L → VS → Prop} (h : wp F (s ++ List.replicate (nn - n) none) fun f s' => match f with
    | .rt l => Q l (outs n io s')
    | .nx => Q (.d .non) (outs n io s')
    | _ => False) : wp (mkFn n nn io F).run s Q := by
  obtain ⟨f, s', e, q⟩ := wp_out h
  show fin (mkRun n nn io F s) Q
  unfold mkRun
  rw [e]
  cases f with
  | nx => exact q
  | rt l => exact q
  | bk => exact q.elim
  | ct => exact q.elim
def lend (Q : Fl → VS → Prop) (N : VS → Prop) : Fl → VS → Prop
  | .nx, s => N s
  | .ct, s => N s
  | .bk, s => Q .nx s
  | .rt l, s => Q (.rt l) s
@[simp] theorem lend_nx {Q : Fl → VS → Prop} {N : VS → Prop} : lend Q N .nx s ↔ N s := Iff.rfl
@[simp] theorem lend_ct {Q : Fl → VS → Prop} {N : VS → Prop} : lend Q N .ct s ↔ N s := Iff.rfl
@[simp] theorem lend_bk {Q : Fl → VS → Prop} {N : VS → Prop} : lend Q N .bk s ↔ Q .nx s := Iff.rfl
@[simp] theorem lend_rt {Q : Fl → VS → Prop} {N : VS → Prop} {l : L} : lend Q N (.rt l) s ↔ Q (.rt l) s := Iff.rfl
@[simp] theorem wp_sFor {Fi : M (List D)} {tg : Tg} {B : M Fl} {Q : Fl → VS → Prop} : wp (sFor Fi tg B) s Q ↔ wp Fi s fun ds s => wp (loopF tg B ds) s Q := by unfold sFor; simp
@[simp] theorem wp_loop_nil {tg : Tg} {B : M Fl} {Q : Fl → VS → Prop} : wp (loopF tg B []) s Q ↔ Q .nx s := Iff.rfl
theorem wp_loop_cons {tg : Tg} {B : M Fl} {d : D} {r : List D} {Q : Fl → VS → Prop} : wp (loopF tg B (d :: r)) s Q ↔ to (asg tg d s) s fun s1 _ => wp B s1 (lend Q fun s2 => wp (loopF tg B r) s2 Q) := by
  rw [loopF]; unfold wp; dsimp only
  cases h : asg tg d s with
  | none => simp
  | some s1 =>
    dsimp only
    refine (wp_bd (F := B) (s := s1) (Q := Q)).trans (wp_congr fun f s => ?_)
    cases f <;> rfl
theorem wp_loop {tg : Tg} {B : M Fl} {ds : List D} {Q : Fl → VS → Prop} (I : Nat → VS → Prop) (h0 : I 0 s) (step : ∀ i d s, ds[i]? = some d → I i s → to (asg tg d s) s fun s1 _ => wp B s1 (lend Q (I (i + 1)))) (hend : ∀ s, I ds.length s → Q .nx s) : wp (loopF tg B ds) s Q := by
  have key : ∀ (r : List D) (i : Nat) (s : VS), ds.drop i = r → i ≤ ds.length → I i s → wp (loopF tg B r) s Q := by
    intro r
    induction r with
    | nil =>
      intro i s hr hi h
      have : i = ds.length := Nat.le_antisymm hi (List.drop_eq_nil_iff.mp hr)
      subst this
      exact hend s h
    | cons d r ih =>
      intro i s hr hi h
      have hlt : i < ds.length := by
        rcases Nat.lt_or_ge i ds.length with q | q
        · exact q
        · rw [List.drop_eq_nil_of_le q] at hr; cases hr
      rw [List.drop_eq_getElem_cons hlt] at hr
      injection hr with h1 h2
      rw [wp_loop_cons]
      obtain ⟨s1, e, w⟩ := to_out (step i d s (by rw [List.getElem?_eq_getElem hlt, h1]) h)
      refine to_in e (wp_mono w fun f s2 q => ?_)
      cases f with
      | nx => exact ih (i + 1) s2 h2 hlt q
      | ct => exact ih (i + 1) s2 h2 hlt q
      | bk => exact q
      | rt l => exact q
  exact key ds 0 s rfl (Nat.zero_le _) h0
theorem wp_while {C : M Bool} {B : M Fl} {Q : Fl → VS → Prop} (I : Nat → VS → Prop) (step : ∀ m s, I m s → wp C s fun k s1 => if k = true then wp B s1 (lend Q fun s2 => ∃ m', m' < m ∧ I m' s2) else Q .nx s1) : ∀ (n m : Nat) (s : VS), m < n → I m s → wp (sWhile C B n) s Q
  | 0, m, s, h, _ => by omega
  | n + 1, m, s, h, i => by
    rw [sWhile, wp_bd]
    refine wp_mono (step m s i) fun k s1 q => ?_
    cases k with
    | false => exact q
    | true =>
      have q : wp B s1 (lend Q fun s2 => ∃ m', m' < m ∧ I m' s2) := q
      rw [wp_ite, if_pos rfl, wp_bd]
      refine wp_mono q fun f s2 q => ?_
      cases f with
      | nx => obtain ⟨m', h1, h2⟩ := q; exact wp_while I step n m' s2 (by omega) h2
      | ct => obtain ⟨m', h1, h2⟩ := q; exact wp_while I step n m' s2 (by omega) h2
      | bk => exact q
      | rt l => exact q
theorem wp_fComp {own : List Nat} {Fi : M (List D)} {tg : Tg} {C : M Bool} {Fe : M D} {Q : L → VS → Prop} : wp (fComp own Fi tg C Fe) s Q ↔ wp Fi s fun ds s => to (lcF tg own C Fe ds [] (wipeV s own)) s fun p s => Q (.own p.1) (restV s p.2 own) := by
  unfold fComp; rw [wp_bd]; refine wp_congr fun ds s => ?_
  unfold wp; dsimp only
  cases lcF tg own C Fe ds [] (wipeV s own) <;> simp
theorem wp_fCompO {i : Nat} {own : List Nat} {tg : Tg} {C : M Bool} {Fe : M D} {Q : L → VS → Prop} : wp (fCompO i own tg C Fe) s Q ↔ to (ownAt s i) s fun xs s => to (lcF tg own C Fe xs [] (wipeV (s.set i none) own)) s fun p s => Q (.own p.1) ((restV (s.set i none) p.2 own).set i (some (.own xs))) := by
  unfold wp fCompO ownAt
  cases h : s[i]? with
  | none => simp
  | some o =>
    cases o with
    | none => simp
    | some l =>
      cases l with
      | own xs => cases h2 : lcF tg own C Fe xs [] (wipeV (s.set i none) own) <;> simp [h2]
      | _ => simp
theorem lcF_in {tg : Tg} {own : List Nat} {C : M Bool} {Fe : M D} {ds : List D} (I : Nat → List D → VS → Prop) (h0 : I 0 [] s)
    (step : ∀ i d acc s, ds[i]? = some d → I i acc s → to (asg tg d s) s fun s1 _ => wp C s1 fun k s2 => if k = true then wp Fe s2 fun y s3 => acc.length < 100000 ∧ I (i + 1) (acc ++ [y]) (wipeV s3 own) else I (i + 1) acc (wipeV s2 own)) :
    ∃ acc s2, lcF tg own C Fe ds [] s = some (acc, s2) ∧ I ds.length acc s2 := by
  have key : ∀ (r : List D) (i : Nat) (acc : List D) (s : VS), ds.drop i = r → i ≤ ds.length → I i acc s → ∃ acc' s2, lcF tg own C Fe r acc s = some (acc', s2) ∧ I ds.length acc' s2 := by
    intro r
    induction r with
    | nil =>
      intro i acc s hr hi h
      have : i = ds.length := Nat.le_antisymm hi (List.drop_eq_nil_iff.mp hr)
      subst this
      exact ⟨acc, s, rfl, h⟩
    | cons d r ih =>
      intro i acc s hr hi h
      have hlt : i < ds.length := by
        rcases Nat.lt_or_ge i ds.length with q | q
        · exact q
        · rw [List.drop_eq_nil_of_le q] at hr; cases hr
      rw [List.drop_eq_getElem_cons hlt] at hr
      injection hr with h1 h2
      obtain ⟨s1, e, w⟩ := to_out (step i d acc s (by rw [List.getElem?_eq_getElem hlt, h1]) h)
      obtain ⟨k, s2, e2, w⟩ := wp_out w
      rw [lcF]
      simp only [e, e2]
      cases k with
      | false => exact ih (i + 1) acc _ h2 hlt w
      | true =>
        have w : wp Fe s2 fun y s3 => acc.length < 100000 ∧ I (i + 1) (acc ++ [y]) (wipeV s3 own) := w
        obtain ⟨y, s3, e3, hl, w⟩ := wp_out w
        simp only [e3, hl, if_true]
        exact ih (i + 1) (acc ++ [y]) _ h2 hlt w
  exact key ds 0 [] s rfl (Nat.zero_le _) h0
theorem lcF_pure {tg : Tg} {own : List Nat} {C : M Bool} {Fe : M D} {ds : List D} (g : D → Option D) (hl : ds.length ≤ 100000)
    (h : ∀ d, d ∈ ds → to (asg tg d s) s fun s1 _ => wp C s1 fun k s2 => if k = true then wp Fe s2 fun y s3 => g d = some y ∧ wipeV s3 own = s else g d = none ∧ wipeV s2 own = s) : lcF tg own C Fe ds [] s = some (ds.filterMap g, s) := by
  obtain ⟨acc, s2, e, h1, h2, h3⟩ := lcF_in (s := s) (tg := tg) (own := own) (C := C) (Fe := Fe) (ds := ds) (fun i acc s' => acc = (ds.take i).filterMap g ∧ s' = s ∧ acc.length ≤ i) ⟨rfl, rfl, Nat.le_refl _⟩ (by
    rintro i d acc s' hd ⟨ha, rfl, hi⟩
    have hlt := (List.getElem?_eq_some_iff.mp hd).1
    have htk : ds.take (i + 1) = ds.take i ++ [d] := by rw [List.take_succ, hd]; rfl
    obtain ⟨s1, e, w⟩ := to_out (h d (List.mem_of_getElem? hd))
    refine to_in e (wp_mono w fun k s2 q => ?_)
    cases k with
    | false =>
      obtain ⟨q1, q2⟩ := (show g d = none ∧ wipeV s2 own = s' from q)
      refine ⟨?_, q2, by omega⟩
      rw [htk, List.filterMap_append, ← ha]
      simp [q1]
    | true =>
      have q : wp Fe s2 fun y s3 => g d = some y ∧ wipeV s3 own = s' := q
      refine (wp_mono q fun y s3 q => ?_ : wp Fe s2 _)
      obtain ⟨q1, q2⟩ := q
      refine ⟨by omega, ?_, q2, by simp; omega⟩
      rw [htk, List.filterMap_append, ← ha]
      simp [q1])
  rw [e, h1, h2, List.take_length]
end
end Ev
namespace Ev
open PySem PySem.Spec PyProof.Rows L2
section
variable {α : Type} {s : VS}
theorem atI_nat {xs : List α} (n : Nat) : atI xs (n : Int) = xs[n]? := by
  unfold L2.atI L2.ixN
  rw [if_pos (by omega)]
  by_cases h : n < xs.length
  · rw [if_pos (by omega)]; simp
  · rw [if_neg (by omega), List.getElem?_eq_none (by omega)]; rfl
theorem atI_pos {xs : List α} {i : Int} (h : 0 ≤ i) : atI xs i = xs[i.toNat]? := by
  have := atI_nat (xs := xs) i.toNat
  rwa [Int.toNat_of_nonneg h] at this
@[simp] theorem atI_zero {xs : List α} : atI xs 0 = xs[0]? := atI_nat 0
@[simp] theorem atI_one {xs : List α} : atI xs 1 = xs[1]? := atI_nat 1
@[simp] theorem atI_two {xs : List α} : atI xs 2 = xs[2]? := atI_nat 2
@[simp] theorem atI_three {xs : List α} : atI xs 3 = xs[3]? := atI_nat 3
@[simp] theorem atI_neg {xs : List α} : atI xs (-1) = xs[xs.length - 1]? := by
  unfold L2.atI L2.ixN
  rw [if_neg (by omega)]
  by_cases h : 0 < xs.length
  · rw [if_pos (by omega)]
    have : ((-1 : Int) + (xs.length : Int)).toNat = xs.length - 1 := by omega
    rw [this]; rfl
  · rw [if_neg (by omega), List.getElem?_eq_none (by omega)]; rfl
@[simp] theorem dIx_lst {xs : List D} {i : Int} : dIx (.lst xs) (.int i) = (atI xs i).map L.d := rfl
@[simp] theorem dIx_tup {xs : List D} {i : Int} : dIx (.tup xs) (.int i) = (atI xs i).map L.d := rfl
theorem dIx_str {z : Str} {i : Int} (h : z.length ≤ 100000) : dIx (.str z) (.int i) = (atI z.cps.toList i).map fun c => .d (.str ⟨#[c]⟩) := if_pos h
@[simp] theorem dAdd_int {i j : Int} : dAdd (.int i) (.int j) = some (.d (.int (i + j))) := rfl
@[simp] theorem dAdd_lst {a b : List D} : dAdd (.lst a) (.lst b) = if a.length + b.length ≤ 100000 then some (.own (a ++ b)) else none := rfl
@[simp] theorem dAdd_str {a b : Str} : dAdd (.str a) (.str b) = if a.length + b.length ≤ 100000 then some (.d (.str (a ++ b))) else none := rfl
@[simp] theorem dSub_int {i j : Int} : dSub (.int i) (.int j) = some (.d (.int (i - j))) := rfl
@[simp] theorem dMul_int {i j : Int} : dMul (.int i) (.int j) = if (-(2 ^ 64) < i ∧ i < 2 ^ 64) ∨ (-(2 ^ 64) < j ∧ j < 2 ^ 64) then some (.d (.int (i * j))) else none := rfl
@[simp] theorem dMul_lst {a : List D} {k : Int} : dMul (.lst a) (.int k) = if k ≤ 100000 ∧ -100000 ≤ k ∧ a.length * k.toNat ≤ 100000 then some (.own (List.replicate k.toNat a).flatten) else none := rfl
@[simp] theorem dMul_str {z : Str} {n : Int} : dMul (.str z) (.int n) = if 1 ≤ n ∧ n ≤ 1000 ∧ z.length ≤ 1000 then some (.d (.str (repS z n.toNat))) else none := rfl
@[simp] theorem dDiv_int {i j : Int} : dDiv (.int i) (.int j) = if 0 < j ∧ j < 1073741824 then some (.d (.int (i / j))) else none := rfl
@[simp] theorem dMod_int {i j : Int} : dMod (.int i) (.int j) = if 0 < j then some (.d (.int (i % j))) else none := rfl
@[simp] theorem dPow_int {i j : Int} : dPow (.int i) (.int j) = if 0 ≤ j ∧ j ≤ 1000 ∧ i.natAbs < 2 ^ 64 then some (.d (.int (i ^ j.toNat))) else none := rfl
@[simp] theorem dNeg_int {i : Int} : dNeg (.int i) = some (.d (.int (-i))) := rfl
@[simp] theorem dCmp_int {p : Int → Int → Bool} {i j : Int} : dCmp p (.int i) (.int j) = some (p i j) := rfl
@[simp] theorem dEq_int {i j : Int} : dEq (.int i) (.int j) = some (decide (i = j)) := rfl
@[simp] theorem dEq_str {i j : Str} : dEq (.str i) (.str j) = some (decide (i = j)) := rfl
@[simp] theorem dEq_bl {i j : Bool} : dEq (.bl i) (.bl j) = some (decide (i = j)) := rfl
@[simp] theorem dNe_eq {x y : D} : dNe x y = (dEq x y).map (! ·) := rfl
@[simp] theorem dNotIn_eq {x y : D} : dNotIn x y = (dIn x y).map (! ·) := rfl
@[simp] theorem dLen_lst {xs : List D} : dLen [.lst xs] = some (.d (.int xs.length)) := rfl
@[simp] theorem dLen_tup {xs : List D} : dLen [.tup xs] = some (.d (.int xs.length)) := rfl
@[simp] theorem dLen_str {z : Str} : dLen [.str z] = if z.length ≤ 100000 then some (.d (.int z.length)) else none := rfl
@[simp] theorem dAbs_int {i : Int} : dAbs [.int i] = some (.d (.int (if i < 0 then -i else i))) := rfl
@[simp] theorem dInt_int {i : Int} : dInt [.int i] = some (.d (.int i)) := rfl
@[simp] theorem dInt_bl {k : Bool} : dInt [.bl k] = some (.d (.int (if k then 1 else 0))) := rfl
@[simp] theorem dList_lst {xs : List D} : dList [.lst xs] = some (.own xs) := rfl
@[simp] theorem dSl_lst {xs : List D} {lo hi : Option Int} : dSl (.lst xs) lo hi = some (.own (cutL xs lo hi)) := rfl
@[simp] theorem dSl_str {z : Str} {lo hi : Option Int} : dSl (.str z) lo hi = if z.length ≤ 100000 then some (.d (.str (cutS z lo hi))) else none := rfl
@[simp] theorem dSum_ints {ns : List Int} : dSum [.lst (ns.map D.int)] = some (.d (.int ns.sum)) := by show (intsOf (ns.map D.int)).map _ = _; rw [intsOf_map]; rfl
@[simp] theorem gAppend_one {xs : List D} {d : D} : gAppend xs [d] = if xs.length < 100000 then some (.non, xs ++ [d]) else none := rfl
@[simp] theorem gPop_nil {xs : List D} : gPop xs [] = (xs[xs.length - 1]?).map fun y => (y, xs.dropLast) := rfl
@[simp] theorem gPop_int {xs : List D} {i : Int} : gPop xs [.int i] = if xs.length ≤ 100000 then (ixN xs.length i).bind fun k => (xs[k]?).map fun y => (y, xs.eraseIdx k) else none := rfl
@[simp] theorem dSetN_int {xs : List D} {i : Int} : dSetN xs (.int i) = ixN xs.length i := rfl
theorem ixN_nat {n k : Nat} (h : k < n) : ixN n (k : Int) = some k := by
  unfold L2.ixN; rw [if_pos (by omega), if_pos (by omega)]; rfl
theorem ixN_pos {n : Nat} {i : Int} (h : 0 ≤ i) (h2 : i < n) : ixN n i = some i.toNat := by
  unfold L2.ixN; rw [if_pos h, if_pos h2]
@[simp] theorem to_bind {β : Type} {o : Option α} {f : α → Option β} {Q : β → VS → Prop} : to (o.bind f) s Q ↔ to o s fun a s => to (f a) s Q := by cases o <;> rfl
def okD : Nat → D → Bool
  | _, .non => true
  | _, .bl _ => true
  | _, .int _ => true
  | _, .str x => PyData.strOk x
  | n + 1, .tup xs => xs.all (okD n)
  | n + 1, .lst xs => xs.all (okD n)
  | _, _ => false
mutual
theorem okD_py : ∀ (d : D) {n : Nat}, okD n d = true → ∃ p, toPy d = some p ∧ p.canLay0 = true ∧ p.depth ≤ n
  | .non, n, h => ⟨_, rfl, rfl, by simp [PyData.depth]⟩
  | .bl b, n, h => ⟨_, rfl, rfl, by simp [PyData.depth]⟩
  | .int i, n, h => ⟨_, rfl, rfl, by simp [PyData.depth]⟩
  | .str x, n, h => ⟨_, rfl, by cases n <;> exact h, by simp [PyData.depth]⟩
  | .tup xs, 0, h => by cases h
  | .tup xs, n + 1, h => by
    obtain ⟨ps, e, h1, h2⟩ := okD_pys xs (n := n) h
    exact ⟨.tuple ps, by unfold toPy; rw [e]; rfl, h1, by simp [PyData.depth]; exact h2⟩
  | .lst xs, 0, h => by cases h
  | .lst xs, n + 1, h => by
    obtain ⟨ps, e, h1, h2⟩ := okD_pys xs (n := n) h
    exact ⟨.list ps, by unfold toPy; rw [e]; rfl, h1, by simp [PyData.depth]; exact h2⟩
  | .scr _, n, h => by cases n <;> cases h
  | .ins _ _ _, n, h => by cases n <;> cases h
  | .dic _ _, n, h => by cases n <;> cases h
theorem okD_pys : ∀ (ds : List D) {n : Nat}, ds.all (okD n) = true → ∃ ps, toPys ds = some ps ∧ PyData.canLayAll0 ps = true ∧ PyData.depthAll ps ≤ n
  | [], n, h => ⟨[], rfl, rfl, by simp [PyData.depthAll]⟩
  | d :: ds, n, h => by
    rw [List.all_cons, Bool.and_eq_true] at h
    obtain ⟨p, e1, a1, b1⟩ := okD_py d h.1
    obtain ⟨ps, e2, a2, b2⟩ := okD_pys ds h.2
    refine ⟨p :: ps, by unfold toPys; rw [e1, e2], ?_, ?_⟩
    · show (PyData.canLay0 p && PyData.canLayAll0 ps) = true
      rw [a1, a2]; rfl
    · show max p.depth (PyData.depthAll ps) ≤ n
      omega
end
theorem okD_shaped {d : D} {n : Nat} (h : okD n d = true) (hn : n ≤ 64) : ∃ p, toPy d = some p ∧ SeqAt.shaped p = true := by
  obtain ⟨p, e, a, b⟩ := okD_py d h
  refine ⟨p, e, ?_⟩
  unfold SeqAt.shaped
  rw [a, Bool.true_and]
  exact decide_eq_true (Nat.le_trans b hn)
theorem dEq_nil {xs : List D} (h : okD 20 (.lst xs) = true) : dEq (.lst xs) (.lst []) = some (decide (xs = [])) := by
  obtain ⟨p, e, hp⟩ := okD_shaped h (by omega)
  have hq : toPy (.lst []) = some (.list []) := rfl
  have hs : SeqAt.shaped (.list []) = true := rfl
  have e1 : dEq (.lst xs) (.lst []) = eqDp (.lst xs) (.lst []) := rfl
  rw [e1]
  unfold eqDp
  rw [e, hq]
  dsimp only
  rw [hp, hs]
  simp only [Bool.and_self, if_true, Option.some.injEq]
  cases xs with
  | nil => cases e; rfl
  | cons d ds =>
    have e : (toPys (d :: ds)).map PyData.list = some p := e
    cases q : toPys (d :: ds) with
    | none => rw [q] at e; cases e
    | some ps =>
      rw [q] at e; cases e
      cases ps with
      | nil =>
        exfalso
        unfold toPys at q
        split at q <;> cases q
      | cons x xs => rfl
theorem okD_ints {n : Nat} (ns : List Int) : okD (n + 1) (.lst (ns.map D.int)) = true := by
  show (ns.map D.int).all (okD n) = true
  rw [List.all_eq_true]
  intro x hx
  obtain ⟨i, _, rfl⟩ := List.mem_map.mp hx
  cases n <;> rfl
@[simp] theorem dEq_ints_nil {ns : List Int} : dEq (.lst (ns.map D.int)) (.lst []) = some (decide (ns = [])) := by
  rw [dEq_nil (okD_ints ns)]
  simp
theorem toPys_ints : ∀ ns : List Int, toPys (ns.map D.int) = some (ns.map PyData.int)
  | [] => rfl
  | n :: r => by
    rw [List.map_cons, toPys, toPys_ints r]
    rfl
theorem eqvAll_ints : ∀ (a b : List Int), PyData.eqvAll (a.map PyData.int) (b.map PyData.int) = decide (a = b)
  | [], [] => rfl
  | [], _ :: _ => rfl
  | _ :: _, [] => rfl
  | x :: xs, y :: ys => by
    show ((x == y) && PyData.eqvAll (xs.map PyData.int) (ys.map PyData.int)) = _
    rw [eqvAll_ints xs ys]
    by_cases h : x = y <;> simp [h]
@[simp] theorem dEq_ints {a b : List Int} : dEq (.lst (a.map D.int)) (.lst (b.map D.int)) = some (decide (a = b)) := by
  have e1 : dEq (.lst (a.map D.int)) (.lst (b.map D.int)) = eqDp (.lst (a.map D.int)) (.lst (b.map D.int)) := rfl
  have ha : toPy (.lst (a.map D.int)) = some (.list (a.map PyData.int)) := by rw [toPy, toPys_ints]; rfl
  have hb : toPy (.lst (b.map D.int)) = some (.list (b.map PyData.int)) := by rw [toPy, toPys_ints]; rfl
  obtain ⟨p, e, hp⟩ := okD_shaped (okD_ints (n := 0) a) (by omega)
  obtain ⟨q, e', hq⟩ := okD_shaped (okD_ints (n := 0) b) (by omega)
  rw [ha] at e; cases e
  rw [hb] at e'; cases e'
  rw [e1]; unfold eqDp; rw [ha, hb]
  dsimp only
  rw [hp, hq]
  simp only [Bool.and_self, if_true, Option.some.injEq]
  exact eqvAll_ints a b
theorem flD_ints (ns : List Int) : (ns.map D.int).all flD = true := by
  rw [List.all_eq_true]; intro x hx; obtain ⟨i, _, rfl⟩ := List.mem_map.mp hx; rfl
@[simp] theorem dIn_ints {i : Int} {ns : List Int} : dIn (.int i) (.lst (ns.map D.int)) = some (decide (i ∈ ns)) := by
  show (if (flD (.int i) && (ns.map D.int).all flD) = true then _ else _) = _
  rw [flD_ints]
  rw [if_pos (by rfl), List.any_map]
  congr 1
  rw [Bool.eq_iff_iff, List.any_eq_true, decide_eq_true_iff]
  constructor
  · rintro ⟨x, hx, e⟩
    have e : (x == i) = true := e
    rw [beq_iff_eq] at e
    rw [← e]; exact hx
  · intro h
    exact ⟨i, h, (by show (i == i) = true; simp)⟩
@[simp] theorem dIn_strs {i : Str} {ns : List Str} : dIn (.str i) (.lst (ns.map D.str)) = some (decide (i ∈ ns)) := by
  have hf : (ns.map D.str).all flD = true := by rw [List.all_eq_true]; intro x hx; obtain ⟨i, _, rfl⟩ := List.mem_map.mp hx; rfl
  show (if (flD (.str i) && (ns.map D.str).all flD) = true then _ else _) = _
  rw [hf]
  rw [if_pos (by rfl), List.any_map]
  congr 1
  rw [Bool.eq_iff_iff, List.any_eq_true, decide_eq_true_iff]
  constructor
  · rintro ⟨x, hx, e⟩
    have e : (x == i) = true := e
    rw [beq_iff_eq] at e
    rw [← e]; exact hx
  · intro h
    exact ⟨i, h, (by show (i == i) = true; simp)⟩
@[simp] theorem dIn_two {i a b : Str} : dIn (.str i) (.tup [.str a, .str b]) = some (decide (i = a ∨ i = b)) := by
  show some ((a == i) || ((b == i) || false)) = _
  rw [Bool.or_false]
  congr 1
  rw [Bool.eq_iff_iff, Bool.or_eq_true, beq_iff_eq, beq_iff_eq, decide_eq_true_iff]
  exact ⟨fun h => h.imp Eq.symm Eq.symm, fun h => h.imp Eq.symm Eq.symm⟩
theorem wp_loopN {tg : Tg} {B : M Fl} {ds : List D} {Q : Fl → VS → Prop} (I : Nat → VS → Prop) (h0 : I 0 s) (step : ∀ i d s (N : VS → Prop), ds[i]? = some d → I i s → (∀ s', I (i + 1) s' → N s') → to (asg tg d s) s fun s1 _ => wp B s1 (lend Q N)) (hend : ∀ s, I ds.length s → Q .nx s) : wp (loopF tg B ds) s Q :=
  wp_loop I h0 (fun i d s hd hi => step i d s _ hd hi fun _ h => h) hend
theorem wp_whileN {C : M Bool} {B : M Fl} {Q : Fl → VS → Prop} (I : Nat → VS → Prop) (n m : Nat) (hm : m < n) (h0 : I m s) (step : ∀ m s (N : VS → Prop), I m s → (∀ m' s', m' < m → I m' s' → N s') → wp C s fun k s1 => if k = true then wp B s1 (lend Q N) else Q .nx s1) : wp (sWhile C B n) s Q :=
  wp_while I (fun m s i => step m s _ i fun m' s' h1 h2 => ⟨m', h1, h2⟩) n m s hm h0
theorem lcF_inN {tg : Tg} {own : List Nat} {C : M Bool} {Fe : M D} {ds : List D} {s0 : VS} {Q : List D × VS → VS → Prop} (I : Nat → List D → VS → Prop) (h0 : I 0 [] s)
    (step : ∀ i d acc s (N : List D → VS → Prop), ds[i]? = some d → I i acc s → (∀ acc' s', I (i + 1) acc' s' → N acc' s') → to (asg tg d s) s fun s1 _ => wp C s1 fun k s2 => if k = true then wp Fe s2 fun y s3 => acc.length < 100000 ∧ N (acc ++ [y]) (wipeV s3 own) else N acc (wipeV s2 own))
    (hend : ∀ acc s2, I ds.length acc s2 → Q (acc, s2) s0) : to (lcF tg own C Fe ds [] s) s0 Q := by
  obtain ⟨acc, s2, e, h⟩ := lcF_in (s := s) I h0 fun i d acc s hd hi => step i d acc s _ hd hi fun _ _ h => h
  exact to_in e (hend acc s2 h)
def retF (n : Nat) (io : List Nat) (Q : L → VS → Prop) : Fl → VS → Prop
  | .rt l, s => Q l (outs n io s)
  | .nx, s => Q (.d .non) (outs n io s)
  | _, _ => False
@[simp] theorem retF_rt {n : Nat} {io : List Nat} {Q : L → VS → Prop} {l : L} : retF n io Q (.rt l) s ↔ Q l (outs n io s) := Iff.rfl
@[simp] theorem retF_nx {n : Nat} {io : List Nat} {Q : L → VS → Prop} : retF n io Q .nx s ↔ Q (.d .non) (outs n io s) := Iff.rfl
theorem wp_def {n nn : Nat} {io : List Nat} {F : M Fl} {Q : L → VS → Prop} (h : wp F (s ++ List.replicate (nn - n) none) (retF n io Q)) : wp (mkFn n nn io F).run s Q := by
  refine wp_run (wp_mono h fun f s' q => ?_)
  cases f <;> exact q
theorem outs_eq {n : Nat} {io : List Nat} : outs n io s = (List.range n).map fun i => if i ∈ io then (s[i]?).getD none else none := rfl
end
end Ev
namespace Ev
open PySem PySem.Spec PyProof.Rows L2
open Evl (Ex)
def strsOf : List D → Option (List Str)
  | [] => some []
  | .str i :: r => (strsOf r).map (i :: ·)
  | _ :: _ => none
theorem strsOf_eq : ∀ {ds : List D} {ns : List Str}, strsOf ds = some ns → ds = ns.map D.str
  | [], _, h => by cases h; rfl
  | .str i :: r, ns, h => by
    unfold strsOf at h
    cases e : strsOf r with
    | none => rw [e] at h; cases h
    | some ms => rw [e] at h; cases h; rw [List.map_cons, strsOf_eq e]
  | .non :: _, _, h => by cases h
  | .bl _ :: _, _, h => by cases h
  | .int _ :: _, _, h => by cases h
  | .tup _ :: _, _, h => by cases h
  | .lst _ :: _, _, h => by cases h
  | .scr _ :: _, _, h => by cases h
  | .ins _ _ _ :: _, _, h => by cases h
  | .dic _ _ :: _, _, h => by cases h
theorem RepL.strs_of {K : PySem.W.Frag} {H : Hp} : ∀ {ns : List Str} {vs : List V}, RepL K H vs (ns.map D.str) → vs = ns.map V.str
  | [], _, h => by cases h; rfl
  | n :: r, _, h => by
    cases h with
    | cons h1 h2 => cases h1; rw [RepL.strs_of h2]; rfl
theorem RepL.strs_to {K : PySem.W.Frag} {H : Hp} : ∀ (ns : List Str), RepL K H (ns.map V.str) (ns.map D.str)
  | [] => .nil
  | n :: r => .cons (.str n) (RepL.strs_to r)
def dJoin : D → List D → Option L
  | .str a, [.lst xs] => (match strsOf xs with
    | some ys => if (ys.map (·.length)).sum + ys.length * a.length ≤ 100000 then some (.d (.str (Txt.join a ys))) else none
    | none => none)
  | _, _ => none
theorem ok_join {K : PySem.W.Frag} : OpM K (fun x xs H Q => ∃ a p, ∃ ys : List Str, x = .str a ∧ xs = [.ref p] ∧ (SqL K H p (ys.map V.str) ∨ SqT K H p (ys.map V.str)) ∧
    (ys.map (·.length)).sum + ys.length * a.length ≤ 16777216 ∧ Q (.str (Txt.join a ys)) H) dJoin := fun Hs H x xs dx ds l Q e h1 hp hf hR => by
  unfold dJoin at hf
  split at hf
  · rename_i a zs
    split at hf
    · rename_i ys ey
      split at hf
      · rename_i hl
        cases hf
        obtain ⟨y, rfl, hy⟩ := pair1 hp
        rw [strsOf_eq ey] at hy
        obtain ⟨p, vs, rfl, hp1, hv⟩ := hy.isLst e
        rw [hv.strs_of] at hp1
        exact ⟨a, p, ys, h1.isStr, rfl, .inl (SqL.of hp1), by omega, hR.1 _ (.str _)⟩
      · cases hf
    · cases hf
  · cases hf
def dSplit : D → List D → Option L
  | .str a, [.str b] => if (b.length == 0) = false ∧ a.length + 2 ≤ 100000 then some (.own ((Txt.split a b).map D.str)) else none
  | _, _ => none
theorem ok_split {K : PySem.W.Frag} : OpM K (fun x xs H Q => ∃ a b, x = .str a ∧ xs = [.str b] ∧ (b.length == 0) = false ∧ a.length + 2 ≤ sizeLine ∧ rNewStrs (Txt.split a b) H Q) dSplit := fun Hs H x xs dx ds l Q e h1 hp hf hR => by
  unfold dSplit at hf
  split at hf
  · rename_i a b
    split at hf
    · rename_i hl
      cases hf
      obtain ⟨y, rfl, hy⟩ := pair1 hp
      rw [hy.isStr]
      exact ⟨a, b, h1.isStr, rfl, hl.1, szl hl.2, fun p hp => hR p _ hp (RepL.strs_to _)⟩
    · cases hf
  · cases hf
def dIntA : List D → Option L
  | [.int i] => some (.d (.int i))
  | [.bl k] => some (.d (.int (if k then 1 else 0)))
  | [.str a] => (match PySem.intText? a with
    | some n => if a.length ≤ 640 then some (.d (.int n)) else none
    | none => none)
  | _ => none
def rIntA : List V → Hp → VK → Prop := fun xs H Q => ((∃ i, xs = [.int i] ∧ Q (.int i) H) ∨ ∃ k, xs = [.bl k] ∧ Q (.int (if k then 1 else 0)) H) ∨ ∃ a n, xs = [.str a] ∧ PySem.intText? a = some n ∧ a.length ≤ 640 ∧ Q (.int n) H
theorem cr_intA {X : Cx} : CallR X (.type "int") rIntA := call_int1.or call_int_str
theorem ok_intA {K : PySem.W.Frag} : OpN K rIntA dIntA := fun Hs H xs ds l Q e hp hf hR => by
  unfold dIntA at hf
  split at hf
  · cases hf
    obtain ⟨y, rfl, hy⟩ := pair1 hp
    rw [hy.isInt]
    exact .inl (.inl ⟨_, rfl, hR.1 _ (.int _)⟩)
  · cases hf
    obtain ⟨y, rfl, hy⟩ := pair1 hp
    rw [hy.isBl]
    exact .inl (.inr ⟨_, rfl, hR.1 _ (.int _)⟩)
  · split at hf
    · rename_i n en
      split at hf
      · rename_i hl
        cases hf
        obtain ⟨y, rfl, hy⟩ := pair1 hp
        rw [hy.isStr]
        exact .inr ⟨_, n, rfl, en, hl, hR.1 _ (.int _)⟩
      · cases hf
    · cases hf
  · cases hf
def dStrA : List D → Option L
  | [.int i] => if i.natAbs.log2 < 1920 then some (.d (.str (toString i))) else none
  | [.str a] => some (.d (.str a))
  | _ => none
def rStrA : List V → Hp → VK → Prop := fun xs H Q => (∃ i, xs = [.int i] ∧ i.natAbs.log2 < 1920 ∧ Q (.str (toString i)) H) ∨ ∃ a, xs = [.str a] ∧ Q (.str a) H
theorem cr_strA {X : Cx} : CallR X (.type "str") rStrA := call_str_int.or SkE.call_str_str
theorem ok_strA {K : PySem.W.Frag} : OpN K rStrA dStrA := fun Hs H xs ds l Q e hp hf hR => by
  unfold dStrA at hf
  split at hf
  · split at hf
    · rename_i hl
      cases hf
      obtain ⟨y, rfl, hy⟩ := pair1 hp
      rw [hy.isInt]
      exact .inl ⟨_, rfl, hl, hR.1 _ (.str _)⟩
    · cases hf
  · cases hf
    obtain ⟨y, rfl, hy⟩ := pair1 hp
    rw [hy.isStr]
    exact .inr ⟨_, rfl, hR.1 _ (.str _)⟩
  · cases hf
section
variable {X : Cx} {W : WX} {P : List Nat} {e a b c o : Expr} {pos apos p : Pos} {Fo : M Pk} {F : M D} {Fr : M (List Pk)}
theorem g_join (ho : PE X o (tK X.K W P Fo)) (ha : PA X [e] (tKs X.K W P Fr)) (hbase : attributeBase o "join" X.env (eval o X.env) = eval o X.env := by rfl)
    (hfew : ((backTo pos (starEach [e] X.env)).all (fun x => !x.1) && (backToKw pos (keywordEach [] X.env)).all (fun x => x.1.isSome) && decide (([e] : List Expr).length + ([] : List Keyword).length + (if ([] : List Keyword).isEmpty then 0 else 1) < 30)) = true := by rfl)
    (hline : (apos.endLine == pos.line) = true := by rfl) (hs : starEach [e] X.env = (false, eval e X.env) :: starEach [] X.env := by rfl) (hplain : (backTo pos (starEach [] X.env)).any (·.1) = false := by rfl) :
    PE X (.Call (.Attribute o "join" apos) [e] [] pos) (tL X.K W P (fM "str" dJoin Fo Fr)) :=
  PE_weak (pe_bm PySem.F.plainAttrs_str PySem.F.slot_str_join PySem.F.type_str_join mt_join ho ha hbase hfew hline hs hplain) (re_fM ok_join)
theorem g_split (ho : PE X o (tK X.K W P Fo)) (ha : PA X [e] (tKs X.K W P Fr)) (hbase : attributeBase o "split" X.env (eval o X.env) = eval o X.env := by rfl)
    (hfew : ((backTo pos (starEach [e] X.env)).all (fun x => !x.1) && (backToKw pos (keywordEach [] X.env)).all (fun x => x.1.isSome) && decide (([e] : List Expr).length + ([] : List Keyword).length + (if ([] : List Keyword).isEmpty then 0 else 1) < 30)) = true := by rfl)
    (hline : (apos.endLine == pos.line) = true := by rfl) (hs : starEach [e] X.env = (false, eval e X.env) :: starEach [] X.env := by rfl) (hplain : (backTo pos (starEach [] X.env)).any (·.1) = false := by rfl) :
    PE X (.Call (.Attribute o "split" apos) [e] [] pos) (tL X.K W P (fM "str" dSplit Fo Fr)) :=
  PE_weak (pe_bm PySem.F.plainAttrs_str PySem.F.slot_str_split PySem.F.type_str_split mt_split ho ha hbase hfew hline hs hplain) (re_fM ok_split)
def enumD (k : Nat) : List D → List D
  | [] => []
  | d :: r => .tup [.int (k : Int), d] :: enumD (k + 1) r
def iEnF (F : M D) : M (List D) := bd F fun d s => match d with
  | .lst xs => some (.ok (enumD 0 xs), s)
  | _ => none
theorem enumD_get : ∀ {xs : List D} {k i : Nat} {d : D}, (enumD k xs)[i]? = some d → ∃ x, xs[i]? = some x ∧ d = .tup [.int ((k + i : Nat) : Int), x]
  | [], k, i, d, h => by simp [enumD] at h
  | x :: r, k, 0, d, h => by simp [enumD] at h; exact ⟨x, rfl, h.symm⟩
  | x :: r, k, i + 1, d, h => by
    have h : (enumD (k + 1) r)[i]? = some d := by simpa [enumD] using h
    obtain ⟨y, h1, h2⟩ := enumD_get h
    refine ⟨y, by simpa using h1, ?_⟩
    have : k + 1 + i = k + (i + 1) := by omega
    rw [h2, this]
theorem enumD_len : ∀ {xs : List D} {k : Nat}, (enumD k xs).length = xs.length
  | [], k => rfl
  | x :: r, k => by rw [enumD, List.length_cons, List.length_cons, enumD_len]
theorem itok_enum {K : PySem.W.Frag} {Hs : Hp} {a : Addr} {us : List V} {ds : List D} (h1 : ∀ H, Ex Hs H → SqL K H a us) (h2 : RepL K Hs us ds) : ItOk K Hs (Ite K a) (enumD 0 ds) := by
  refine ⟨fun i H e hi => ⟨us, h1 H e, by rw [h2.length]; rw [enumD_len] at hi; exact hi⟩, fun i d H e hd => ?_⟩
  obtain ⟨x, hx, rfl⟩ := enumD_get hd
  obtain ⟨v, ev, rv⟩ := h2.get hx
  refine ⟨⟨us, v, h1 H e, ev⟩, fun y H' hy => ?_⟩
  obtain ⟨T, z, rfl, hT, rfl, q⟩ := hy
  have := q us (h1 H e)
  rw [ev] at this
  cases this
  refine .inr ⟨T, [.int (i : Nat), v], _, hT, rfl, rfl, rfl, ?_⟩
  rw [Nat.zero_add]
  exact .cons (.int _) (.cons rv .nil)
theorem di_enum {tpos : Pos} {elts : List Expr} {kk : Nat} (hm : X.mg "enumerate" = none) (h : PE X e (tE X.K W P F)) (hg : Gl X "enumerate" := by rfl) (hs : starEach [e] X.env = [(false, eval e X.env)] := by rfl) :
    PI X (.Tuple elts kk tpos) (.Call (.Name "enumerate" p) [e] [] pos) (tI X.K W P (iEnF F)) :=
  PI_weak (pi_enum hg hm (pa_cons h pa_nil (by rw [hs]; rfl)) hs) fun σ H R ⟨fm, Hs, vs, r', vs', hF, hP, hS, hk, hE⟩ => by
    dsimp only [iEnum, tCons, tNil]
    refine go hF hP hS hE fun d vs1 v H1 Hs1 xf hg S1 X1 ⟨rx, ex⟩ => ?_
    subst ex
    split at hg
    · rename_i xs
      cases hg
      cases rx with
      | lst k1 k2 => exact ⟨_, _, rfl, SqL.of (S1.sub _ _ k1), hk _ _ H1 Hs1 [] rfl S1 X1 ⟨itok_enum (fun H e => SqL.of (e _ _ k1)) k2, rfl⟩⟩
    · cases hg
end
end Ev
namespace Ev
open PySem PySem.Spec PyProof.Rows L2
section
variable {α : Type} {s : VS}
@[simp] theorem wp_iEnF {F : M D} {Q : List D → VS → Prop} : wp (iEnF F) s Q ↔ wp F s fun d s => to (match d with
  | .lst xs => some (enumD 0 xs)
  | _ => none) s Q := by
  unfold iEnF; rw [wp_bd]; refine wp_congr fun d s => ?_
  cases d <;> rfl
@[simp] theorem dIntA_int {i : Int} : dIntA [.int i] = some (.d (.int i)) := rfl
@[simp] theorem dIntA_bl {k : Bool} : dIntA [.bl k] = some (.d (.int (if k then 1 else 0))) := rfl
@[simp] theorem dStrA_str {a : Str} : dStrA [.str a] = some (.d (.str a)) := rfl
@[simp] theorem dStrA_int {i : Int} : dStrA [.int i] = if i.natAbs.log2 < 1920 then some (.d (.str (toString i))) else none := rfl
theorem strsOf_map : ∀ ns : List Str, strsOf (ns.map D.str) = some ns
  | [] => rfl
  | n :: r => by rw [List.map_cons, strsOf, strsOf_map r]; rfl
@[simp] theorem dJoin_strs {a : Str} {ys : List Str} : dJoin (.str a) [.lst (ys.map D.str)] = if (ys.map (·.length)).sum + ys.length * a.length ≤ 100000 then some (.d (.str (Txt.join a ys))) else none := by
  show (match strsOf (ys.map D.str) with
    | some ys => if (ys.map fun (z : Str) => z.length).sum + ys.length * a.length ≤ 100000 then some (L.d (.str (Txt.join a ys))) else none
    | none => none) = _
  rw [strsOf_map]
@[simp] theorem dSplit_str {a b : Str} : dSplit (.str a) [.str b] = if (b.length == 0) = false ∧ a.length + 2 ≤ 100000 then some (.own ((Txt.split a b).map D.str)) else none := rfl
end
end Ev
namespace Hd
open PySem PySem.Spec PyProof.Rows L2
def top (i : Nat) : Stmt := PySem.Challenge.pw_evenlate_k18_whole_written_and_read.main.body.getD i (.Pass ⟨0, 0, 0, 0⟩)
abbrev s__wall : Stmt := top 0
abbrev s_must : Stmt := top 13
abbrev s_is_name : Stmt := top 14
abbrev s_Desk___init__ : Stmt := inClass (top 15) 0
abbrev s_Desk_is_box : Stmt := inClass (top 15) 1
abbrev s_Desk_names : Stmt := inClass (top 15) 2
abbrev s_Desk_is_cable : Stmt := inClass (top 15) 3
abbrev s_Desk_led_from : Stmt := inClass (top 15) 4
abbrev s_Desk_is_twice : Stmt := inClass (top 15) 5
abbrev s_Desk_in_order : Stmt := inClass (top 15) 6
abbrev s_Desk_boxes : Stmt := inClass (top 15) 7
abbrev s_Desk_cables : Stmt := inClass (top 15) 8
abbrev s_Desk_late : Stmt := inClass (top 15) 9
abbrev s_Desk_ends : Stmt := inClass (top 15) 10
abbrev s_written : Stmt := top 18
abbrev s_number_of : Stmt := top 19
abbrev s_read : Stmt := top 20
abbrev s_box_of : Stmt := top 21
abbrev s__law_dice : Stmt := top 23
abbrev s__law_off : Stmt := top 24
abbrev s__law_alike : Stmt := top 25
abbrev s__law_mixed : Stmt := top 26
abbrev s__law_box : Stmt := top 27
abbrev s__law_hold : Stmt := top 28
abbrev s__law_names : Stmt := top 29
abbrev s__law_rows : Stmt := top 30
abbrev s__law_more : Stmt := top 31
abbrev s__law_desk : Stmt := top 32
abbrev s__law_made : Stmt := top 33
abbrev s__law_lines : Stmt := top 34
abbrev s_law : Stmt := top 35
end Hd
namespace Hd
open PySem PySem.Spec PyProof.Rows L2 Ev
def t_SIZES : List (Str × Int) := [("in", 2), ("out", 2), ("sum", 2), ("most", 2), ("times", 3), ("part", 3)]
def F_must_3 (C : Addr) : M Fl := sNever
def F_must_2 (C : Addr) : M Fl := (sSeq (F_must_3 C) sNil)
def F_must_1 (C : Addr) : M Fl := (sIf (bNot (fTest (vGet 0))) (F_must_2 C) sNil)
def F_must_0 (C : Addr) : M Fl := (sSeq (F_must_1 C) sNil)
def F_must (C : Addr) : M Fl := (F_must_0 C)
def fn_must (C : Addr) : Fn := mkFn 3 3 [] (F_must C)
def F_is_name_1 (C : Addr) : M Fl := (sRet (fD (vAnd (fBl (c3 dLe dLe (fK (rt (.int 1))) (fK (fS (fN dLen (kCons (vLook 0) kNil)))) (fK (rt (.int 8))))) (fBl (c2 dEq (fK (fS (fComp [1] (iSeq (vGet 0)) (.nm 1) (c2 dNotIn (vLook 1) (fK (rt (.str "abcdefghijklmnopqrstuvwxyz")))) (vGet 1)))) (fK (fS (fLst aNil))))))))
def F_is_name_0 (C : Addr) : M Fl := (sSeq (F_is_name_1 C) sNil)
def F_is_name (C : Addr) : M Fl := (F_is_name_0 C)
def fn_is_name (C : Addr) : Fn := mkFn 1 2 [] (F_is_name C)
def F_Desk_ends_1 (C : Addr) : M Fl := (sRet (fComp [2] (iRng1F (fS (fN dLen (kCons (fK (fFld C "kept" (vLook 0))) kNil)))) (.nm 2) (c2 dEq (fK (fS (f2 dIx (fK (fS (f2 dIx (fK (fFld C "kept" (vLook 0))) (vLook 2)))) (fK (rt (.int 0)))))) (vLook 1)) (vGet 2)))
def F_Desk_ends_0 (C : Addr) : M Fl := (sSeq (F_Desk_ends_1 C) sNil)
def F_Desk_ends (C : Addr) : M Fl := (F_Desk_ends_0 C)
def fn_Desk_ends (C : Addr) : Fn := mkFn 2 3 [0] (F_Desk_ends C)
def F_Desk_in_order_1 (C : Addr) : M Fl := (sSet 1 (fLst aNil))
def F_Desk_in_order_2 (C : Addr) : M Fl := (sSet 2 (fD (fS (f1 dNeg (fK (rt (.int 1)))))))
def F_Desk_in_order_5 (C : Addr) : M Fl := (sSet 2 (fD (fS (fN dLen (kCons (vLook 1) kNil)))))
def F_Desk_in_order_8 (C : Addr) : M Fl := (sSet 4 (fComp [5] (iSeq (fFld C "wires" (vLook 0))) (.nm 5) (bAnd (c2 dEq (fK (fS (f2 dIx (vLook 5) (fK (rt (.int 1)))))) (vLook 3)) (c2 dEq (fK (fS (f2 dIx (vLook 5) (fK (rt (.int 2)))))) (fK (rt (.int 0))))) (fS (f2 dIx (vLook 5) (fK (rt (.int 0)))))))
def F_Desk_in_order_11 (C : Addr) : M Fl := (sExpr (fW 1 gAppend (aCons (vGet 3) aNil)))
def F_Desk_in_order_10 (C : Addr) : M Fl := (sSeq (F_Desk_in_order_11 C) sNil)
def F_Desk_in_order_9 (C : Addr) : M Fl := (sIf (bAnd (c2 dNotIn (vLook 3) (vLook 1)) (c2 dEq (fK (fS (fComp [6] (iSeq (vGet 4)) (.nm 6) (c2 dNotIn (vLook 6) (vLook 1)) (vGet 6)))) (fK (fS (fLst aNil))))) (F_Desk_in_order_10 C) sNil)
def F_Desk_in_order_7 (C : Addr) : M Fl := (sSeq (F_Desk_in_order_8 C) (sSeq (F_Desk_in_order_9 C) sNil))
def F_Desk_in_order_6 (C : Addr) : M Fl := (sFor (iRng1F (fS (fN dLen (kCons (fK (fFld C "kept" (vLook 0))) kNil)))) (.nm 3) (F_Desk_in_order_7 C))
def F_Desk_in_order_4 (C : Addr) : M Fl := (sSeq (F_Desk_in_order_5 C) (sSeq (F_Desk_in_order_6 C) sNil))
def F_Desk_in_order_3 (C : Addr) : M Fl := (sWhile (c2 dLt (vLook 2) (fK (fS (fN dLen (kCons (vLook 1) kNil))))) (F_Desk_in_order_4 C) 1000)
def F_Desk_in_order_12 (C : Addr) : M Fl := (sRet (vMove 1))
def F_Desk_in_order_0 (C : Addr) : M Fl := (sSeq (F_Desk_in_order_1 C) (sSeq (F_Desk_in_order_2 C) (sSeq (F_Desk_in_order_3 C) (sSeq (F_Desk_in_order_12 C) sNil))))
def F_Desk_in_order (C : Addr) : M Fl := (F_Desk_in_order_0 C)
def fn_Desk_in_order (C : Addr) : Fn := mkFn 1 7 [0] (F_Desk_in_order C)
def F_Desk_names_1 (C : Addr) : M Fl := (sRet (fComp [2] (iSeq (fS (fSl (fK (fFld C "kept" (vLook 0))) oNone (oSome (vGet 1))))) (.nm 2) (c2 dIn (fK (fS (f2 dIx (vLook 2) (fK (rt (.int 0)))))) (fK (fTup (aCons (rt (.str "in")) (aCons (rt (.str "out")) aNil))))) (fS (f2 dIx (vLook 2) (fK (rt (.int 1)))))))
def F_Desk_names_0 (C : Addr) : M Fl := (sSeq (F_Desk_names_1 C) sNil)
def F_Desk_names (C : Addr) : M Fl := (F_Desk_names_0 C)
def fn_Desk_names (C : Addr) : Fn := mkFn 2 3 [0] (F_Desk_names C)
def F_Desk_is_box_1 (C : Addr) : M Fl := (sSet 2 (fD (fS (f2 dIx (fK (fFld C "kept" (vLook 0))) (vLook 1)))))
def F_Desk_is_box_4 (C : Addr) : M Fl := (sRet (fD (rt (.bl false))))
def F_Desk_is_box_3 (C : Addr) : M Fl := (sSeq (F_Desk_is_box_4 C) sNil)
def F_Desk_is_box_2 (C : Addr) : M Fl := (sIf (bOr (c2 dEq (fK (fS (fN dLen (kCons (vLook 2) kNil)))) (fK (rt (.int 0)))) (c2 dNe (fK (fTab t_SIZES (fS (f2 dIx (vLook 2) (fK (rt (.int 0))))) (rt (.int 0)))) (fK (fS (fN dLen (kCons (vLook 2) kNil)))))) (F_Desk_is_box_3 C) sNil)
def F_Desk_is_box_7 (C : Addr) : M Fl := (sRet (fD (vAnd (fS (fCall (fn_is_name C) (kCons (fK (fS (f2 dIx (vLook 2) (fK (rt (.int 1)))))) kNil))) (fBl (c2 dNotIn (fK (fS (f2 dIx (vLook 2) (fK (rt (.int 1)))))) (fK (fS (fMeth C "names" (fn_Desk_names C) (vLook 0) (kCons (vLook 1) kNil)))))))))
def F_Desk_is_box_6 (C : Addr) : M Fl := (sSeq (F_Desk_is_box_7 C) sNil)
def F_Desk_is_box_5 (C : Addr) : M Fl := (sIf (c2 dIn (fK (fS (f2 dIx (vLook 2) (fK (rt (.int 0)))))) (fK (fTup (aCons (rt (.str "in")) (aCons (rt (.str "out")) aNil))))) (F_Desk_is_box_6 C) sNil)
def F_Desk_is_box_10 (C : Addr) : M Fl := (sRet (fD (rt (.bl false))))
def F_Desk_is_box_9 (C : Addr) : M Fl := (sSeq (F_Desk_is_box_10 C) sNil)
def F_Desk_is_box_8 (C : Addr) : M Fl := (sIf (bAnd (c2 dEq (fK (fS (f2 dIx (vLook 2) (fK (rt (.int 0)))))) (fK (rt (.str "times")))) (bNot (c3 dLe dLe (fK (fS (f2 dSub (fK (rt (.int 0))) (fK (rt (.int 9)))))) (fK (fS (f2 dIx (vLook 2) (fK (rt (.int 1)))))) (fK (rt (.int 9)))))) (F_Desk_is_box_9 C) sNil)
def F_Desk_is_box_13 (C : Addr) : M Fl := (sRet (fD (rt (.bl false))))
def F_Desk_is_box_12 (C : Addr) : M Fl := (sSeq (F_Desk_is_box_13 C) sNil)
def F_Desk_is_box_11 (C : Addr) : M Fl := (sIf (bAnd (c2 dEq (fK (fS (f2 dIx (vLook 2) (fK (rt (.int 0)))))) (fK (rt (.str "part")))) (bNot (c3 dLe dLe (fK (rt (.int 1))) (fK (fS (f2 dIx (vLook 2) (fK (rt (.int 1)))))) (fK (rt (.int 9)))))) (F_Desk_is_box_12 C) sNil)
def F_Desk_is_box_14 (C : Addr) : M Fl := (sRet (fD (fBl (c3 dLe dLe (fK (rt (.int 0))) (fK (fS (f2 dIx (vLook 2) (fK (fS (f1 dNeg (fK (rt (.int 1))))))))) (fK (rt (.int 9)))))))
def F_Desk_is_box_0 (C : Addr) : M Fl := (sSeq (F_Desk_is_box_1 C) (sSeq (F_Desk_is_box_2 C) (sSeq (F_Desk_is_box_5 C) (sSeq (F_Desk_is_box_8 C) (sSeq (F_Desk_is_box_11 C) (sSeq (F_Desk_is_box_14 C) sNil))))))
def F_Desk_is_box (C : Addr) : M Fl := (F_Desk_is_box_0 C)
def fn_Desk_is_box (C : Addr) : Fn := mkFn 2 3 [0] (F_Desk_is_box C)
def F_Desk_is_cable_1 (C : Addr) : M Fl := (sSetT (.tp [(.nm 2), (.nm 3), (.nm 4)]) (vGet 1))
def F_Desk_is_cable_4 (C : Addr) : M Fl := (sRet (fD (rt (.bl false))))
def F_Desk_is_cable_3 (C : Addr) : M Fl := (sSeq (F_Desk_is_cable_4 C) sNil)
def F_Desk_is_cable_2 (C : Addr) : M Fl := (sIf (bOr (bNot (c3 dLe dLt (fK (rt (.int 0))) (vLook 2) (fK (fS (fN dLen (kCons (fK (fFld C "kept" (vLook 0))) kNil)))))) (bOr (bNot (c3 dLe dLt (fK (rt (.int 0))) (vLook 3) (fK (fS (fN dLen (kCons (fK (fFld C "kept" (vLook 0))) kNil)))))) (bNot (c3 dLe dLe (fK (rt (.int 0))) (vLook 4) (fK (rt (.int 99))))))) (F_Desk_is_cable_3 C) sNil)
def F_Desk_is_cable_5 (C : Addr) : M Fl := (sRet (fD (vAnd (fBl (c2 dNe (fK (fS (f2 dIx (fK (fS (f2 dIx (fK (fFld C "kept" (vLook 0))) (vLook 2)))) (fK (rt (.int 0)))))) (fK (rt (.str "out"))))) (fBl (c2 dNe (fK (fS (f2 dIx (fK (fS (f2 dIx (fK (fFld C "kept" (vLook 0))) (vLook 3)))) (fK (rt (.int 0)))))) (fK (rt (.str "in"))))))))
def F_Desk_is_cable_0 (C : Addr) : M Fl := (sSeq (F_Desk_is_cable_1 C) (sSeq (F_Desk_is_cable_2 C) (sSeq (F_Desk_is_cable_5 C) sNil)))
def F_Desk_is_cable (C : Addr) : M Fl := (F_Desk_is_cable_0 C)
def fn_Desk_is_cable (C : Addr) : Fn := mkFn 2 5 [0] (F_Desk_is_cable C)
def F_Desk_is_twice_1 (C : Addr) : M Fl := (sRet (fD (vAnd (fBl (c2 dEq (fK (fS (f2 dIx (fK (fS (f2 dIx (fK (fFld C "kept" (vLook 0))) (vLook 1)))) (fK (rt (.int 0)))))) (fK (rt (.str "out"))))) (fBl (c2 dGt (fK (fS (fN dLen (kCons (fK (fS (fComp [2] (iSeq (fFld C "wires" (vLook 0))) (.nm 2) (c2 dEq (fK (fS (f2 dIx (vLook 2) (fK (rt (.int 1)))))) (vLook 1)) (vGet 2)))) kNil)))) (fK (rt (.int 1))))))))
def F_Desk_is_twice_0 (C : Addr) : M Fl := (sSeq (F_Desk_is_twice_1 C) sNil)
def F_Desk_is_twice (C : Addr) : M Fl := (F_Desk_is_twice_0 C)
def fn_Desk_is_twice (C : Addr) : Fn := mkFn 2 3 [0] (F_Desk_is_twice C)
def F_Desk_led_from_1 (C : Addr) : M Fl := (sSet 3 (fN dList (kCons (vLook 1) kNil)))
def F_Desk_led_from_2 (C : Addr) : M Fl := (sSet 4 (fN dList (kCons (vLook 1) kNil)))
def F_Desk_led_from_5 (C : Addr) : M Fl := (sSet 5 (fD (fW 4 gPop aNil)))
def F_Desk_led_from_10 (C : Addr) : M Fl := (sExpr (fW 3 gAppend (aCons (fS (f2 dIx (vLook 6) (fK (fS (f2 dSub (fK (rt (.int 1))) (vLook 2)))))) aNil)))
def F_Desk_led_from_11 (C : Addr) : M Fl := (sExpr (fW 4 gAppend (aCons (fS (f2 dIx (vLook 6) (fK (fS (f2 dSub (fK (rt (.int 1))) (vLook 2)))))) aNil)))
def F_Desk_led_from_9 (C : Addr) : M Fl := (sSeq (F_Desk_led_from_10 C) (sSeq (F_Desk_led_from_11 C) sNil))
def F_Desk_led_from_8 (C : Addr) : M Fl := (sIf (bAnd (c2 dEq (fK (fS (f2 dIx (vLook 6) (vLook 2)))) (vLook 5)) (c2 dNotIn (fK (fS (f2 dIx (vLook 6) (fK (fS (f2 dSub (fK (rt (.int 1))) (vLook 2))))))) (vLook 3))) (F_Desk_led_from_9 C) sNil)
def F_Desk_led_from_7 (C : Addr) : M Fl := (sSeq (F_Desk_led_from_8 C) sNil)
def F_Desk_led_from_6 (C : Addr) : M Fl := (sFor (iSeq (fFld C "wires" (vLook 0))) (.nm 6) (F_Desk_led_from_7 C))
def F_Desk_led_from_4 (C : Addr) : M Fl := (sSeq (F_Desk_led_from_5 C) (sSeq (F_Desk_led_from_6 C) sNil))
def F_Desk_led_from_3 (C : Addr) : M Fl := (sWhile (c2 dNe (vLook 4) (fK (fS (fLst aNil)))) (F_Desk_led_from_4 C) 1000)
def F_Desk_led_from_12 (C : Addr) : M Fl := (sRet (vMove 3))
def F_Desk_led_from_0 (C : Addr) : M Fl := (sSeq (F_Desk_led_from_1 C) (sSeq (F_Desk_led_from_2 C) (sSeq (F_Desk_led_from_3 C) (sSeq (F_Desk_led_from_12 C) sNil))))
def F_Desk_led_from (C : Addr) : M Fl := (F_Desk_led_from_0 C)
def fn_Desk_led_from (C : Addr) : Fn := mkFn 3 7 [0] (F_Desk_led_from C)
def F_Desk___init___1 (C : Addr) : M Fl := (sExpr (fS (fCall (fn_must C) (kCons (fK (fBl (c3 dLe dLe (fK (rt (.int 1))) (fK (fS (fN dLen (kCons (vLook 1) kNil)))) (fK (rt (.int 10)))))) (kCons (fK (rt (.int 0))) (kCons (fK (rt (.str "boxes"))) kNil))))))
def F_Desk___init___2 (C : Addr) : M Fl := (sFldSet 0 C "kept" (fD (fS (fN dList (kCons (vLook 1) kNil)))))
def F_Desk___init___5 (C : Addr) : M Fl := (sExpr (fS (fCall (fn_must C) (kCons (fK (fS (fMeth C "is_box" (fn_Desk_is_box C) (vLook 0) (kCons (vLook 3) kNil)))) (kCons (vLook 3) (kCons (fK (rt (.str "box"))) kNil))))))
def F_Desk___init___4 (C : Addr) : M Fl := (sSeq (F_Desk___init___5 C) sNil)
def F_Desk___init___3 (C : Addr) : M Fl := (sFor (iRng1F (fS (fN dLen (kCons (vLook 1) kNil)))) (.nm 3) (F_Desk___init___4 C))
def F_Desk___init___6 (C : Addr) : M Fl := (sExpr (fS (fCall (fn_must C) (kCons (fK (fBl (c2 dLe (fK (fS (fN dLen (kCons (vLook 2) kNil)))) (fK (rt (.int 20)))))) (kCons (fK (rt (.int 0))) (kCons (fK (rt (.str "cables"))) kNil))))))
def F_Desk___init___7 (C : Addr) : M Fl := (sFldSet 0 C "wires" (fD (fS (fN dList (kCons (vLook 2) kNil)))))
def F_Desk___init___10 (C : Addr) : M Fl := (sExpr (fS (fCall (fn_must C) (kCons (fK (fS (fMeth C "is_cable" (fn_Desk_is_cable C) (vLook 0) (kCons (fK (fS (f2 dIx (vLook 2) (vLook 3)))) kNil)))) (kCons (vLook 3) (kCons (fK (rt (.str "cable"))) kNil))))))
def F_Desk___init___9 (C : Addr) : M Fl := (sSeq (F_Desk___init___10 C) sNil)
def F_Desk___init___8 (C : Addr) : M Fl := (sFor (iRng1F (fS (fN dLen (kCons (vLook 2) kNil)))) (.nm 3) (F_Desk___init___9 C))
def F_Desk___init___11 (C : Addr) : M Fl := (sSet 4 (fD (fS (fMeth C "led_from" (fn_Desk_led_from C) (vLook 0) (kCons (fK (fS (fMeth C "ends" (fn_Desk_ends C) (vLook 0) (kCons (fK (rt (.str "in"))) kNil)))) (kCons (fK (rt (.int 0))) kNil))))))
def F_Desk___init___12 (C : Addr) : M Fl := (sSet 5 (fD (fS (fMeth C "led_from" (fn_Desk_led_from C) (vLook 0) (kCons (fK (fS (fMeth C "ends" (fn_Desk_ends C) (vLook 0) (kCons (fK (rt (.str "out"))) kNil)))) (kCons (fK (rt (.int 1))) kNil))))))
def F_Desk___init___15 (C : Addr) : M Fl := (sExpr (fS (fCall (fn_must C) (kCons (fK (vAnd (fBl (c2 dIn (vLook 3) (vLook 4))) (vAnd (fBl (c2 dIn (vLook 3) (vLook 5))) (vNot (fS (fMeth C "is_twice" (fn_Desk_is_twice C) (vLook 0) (kCons (vLook 3) kNil))))))) (kCons (vLook 3) (kCons (fK (rt (.str "lonely"))) kNil))))))
def F_Desk___init___14 (C : Addr) : M Fl := (sSeq (F_Desk___init___15 C) sNil)
def F_Desk___init___13 (C : Addr) : M Fl := (sFor (iRng1F (fS (fN dLen (kCons (vLook 1) kNil)))) (.nm 3) (F_Desk___init___14 C))
def F_Desk___init___16 (C : Addr) : M Fl := (sFldSet 0 C "order" (fD (fS (fMeth C "in_order" (fn_Desk_in_order C) (vLook 0) kNil))))
def F_Desk___init___17 (C : Addr) : M Fl := (sExpr (fS (fCall (fn_must C) (kCons (fK (fBl (c2 dEq (fK (fS (fN dLen (kCons (fK (fFld C "order" (vLook 0))) kNil)))) (fK (fS (fN dLen (kCons (vLook 1) kNil))))))) (kCons (fK (rt (.int 0))) (kCons (fK (rt (.str "ring"))) kNil))))))
def F_Desk___init___0 (C : Addr) : M Fl := (sSeq (F_Desk___init___1 C) (sSeq (F_Desk___init___2 C) (sSeq (F_Desk___init___3 C) (sSeq (F_Desk___init___6 C) (sSeq (F_Desk___init___7 C) (sSeq (F_Desk___init___8 C) (sSeq (F_Desk___init___11 C) (sSeq (F_Desk___init___12 C) (sSeq (F_Desk___init___13 C) (sSeq (F_Desk___init___16 C) (sSeq (F_Desk___init___17 C) sNil)))))))))))
def F_Desk___init__ (C : Addr) : M Fl := (F_Desk___init___0 C)
def fn_Desk___init__ (C : Addr) : Fn := mkFn 3 6 [0] (F_Desk___init__ C)
def F_Desk_boxes_1 (C : Addr) : M Fl := (sRet (fN dList (kCons (fK (fFld C "kept" (vLook 0))) kNil)))
def F_Desk_boxes_0 (C : Addr) : M Fl := (sSeq (F_Desk_boxes_1 C) sNil)
def F_Desk_boxes (C : Addr) : M Fl := (F_Desk_boxes_0 C)
def fn_Desk_boxes (C : Addr) : Fn := mkFn 1 1 [0] (F_Desk_boxes C)
def F_Desk_cables_1 (C : Addr) : M Fl := (sRet (fN dList (kCons (fK (fFld C "wires" (vLook 0))) kNil)))
def F_Desk_cables_0 (C : Addr) : M Fl := (sSeq (F_Desk_cables_1 C) sNil)
def F_Desk_cables (C : Addr) : M Fl := (F_Desk_cables_0 C)
def fn_Desk_cables (C : Addr) : Fn := mkFn 1 1 [0] (F_Desk_cables C)
def F_written_1 (C : Addr) : M Fl := (sSet 1 (fComp [2] (iSeq (fFld C "kept" (vLook 0))) (.nm 2) bYes (fS (fM "str" dJoin (fK (rt (.str " "))) (kCons (fK (fS (fComp [3] (iSeq (vGet 2)) (.nm 3) bYes (fS (fN dStrA (kCons (vLook 3) kNil)))))) kNil)))))
def F_written_2 (C : Addr) : M Fl := (sRet (fM "str" dJoin (fK (rt (.str "\n"))) (kCons (fK (fS (f2 dAdd (vLook 1) (fK (fS (fComp [4] (iSeq (fFld C "wires" (vLook 0))) (.nm 4) bYes (fS (f2 dAdd (fK (rt (.str "cable "))) (fK (fS (fM "str" dJoin (fK (rt (.str " "))) (kCons (fK (fS (fComp [5] (iSeq (vGet 4)) (.nm 5) bYes (fS (fN dStrA (kCons (vLook 5) kNil)))))) kNil)))))))))))) kNil)))
def F_written_0 (C : Addr) : M Fl := (sSeq (F_written_1 C) (sSeq (F_written_2 C) sNil))
def F_written (C : Addr) : M Fl := (F_written_0 C)
def fn_written (C : Addr) : Fn := mkFn 1 6 [] (F_written C)
def F_number_of_1 (C : Addr) : M Fl := (sSet 2 (fIf (c2 dEq (fK (fS (fSl (vLook 0) oNone (oSome (rt (.int 1)))))) (fK (rt (.str "-")))) (fSl (vLook 0) (oSome (rt (.int 1))) oNone) (fD (vGet 0))))
def F_number_of_4 (C : Addr) : M Fl := sNever
def F_number_of_3 (C : Addr) : M Fl := (sSeq (F_number_of_4 C) sNil)
def F_number_of_2 (C : Addr) : M Fl := (sIf (bOr (bNot (c3 dLe dLe (fK (rt (.int 1))) (fK (fS (fN dLen (kCons (vLook 2) kNil)))) (fK (rt (.int 2))))) (bAnd (c2 dEq (fK (fS (f2 dIx (vLook 2) (fK (rt (.int 0)))))) (fK (rt (.str "0")))) (c2 dNe (vLook 0) (fK (rt (.str "0")))))) (F_number_of_3 C) sNil)
def F_number_of_7 (C : Addr) : M Fl := sNever
def F_number_of_6 (C : Addr) : M Fl := (sSeq (F_number_of_7 C) sNil)
def F_number_of_5 (C : Addr) : M Fl := (sIf (c2 dNe (fK (fS (fComp [3] (iSeq (vGet 2)) (.nm 3) (c2 dNotIn (vLook 3) (fK (rt (.str "0123456789")))) (vGet 3)))) (fK (fS (fLst aNil)))) (F_number_of_6 C) sNil)
def F_number_of_8 (C : Addr) : M Fl := (sRet (fN dIntA (kCons (vLook 0) kNil)))
def F_number_of_0 (C : Addr) : M Fl := (sSeq (F_number_of_1 C) (sSeq (F_number_of_2 C) (sSeq (F_number_of_5 C) (sSeq (F_number_of_8 C) sNil))))
def F_number_of (C : Addr) : M Fl := (F_number_of_0 C)
def fn_number_of (C : Addr) : Fn := mkFn 2 4 [] (F_number_of C)
def F_box_of_5 (C : Addr) : M Fl := sNever
def F_box_of_4 (C : Addr) : M Fl := (sSeq (F_box_of_5 C) sNil)
def F_box_of_3 (C : Addr) : M Fl := (sIf (bNot (fTest (fS (fCall (fn_is_name C) (kCons (fK (fS (f2 dIx (vLook 0) (fK (rt (.int 1)))))) kNil))))) (F_box_of_4 C) sNil)
def F_box_of_6 (C : Addr) : M Fl := (sRet (fD (fTup (aCons (fS (f2 dIx (vLook 0) (fK (rt (.int 0))))) (aCons (fS (f2 dIx (vLook 0) (fK (rt (.int 1))))) aNil)))))
def F_box_of_2 (C : Addr) : M Fl := (sSeq (F_box_of_3 C) (sSeq (F_box_of_6 C) sNil))
def F_box_of_1 (C : Addr) : M Fl := (sIf (c2 dIn (fK (fS (f2 dIx (vLook 0) (fK (rt (.int 0)))))) (fK (fTup (aCons (rt (.str "in")) (aCons (rt (.str "out")) aNil))))) (F_box_of_2 C) sNil)
def F_box_of_7 (C : Addr) : M Fl := (sRet (f2 dAdd (fK (fTup (aCons (fS (f2 dIx (vLook 0) (fK (rt (.int 0))))) aNil))) (fK (fS (fN dTuple (kCons (fK (fS (fComp [2] (iSeq (fS (fSl (vLook 0) (oSome (rt (.int 1))) oNone))) (.nm 2) bYes (fS (fCall (fn_number_of C) (kCons (vLook 2) (kCons (vLook 1) kNil))))))) kNil))))))
def F_box_of_0 (C : Addr) : M Fl := (sSeq (F_box_of_1 C) (sSeq (F_box_of_7 C) sNil))
def F_box_of (C : Addr) : M Fl := (F_box_of_0 C)
def fn_box_of (C : Addr) : Fn := mkFn 2 3 [] (F_box_of C)
def F_read_1 (C : Addr) : M Fl := (sSet 1 (fLst aNil))
def F_read_2 (C : Addr) : M Fl := (sSet 2 (fLst aNil))
def F_read_5 (C : Addr) : M Fl := (sSet 5 (fD (fS (fM "str" dSplit (vLook 4) (kCons (fK (rt (.str " "))) kNil)))))
def F_read_10 (C : Addr) : M Fl := sNever
def F_read_9 (C : Addr) : M Fl := (sSeq (F_read_10 C) sNil)
def F_read_8 (C : Addr) : M Fl := (sIf (c2 dNe (fK (fS (fN dLen (kCons (vLook 5) kNil)))) (fK (rt (.int 4)))) (F_read_9 C) sNil)
def F_read_11 (C : Addr) : M Fl := (sExpr (fW 2 gAppend (aCons (fS (fN dTuple (kCons (fK (fS (fComp [6] (iSeq (fS (fSl (vLook 5) (oSome (rt (.int 1))) oNone))) (.nm 6) bYes (fS (fCall (fn_number_of C) (kCons (vLook 6) (kCons (vLook 3) kNil))))))) kNil))) aNil)))
def F_read_7 (C : Addr) : M Fl := (sSeq (F_read_8 C) (sSeq (F_read_11 C) sNil))
def F_read_15 (C : Addr) : M Fl := sNever
def F_read_14 (C : Addr) : M Fl := (sSeq (F_read_15 C) sNil)
def F_read_13 (C : Addr) : M Fl := (sIf (bOr (c2 dNe (vLook 2) (fK (fS (fLst aNil)))) (c2 dNe (fK (fTab t_SIZES (fS (f2 dIx (vLook 5) (fK (rt (.int 0))))) (rt (.int 0)))) (fK (fS (fN dLen (kCons (vLook 5) kNil)))))) (F_read_14 C) sNil)
def F_read_16 (C : Addr) : M Fl := (sExpr (fW 1 gAppend (aCons (fS (fCall (fn_box_of C) (kCons (vLook 5) (kCons (vLook 3) kNil)))) aNil)))
def F_read_12 (C : Addr) : M Fl := (sSeq (F_read_13 C) (sSeq (F_read_16 C) sNil))
def F_read_6 (C : Addr) : M Fl := (sIf (c2 dEq (fK (fS (f2 dIx (vLook 5) (fK (rt (.int 0)))))) (fK (rt (.str "cable")))) (F_read_7 C) (F_read_12 C))
def F_read_4 (C : Addr) : M Fl := (sSeq (F_read_5 C) (sSeq (F_read_6 C) sNil))
def F_read_3 (C : Addr) : M Fl := (sFor (iEnF (fS (fM "str" dSplit (vLook 0) (kCons (fK (rt (.str "\n"))) kNil)))) (.tp [(.nm 3), (.nm 4)]) (F_read_4 C))
def F_read_17 (C : Addr) : M Fl := (sRet (fMake C (fn_Desk___init__ C) (kCons (fK (vGet 1)) (kCons (fK (vGet 2)) kNil))))
def F_read_0 (C : Addr) : M Fl := (sSeq (F_read_1 C) (sSeq (F_read_2 C) (sSeq (F_read_3 C) (sSeq (F_read_17 C) sNil))))
def F_read (C : Addr) : M Fl := (F_read_0 C)
def fn_read (C : Addr) : Fn := mkFn 1 7 [] (F_read C)
def F__law_dice_1 (C : Addr) : M Fl := (sSet 2 (fD (vGet 1)))
def F__law_dice_4 (C : Addr) : M Fl := (sSet 2 (fD (fS (f2 dMod (fK (fS (f2 dAdd (fK (fS (f2 dMul (vLook 2) (fK (rt (.int 31)))))) (fK (fS (fN dAbs (kCons (vLook 3) kNil))))))) (fK (rt (.int 2147483647)))))))
def F__law_dice_3 (C : Addr) : M Fl := (sSeq (F__law_dice_4 C) sNil)
def F__law_dice_2 (C : Addr) : M Fl := (sFor (iSeq (vGet 0)) (.nm 3) (F__law_dice_3 C))
def F__law_dice_5 (C : Addr) : M Fl := (sRet (f2 dAdd (fK (fS (fLst (aCons (vGet 2) (aCons (rt (.int 0)) aNil))))) (fK (fS (fComp [3] (iSeq (vGet 0)) (.nm 3) (c2 dGe (vLook 3) (fK (fS (f2 dPow (fK (rt (.int 10))) (fK (rt (.int 18))))))) (vGet 3))))))
def F__law_dice_0 (C : Addr) : M Fl := (sSeq (F__law_dice_1 C) (sSeq (F__law_dice_2 C) (sSeq (F__law_dice_5 C) sNil)))
def F__law_dice (C : Addr) : M Fl := (F__law_dice_0 C)
def fn__law_dice (C : Addr) : Fn := mkFn 2 4 [] (F__law_dice C)
def F__law_off_3 (C : Addr) : M Fl := (sSetI 0 (fW 0 gPop (aCons (rt (.int 2)) aNil)) (rt (.int 1)))
def F__law_off_2 (C : Addr) : M Fl := (sSeq (F__law_off_3 C) sNil)
def F__law_off_1 (C : Addr) : M Fl := (sIf (bAnd (c2 dEq (fK (fS (f2 dIx (vLook 0) (fK (rt (.int 1)))))) (fK (rt (.int 0)))) (c2 dGt (fK (fS (fN dLen (kCons (vLook 0) kNil)))) (fK (rt (.int 2))))) (F__law_off_2 C) sNil)
def F__law_off_6 (C : Addr) : M Fl := (sSet 2 (fD (fS (f2 dMod (fK (fS (f2 dIx (vLook 0) (fK (rt (.int 1)))))) (vLook 1)))))
def F__law_off_7 (C : Addr) : M Fl := (sSetI 0 (fS (f2 dDiv (fK (fS (f2 dIx (vLook 0) (fK (rt (.int 1)))))) (vLook 1))) (rt (.int 1)))
def F__law_off_8 (C : Addr) : M Fl := (sRet (vMove 2))
def F__law_off_5 (C : Addr) : M Fl := (sSeq (F__law_off_6 C) (sSeq (F__law_off_7 C) (sSeq (F__law_off_8 C) sNil)))
def F__law_off_4 (C : Addr) : M Fl := (sIf (c2 dGt (fK (fS (f2 dIx (vLook 0) (fK (rt (.int 1)))))) (fK (rt (.int 0)))) (F__law_off_5 C) sNil)
def F__law_off_9 (C : Addr) : M Fl := (sSetI 0 (fS (f2 dMod (fK (fS (f2 dAdd (fK (fS (f2 dMul (fK (fS (f2 dIx (vLook 0) (fK (rt (.int 0)))))) (fK (rt (.int 48271)))))) (fK (rt (.int 11)))))) (fK (rt (.int 2147483647))))) (rt (.int 0)))
def F__law_off_10 (C : Addr) : M Fl := (sRet (f2 dMod (fK (fS (f2 dDiv (fK (fS (f2 dIx (vLook 0) (fK (rt (.int 0)))))) (fK (rt (.int 64)))))) (vLook 1)))
def F__law_off_0 (C : Addr) : M Fl := (sSeq (F__law_off_1 C) (sSeq (F__law_off_4 C) (sSeq (F__law_off_9 C) (sSeq (F__law_off_10 C) sNil))))
def F__law_off (C : Addr) : M Fl := (F__law_off_0 C)
def fn__law_off (C : Addr) : Fn := mkFn 2 3 [0] (F__law_off C)
def F__law_alike_3 (C : Addr) (fr : Fn) : M Fl := (sRet (fD (fBl (c2 dIs (vLook 0) (fK (rt .non))))))
def F__law_alike_2 (C : Addr) (fr : Fn) : M Fl := (sSeq (F__law_alike_3 C fr) sNil)
def F__law_alike_1 (C : Addr) (fr : Fn) : M Fl := (sIf (c2 dIs (vLook 1) (fK (rt .non))) (F__law_alike_2 C fr) sNil)
def F__law_alike_6 (C : Addr) (fr : Fn) : M Fl := (sRet (fD (vAnd (fIsi "bool" (vLook 0)) (fBl (c2 dEq (vLook 0) (vLook 1))))))
def F__law_alike_5 (C : Addr) (fr : Fn) : M Fl := (sSeq (F__law_alike_6 C fr) sNil)
def F__law_alike_4 (C : Addr) (fr : Fn) : M Fl := (sIf (fTest (fIsi "bool" (vLook 1))) (F__law_alike_5 C fr) sNil)
def F__law_alike_9 (C : Addr) (fr : Fn) : M Fl := (sRet (fD (vAnd (fIsi "int" (vLook 0)) (vAnd (vNot (fIsi "bool" (vLook 0))) (fBl (c2 dEq (vLook 0) (vLook 1)))))))
def F__law_alike_8 (C : Addr) (fr : Fn) : M Fl := (sSeq (F__law_alike_9 C fr) sNil)
def F__law_alike_7 (C : Addr) (fr : Fn) : M Fl := (sIf (fTest (fIsi "int" (vLook 1))) (F__law_alike_8 C fr) sNil)
def F__law_alike_12 (C : Addr) (fr : Fn) : M Fl := (sRet (fD (vAnd (fIsi "str" (vLook 0)) (fBl (c2 dEq (vLook 0) (vLook 1))))))
def F__law_alike_11 (C : Addr) (fr : Fn) : M Fl := (sSeq (F__law_alike_12 C fr) sNil)
def F__law_alike_10 (C : Addr) (fr : Fn) : M Fl := (sIf (fTest (fIsi "str" (vLook 1))) (F__law_alike_11 C fr) sNil)
def F__law_alike_17 (C : Addr) (fr : Fn) : M Fl := (sRet (fD (rt (.bl false))))
def F__law_alike_16 (C : Addr) (fr : Fn) : M Fl := (sSeq (F__law_alike_17 C fr) sNil)
def F__law_alike_15 (C : Addr) (fr : Fn) : M Fl := (sIf (bOr (bNot (fTest (fIsi "dict" (vLook 0)))) (c2 dNe (fK (fS (fN dLen (kCons (vLook 0) kNil)))) (fK (fS (fN dLen (kCons (vLook 1) kNil)))))) (F__law_alike_16 C fr) sNil)
def F__law_alike_18 (C : Addr) (fr : Fn) : M Fl := (sRet (fN dAll (kCons (fK (fS (fComp [3] (iSeq (vGet 1)) (.nm 3) bYes (vAnd (fBl (c2 dIn (vLook 3) (vLook 0))) (fS (fCall fr (kCons (fK (fS (f2 dIx (vLook 0) (vLook 3)))) (kCons (fK (fS (f2 dIx (vLook 1) (vLook 3)))) kNil)))))))) kNil)))
def F__law_alike_14 (C : Addr) (fr : Fn) : M Fl := (sSeq (F__law_alike_15 C fr) (sSeq (F__law_alike_18 C fr) sNil))
def F__law_alike_13 (C : Addr) (fr : Fn) : M Fl := (sIf (fTest (fIsi "dict" (vLook 1))) (F__law_alike_14 C fr) sNil)
def F__law_alike_21 (C : Addr) (fr : Fn) : M Fl := (sRet (fD (rt (.bl false))))
def F__law_alike_20 (C : Addr) (fr : Fn) : M Fl := (sSeq (F__law_alike_21 C fr) sNil)
def F__law_alike_19 (C : Addr) (fr : Fn) : M Fl := (sIf (bOr (c2 dNe (fK (fIsi "tuple" (vLook 1))) (fK (fIsi "tuple" (vLook 0)))) (c2 dNe (fK (fIsi "list" (vLook 1))) (fK (fIsi "list" (vLook 0))))) (F__law_alike_20 C fr) sNil)
def F__law_alike_24 (C : Addr) (fr : Fn) : M Fl := (sRet (fD (rt (.bl false))))
def F__law_alike_23 (C : Addr) (fr : Fn) : M Fl := (sSeq (F__law_alike_24 C fr) sNil)
def F__law_alike_22 (C : Addr) (fr : Fn) : M Fl := (sIf (c2 dNe (fK (fS (fN dLen (kCons (vLook 0) kNil)))) (fK (fS (fN dLen (kCons (vLook 1) kNil))))) (F__law_alike_23 C fr) sNil)
def F__law_alike_25 (C : Addr) (fr : Fn) : M Fl := (sRet (fN dAll (kCons (fK (fS (fComp [2] (iRng1F (fS (fN dLen (kCons (vLook 1) kNil)))) (.nm 2) bYes (fS (fCall fr (kCons (fK (fS (f2 dIx (vLook 0) (vLook 2)))) (kCons (fK (fS (f2 dIx (vLook 1) (vLook 2)))) kNil))))))) kNil)))
def F__law_alike_0 (C : Addr) (fr : Fn) : M Fl := (sSeq (F__law_alike_1 C fr) (sSeq (F__law_alike_4 C fr) (sSeq (F__law_alike_7 C fr) (sSeq (F__law_alike_10 C fr) (sSeq (F__law_alike_13 C fr) (sSeq (F__law_alike_19 C fr) (sSeq (F__law_alike_22 C fr) (sSeq (F__law_alike_25 C fr) sNil))))))))
def F__law_alike (C : Addr) (fr : Fn) : M Fl := (F__law_alike_0 C fr)
def fn__law_alikeN (C : Addr) : Nat → Fn
  | 0 => mkFn 2 4 [] sNever
  | n + 1 => mkFn 2 4 [] (F__law_alike C (fn__law_alikeN C n))
def fn__law_alike (C : Addr) : Fn := fn__law_alikeN C 6
def F__law_mixed_1 (C : Addr) : M Fl := (sSet 2 (fN dList (kCons (vLook 1) kNil)))
def F__law_mixed_2 (C : Addr) : M Fl := (sSet 3 (fLst aNil))
def F__law_mixed_5 (C : Addr) : M Fl := (sExpr (fW 3 gAppend (aCons (fW 2 gPop (aCons (fS (fCall (fn__law_off C) (kCons (vLook 0) (kCons (fK (fS (fN dLen (kCons (vLook 2) kNil)))) kNil)))) aNil)) aNil)))
def F__law_mixed_4 (C : Addr) : M Fl := (sSeq (F__law_mixed_5 C) sNil)
def F__law_mixed_3 (C : Addr) : M Fl := (sWhile (c2 dNe (vLook 2) (fK (fS (fLst aNil)))) (F__law_mixed_4 C) 1000)
def F__law_mixed_6 (C : Addr) : M Fl := (sRet (vMove 3))
def F__law_mixed_0 (C : Addr) : M Fl := (sSeq (F__law_mixed_1 C) (sSeq (F__law_mixed_2 C) (sSeq (F__law_mixed_3 C) (sSeq (F__law_mixed_6 C) sNil))))
def F__law_mixed (C : Addr) : M Fl := (F__law_mixed_0 C)
def fn__law_mixed (C : Addr) : Fn := mkFn 2 4 [0] (F__law_mixed C)
def F__law_box_1 (C : Addr) : M Fl := (sSet 1 (fD (fS (f2 dIx (fK (fS (fLst (aCons (rt (.str "sum")) (aCons (rt (.str "sum")) (aCons (rt (.str "most")) (aCons (rt (.str "times")) (aCons (rt (.str "part")) aNil)))))))) (fK (fS (fCall (fn__law_off C) (kCons (vLook 0) (kCons (fK (rt (.int 5))) kNil)))))))))
def F__law_box_2 (C : Addr) : M Fl := (sSet 2 (fD (fS (f2 dIx (fK (fS (fLst (aCons (fS (fCall (fn__law_off C) (kCons (vLook 0) (kCons (fK (rt (.int 4))) kNil)))) (aCons (fS (fCall (fn__law_off C) (kCons (vLook 0) (kCons (fK (rt (.int 10))) kNil)))) aNil))))) (fK (fS (fCall (fn__law_off C) (kCons (vLook 0) (kCons (fK (rt (.int 2))) kNil)))))))))
def F__law_box_5 (C : Addr) : M Fl := (sRet (fD (fTup (aCons (vGet 1) (aCons (fS (f2 dSub (fK (fS (fCall (fn__law_off C) (kCons (vLook 0) (kCons (fK (rt (.int 19))) kNil))))) (fK (rt (.int 9))))) (aCons (vGet 2) aNil))))))
def F__law_box_4 (C : Addr) : M Fl := (sSeq (F__law_box_5 C) sNil)
def F__law_box_3 (C : Addr) : M Fl := (sIf (c2 dEq (vLook 1) (fK (rt (.str "times")))) (F__law_box_4 C) sNil)
def F__law_box_8 (C : Addr) : M Fl := (sRet (fD (fTup (aCons (vGet 1) (aCons (fS (f2 dAdd (fK (rt (.int 1))) (fK (fS (fCall (fn__law_off C) (kCons (vLook 0) (kCons (fK (rt (.int 9))) kNil))))))) (aCons (vGet 2) aNil))))))
def F__law_box_7 (C : Addr) : M Fl := (sSeq (F__law_box_8 C) sNil)
def F__law_box_6 (C : Addr) : M Fl := (sIf (c2 dEq (vLook 1) (fK (rt (.str "part")))) (F__law_box_7 C) sNil)
def F__law_box_9 (C : Addr) : M Fl := (sRet (fD (fTup (aCons (vGet 1) (aCons (vGet 2) aNil)))))
def F__law_box_0 (C : Addr) : M Fl := (sSeq (F__law_box_1 C) (sSeq (F__law_box_2 C) (sSeq (F__law_box_3 C) (sSeq (F__law_box_6 C) (sSeq (F__law_box_9 C) sNil)))))
def F__law_box (C : Addr) : M Fl := (F__law_box_0 C)
def fn__law_box (C : Addr) : Fn := mkFn 1 3 [0] (F__law_box C)
def F__law_hold_1 (C : Addr) : M Fl := (sRet (f2 dIx (fK (fS (fLst (aCons (rt (.int 0)) (aCons (rt (.int 0)) (aCons (rt (.int 0)) (aCons (rt (.int 1)) (aCons (fS (fCall (fn__law_off C) (kCons (vLook 0) (kCons (fK (rt (.int 10))) kNil)))) (aCons (fS (fCall (fn__law_off C) (kCons (vLook 0) (kCons (fK (rt (.int 100))) kNil)))) aNil))))))))) (fK (fS (fCall (fn__law_off C) (kCons (vLook 0) (kCons (fK (rt (.int 6))) kNil)))))))
def F__law_hold_0 (C : Addr) : M Fl := (sSeq (F__law_hold_1 C) sNil)
def F__law_hold (C : Addr) : M Fl := (F__law_hold_0 C)
def fn__law_hold (C : Addr) : Fn := mkFn 1 1 [0] (F__law_hold C)
def F__law_names_1 (C : Addr) : M Fl := (sSet 1 (fD (fS (fCall (fn__law_off C) (kCons (vLook 0) (kCons (fK (rt (.int 26))) kNil))))))
def F__law_names_2 (C : Addr) : M Fl := (sSet 2 (fD (rt (.str "abcdefghijklmnopqrstuvwxyz"))))
def F__law_names_3 (C : Addr) : M Fl := (sSet 2 (fD (fS (f2 dAdd (fK (fS (fSl (vLook 2) (oSome (vGet 1)) oNone))) (fK (fS (fSl (vLook 2) oNone (oSome (vGet 1)))))))))
def F__law_names_4 (C : Addr) : M Fl := (sSet 3 (fD (fS (f2 dMul (fK (fS (f2 dIx (vLook 2) (fK (rt (.int 2)))))) (fK (fS (f2 dAdd (fK (rt (.int 1))) (fK (fS (fCall (fn__law_off C) (kCons (vLook 0) (kCons (fK (rt (.int 6))) kNil))))))))))))
def F__law_names_5 (C : Addr) : M Fl := (sRet (fLst (aCons (fS (f2 dIx (vLook 2) (fK (rt (.int 0))))) (aCons (fS (f2 dIx (fK (fS (fLst (aCons (fS (f2 dAdd (fK (fS (f2 dIx (vLook 2) (fK (rt (.int 0)))))) (fK (fS (f2 dIx (vLook 2) (fK (rt (.int 1)))))))) (aCons (fS (f2 dAdd (fK (fS (f2 dIx (vLook 2) (fK (rt (.int 1)))))) (fK (fS (f2 dIx (vLook 2) (fK (rt (.int 0)))))))) aNil))))) (fK (fS (fCall (fn__law_off C) (kCons (vLook 0) (kCons (fK (rt (.int 2))) kNil))))))) (aCons (vGet 3) (aCons (fS (f2 dAdd (vLook 3) (fK (fS (f2 dIx (vLook 2) (fK (fS (fCall (fn__law_off C) (kCons (vLook 0) (kCons (fK (rt (.int 4))) kNil)))))))))) aNil))))))
def F__law_names_0 (C : Addr) : M Fl := (sSeq (F__law_names_1 C) (sSeq (F__law_names_2 C) (sSeq (F__law_names_3 C) (sSeq (F__law_names_4 C) (sSeq (F__law_names_5 C) sNil)))))
def F__law_names (C : Addr) : M Fl := (F__law_names_0 C)
def fn__law_names (C : Addr) : Fn := mkFn 1 4 [0] (F__law_names C)
def F__law_rows_1 (C : Addr) : M Fl := (sSet 2 (fD (fS (fCall (fn__law_names C) (kCons (vLook 0) kNil)))))
def F__law_rows_2 (C : Addr) : M Fl := (sSet 3 (fD (fS (f2 dAdd (fK (rt (.int 1))) (fK (fS (fCall (fn__law_off C) (kCons (vLook 0) (kCons (fK (rt (.int 2))) kNil)))))))))
def F__law_rows_3 (C : Addr) : M Fl := (sSet 4 (fD (fS (f2 dAdd (fK (rt (.int 1))) (fK (fS (fCall (fn__law_off C) (kCons (vLook 0) (kCons (vLook 1) kNil)))))))))
def F__law_rows_4 (C : Addr) : M Fl := (sSet 5 (f2 dAdd (fK (fS (fComp [9] (iRng1F (vGet 3)) (.nm 9) bYes (fTup (aCons (rt (.str "in")) (aCons (fS (f2 dIx (vLook 2) (vLook 9))) aNil)))))) (fK (fS (fComp [9] (iRng1F (vGet 4)) (.nm 9) bYes (fS (fCall (fn__law_box C) (kCons (vLook 0) kNil))))))))
def F__law_rows_5 (C : Addr) : M Fl := (sSet 6 (fD (fS (f2 dSub (fK (fS (fN dLen (kCons (vLook 5) kNil)))) (fK (rt (.int 1)))))))
def F__law_rows_6 (C : Addr) : M Fl := (sSet 7 (fLst aNil))
def F__law_rows_11 (C : Addr) : M Fl := (sExpr (fW 7 gAppend (aCons (fTup (aCons (fS (fCall (fn__law_off C) (kCons (vLook 0) (kCons (vLook 8) kNil)))) (aCons (vGet 8) (aCons (fS (fCall (fn__law_hold C) (kCons (vLook 0) kNil))) aNil)))) aNil)))
def F__law_rows_10 (C : Addr) : M Fl := (sSeq (F__law_rows_11 C) sNil)
def F__law_rows_9 (C : Addr) : M Fl := (sFor (iRng1F (fS (f2 dAdd (fK (rt (.int 1))) (fK (fS (f2 dMul (fK (fS (fCall (fn__law_off C) (kCons (vLook 0) (kCons (fK (rt (.int 2))) kNil))))) (fK (fS (fN dIntA (kCons (fK (fBl (c2 dLt (fK (fS (fN dLen (kCons (vLook 7) kNil)))) (fK (rt (.int 8)))))) kNil)))))))))) (.nm 9) (F__law_rows_10 C))
def F__law_rows_8 (C : Addr) : M Fl := (sSeq (F__law_rows_9 C) sNil)
def F__law_rows_7 (C : Addr) : M Fl := (sFor (iRng2F (vGet 3) (fS (fN dLen (kCons (vLook 5) kNil)))) (.nm 8) (F__law_rows_8 C))
def F__law_rows_16 (C : Addr) : M Fl := (sExpr (fW 7 gAppend (aCons (fTup (aCons (vGet 8) (aCons (vGet 6) (aCons (fS (fCall (fn__law_hold C) (kCons (vLook 0) kNil))) aNil)))) aNil)))
def F__law_rows_15 (C : Addr) : M Fl := (sSeq (F__law_rows_16 C) sNil)
def F__law_rows_14 (C : Addr) : M Fl := (sIf (c2 dEq (fK (fS (fCompO 7 [10] (.nm 10) (c2 dEq (fK (fS (f2 dIx (vLook 10) (fK (rt (.int 0)))))) (vLook 8)) (vGet 10)))) (fK (fS (fLst aNil)))) (F__law_rows_15 C) sNil)
def F__law_rows_13 (C : Addr) : M Fl := (sSeq (F__law_rows_14 C) sNil)
def F__law_rows_12 (C : Addr) : M Fl := (sFor (iRng1F (vGet 6)) (.nm 8) (F__law_rows_13 C))
def F__law_rows_19 (C : Addr) : M Fl := (sSet 8 (fD (fS (f2 dAdd (vLook 3) (fK (fS (fCall (fn__law_off C) (kCons (vLook 0) (kCons (vLook 4) kNil)))))))))
def F__law_rows_20 (C : Addr) : M Fl := (sExpr (fW 7 gAppend (aCons (fTup (aCons (vGet 8) (aCons (fS (f2 dAdd (vLook 3) (fK (fS (fCall (fn__law_off C) (kCons (vLook 0) (kCons (fK (fS (f2 dAdd (fK (fS (f2 dSub (vLook 8) (vLook 3)))) (fK (rt (.int 1)))))) kNil))))))) (aCons (fS (f2 dAdd (fK (rt (.int 1))) (fK (fS (fCall (fn__law_off C) (kCons (vLook 0) (kCons (fK (fS (f2 dIx (fK (fS (fLst (aCons (rt (.int 9)) (aCons (rt (.int 40)) aNil))))) (fK (fS (fCall (fn__law_off C) (kCons (vLook 0) (kCons (fK (rt (.int 2))) kNil)))))))) kNil))))))) aNil)))) aNil)))
def F__law_rows_18 (C : Addr) : M Fl := (sSeq (F__law_rows_19 C) (sSeq (F__law_rows_20 C) sNil))
def F__law_rows_17 (C : Addr) : M Fl := (sFor (iRng1F (fS (fCall (fn__law_off C) (kCons (vLook 0) (kCons (fK (rt (.int 3))) kNil))))) (.nm 9) (F__law_rows_18 C))
def F__law_rows_23 (C : Addr) : M Fl := (sExpr (fW 5 gAppend (aCons (fTup (aCons (rt (.str "out")) (aCons (fS (f2 dIx (vLook 2) (fK (fS (f2 dAdd (fK (rt (.int 2))) (vLook 9)))))) aNil))) aNil)))
def F__law_rows_24 (C : Addr) : M Fl := (sExpr (fW 7 gAppend (aCons (fTup (aCons (fS (f2 dIx (fK (fS (fLst (aCons (vGet 6) (aCons (fS (fCall (fn__law_off C) (kCons (vLook 0) (kCons (fK (fS (f2 dAdd (vLook 6) (fK (rt (.int 1)))))) kNil)))) aNil))))) (vLook 9))) (aCons (fS (f2 dSub (fK (fS (fN dLen (kCons (vLook 5) kNil)))) (fK (rt (.int 1))))) (aCons (fS (fCall (fn__law_hold C) (kCons (vLook 0) kNil))) aNil)))) aNil)))
def F__law_rows_22 (C : Addr) : M Fl := (sSeq (F__law_rows_23 C) (sSeq (F__law_rows_24 C) sNil))
def F__law_rows_21 (C : Addr) : M Fl := (sFor (iRng1F (fS (f2 dAdd (fK (rt (.int 1))) (fK (fS (fCall (fn__law_off C) (kCons (vLook 0) (kCons (fK (rt (.int 2))) kNil)))))))) (.nm 9) (F__law_rows_22 C))
def F__law_rows_25 (C : Addr) : M Fl := (sRet (fD (fTup (aCons (vGet 5) (aCons (vGet 7) aNil)))))
def F__law_rows_0 (C : Addr) : M Fl := (sSeq (F__law_rows_1 C) (sSeq (F__law_rows_2 C) (sSeq (F__law_rows_3 C) (sSeq (F__law_rows_4 C) (sSeq (F__law_rows_5 C) (sSeq (F__law_rows_6 C) (sSeq (F__law_rows_7 C) (sSeq (F__law_rows_12 C) (sSeq (F__law_rows_17 C) (sSeq (F__law_rows_21 C) (sSeq (F__law_rows_25 C) sNil)))))))))))
def F__law_rows (C : Addr) : M Fl := (F__law_rows_0 C)
def fn__law_rows (C : Addr) : Fn := mkFn 2 11 [0] (F__law_rows C)
def F__law_more_1 (C : Addr) : M Fl := (sSet 3 (fD (fS (f2 dMod (vLook 2) (fK (rt (.int 8)))))))
def F__law_more_6 (C : Addr) : M Fl := (sSet 2 (fD (fS (f2 dAdd (fK (fS (f2 dDiv (vLook 2) (fK (rt (.int 3)))))) (fK (fS (f2 dMul (fK (rt (.int 7))) (vLook 4))))))))
def F__law_more_7 (C : Addr) : M Fl := (sSet 5 (fD (fS (f2 dMod (vLook 2) (fK (fS (fN dLen (kCons (vLook 1) kNil))))))))
def F__law_more_8 (C : Addr) : M Fl := (sSetT (.tp [(.nm 9), (.nm 10), (.nm 11)]) (fS (f2 dIx (vLook 1) (vLook 5))))
def F__law_more_9 (C : Addr) : M Fl := (sSet 6 (fD (fS (fN dLen (kCons (vLook 0) kNil)))))
def F__law_more_10 (C : Addr) : M Fl := (sSet 7 (fComp [12] (iRng1F (vGet 6)) (.nm 12) (c2 dNotIn (fK (fS (f2 dIx (fK (fS (f2 dIx (vLook 0) (vLook 12)))) (fK (rt (.int 0)))))) (fK (fTup (aCons (rt (.str "in")) (aCons (rt (.str "out")) aNil))))) (vGet 12)))
def F__law_more_11 (C : Addr) : M Fl := (sSet 8 (fD (fS (f2 dMul (fK (fS (f2 dIx (fK (rt (.str "nopqrs"))) (vLook 4)))) (fK (rt (.int 8)))))))
def F__law_more_14 (C : Addr) : M Fl := (sSet 0 (fD (fS (f2 dAdd (vLook 0) (fK (fS (fLst (aCons (fS (f2 dIx (fK (fS (fLst (aCons (fTup (aCons (rt (.str "sum")) (aCons (fS (f2 dMod (vLook 2) (fK (rt (.int 5))))) aNil))) (aCons (fTup (aCons (rt (.str "most")) (aCons (fS (f2 dMod (vLook 2) (fK (rt (.int 3))))) aNil))) aNil))))) (fK (fS (f2 dMod (vLook 2) (fK (rt (.int 2)))))))) aNil))))))))
def F__law_more_15 (C : Addr) : M Fl := (sSet 1 (fD (fS (f2 dAdd (fK (fS (f2 dAdd (fK (fS (fSl (vLook 1) oNone (oSome (vGet 5))))) (fK (fS (fLst (aCons (fTup (aCons (vGet 9) (aCons (vGet 6) (aCons (vGet 11) aNil)))) (aCons (fTup (aCons (vGet 6) (aCons (vGet 10) (aCons (rt (.int 0)) aNil)))) aNil)))))))) (fK (fS (fSl (vLook 1) (oSome (fS (f2 dAdd (vLook 5) (fK (rt (.int 1)))))) oNone)))))))
def F__law_more_13 (C : Addr) : M Fl := (sSeq (F__law_more_14 C) (sSeq (F__law_more_15 C) sNil))
def F__law_more_19 (C : Addr) : M Fl := (sSet 0 (fD (fS (f2 dAdd (vLook 0) (fK (fS (fLst (aCons (fTup (aCons (rt (.str "in")) (aCons (vGet 8) aNil))) aNil))))))))
def F__law_more_20 (C : Addr) : M Fl := (sSet 1 (fD (fS (f2 dAdd (vLook 1) (fK (fS (fLst (aCons (fTup (aCons (vGet 6) (aCons (fS (f2 dIx (vLook 7) (fK (fS (f2 dMod (vLook 2) (fK (fS (fN dLen (kCons (vLook 7) kNil))))))))) (aCons (vGet 11) aNil)))) aNil))))))))
def F__law_more_18 (C : Addr) : M Fl := (sSeq (F__law_more_19 C) (sSeq (F__law_more_20 C) sNil))
def F__law_more_22 (C : Addr) : M Fl := (sSet 0 (fD (fS (f2 dAdd (vLook 0) (fK (fS (fLst (aCons (fTup (aCons (rt (.str "out")) (aCons (vGet 8) aNil))) aNil))))))))
def F__law_more_23 (C : Addr) : M Fl := (sSet 1 (fD (fS (f2 dAdd (vLook 1) (fK (fS (fLst (aCons (fTup (aCons (fS (f2 dIx (vLook 7) (fK (fS (f2 dMod (vLook 2) (fK (fS (fN dLen (kCons (vLook 7) kNil))))))))) (aCons (vGet 6) (aCons (rt (.int 0)) aNil)))) aNil))))))))
def F__law_more_21 (C : Addr) : M Fl := (sSeq (F__law_more_22 C) (sSeq (F__law_more_23 C) sNil))
def F__law_more_17 (C : Addr) : M Fl := (sIf (c2 dEq (fK (fS (f2 dMod (vLook 4) (fK (rt (.int 2)))))) (fK (rt (.int 0)))) (F__law_more_18 C) (F__law_more_21 C))
def F__law_more_16 (C : Addr) : M Fl := (sSeq (F__law_more_17 C) sNil)
def F__law_more_12 (C : Addr) : M Fl := (sIf (c2 dEq (vLook 3) (fK (rt (.int 2)))) (F__law_more_13 C) (F__law_more_16 C))
def F__law_more_5 (C : Addr) : M Fl := (sSeq (F__law_more_6 C) (sSeq (F__law_more_7 C) (sSeq (F__law_more_8 C) (sSeq (F__law_more_9 C) (sSeq (F__law_more_10 C) (sSeq (F__law_more_11 C) (sSeq (F__law_more_12 C) sNil)))))))
def F__law_more_4 (C : Addr) : M Fl := (sIf (bAnd (c2 dLt (fK (fS (fN dLen (kCons (vLook 0) kNil)))) (fK (rt (.int 10)))) (c2 dLt (fK (fS (fN dLen (kCons (vLook 1) kNil)))) (fK (rt (.int 20))))) (F__law_more_5 C) sNil)
def F__law_more_3 (C : Addr) : M Fl := (sSeq (F__law_more_4 C) sNil)
def F__law_more_2 (C : Addr) : M Fl := (sFor (iRng1F (fS (f2 dMul (fK (rt (.int 6))) (fK (fS (fN dIntA (kCons (fK (fBl (c2 dIn (vLook 3) (fK (fTup (aCons (rt (.int 0)) (aCons (rt (.int 2)) aNil))))))) kNil))))))) (.nm 4) (F__law_more_3 C))
def F__law_more_24 (C : Addr) : M Fl := (sRet (fD (fTup (aCons (vGet 0) (aCons (vGet 1) aNil)))))
def F__law_more_0 (C : Addr) : M Fl := (sSeq (F__law_more_1 C) (sSeq (F__law_more_2 C) (sSeq (F__law_more_24 C) sNil)))
def F__law_more (C : Addr) : M Fl := (F__law_more_0 C)
def fn__law_more (C : Addr) : Fn := mkFn 3 13 [] (F__law_more C)
def F__law_desk_1 (C : Addr) : M Fl := (sSetT (.tp [(.nm 5), (.nm 4)]) (fS (fCall (fn__law_rows C) (kCons (vLook 0) (kCons (vLook 1) kNil)))))
def F__law_desk_2 (C : Addr) : M Fl := (sSetT (.tp [(.nm 5), (.nm 4)]) (fS (fCall (fn__law_more C) (kCons (vLook 5) (kCons (vLook 4) (kCons (fK (fS (f2 dDiv (fK (fS (f2 dIx (vLook 0) (fK (rt (.int 0)))))) (fK (rt (.int 7)))))) kNil))))))
def F__law_desk_3 (C : Addr) : M Fl := (sSet 2 (fD (fS (fCall (fn__law_mixed C) (kCons (vLook 0) (kCons (fK (fS (fLRg (fS (fN dLen (kCons (vLook 5) kNil)))))) kNil))))))
def F__law_desk_4 (C : Addr) : M Fl := (sSet 3 (fD (fS (fComp [6] (iRng1F (fS (fN dLen (kCons (vLook 5) kNil)))) (.nm 6) bYes (fS (fM "list" dIndex (vLook 2) (kCons (vLook 6) kNil)))))))
def F__law_desk_5 (C : Addr) : M Fl := (sSet 4 (fComp [7, 8, 9] (iSeq (vGet 4)) (.tp [(.nm 7), (.nm 8), (.nm 9)]) bYes (fTup (aCons (fS (f2 dIx (vLook 3) (vLook 7))) (aCons (fS (f2 dIx (vLook 3) (vLook 8))) (aCons (vGet 9) aNil))))))
def F__law_desk_6 (C : Addr) : M Fl := (sRet (fD (fTup (aCons (fS (fComp [6] (iSeq (vGet 2)) (.nm 6) bYes (fS (f2 dIx (vLook 5) (vLook 6))))) (aCons (fS (fCall (fn__law_mixed C) (kCons (vLook 0) (kCons (vLook 4) kNil)))) aNil)))))
def F__law_desk_0 (C : Addr) : M Fl := (sSeq (F__law_desk_1 C) (sSeq (F__law_desk_2 C) (sSeq (F__law_desk_3 C) (sSeq (F__law_desk_4 C) (sSeq (F__law_desk_5 C) (sSeq (F__law_desk_6 C) sNil))))))
def F__law_desk (C : Addr) : M Fl := (F__law_desk_0 C)
def fn__law_desk (C : Addr) : Fn := mkFn 2 10 [0] (F__law_desk C)
def F__law_made_1 (C : Addr) : M Fl := (sRet (fMake C (fn_Desk___init__ C) (kCons (fK (fS (fN dList (kCons (fK (fS (f2 dIx (vLook 0) (fK (rt (.int 0)))))) kNil)))) (kCons (fK (fS (fN dList (kCons (fK (fS (f2 dIx (vLook 0) (fK (rt (.int 1)))))) kNil)))) kNil))))
def F__law_made_0 (C : Addr) : M Fl := (sSeq (F__law_made_1 C) sNil)
def F__law_made (C : Addr) : M Fl := (F__law_made_0 C)
def fn__law_made (C : Addr) : Fn := mkFn 1 1 [] (F__law_made C)
def F__law_lines_1 (C : Addr) : M Fl := (sSet 1 (fLst aNil))
def F__law_lines_4 (C : Addr) : M Fl := (sSet 3 (fD (fS (f2 dIx (vLook 2) (fK (rt (.int 0)))))))
def F__law_lines_7 (C : Addr) : M Fl := (sSet 3 (fD (fS (f2 dAdd (fK (fS (f2 dAdd (vLook 3) (fK (rt (.str " ")))))) (fK (fS (fN dStrA (kCons (vLook 4) kNil))))))))
def F__law_lines_6 (C : Addr) : M Fl := (sSeq (F__law_lines_7 C) sNil)
def F__law_lines_5 (C : Addr) : M Fl := (sFor (iSeq (fS (fSl (vLook 2) (oSome (rt (.int 1))) oNone))) (.nm 4) (F__law_lines_6 C))
def F__law_lines_8 (C : Addr) : M Fl := (sExpr (fW 1 gAppend (aCons (vGet 3) aNil)))
def F__law_lines_3 (C : Addr) : M Fl := (sSeq (F__law_lines_4 C) (sSeq (F__law_lines_5 C) (sSeq (F__law_lines_8 C) sNil)))
def F__law_lines_2 (C : Addr) : M Fl := (sFor (iSeq (fS (f2 dIx (vLook 0) (fK (rt (.int 0)))))) (.nm 2) (F__law_lines_3 C))
def F__law_lines_11 (C : Addr) : M Fl := (sExpr (fW 1 gAppend (aCons (fS (f2 dAdd (fK (fS (f2 dAdd (fK (fS (f2 dAdd (fK (fS (f2 dAdd (fK (fS (f2 dAdd (fK (rt (.str "cable "))) (fK (fS (fN dStrA (kCons (vLook 5) kNil))))))) (fK (rt (.str " ")))))) (fK (fS (fN dStrA (kCons (vLook 6) kNil))))))) (fK (rt (.str " ")))))) (fK (fS (fN dStrA (kCons (vLook 7) kNil)))))) aNil)))
def F__law_lines_10 (C : Addr) : M Fl := (sSeq (F__law_lines_11 C) sNil)
def F__law_lines_9 (C : Addr) : M Fl := (sFor (iSeq (fS (f2 dIx (vLook 0) (fK (rt (.int 1)))))) (.tp [(.nm 5), (.nm 6), (.nm 7)]) (F__law_lines_10 C))
def F__law_lines_12 (C : Addr) : M Fl := (sRet (vMove 1))
def F__law_lines_0 (C : Addr) : M Fl := (sSeq (F__law_lines_1 C) (sSeq (F__law_lines_2 C) (sSeq (F__law_lines_9 C) (sSeq (F__law_lines_12 C) sNil))))
def F__law_lines (C : Addr) : M Fl := (F__law_lines_0 C)
def fn__law_lines (C : Addr) : Fn := mkFn 1 8 [] (F__law_lines C)
def F_law_1 (C : Addr) : M Fl := (sSet 1 (fCall (fn__law_dice C) (kCons (vLook 0) (kCons (fK (rt (.int 0))) kNil))))
def F_law_2 (C : Addr) : M Fl := (sSet 2 (fD (fS (fCall (fn__law_desk C) (kCons (vLook 1) (kCons (fK (rt (.int 5))) kNil))))))
def F_law_3 (C : Addr) : M Fl := (sSet 3 (fD (fS (fCall (fn__law_desk C) (kCons (vLook 1) (kCons (fK (rt (.int 5))) kNil))))))
def F_law_6 (C : Addr) : M Fl := (sSet 5 (fD (fS (fCall (fn__law_lines C) (kCons (vLook 4) kNil)))))
def F_law_9 (C : Addr) : M Fl := (sRet (fD (rt (.bl false))))
def F_law_8 (C : Addr) : M Fl := (sSeq (F_law_9 C) sNil)
def F_law_7 (C : Addr) : M Fl := (sIf (bNot (fTest (fS (fCall (fn__law_alike C) (kCons (fK (fS (fCall (fn_written C) (kCons (fK (fS (fCall (fn__law_made C) (kCons (vLook 4) kNil)))) kNil)))) (kCons (fK (fS (fM "str" dJoin (fK (rt (.str "\n"))) (kCons (vLook 5) kNil)))) kNil)))))) (F_law_8 C) sNil)
def F_law_10 (C : Addr) : M Fl := (sSet 6 (fD (fS (fCall (fn_read C) (kCons (fK (fS (fM "str" dJoin (fK (rt (.str "\n"))) (kCons (vLook 5) kNil)))) kNil)))))
def F_law_13 (C : Addr) : M Fl := (sRet (fD (rt (.bl false))))
def F_law_12 (C : Addr) : M Fl := (sSeq (F_law_13 C) sNil)
def F_law_11 (C : Addr) : M Fl := (sIf (bOr (bNot (fTest (fS (fCall (fn__law_alike C) (kCons (fK (fS (fLst (aCons (fS (fMeth C "boxes" (fn_Desk_boxes C) (vLook 6) kNil)) (aCons (fS (fMeth C "cables" (fn_Desk_cables C) (vLook 6) kNil)) aNil))))) (kCons (fK (fS (fLst (aCons (fS (f2 dIx (vLook 4) (fK (rt (.int 0))))) (aCons (fS (f2 dIx (vLook 4) (fK (rt (.int 1))))) aNil))))) kNil)))))) (c2 dNe (fK (fS (fCall (fn_written C) (kCons (vLook 6) kNil)))) (fK (fS (fM "str" dJoin (fK (rt (.str "\n"))) (kCons (vLook 5) kNil)))))) (F_law_12 C) sNil)
def F_law_5 (C : Addr) : M Fl := (sSeq (F_law_6 C) (sSeq (F_law_7 C) (sSeq (F_law_10 C) (sSeq (F_law_11 C) sNil))))
def F_law_4 (C : Addr) : M Fl := (sFor (iSeq (fS (fLst (aCons (vGet 2) (aCons (vGet 3) (aCons (vGet 2) aNil)))))) (.nm 4) (F_law_5 C))
def F_law_14 (C : Addr) : M Fl := (sRet (fD (rt (.bl true))))
def F_law_0 (C : Addr) : M Fl := (sSeq (F_law_1 C) (sSeq (F_law_2 C) (sSeq (F_law_3 C) (sSeq (F_law_4 C) (sSeq (F_law_14 C) sNil)))))
def F_law (C : Addr) : M Fl := (F_law_0 C)
def fn_law (C : Addr) : Fn := mkFn 1 7 [] (F_law C)
end Hd
namespace Hd
open PySem PySem.Spec PyProof.Rows L2 Ev
structure Tx (P : Program) (w : World) (K : PySem.W.Frag) (mg : Str → Option Value) (base : Heap) (C : Addr) : Prop where
  n_abs : mg "abs" = none
  n_all : mg "all" = none
  n_bool : mg "bool" = none
  n_dict : mg "dict" = none
  n_enumerate : mg "enumerate" = none
  n_int : mg "int" = none
  n_isinstance : mg "isinstance" = none
  n_len : mg "len" = none
  n_list : mg "list" = none
  n_range : mg "range" = none
  n_str : mg "str" = none
  n_tuple : mg "tuple" = none
  g_SMALL : GStr mg "SMALL" "abcdefghijklmnopqrstuvwxyz"
  t_SIZES : Tab K w mg "SIZES" t_SIZES
  g_MOST_BOXES : GInt mg "MOST_BOXES" 10
  g_MOST_CABLES : GInt mg "MOST_CABLES" 20
  g_MOST_LATE : GInt mg "MOST_LATE" 9
  g_MOST_BY : GInt mg "MOST_BY" 9
  g_MOST_HOLD : GInt mg "MOST_HOLD" 99
  g_FIGURES : GStr mg "FIGURES" "0123456789"
  cls : Cls K C
  na_kept : NoAttr K C "kept"
  na_order : NoAttr K C "order"
  na_wires : NoAttr K C "wires"
  f_must : FunG K mg "must" ["good", "at", "why"] s_must
  f_is_name : FunG K mg "is_name" ["word"] s_is_name
  i_Desk___init__ : FunI K mg "Desk" C "Desk.__init__" ["self", "boxes", "cables"] s_Desk___init__
  m_Desk_is_box : FunM K C "is_box" "Desk.is_box" ["self", "at"] s_Desk_is_box
  m_Desk_names : FunM K C "names" "Desk.names" ["self", "until"] s_Desk_names
  m_Desk_is_cable : FunM K C "is_cable" "Desk.is_cable" ["self", "cable"] s_Desk_is_cable
  m_Desk_led_from : FunM K C "led_from" "Desk.led_from" ["self", "some", "side"] s_Desk_led_from
  m_Desk_is_twice : FunM K C "is_twice" "Desk.is_twice" ["self", "at"] s_Desk_is_twice
  m_Desk_in_order : FunM K C "in_order" "Desk.in_order" ["self"] s_Desk_in_order
  m_Desk_boxes : FunM K C "boxes" "Desk.boxes" ["self"] s_Desk_boxes
  m_Desk_cables : FunM K C "cables" "Desk.cables" ["self"] s_Desk_cables
  m_Desk_ends : FunM K C "ends" "Desk.ends" ["self", "word"] s_Desk_ends
  f_written : FunG K mg "written" ["desk"] s_written
  f_number_of : FunG K mg "number_of" ["word", "row"] s_number_of
  f_read : FunG K mg "read" ["text"] s_read
  f_box_of : FunG K mg "box_of" ["words", "row"] s_box_of
  f__law_dice : FunG K mg "_law_dice" ["_law_script", "_law_k"] s__law_dice
  f__law_off : FunG K mg "_law_off" ["_law_d", "_law_most"] s__law_off
  f__law_alike : FunG K mg "_law_alike" ["_law_found", "_law_due"] s__law_alike
  f__law_mixed : FunG K mg "_law_mixed" ["_law_d", "_law_row"] s__law_mixed
  f__law_box : FunG K mg "_law_box" ["_law_d"] s__law_box
  f__law_hold : FunG K mg "_law_hold" ["_law_d"] s__law_hold
  f__law_names : FunG K mg "_law_names" ["_law_d"] s__law_names
  f__law_rows : FunG K mg "_law_rows" ["_law_d", "_law_many"] s__law_rows
  f__law_more : FunG K mg "_law_more" ["_law_boxes", "_law_cables", "_law_number"] s__law_more
  f__law_desk : FunG K mg "_law_desk" ["_law_d", "_law_many"] s__law_desk
  f__law_made : FunG K mg "_law_made" ["_law_t"] s__law_made
  f__law_lines : FunG K mg "_law_lines" ["_law_t"] s__law_lines
theorem sc_must : FnScope ["good", "at", "why"] ["good", "at", "why"] (defScope s_must) := ⟨rfl, rfl, rfl, by decide +kernel, rfl, by decide +kernel, by decide +kernel⟩
theorem b_must {P : Program} {w : World} {K : PySem.W.Frag} {mg : Str → Option Value} {base : Heap} {C : Addr} (T : Tx P w K mg base C) : BodyOk P w K mg base ["good", "at", "why"] "must" s_must 0 [] (F_must C) := by
  intro f cdv A outer s H E hr
  have tk := takes_of (X := cxOf (L2.CX P w) P w K mg base ["good", "at", "why"] "must" (defScope s_must) f cdv A outer s H E) (E := E) rfl rfl rfl rfl
  exact (dss_cons (ds_if (dt_not (gt_val (de_var (pv 0)))) (dss_cons ds_never
    dss_nil) dss_nil)
    dss_nil)
theorem at_must {P : Program} {w : World} {K : PySem.W.Frag} {mg : Str → Option Value} {base : Heap} {C : Addr} (T : Tx P w K mg base C) : FnAt P w K mg base 1 "must" (fn_must C) := fn_at T.f_must sc_must (by decide) (b_must T)
theorem sc_is_name : FnScope ["word", "sign"] ["word"] (defScope s_is_name) := ⟨rfl, rfl, rfl, by decide +kernel, rfl, by decide +kernel, by decide +kernel⟩
theorem b_is_name {P : Program} {w : World} {K : PySem.W.Frag} {mg : Str → Option Value} {base : Heap} {C : Addr} (T : Tx P w K mg base C) : BodyOk P w K mg base ["word", "sign"] "is_name" s_is_name 0 [] (F_is_name C) := by
  intro f cdv A outer s H E hr
  have tk := takes_of (X := cxOf (L2.CX P w) P w K mg base ["word", "sign"] "is_name" (defScope s_is_name) f cdv A outer s H E) (E := E) rfl rfl rfl rfl
  exact (dss_cons (ds_ret (de_L (de_and (ge_chain op_le op_le (ok_cmp _) (ok_cmp _) (de_K de_int) (de_K (de_S (g_callB cr_lenA ok_len rfl T.n_len (gk_cons (dk_var (pv 0)) dks_nil)))) (de_K de_int)) (pe_one (ge_cmp (op_eqA hr.units) ok_eq (de_K (de_S (dl_comp (own := [("sign", 1)]) (by decide) (by decide) rfl sc_is_name.nd (di_seq (de_var (pv 0))) (blkOk_by rfl) (fun _ _ _ _ _ => (g_name (by decide) sc_is_name.nd)) (fun _ _ _ _ _ => (pts_one (gt_cmp op_notInA ok_notIn (dk_var (pv 1)) (de_K (de_gstr T.g_SMALL))))) (fun _ _ _ _ _ => (de_var (pv 1))) (fun _ => rfl)))) (de_K (de_S (dl_lst das_nil))))))))
    dss_nil)
theorem at_is_name {P : Program} {w : World} {K : PySem.W.Frag} {mg : Str → Option Value} {base : Heap} {C : Addr} (T : Tx P w K mg base C) : FnAt P w K mg base 1 "is_name" (fn_is_name C) := fn_at T.f_is_name sc_is_name (by decide) (b_is_name T)
theorem sc_Desk_ends : FnScope ["self", "word", "at"] ["self", "word"] (defScope s_Desk_ends) := ⟨rfl, rfl, rfl, by decide +kernel, rfl, by decide +kernel, by decide +kernel⟩
theorem b_Desk_ends {P : Program} {w : World} {K : PySem.W.Frag} {mg : Str → Option Value} {base : Heap} {C : Addr} (T : Tx P w K mg base C) : BodyOk P w K mg base ["self", "word", "at"] "Desk.ends" s_Desk_ends 0 [0] (F_Desk_ends C) := by
  intro f cdv A outer s H E hr
  have tk := takes_of (X := cxOf (L2.CX P w) P w K mg base ["self", "word", "at"] "Desk.ends" (defScope s_Desk_ends) f cdv A outer s H E) (E := E) rfl rfl rfl rfl
  exact (dss_cons (ds_ret (dl_comp (own := [("at", 2)]) (by decide) (by decide) rfl sc_Desk_ends.nd (gi_rng1 T.n_range (de_S (g_callB cr_lenA ok_len rfl T.n_len (gk_cons (de_K (g_fld T.cls T.na_kept (dk_var (pv 0)))) dks_nil)))) (blkOk_by rfl) (fun _ _ _ _ _ => (g_name (by decide) sc_Desk_ends.nd)) (fun _ _ _ _ _ => (pts_one (gt_cmp (op_eqA hr.units) ok_eq (de_K (de_S (g_ix ix_seq ok_ix (de_K (de_S (g_ix ix_seq ok_ix (de_K (g_fld T.cls T.na_kept (dk_var (pv 0)))) (dk_var (pv 2))))) (de_K de_int)))) (dk_var (pv 1))))) (fun _ _ _ _ _ => (de_var (pv 2))) (fun _ => rfl)))
    dss_nil)
theorem at_Desk_ends {P : Program} {w : World} {K : PySem.W.Frag} {mg : Str → Option Value} {base : Heap} {C : Addr} (T : Tx P w K mg base C) : MtAt P w K mg base 1 C "ends" (fn_Desk_ends C) := mt_at T.cls T.m_Desk_ends sc_Desk_ends (by decide) (b_Desk_ends T)
theorem sc_Desk_in_order : FnScope ["self", "found", "many", "at", "ahead", "cable", "one"] ["self"] (defScope s_Desk_in_order) := ⟨rfl, rfl, rfl, by decide +kernel, rfl, by decide +kernel, by decide +kernel⟩
theorem b_Desk_in_order {P : Program} {w : World} {K : PySem.W.Frag} {mg : Str → Option Value} {base : Heap} {C : Addr} (T : Tx P w K mg base C) : BodyOk P w K mg base ["self", "found", "many", "at", "ahead", "cable", "one"] "Desk.in_order" s_Desk_in_order 0 [0] (F_Desk_in_order C) := by
  intro f cdv A outer s H E hr
  have tk := takes_of (X := cxOf (L2.CX P w) P w K mg base ["self", "found", "many", "at", "ahead", "cable", "one"] "Desk.in_order" (defScope s_Desk_in_order) f cdv A outer s H E) (E := E) rfl rfl rfl rfl
  exact (dss_cons (g_set (by decide) sc_Desk_in_order.nd (dl_lst das_nil))
    (dss_cons (g_set (by decide) sc_Desk_in_order.nd (de_L (de_S (dl_un un_neg ok_neg (de_K de_int)))))
    (dss_cons (ds_while 1000 (passes_of rfl) (gt_cmp op_lt (ok_cmp _) (dk_var (pv 2)) (de_K (de_S (g_callB cr_lenA ok_len rfl T.n_len (gk_cons (dk_var (pv 1)) dks_nil))))) (dss_cons (g_set (by decide) sc_Desk_in_order.nd (de_L (de_S (g_callB cr_lenA ok_len rfl T.n_len (gk_cons (dk_var (pv 1)) dks_nil)))))
    (dss_cons (g_for (passes_of rfl) (gi_rng1 T.n_range (de_S (g_callB cr_lenA ok_len rfl T.n_len (gk_cons (de_K (g_fld T.cls T.na_kept (dk_var (pv 0)))) dks_nil)))) (g_name (by decide) sc_Desk_in_order.nd) (dss_cons (ds_setLc (own := [("cable", 5)]) (by decide) rfl rfl (sw_true rfl rfl rfl rfl) (by decide) (by decide) rfl sc_Desk_in_order.nd (di_seq (g_fld T.cls T.na_wires (dk_var (pv 0)))) (blkOk_by rfl) (fun _ _ _ _ _ => (g_name (by decide) sc_Desk_in_order.nd)) (fun _ _ _ _ _ => (pts_one (PW.pt (dw_and (gt_cmp (op_eqA hr.units) ok_eq (de_K (de_S (g_ix ix_seq ok_ix (dk_var (pv 5)) (de_K de_int)))) (dk_var (pv 3))) (pw_and1 (gt_cmp (op_eqA hr.units) ok_eq (de_K (de_S (g_ix ix_seq ok_ix (dk_var (pv 5)) (de_K de_int)))) (de_K de_int))))))) (fun _ _ _ _ _ => (de_S (g_ix ix_seq ok_ix (dk_var (pv 5)) (de_K de_int)))) (fun _ => rfl))
    (dss_cons (ds_if (PW.pt (dw_and (gt_cmp op_notInA ok_notIn (dk_var (pv 3)) (dk_var (pv 1))) (pw_and1 (gt_cmp (op_eqA hr.units) ok_eq (de_K (de_S (dl_comp (own := [("one", 6)]) (by decide) (by decide) rfl sc_Desk_in_order.nd (di_seq (de_var (pv 4))) (blkOk_by rfl) (fun _ _ _ _ _ => (g_name (by decide) sc_Desk_in_order.nd)) (fun _ _ _ _ _ => (pts_one (gt_cmp op_notInA ok_notIn (dk_var (pv 6)) (dk_var (pv 1))))) (fun _ _ _ _ _ => (de_var (pv 6))) (fun _ => rfl)))) (de_K (de_S (dl_lst das_nil))))))) (dss_cons (g_expr (g_append (de_var (pv 3)) (pv 1)))
    dss_nil) dss_nil)
    dss_nil)))
    dss_nil)))
    (dss_cons (ds_ret (dl_move (pv 1)))
    dss_nil))))
theorem at_Desk_in_order {P : Program} {w : World} {K : PySem.W.Frag} {mg : Str → Option Value} {base : Heap} {C : Addr} (T : Tx P w K mg base C) : MtAt P w K mg base 1 C "in_order" (fn_Desk_in_order C) := mt_at T.cls T.m_Desk_in_order sc_Desk_in_order (by decide) (b_Desk_in_order T)
theorem sc_Desk_names : FnScope ["self", "until", "box"] ["self", "until"] (defScope s_Desk_names) := ⟨rfl, rfl, rfl, by decide +kernel, rfl, by decide +kernel, by decide +kernel⟩
theorem b_Desk_names {P : Program} {w : World} {K : PySem.W.Frag} {mg : Str → Option Value} {base : Heap} {C : Addr} (T : Tx P w K mg base C) : BodyOk P w K mg base ["self", "until", "box"] "Desk.names" s_Desk_names 0 [0] (F_Desk_names C) := by
  intro f cdv A outer s H E hr
  have tk := takes_of (X := cxOf (L2.CX P w) P w K mg base ["self", "until", "box"] "Desk.names" (defScope s_Desk_names) f cdv A outer s H E) (E := E) rfl rfl rfl rfl
  exact (dss_cons (ds_ret (dl_comp (own := [("box", 2)]) (by decide) (by decide) rfl sc_Desk_names.nd (di_seq (de_S (dl_slice (de_K (g_fld T.cls T.na_kept (dk_var (pv 0)))) do_none (do_some (de_var (pv 1)))))) (blkOk_by rfl) (fun _ _ _ _ _ => (g_name (by decide) sc_Desk_names.nd)) (fun _ _ _ _ _ => (pts_one (gt_cmp op_inA ok_in (de_K (de_S (g_ix ix_seq ok_ix (dk_var (pv 2)) (de_K de_int)))) (de_K (de_tup (ga_cons de_str (ga_cons de_str das_nil))))))) (fun _ _ _ _ _ => (de_S (g_ix ix_seq ok_ix (dk_var (pv 2)) (de_K de_int)))) (fun _ => rfl)))
    dss_nil)
theorem at_Desk_names {P : Program} {w : World} {K : PySem.W.Frag} {mg : Str → Option Value} {base : Heap} {C : Addr} (T : Tx P w K mg base C) : MtAt P w K mg base 1 C "names" (fn_Desk_names C) := mt_at T.cls T.m_Desk_names sc_Desk_names (by decide) (b_Desk_names T)
theorem sc_Desk_is_box : FnScope ["self", "at", "box"] ["self", "at"] (defScope s_Desk_is_box) := ⟨rfl, rfl, rfl, by decide +kernel, rfl, by decide +kernel, by decide +kernel⟩
theorem b_Desk_is_box {P : Program} {w : World} {K : PySem.W.Frag} {mg : Str → Option Value} {base : Heap} {C : Addr} (T : Tx P w K mg base C) : BodyOk P w K mg base ["self", "at", "box"] "Desk.is_box" s_Desk_is_box 1 [0] (F_Desk_is_box C) := by
  intro f cdv A outer s H E hr
  have tk := takes_of (X := cxOf (L2.CX P w) P w K mg base ["self", "at", "box"] "Desk.is_box" (defScope s_Desk_is_box) f cdv A outer s H E) (E := E) rfl rfl rfl rfl
  exact (dss_cons (g_set (by decide) sc_Desk_is_box.nd (de_L (de_S (g_ix ix_seq ok_ix (de_K (g_fld T.cls T.na_kept (dk_var (pv 0)))) (dk_var (pv 1))))))
    (dss_cons (ds_if (PW.pt (dw_or (gt_cmp (op_eqA hr.units) ok_eq (de_K (de_S (g_callB cr_lenA ok_len rfl T.n_len (gk_cons (dk_var (pv 2)) dks_nil)))) (de_K de_int)) (pw_or1 (gt_cmp (op_neA hr.units) ok_ne (de_K (g_tab T.t_SIZES (de_S (g_ix ix_seq ok_ix (dk_var (pv 2)) (de_K de_int))) de_int)) (de_K (de_S (g_callB cr_lenA ok_len rfl T.n_len (gk_cons (dk_var (pv 2)) dks_nil)))))))) (dss_cons (ds_ret (de_L de_bl))
    dss_nil) dss_nil)
    (dss_cons (ds_if (gt_cmp op_inA ok_in (de_K (de_S (g_ix ix_seq ok_ix (dk_var (pv 2)) (de_K de_int)))) (de_K (de_tup (ga_cons de_str (ga_cons de_str das_nil))))) (dss_cons (ds_ret (de_L (de_and (de_S (g_call ((at_is_name T).mono (by decide)) hr tk (gk_cons (de_K (de_S (g_ix ix_seq ok_ix (dk_var (pv 2)) (de_K de_int)))) dks_nil))) (pe_one (ge_cmp op_notInA ok_notIn (de_K (de_S (g_ix ix_seq ok_ix (dk_var (pv 2)) (de_K de_int)))) (de_K (de_S (g_meth ((at_Desk_names T).mono (by decide)) hr tk (dk_var (pv 0)) (gk_cons (dk_var (pv 1)) dks_nil)))))))))
    dss_nil) dss_nil)
    (dss_cons (ds_if (PW.pt (dw_and (gt_cmp (op_eqA hr.units) ok_eq (de_K (de_S (g_ix ix_seq ok_ix (dk_var (pv 2)) (de_K de_int)))) (de_K de_str)) (pw_and1 (dt_not (gt_chain op_le op_le (ok_cmp _) (ok_cmp _) (de_K (de_S (dl_op op_sub ok_sub (de_K de_int) (de_K (de_gint T.g_MOST_BY))))) (de_K (de_S (g_ix ix_seq ok_ix (dk_var (pv 2)) (de_K de_int)))) (de_K (de_gint T.g_MOST_BY))))))) (dss_cons (ds_ret (de_L de_bl))
    dss_nil) dss_nil)
    (dss_cons (ds_if (PW.pt (dw_and (gt_cmp (op_eqA hr.units) ok_eq (de_K (de_S (g_ix ix_seq ok_ix (dk_var (pv 2)) (de_K de_int)))) (de_K de_str)) (pw_and1 (dt_not (gt_chain op_le op_le (ok_cmp _) (ok_cmp _) (de_K de_int) (de_K (de_S (g_ix ix_seq ok_ix (dk_var (pv 2)) (de_K de_int)))) (de_K (de_gint T.g_MOST_BY))))))) (dss_cons (ds_ret (de_L de_bl))
    dss_nil) dss_nil)
    (dss_cons (ds_ret (de_L (ge_chain op_le op_le (ok_cmp _) (ok_cmp _) (de_K de_int) (de_K (de_S (g_ix ix_seq ok_ix (dk_var (pv 2)) (de_K (de_S (dl_un un_neg ok_neg (de_K de_int))))))) (de_K (de_gint T.g_MOST_LATE)))))
    dss_nil))))))
theorem at_Desk_is_box {P : Program} {w : World} {K : PySem.W.Frag} {mg : Str → Option Value} {base : Heap} {C : Addr} (T : Tx P w K mg base C) : MtAt P w K mg base 2 C "is_box" (fn_Desk_is_box C) := mt_at T.cls T.m_Desk_is_box sc_Desk_is_box (by decide) (b_Desk_is_box T)
theorem sc_Desk_is_cable : FnScope ["self", "cable", "one", "other", "hold"] ["self", "cable"] (defScope s_Desk_is_cable) := ⟨rfl, rfl, rfl, by decide +kernel, rfl, by decide +kernel, by decide +kernel⟩
theorem b_Desk_is_cable {P : Program} {w : World} {K : PySem.W.Frag} {mg : Str → Option Value} {base : Heap} {C : Addr} (T : Tx P w K mg base C) : BodyOk P w K mg base ["self", "cable", "one", "other", "hold"] "Desk.is_cable" s_Desk_is_cable 0 [0] (F_Desk_is_cable C) := by
  intro f cdv A outer s H E hr
  have tk := takes_of (X := cxOf (L2.CX P w) P w K mg base ["self", "cable", "one", "other", "hold"] "Desk.is_cable" (defScope s_Desk_is_cable) f cdv A outer s H E) (E := E) rfl rfl rfl rfl
  exact (dss_cons (g_setT (gg_tup (gg_cons (g_name (by decide) sc_Desk_is_cable.nd) (gg_cons (g_name (by decide) sc_Desk_is_cable.nd) (gg_cons (g_name (by decide) sc_Desk_is_cable.nd) dgs_nil)))) (de_var (pv 1)))
    (dss_cons (ds_if (PW.pt (dw_or (dt_not (gt_chain op_le op_lt (ok_cmp _) (ok_cmp _) (de_K de_int) (dk_var (pv 2)) (de_K (de_S (g_callB cr_lenA ok_len rfl T.n_len (gk_cons (de_K (g_fld T.cls T.na_kept (dk_var (pv 0)))) dks_nil)))))) (dw_or (dt_not (gt_chain op_le op_lt (ok_cmp _) (ok_cmp _) (de_K de_int) (dk_var (pv 3)) (de_K (de_S (g_callB cr_lenA ok_len rfl T.n_len (gk_cons (de_K (g_fld T.cls T.na_kept (dk_var (pv 0)))) dks_nil)))))) (pw_or1 (dt_not (gt_chain op_le op_le (ok_cmp _) (ok_cmp _) (de_K de_int) (dk_var (pv 4)) (de_K (de_gint T.g_MOST_HOLD)))))))) (dss_cons (ds_ret (de_L de_bl))
    dss_nil) dss_nil)
    (dss_cons (ds_ret (de_L (de_and (ge_cmp (op_neA hr.units) ok_ne (de_K (de_S (g_ix ix_seq ok_ix (de_K (de_S (g_ix ix_seq ok_ix (de_K (g_fld T.cls T.na_kept (dk_var (pv 0)))) (dk_var (pv 2))))) (de_K de_int)))) (de_K de_str)) (pe_one (ge_cmp (op_neA hr.units) ok_ne (de_K (de_S (g_ix ix_seq ok_ix (de_K (de_S (g_ix ix_seq ok_ix (de_K (g_fld T.cls T.na_kept (dk_var (pv 0)))) (dk_var (pv 3))))) (de_K de_int)))) (de_K de_str))))))
    dss_nil)))
theorem at_Desk_is_cable {P : Program} {w : World} {K : PySem.W.Frag} {mg : Str → Option Value} {base : Heap} {C : Addr} (T : Tx P w K mg base C) : MtAt P w K mg base 1 C "is_cable" (fn_Desk_is_cable C) := mt_at T.cls T.m_Desk_is_cable sc_Desk_is_cable (by decide) (b_Desk_is_cable T)
theorem sc_Desk_is_twice : FnScope ["self", "at", "cable"] ["self", "at"] (defScope s_Desk_is_twice) := ⟨rfl, rfl, rfl, by decide +kernel, rfl, by decide +kernel, by decide +kernel⟩
theorem b_Desk_is_twice {P : Program} {w : World} {K : PySem.W.Frag} {mg : Str → Option Value} {base : Heap} {C : Addr} (T : Tx P w K mg base C) : BodyOk P w K mg base ["self", "at", "cable"] "Desk.is_twice" s_Desk_is_twice 0 [0] (F_Desk_is_twice C) := by
  intro f cdv A outer s H E hr
  have tk := takes_of (X := cxOf (L2.CX P w) P w K mg base ["self", "at", "cable"] "Desk.is_twice" (defScope s_Desk_is_twice) f cdv A outer s H E) (E := E) rfl rfl rfl rfl
  exact (dss_cons (ds_ret (de_L (de_and (ge_cmp (op_eqA hr.units) ok_eq (de_K (de_S (g_ix ix_seq ok_ix (de_K (de_S (g_ix ix_seq ok_ix (de_K (g_fld T.cls T.na_kept (dk_var (pv 0)))) (dk_var (pv 1))))) (de_K de_int)))) (de_K de_str)) (pe_one (ge_cmp op_gt (ok_cmp _) (de_K (de_S (g_callB cr_lenA ok_len rfl T.n_len (gk_cons (de_K (de_S (dl_comp (own := [("cable", 2)]) (by decide) (by decide) rfl sc_Desk_is_twice.nd (di_seq (g_fld T.cls T.na_wires (dk_var (pv 0)))) (blkOk_by rfl) (fun _ _ _ _ _ => (g_name (by decide) sc_Desk_is_twice.nd)) (fun _ _ _ _ _ => (pts_one (gt_cmp (op_eqA hr.units) ok_eq (de_K (de_S (g_ix ix_seq ok_ix (dk_var (pv 2)) (de_K de_int)))) (dk_var (pv 1))))) (fun _ _ _ _ _ => (de_var (pv 2))) (fun _ => rfl)))) dks_nil)))) (de_K de_int))))))
    dss_nil)
theorem at_Desk_is_twice {P : Program} {w : World} {K : PySem.W.Frag} {mg : Str → Option Value} {base : Heap} {C : Addr} (T : Tx P w K mg base C) : MtAt P w K mg base 1 C "is_twice" (fn_Desk_is_twice C) := mt_at T.cls T.m_Desk_is_twice sc_Desk_is_twice (by decide) (b_Desk_is_twice T)
theorem sc_Desk_led_from : FnScope ["self", "some", "side", "found", "waiting", "at", "cable"] ["self", "some", "side"] (defScope s_Desk_led_from) := ⟨rfl, rfl, rfl, by decide +kernel, rfl, by decide +kernel, by decide +kernel⟩
theorem b_Desk_led_from {P : Program} {w : World} {K : PySem.W.Frag} {mg : Str → Option Value} {base : Heap} {C : Addr} (T : Tx P w K mg base C) : BodyOk P w K mg base ["self", "some", "side", "found", "waiting", "at", "cable"] "Desk.led_from" s_Desk_led_from 0 [0] (F_Desk_led_from C) := by
  intro f cdv A outer s H E hr
  have tk := takes_of (X := cxOf (L2.CX P w) P w K mg base ["self", "some", "side", "found", "waiting", "at", "cable"] "Desk.led_from" (defScope s_Desk_led_from) f cdv A outer s H E) (E := E) rfl rfl rfl rfl
  exact (dss_cons (g_set (by decide) sc_Desk_led_from.nd (g_callT call_list_of ok_list rfl T.n_list (gk_cons (dk_var (pv 1)) dks_nil)))
    (dss_cons (g_set (by decide) sc_Desk_led_from.nd (g_callT call_list_of ok_list rfl T.n_list (gk_cons (dk_var (pv 1)) dks_nil)))
    (dss_cons (ds_while 1000 (passes_of rfl) (gt_cmp (op_neA hr.units) ok_ne (dk_var (pv 4)) (de_K (de_S (dl_lst das_nil)))) (dss_cons (g_set (by decide) sc_Desk_led_from.nd (de_L (g_pop0 (pv 4))))
    (dss_cons (g_for (passes_of rfl) (di_seq (g_fld T.cls T.na_wires (dk_var (pv 0)))) (g_name (by decide) sc_Desk_led_from.nd) (dss_cons (ds_if (PW.pt (dw_and (gt_cmp (op_eqA hr.units) ok_eq (de_K (de_S (g_ix ix_seq ok_ix (dk_var (pv 6)) (dk_var (pv 2))))) (dk_var (pv 5))) (pw_and1 (gt_cmp op_notInA ok_notIn (de_K (de_S (g_ix ix_seq ok_ix (dk_var (pv 6)) (de_K (de_S (dl_op op_sub ok_sub (de_K de_int) (dk_var (pv 2)))))))) (dk_var (pv 3)))))) (dss_cons (g_expr (g_append (de_S (g_ix ix_seq ok_ix (dk_var (pv 6)) (de_K (de_S (dl_op op_sub ok_sub (de_K de_int) (dk_var (pv 2))))))) (pv 3)))
    (dss_cons (g_expr (g_append (de_S (g_ix ix_seq ok_ix (dk_var (pv 6)) (de_K (de_S (dl_op op_sub ok_sub (de_K de_int) (dk_var (pv 2))))))) (pv 4)))
    dss_nil)) dss_nil)
    dss_nil))
    dss_nil)))
    (dss_cons (ds_ret (dl_move (pv 3)))
    dss_nil))))
theorem at_Desk_led_from {P : Program} {w : World} {K : PySem.W.Frag} {mg : Str → Option Value} {base : Heap} {C : Addr} (T : Tx P w K mg base C) : MtAt P w K mg base 1 C "led_from" (fn_Desk_led_from C) := mt_at T.cls T.m_Desk_led_from sc_Desk_led_from (by decide) (b_Desk_led_from T)
theorem sc_Desk___init__ : FnScope ["self", "boxes", "cables", "at", "fed", "used"] ["self", "boxes", "cables"] (defScope s_Desk___init__) := ⟨rfl, rfl, rfl, by decide +kernel, rfl, by decide +kernel, by decide +kernel⟩
theorem b_Desk___init__ {P : Program} {w : World} {K : PySem.W.Frag} {mg : Str → Option Value} {base : Heap} {C : Addr} (T : Tx P w K mg base C) : BodyOk P w K mg base ["self", "boxes", "cables", "at", "fed", "used"] "Desk.__init__" s_Desk___init__ 2 [0] (F_Desk___init__ C) := by
  intro f cdv A outer s H E hr
  have tk := takes_of (X := cxOf (L2.CX P w) P w K mg base ["self", "boxes", "cables", "at", "fed", "used"] "Desk.__init__" (defScope s_Desk___init__) f cdv A outer s H E) (E := E) rfl rfl rfl rfl
  exact (dss_cons (g_expr (de_S (g_call ((at_must T).mono (by decide)) hr tk (gk_cons (de_K (ge_chain op_le op_le (ok_cmp _) (ok_cmp _) (de_K de_int) (de_K (de_S (g_callB cr_lenA ok_len rfl T.n_len (gk_cons (dk_var (pv 1)) dks_nil)))) (de_K (de_gint T.g_MOST_BOXES)))) (gk_cons (de_K de_int) (gk_cons (de_K de_str) dks_nil))))))
    (dss_cons (ds_fld T.cls T.na_kept (pv 0) (de_L (de_S (g_callT call_list_of ok_list rfl T.n_list (gk_cons (dk_var (pv 1)) dks_nil)))) rfl)
    (dss_cons (g_for (passes_of rfl) (gi_rng1 T.n_range (de_S (g_callB cr_lenA ok_len rfl T.n_len (gk_cons (dk_var (pv 1)) dks_nil)))) (g_name (by decide) sc_Desk___init__.nd) (dss_cons (g_expr (de_S (g_call ((at_must T).mono (by decide)) hr tk (gk_cons (de_K (de_S (g_meth ((at_Desk_is_box T).mono (by decide)) hr tk (dk_var (pv 0)) (gk_cons (dk_var (pv 3)) dks_nil)))) (gk_cons (dk_var (pv 3)) (gk_cons (de_K de_str) dks_nil))))))
    dss_nil))
    (dss_cons (g_expr (de_S (g_call ((at_must T).mono (by decide)) hr tk (gk_cons (de_K (ge_cmp op_le (ok_cmp _) (de_K (de_S (g_callB cr_lenA ok_len rfl T.n_len (gk_cons (dk_var (pv 2)) dks_nil)))) (de_K (de_gint T.g_MOST_CABLES)))) (gk_cons (de_K de_int) (gk_cons (de_K de_str) dks_nil))))))
    (dss_cons (ds_fld T.cls T.na_wires (pv 0) (de_L (de_S (g_callT call_list_of ok_list rfl T.n_list (gk_cons (dk_var (pv 2)) dks_nil)))) rfl)
    (dss_cons (g_for (passes_of rfl) (gi_rng1 T.n_range (de_S (g_callB cr_lenA ok_len rfl T.n_len (gk_cons (dk_var (pv 2)) dks_nil)))) (g_name (by decide) sc_Desk___init__.nd) (dss_cons (g_expr (de_S (g_call ((at_must T).mono (by decide)) hr tk (gk_cons (de_K (de_S (g_meth ((at_Desk_is_cable T).mono (by decide)) hr tk (dk_var (pv 0)) (gk_cons (de_K (de_S (g_ix ix_seq ok_ix (dk_var (pv 2)) (dk_var (pv 3))))) dks_nil)))) (gk_cons (dk_var (pv 3)) (gk_cons (de_K de_str) dks_nil))))))
    dss_nil))
    (dss_cons (g_set (by decide) sc_Desk___init__.nd (de_L (de_S (g_meth ((at_Desk_led_from T).mono (by decide)) hr tk (dk_var (pv 0)) (gk_cons (de_K (de_S (g_meth ((at_Desk_ends T).mono (by decide)) hr tk (dk_var (pv 0)) (gk_cons (de_K de_str) dks_nil)))) (gk_cons (de_K de_int) dks_nil))))))
    (dss_cons (g_set (by decide) sc_Desk___init__.nd (de_L (de_S (g_meth ((at_Desk_led_from T).mono (by decide)) hr tk (dk_var (pv 0)) (gk_cons (de_K (de_S (g_meth ((at_Desk_ends T).mono (by decide)) hr tk (dk_var (pv 0)) (gk_cons (de_K de_str) dks_nil)))) (gk_cons (de_K de_int) dks_nil))))))
    (dss_cons (g_for (passes_of rfl) (gi_rng1 T.n_range (de_S (g_callB cr_lenA ok_len rfl T.n_len (gk_cons (dk_var (pv 1)) dks_nil)))) (g_name (by decide) sc_Desk___init__.nd) (dss_cons (g_expr (de_S (g_call ((at_must T).mono (by decide)) hr tk (gk_cons (de_K (de_and (ge_cmp op_inA ok_in (dk_var (pv 3)) (dk_var (pv 4))) (de_and (ge_cmp op_inA ok_in (dk_var (pv 3)) (dk_var (pv 5))) (pe_one (de_not (de_S (g_meth ((at_Desk_is_twice T).mono (by decide)) hr tk (dk_var (pv 0)) (gk_cons (dk_var (pv 3)) dks_nil)))))))) (gk_cons (dk_var (pv 3)) (gk_cons (de_K de_str) dks_nil))))))
    dss_nil))
    (dss_cons (ds_fld T.cls T.na_order (pv 0) (de_L (de_S (g_meth0 ((at_Desk_in_order T).mono (by decide)) hr tk (dk_var (pv 0))))) rfl)
    (dss_cons (g_expr (de_S (g_call ((at_must T).mono (by decide)) hr tk (gk_cons (de_K (ge_cmp (op_eqA hr.units) ok_eq (de_K (de_S (g_callB cr_lenA ok_len rfl T.n_len (gk_cons (de_K (g_fld T.cls T.na_order (dk_var (pv 0)))) dks_nil)))) (de_K (de_S (g_callB cr_lenA ok_len rfl T.n_len (gk_cons (dk_var (pv 1)) dks_nil)))))) (gk_cons (de_K de_int) (gk_cons (de_K de_str) dks_nil))))))
    dss_nil)))))))))))
theorem at_Desk___init__ {P : Program} {w : World} {K : PySem.W.Frag} {mg : Str → Option Value} {base : Heap} {C : Addr} (T : Tx P w K mg base C) : MkAt P w K mg base 3 "Desk" C (fn_Desk___init__ C) := mk_at T.i_Desk___init__ sc_Desk___init__ (by decide) (b_Desk___init__ T)
theorem sc_Desk_boxes : FnScope ["self"] ["self"] (defScope s_Desk_boxes) := ⟨rfl, rfl, rfl, by decide +kernel, rfl, by decide +kernel, by decide +kernel⟩
theorem b_Desk_boxes {P : Program} {w : World} {K : PySem.W.Frag} {mg : Str → Option Value} {base : Heap} {C : Addr} (T : Tx P w K mg base C) : BodyOk P w K mg base ["self"] "Desk.boxes" s_Desk_boxes 0 [0] (F_Desk_boxes C) := by
  intro f cdv A outer s H E hr
  have tk := takes_of (X := cxOf (L2.CX P w) P w K mg base ["self"] "Desk.boxes" (defScope s_Desk_boxes) f cdv A outer s H E) (E := E) rfl rfl rfl rfl
  exact (dss_cons (ds_ret (g_callT call_list_of ok_list rfl T.n_list (gk_cons (de_K (g_fld T.cls T.na_kept (dk_var (pv 0)))) dks_nil)))
    dss_nil)
theorem at_Desk_boxes {P : Program} {w : World} {K : PySem.W.Frag} {mg : Str → Option Value} {base : Heap} {C : Addr} (T : Tx P w K mg base C) : MtAt P w K mg base 1 C "boxes" (fn_Desk_boxes C) := mt_at T.cls T.m_Desk_boxes sc_Desk_boxes (by decide) (b_Desk_boxes T)
theorem sc_Desk_cables : FnScope ["self"] ["self"] (defScope s_Desk_cables) := ⟨rfl, rfl, rfl, by decide +kernel, rfl, by decide +kernel, by decide +kernel⟩
theorem b_Desk_cables {P : Program} {w : World} {K : PySem.W.Frag} {mg : Str → Option Value} {base : Heap} {C : Addr} (T : Tx P w K mg base C) : BodyOk P w K mg base ["self"] "Desk.cables" s_Desk_cables 0 [0] (F_Desk_cables C) := by
  intro f cdv A outer s H E hr
  have tk := takes_of (X := cxOf (L2.CX P w) P w K mg base ["self"] "Desk.cables" (defScope s_Desk_cables) f cdv A outer s H E) (E := E) rfl rfl rfl rfl
  exact (dss_cons (ds_ret (g_callT call_list_of ok_list rfl T.n_list (gk_cons (de_K (g_fld T.cls T.na_wires (dk_var (pv 0)))) dks_nil)))
    dss_nil)
theorem at_Desk_cables {P : Program} {w : World} {K : PySem.W.Frag} {mg : Str → Option Value} {base : Heap} {C : Addr} (T : Tx P w K mg base C) : MtAt P w K mg base 1 C "cables" (fn_Desk_cables C) := mt_at T.cls T.m_Desk_cables sc_Desk_cables (by decide) (b_Desk_cables T)
theorem sc_written : FnScope ["desk", "rows", "box", "piece", "cable", "number"] ["desk"] (defScope s_written) := ⟨rfl, rfl, rfl, by decide +kernel, rfl, by decide +kernel, by decide +kernel⟩
theorem b_written {P : Program} {w : World} {K : PySem.W.Frag} {mg : Str → Option Value} {base : Heap} {C : Addr} (T : Tx P w K mg base C) : BodyOk P w K mg base ["desk", "rows", "box", "piece", "cable", "number"] "written" s_written 0 [] (F_written C) := by
  intro f cdv A outer s H E hr
  have tk := takes_of (X := cxOf (L2.CX P w) P w K mg base ["desk", "rows", "box", "piece", "cable", "number"] "written" (defScope s_written) f cdv A outer s H E) (E := E) rfl rfl rfl rfl
  exact (dss_cons (ds_setLc (own := [("box", 2)]) (by decide) rfl rfl (sw_true rfl rfl rfl rfl) (by decide) (by decide) rfl sc_written.nd (di_seq (g_fld T.cls T.na_kept (dk_var (pv 0)))) (blkOk_by rfl) (fun _ _ _ _ _ => (g_name (by decide) sc_written.nd)) (fun _ _ _ _ _ => dts_nil) (fun _ _ _ _ _ => (de_S (g_join (de_K de_str) (gk_cons (de_K (de_S (dl_comp (own := [("piece", 3)]) (by decide) (by decide) rfl sc_written.nd (di_seq (de_var (pv 2))) (blkOk_by rfl) (fun _ _ _ _ _ => (g_name (by decide) sc_written.nd)) (fun _ _ _ _ _ => dts_nil) (fun _ _ _ _ _ => (de_S (g_callT cr_strA ok_strA rfl T.n_str (gk_cons (dk_var (pv 3)) dks_nil)))) (fun _ => rfl)))) dks_nil)))) (fun _ => rfl))
    (dss_cons (ds_ret (g_join (de_K de_str) (gk_cons (de_K (de_S (dl_op op_addA ok_add (dk_var (pv 1)) (de_K (de_S (dl_comp (own := [("cable", 4)]) (by decide) (by decide) rfl sc_written.nd (di_seq (g_fld T.cls T.na_wires (dk_var (pv 0)))) (blkOk_by rfl) (fun _ _ _ _ _ => (g_name (by decide) sc_written.nd)) (fun _ _ _ _ _ => dts_nil) (fun _ _ _ _ _ => (de_S (dl_op op_addA ok_add (de_K de_str) (de_K (de_S (g_join (de_K de_str) (gk_cons (de_K (de_S (dl_comp (own := [("number", 5)]) (by decide) (by decide) rfl sc_written.nd (di_seq (de_var (pv 4))) (blkOk_by rfl) (fun _ _ _ _ _ => (g_name (by decide) sc_written.nd)) (fun _ _ _ _ _ => dts_nil) (fun _ _ _ _ _ => (de_S (g_callT cr_strA ok_strA rfl T.n_str (gk_cons (dk_var (pv 5)) dks_nil)))) (fun _ => rfl)))) dks_nil))))))) (fun _ => rfl))))))) dks_nil)))
    dss_nil))
theorem at_written {P : Program} {w : World} {K : PySem.W.Frag} {mg : Str → Option Value} {base : Heap} {C : Addr} (T : Tx P w K mg base C) : FnAt P w K mg base 1 "written" (fn_written C) := fn_at T.f_written sc_written (by decide) (b_written T)
theorem sc_number_of : FnScope ["word", "row", "figures", "sign"] ["word", "row"] (defScope s_number_of) := ⟨rfl, rfl, rfl, by decide +kernel, rfl, by decide +kernel, by decide +kernel⟩
theorem b_number_of {P : Program} {w : World} {K : PySem.W.Frag} {mg : Str → Option Value} {base : Heap} {C : Addr} (T : Tx P w K mg base C) : BodyOk P w K mg base ["word", "row", "figures", "sign"] "number_of" s_number_of 0 [] (F_number_of C) := by
  intro f cdv A outer s H E hr
  have tk := takes_of (X := cxOf (L2.CX P w) P w K mg base ["word", "row", "figures", "sign"] "number_of" (defScope s_number_of) f cdv A outer s H E) (E := E) rfl rfl rfl rfl
  exact (dss_cons (g_set (by decide) sc_number_of.nd (dg_if (gt_cmp (op_eqA hr.units) ok_eq (de_K (de_S (dl_slice (dk_var (pv 0)) do_none (do_some de_int)))) (de_K de_str)) (dl_slice (dk_var (pv 0)) (do_some de_int) do_none) (de_L (de_var (pv 0)))))
    (dss_cons (ds_if (PW.pt (dw_or (dt_not (gt_chain op_le op_le (ok_cmp _) (ok_cmp _) (de_K de_int) (de_K (de_S (g_callB cr_lenA ok_len rfl T.n_len (gk_cons (dk_var (pv 2)) dks_nil)))) (de_K de_int))) (pw_or1 (PW.pt (dw_and (gt_cmp (op_eqA hr.units) ok_eq (de_K (de_S (g_ix ix_seq ok_ix (dk_var (pv 2)) (de_K de_int)))) (de_K de_str)) (pw_and1 (gt_cmp (op_neA hr.units) ok_ne (dk_var (pv 0)) (de_K de_str)))))))) (dss_cons ds_never
    dss_nil) dss_nil)
    (dss_cons (ds_if (gt_cmp (op_neA hr.units) ok_ne (de_K (de_S (dl_comp (own := [("sign", 3)]) (by decide) (by decide) rfl sc_number_of.nd (di_seq (de_var (pv 2))) (blkOk_by rfl) (fun _ _ _ _ _ => (g_name (by decide) sc_number_of.nd)) (fun _ _ _ _ _ => (pts_one (gt_cmp op_notInA ok_notIn (dk_var (pv 3)) (de_K (de_gstr T.g_FIGURES))))) (fun _ _ _ _ _ => (de_var (pv 3))) (fun _ => rfl)))) (de_K (de_S (dl_lst das_nil)))) (dss_cons ds_never
    dss_nil) dss_nil)
    (dss_cons (ds_ret (g_callT cr_intA ok_intA rfl T.n_int (gk_cons (dk_var (pv 0)) dks_nil)))
    dss_nil))))
theorem at_number_of {P : Program} {w : World} {K : PySem.W.Frag} {mg : Str → Option Value} {base : Heap} {C : Addr} (T : Tx P w K mg base C) : FnAt P w K mg base 1 "number_of" (fn_number_of C) := fn_at T.f_number_of sc_number_of (by decide) (b_number_of T)
theorem sc_box_of : FnScope ["words", "row", "word"] ["words", "row"] (defScope s_box_of) := ⟨rfl, rfl, rfl, by decide +kernel, rfl, by decide +kernel, by decide +kernel⟩
theorem b_box_of {P : Program} {w : World} {K : PySem.W.Frag} {mg : Str → Option Value} {base : Heap} {C : Addr} (T : Tx P w K mg base C) : BodyOk P w K mg base ["words", "row", "word"] "box_of" s_box_of 1 [] (F_box_of C) := by
  intro f cdv A outer s H E hr
  have tk := takes_of (X := cxOf (L2.CX P w) P w K mg base ["words", "row", "word"] "box_of" (defScope s_box_of) f cdv A outer s H E) (E := E) rfl rfl rfl rfl
  exact (dss_cons (ds_if (gt_cmp op_inA ok_in (de_K (de_S (g_ix ix_seq ok_ix (dk_var (pv 0)) (de_K de_int)))) (de_K (de_tup (ga_cons de_str (ga_cons de_str das_nil))))) (dss_cons (ds_if (dt_not (gt_val (de_S (g_call ((at_is_name T).mono (by decide)) hr tk (gk_cons (de_K (de_S (g_ix ix_seq ok_ix (dk_var (pv 0)) (de_K de_int)))) dks_nil))))) (dss_cons ds_never
    dss_nil) dss_nil)
    (dss_cons (ds_ret (de_L (de_tup (ga_cons (de_S (g_ix ix_seq ok_ix (dk_var (pv 0)) (de_K de_int))) (ga_cons (de_S (g_ix ix_seq ok_ix (dk_var (pv 0)) (de_K de_int))) das_nil)))))
    dss_nil)) dss_nil)
    (dss_cons (ds_ret (dl_op op_addA ok_add (de_K (de_tup (ga_cons (de_S (g_ix ix_seq ok_ix (dk_var (pv 0)) (de_K de_int))) das_nil))) (de_K (de_S (g_callT call_tuple_of ok_tuple rfl T.n_tuple (gk_cons (de_K (de_S (dl_comp (own := [("word", 2)]) (by decide) (by decide) rfl sc_box_of.nd (di_seq (de_S (dl_slice (dk_var (pv 0)) (do_some de_int) do_none))) (blkOk_by rfl) (fun _ _ _ _ _ => (g_name (by decide) sc_box_of.nd)) (fun _ _ _ _ _ => dts_nil) (fun _ _ _ _ _ => (de_S (g_call ((at_number_of T).mono (by decide)) hr takes0 (gk_cons (dk_var (pv 2)) (gk_cons (dk_var (pv 1)) dks_nil))))) (fun _ => rfl)))) dks_nil))))))
    dss_nil))
theorem at_box_of {P : Program} {w : World} {K : PySem.W.Frag} {mg : Str → Option Value} {base : Heap} {C : Addr} (T : Tx P w K mg base C) : FnAt P w K mg base 2 "box_of" (fn_box_of C) := fn_at T.f_box_of sc_box_of (by decide) (b_box_of T)
theorem sc_read : FnScope ["text", "boxes", "cables", "row", "line", "words", "word"] ["text"] (defScope s_read) := ⟨rfl, rfl, rfl, by decide +kernel, rfl, by decide +kernel, by decide +kernel⟩
theorem b_read {P : Program} {w : World} {K : PySem.W.Frag} {mg : Str → Option Value} {base : Heap} {C : Addr} (T : Tx P w K mg base C) : BodyOk P w K mg base ["text", "boxes", "cables", "row", "line", "words", "word"] "read" s_read 4 [] (F_read C) := by
  intro f cdv A outer s H E hr
  have tk := takes_of (X := cxOf (L2.CX P w) P w K mg base ["text", "boxes", "cables", "row", "line", "words", "word"] "read" (defScope s_read) f cdv A outer s H E) (E := E) rfl rfl rfl rfl
  exact (dss_cons (g_set (by decide) sc_read.nd (dl_lst das_nil))
    (dss_cons (g_set (by decide) sc_read.nd (dl_lst das_nil))
    (dss_cons (g_for (passes_of rfl) (di_enum T.n_enumerate (de_S (g_split (dk_var (pv 0)) (gk_cons (de_K de_str) dks_nil)))) (gg_tup (gg_cons (g_name (by decide) sc_read.nd) (gg_cons (g_name (by decide) sc_read.nd) dgs_nil))) (dss_cons (g_set (by decide) sc_read.nd (de_L (de_S (g_split (dk_var (pv 4)) (gk_cons (de_K de_str) dks_nil)))))
    (dss_cons (ds_if (gt_cmp (op_eqA hr.units) ok_eq (de_K (de_S (g_ix ix_seq ok_ix (dk_var (pv 5)) (de_K de_int)))) (de_K de_str)) (dss_cons (ds_if (gt_cmp (op_neA hr.units) ok_ne (de_K (de_S (g_callB cr_lenA ok_len rfl T.n_len (gk_cons (dk_var (pv 5)) dks_nil)))) (de_K de_int)) (dss_cons ds_never
    dss_nil) dss_nil)
    (dss_cons (g_expr (g_append (de_S (g_callT call_tuple_of ok_tuple rfl T.n_tuple (gk_cons (de_K (de_S (dl_comp (own := [("word", 6)]) (by decide) (by decide) rfl sc_read.nd (di_seq (de_S (dl_slice (dk_var (pv 5)) (do_some de_int) do_none))) (blkOk_by rfl) (fun _ _ _ _ _ => (g_name (by decide) sc_read.nd)) (fun _ _ _ _ _ => dts_nil) (fun _ _ _ _ _ => (de_S (g_call ((at_number_of T).mono (by decide)) hr takes0 (gk_cons (dk_var (pv 6)) (gk_cons (dk_var (pv 3)) dks_nil))))) (fun _ => rfl)))) dks_nil))) (pv 2)))
    dss_nil)) (dss_cons (ds_if (PW.pt (dw_or (gt_cmp (op_neA hr.units) ok_ne (dk_var (pv 2)) (de_K (de_S (dl_lst das_nil)))) (pw_or1 (gt_cmp (op_neA hr.units) ok_ne (de_K (g_tab T.t_SIZES (de_S (g_ix ix_seq ok_ix (dk_var (pv 5)) (de_K de_int))) de_int)) (de_K (de_S (g_callB cr_lenA ok_len rfl T.n_len (gk_cons (dk_var (pv 5)) dks_nil)))))))) (dss_cons ds_never
    dss_nil) dss_nil)
    (dss_cons (g_expr (g_append (de_S (g_call ((at_box_of T).mono (by decide)) hr tk (gk_cons (dk_var (pv 5)) (gk_cons (dk_var (pv 3)) dks_nil)))) (pv 1)))
    dss_nil)))
    dss_nil)))
    (dss_cons (ds_ret (g_make ((at_Desk___init__ T).mono (by decide)) hr tk (gk_cons (de_K (de_var (pv 1))) (gk_cons (de_K (de_var (pv 2))) dks_nil))))
    dss_nil))))
theorem at_read {P : Program} {w : World} {K : PySem.W.Frag} {mg : Str → Option Value} {base : Heap} {C : Addr} (T : Tx P w K mg base C) : FnAt P w K mg base 5 "read" (fn_read C) := fn_at T.f_read sc_read (by decide) (b_read T)
theorem sc__law_dice : FnScope ["_law_script", "_law_k", "_law_found", "_law_cell"] ["_law_script", "_law_k"] (defScope s__law_dice) := ⟨rfl, rfl, rfl, by decide +kernel, rfl, by decide +kernel, by decide +kernel⟩
theorem b__law_dice {P : Program} {w : World} {K : PySem.W.Frag} {mg : Str → Option Value} {base : Heap} {C : Addr} (T : Tx P w K mg base C) : BodyOk P w K mg base ["_law_script", "_law_k", "_law_found", "_law_cell"] "_law_dice" s__law_dice 0 [] (F__law_dice C) := by
  intro f cdv A outer s H E hr
  have tk := takes_of (X := cxOf (L2.CX P w) P w K mg base ["_law_script", "_law_k", "_law_found", "_law_cell"] "_law_dice" (defScope s__law_dice) f cdv A outer s H E) (E := E) rfl rfl rfl rfl
  exact (dss_cons (g_set (by decide) sc__law_dice.nd (de_L (de_var (pv 1))))
    (dss_cons (g_for (passes_of rfl) (di_seq (de_var (pv 0))) (g_name (by decide) sc__law_dice.nd) (dss_cons (g_set (by decide) sc__law_dice.nd (de_L (de_S (dl_op op_mod ok_mod (de_K (de_S (dl_op op_addA ok_add (de_K (de_S (dl_op op_mulA ok_mul (dk_var (pv 2)) (de_K de_int)))) (de_K (de_S (g_callB call_abs ok_abs rfl T.n_abs (gk_cons (dk_var (pv 3)) dks_nil))))))) (de_K de_int)))))
    dss_nil))
    (dss_cons (ds_ret (dl_op op_addA ok_add (de_K (de_S (dl_lst (ga_cons (de_var (pv 2)) (ga_cons de_int das_nil))))) (de_K (de_S (dl_comp (own := [("_law_cell", 3)]) (by decide) (by decide) rfl sc__law_dice.nd (di_seq (de_var (pv 0))) (blkOk_by rfl) (fun _ _ _ _ _ => (g_name (by decide) sc__law_dice.nd)) (fun _ _ _ _ _ => (pts_one (gt_cmp op_ge (ok_cmp _) (dk_var (pv 3)) (de_K (de_S (dl_op op_pow ok_pow (de_K de_int) (de_K de_int))))))) (fun _ _ _ _ _ => (de_var (pv 3))) (fun _ => rfl))))))
    dss_nil)))
theorem at__law_dice {P : Program} {w : World} {K : PySem.W.Frag} {mg : Str → Option Value} {base : Heap} {C : Addr} (T : Tx P w K mg base C) : FnAt P w K mg base 1 "_law_dice" (fn__law_dice C) := fn_at T.f__law_dice sc__law_dice (by decide) (b__law_dice T)
theorem sc__law_off : FnScope ["_law_d", "_law_most", "_law_found"] ["_law_d", "_law_most"] (defScope s__law_off) := ⟨rfl, rfl, rfl, by decide +kernel, rfl, by decide +kernel, by decide +kernel⟩
theorem b__law_off {P : Program} {w : World} {K : PySem.W.Frag} {mg : Str → Option Value} {base : Heap} {C : Addr} (T : Tx P w K mg base C) : BodyOk P w K mg base ["_law_d", "_law_most", "_law_found"] "_law_off" s__law_off 0 [0] (F__law_off C) := by
  intro f cdv A outer s H E hr
  have tk := takes_of (X := cxOf (L2.CX P w) P w K mg base ["_law_d", "_law_most", "_law_found"] "_law_off" (defScope s__law_off) f cdv A outer s H E) (E := E) rfl rfl rfl rfl
  exact (dss_cons (ds_if (PW.pt (dw_and (gt_cmp (op_eqA hr.units) ok_eq (de_K (de_S (g_ix ix_seq ok_ix (dk_var (pv 0)) (de_K de_int)))) (de_K de_int)) (pw_and1 (gt_cmp op_gt (ok_cmp _) (de_K (de_S (g_callB cr_lenA ok_len rfl T.n_len (gk_cons (dk_var (pv 0)) dks_nil)))) (de_K de_int))))) (dss_cons (ds_setI (pv 0) de_int (g_pop1 de_int (pv 0)) rfl rfl rfl (fun _ => rfl))
    dss_nil) dss_nil)
    (dss_cons (ds_if (gt_cmp op_gt (ok_cmp _) (de_K (de_S (g_ix ix_seq ok_ix (dk_var (pv 0)) (de_K de_int)))) (de_K de_int)) (dss_cons (g_set (by decide) sc__law_off.nd (de_L (de_S (dl_op op_mod ok_mod (de_K (de_S (g_ix ix_seq ok_ix (dk_var (pv 0)) (de_K de_int)))) (dk_var (pv 1))))))
    (dss_cons (ds_setI (pv 0) de_int (de_S (dl_op op_fdiv ok_div (de_K (de_S (g_ix ix_seq ok_ix (dk_var (pv 0)) (de_K de_int)))) (dk_var (pv 1)))) rfl rfl rfl (fun _ => rfl))
    (dss_cons (ds_ret (dl_move (pv 2)))
    dss_nil))) dss_nil)
    (dss_cons (ds_setI (pv 0) de_int (de_S (dl_op op_mod ok_mod (de_K (de_S (dl_op op_addA ok_add (de_K (de_S (dl_op op_mulA ok_mul (de_K (de_S (g_ix ix_seq ok_ix (dk_var (pv 0)) (de_K de_int)))) (de_K de_int)))) (de_K de_int)))) (de_K de_int))) rfl rfl rfl (fun _ => rfl))
    (dss_cons (ds_ret (dl_op op_mod ok_mod (de_K (de_S (dl_op op_fdiv ok_div (de_K (de_S (g_ix ix_seq ok_ix (dk_var (pv 0)) (de_K de_int)))) (de_K de_int)))) (dk_var (pv 1))))
    dss_nil))))
theorem at__law_off {P : Program} {w : World} {K : PySem.W.Frag} {mg : Str → Option Value} {base : Heap} {C : Addr} (T : Tx P w K mg base C) : FnAt P w K mg base 1 "_law_off" (fn__law_off C) := fn_at T.f__law_off sc__law_off (by decide) (b__law_off T)
theorem sc__law_alike : FnScope ["_law_found", "_law_due", "_law_k", "_law_name"] ["_law_found", "_law_due"] (defScope s__law_alike) := ⟨rfl, rfl, rfl, by decide +kernel, rfl, by decide +kernel, by decide +kernel⟩
theorem b__law_alike {P : Program} {w : World} {K : PySem.W.Frag} {mg : Str → Option Value} {base : Heap} {C : Addr} (T : Tx P w K mg base C) {fr : Fn} {k : Nat} (hk : 0 ≤ k) (Fr : FnAt P w K mg base k "_law_alike" fr) : BodyOk P w K mg base ["_law_found", "_law_due", "_law_k", "_law_name"] "_law_alike" s__law_alike k [] (F__law_alike C fr) := by
  intro f cdv A outer s H E hr
  have tk := takes_of (X := cxOf (L2.CX P w) P w K mg base ["_law_found", "_law_due", "_law_k", "_law_name"] "_law_alike" (defScope s__law_alike) f cdv A outer s H E) (E := E) rfl rfl rfl rfl
  exact (dss_cons (ds_if (gt_cmp op_isA ok_is (dk_var (pv 1)) (de_K de_non)) (dss_cons (ds_ret (de_L (ge_cmp op_isA ok_is (dk_var (pv 0)) (de_K de_non))))
    dss_nil) dss_nil)
    (dss_cons (ds_if (gt_val (de_isi T.n_isinstance T.n_bool rfl (dk_var (pv 1)))) (dss_cons (ds_ret (de_L (de_and (de_isi T.n_isinstance T.n_bool rfl (dk_var (pv 0))) (pe_one (ge_cmp (op_eqA hr.units) ok_eq (dk_var (pv 0)) (dk_var (pv 1)))))))
    dss_nil) dss_nil)
    (dss_cons (ds_if (gt_val (de_isi T.n_isinstance T.n_int rfl (dk_var (pv 1)))) (dss_cons (ds_ret (de_L (de_and (de_isi T.n_isinstance T.n_int rfl (dk_var (pv 0))) (de_and (de_not (de_isi T.n_isinstance T.n_bool rfl (dk_var (pv 0)))) (pe_one (ge_cmp (op_eqA hr.units) ok_eq (dk_var (pv 0)) (dk_var (pv 1))))))))
    dss_nil) dss_nil)
    (dss_cons (ds_if (gt_val (de_isi T.n_isinstance T.n_str rfl (dk_var (pv 1)))) (dss_cons (ds_ret (de_L (de_and (de_isi T.n_isinstance T.n_str rfl (dk_var (pv 0))) (pe_one (ge_cmp (op_eqA hr.units) ok_eq (dk_var (pv 0)) (dk_var (pv 1)))))))
    dss_nil) dss_nil)
    (dss_cons (ds_if (gt_val (de_isi T.n_isinstance T.n_dict rfl (dk_var (pv 1)))) (dss_cons (ds_if (PW.pt (dw_or (dt_not (gt_val (de_isi T.n_isinstance T.n_dict rfl (dk_var (pv 0))))) (pw_or1 (gt_cmp (op_neA hr.units) ok_ne (de_K (de_S (g_callB cr_lenA ok_len rfl T.n_len (gk_cons (dk_var (pv 0)) dks_nil)))) (de_K (de_S (g_callB cr_lenA ok_len rfl T.n_len (gk_cons (dk_var (pv 1)) dks_nil)))))))) (dss_cons (ds_ret (de_L de_bl))
    dss_nil) dss_nil)
    (dss_cons (ds_ret (g_callB (cr_all rfl) ok_all rfl T.n_all (gk_cons (de_K (de_S (dl_comp (own := [("_law_name", 3)]) (by decide) (by decide) rfl sc__law_alike.nd (di_seq (de_var (pv 1))) (blkOk_by rfl) (fun _ _ _ _ _ => (g_name (by decide) sc__law_alike.nd)) (fun _ _ _ _ _ => dts_nil) (fun _ _ _ _ _ => (de_and (ge_cmp op_inA ok_in (dk_var (pv 3)) (dk_var (pv 0))) (pe_one (de_S (g_call Fr hr takes0 (gk_cons (de_K (de_S (g_ix ix_seq ok_ix (dk_var (pv 0)) (dk_var (pv 3))))) (gk_cons (de_K (de_S (g_ix ix_seq ok_ix (dk_var (pv 1)) (dk_var (pv 3))))) dks_nil))))))) (fun _ => rfl)))) dks_nil)))
    dss_nil)) dss_nil)
    (dss_cons (ds_if (PW.pt (dw_or (gt_cmp (op_neA hr.units) ok_ne (de_K (de_isi T.n_isinstance T.n_tuple rfl (dk_var (pv 1)))) (de_K (de_isi T.n_isinstance T.n_tuple rfl (dk_var (pv 0))))) (pw_or1 (gt_cmp (op_neA hr.units) ok_ne (de_K (de_isi T.n_isinstance T.n_list rfl (dk_var (pv 1)))) (de_K (de_isi T.n_isinstance T.n_list rfl (dk_var (pv 0)))))))) (dss_cons (ds_ret (de_L de_bl))
    dss_nil) dss_nil)
    (dss_cons (ds_if (gt_cmp (op_neA hr.units) ok_ne (de_K (de_S (g_callB cr_lenA ok_len rfl T.n_len (gk_cons (dk_var (pv 0)) dks_nil)))) (de_K (de_S (g_callB cr_lenA ok_len rfl T.n_len (gk_cons (dk_var (pv 1)) dks_nil))))) (dss_cons (ds_ret (de_L de_bl))
    dss_nil) dss_nil)
    (dss_cons (ds_ret (g_callB (cr_all rfl) ok_all rfl T.n_all (gk_cons (de_K (de_S (dl_comp (own := [("_law_k", 2)]) (by decide) (by decide) rfl sc__law_alike.nd (gi_rng1 T.n_range (de_S (g_callB cr_lenA ok_len rfl T.n_len (gk_cons (dk_var (pv 1)) dks_nil)))) (blkOk_by rfl) (fun _ _ _ _ _ => (g_name (by decide) sc__law_alike.nd)) (fun _ _ _ _ _ => dts_nil) (fun _ _ _ _ _ => (de_S (g_call Fr hr takes0 (gk_cons (de_K (de_S (g_ix ix_seq ok_ix (dk_var (pv 0)) (dk_var (pv 2))))) (gk_cons (de_K (de_S (g_ix ix_seq ok_ix (dk_var (pv 1)) (dk_var (pv 2))))) dks_nil))))) (fun _ => rfl)))) dks_nil)))
    dss_nil))))))))
theorem at__law_alikeN {P : Program} {w : World} {K : PySem.W.Frag} {mg : Str → Option Value} {base : Heap} {C : Addr} (T : Tx P w K mg base C) : ∀ n, FnAt P w K mg base (n + 1) "_law_alike" (fn__law_alikeN C n)
  | 0 => fn_at (k := 0) T.f__law_alike sc__law_alike (by decide) fun _ _ _ _ _ _ _ _ => dss_never
  | n + 1 => fn_at T.f__law_alike sc__law_alike (by decide) (b__law_alike T (Nat.zero_le _) (at__law_alikeN T n))
theorem at__law_alike {P : Program} {w : World} {K : PySem.W.Frag} {mg : Str → Option Value} {base : Heap} {C : Addr} (T : Tx P w K mg base C) : FnAt P w K mg base 7 "_law_alike" (fn__law_alike C) := at__law_alikeN T 6
theorem sc__law_mixed : FnScope ["_law_d", "_law_row", "_law_left", "_law_found"] ["_law_d", "_law_row"] (defScope s__law_mixed) := ⟨rfl, rfl, rfl, by decide +kernel, rfl, by decide +kernel, by decide +kernel⟩
theorem b__law_mixed {P : Program} {w : World} {K : PySem.W.Frag} {mg : Str → Option Value} {base : Heap} {C : Addr} (T : Tx P w K mg base C) : BodyOk P w K mg base ["_law_d", "_law_row", "_law_left", "_law_found"] "_law_mixed" s__law_mixed 1 [0] (F__law_mixed C) := by
  intro f cdv A outer s H E hr
  have tk := takes_of (X := cxOf (L2.CX P w) P w K mg base ["_law_d", "_law_row", "_law_left", "_law_found"] "_law_mixed" (defScope s__law_mixed) f cdv A outer s H E) (E := E) rfl rfl rfl rfl
  exact (dss_cons (g_set (by decide) sc__law_mixed.nd (g_callT call_list_of ok_list rfl T.n_list (gk_cons (dk_var (pv 1)) dks_nil)))
    (dss_cons (g_set (by decide) sc__law_mixed.nd (dl_lst das_nil))
    (dss_cons (ds_while 1000 (passes_of rfl) (gt_cmp (op_neA hr.units) ok_ne (dk_var (pv 2)) (de_K (de_S (dl_lst das_nil)))) (dss_cons (g_expr (g_append (g_pop1 (de_S (g_call ((at__law_off T).mono (by decide)) hr tk (gk_cons (dk_var (pv 0)) (gk_cons (de_K (de_S (g_callB cr_lenA ok_len rfl T.n_len (gk_cons (dk_var (pv 2)) dks_nil)))) dks_nil)))) (pv 2)) (pv 3)))
    dss_nil))
    (dss_cons (ds_ret (dl_move (pv 3)))
    dss_nil))))
theorem at__law_mixed {P : Program} {w : World} {K : PySem.W.Frag} {mg : Str → Option Value} {base : Heap} {C : Addr} (T : Tx P w K mg base C) : FnAt P w K mg base 2 "_law_mixed" (fn__law_mixed C) := fn_at T.f__law_mixed sc__law_mixed (by decide) (b__law_mixed T)
theorem sc__law_box : FnScope ["_law_d", "_law_word", "_law_late"] ["_law_d"] (defScope s__law_box) := ⟨rfl, rfl, rfl, by decide +kernel, rfl, by decide +kernel, by decide +kernel⟩
theorem b__law_box {P : Program} {w : World} {K : PySem.W.Frag} {mg : Str → Option Value} {base : Heap} {C : Addr} (T : Tx P w K mg base C) : BodyOk P w K mg base ["_law_d", "_law_word", "_law_late"] "_law_box" s__law_box 1 [0] (F__law_box C) := by
  intro f cdv A outer s H E hr
  have tk := takes_of (X := cxOf (L2.CX P w) P w K mg base ["_law_d", "_law_word", "_law_late"] "_law_box" (defScope s__law_box) f cdv A outer s H E) (E := E) rfl rfl rfl rfl
  exact (dss_cons (g_set (by decide) sc__law_box.nd (de_L (de_S (g_ix ix_seq ok_ix (de_K (de_S (dl_lst (ga_cons de_str (ga_cons de_str (ga_cons de_str (ga_cons de_str (ga_cons de_str das_nil)))))))) (de_K (de_S (g_call ((at__law_off T).mono (by decide)) hr tk (gk_cons (dk_var (pv 0)) (gk_cons (de_K de_int) dks_nil)))))))))
    (dss_cons (g_set (by decide) sc__law_box.nd (de_L (de_S (g_ix ix_seq ok_ix (de_K (de_S (dl_lst (ga_cons (de_S (g_call ((at__law_off T).mono (by decide)) hr tk (gk_cons (dk_var (pv 0)) (gk_cons (de_K de_int) dks_nil)))) (ga_cons (de_S (g_call ((at__law_off T).mono (by decide)) hr tk (gk_cons (dk_var (pv 0)) (gk_cons (de_K de_int) dks_nil)))) das_nil))))) (de_K (de_S (g_call ((at__law_off T).mono (by decide)) hr tk (gk_cons (dk_var (pv 0)) (gk_cons (de_K de_int) dks_nil)))))))))
    (dss_cons (ds_if (gt_cmp (op_eqA hr.units) ok_eq (dk_var (pv 1)) (de_K de_str)) (dss_cons (ds_ret (de_L (de_tup (ga_cons (de_var (pv 1)) (ga_cons (de_S (dl_op op_sub ok_sub (de_K (de_S (g_call ((at__law_off T).mono (by decide)) hr tk (gk_cons (dk_var (pv 0)) (gk_cons (de_K de_int) dks_nil))))) (de_K de_int))) (ga_cons (de_var (pv 2)) das_nil))))))
    dss_nil) dss_nil)
    (dss_cons (ds_if (gt_cmp (op_eqA hr.units) ok_eq (dk_var (pv 1)) (de_K de_str)) (dss_cons (ds_ret (de_L (de_tup (ga_cons (de_var (pv 1)) (ga_cons (de_S (dl_op op_addA ok_add (de_K de_int) (de_K (de_S (g_call ((at__law_off T).mono (by decide)) hr tk (gk_cons (dk_var (pv 0)) (gk_cons (de_K de_int) dks_nil))))))) (ga_cons (de_var (pv 2)) das_nil))))))
    dss_nil) dss_nil)
    (dss_cons (ds_ret (de_L (de_tup (ga_cons (de_var (pv 1)) (ga_cons (de_var (pv 2)) das_nil)))))
    dss_nil)))))
theorem at__law_box {P : Program} {w : World} {K : PySem.W.Frag} {mg : Str → Option Value} {base : Heap} {C : Addr} (T : Tx P w K mg base C) : FnAt P w K mg base 2 "_law_box" (fn__law_box C) := fn_at T.f__law_box sc__law_box (by decide) (b__law_box T)
theorem sc__law_hold : FnScope ["_law_d"] ["_law_d"] (defScope s__law_hold) := ⟨rfl, rfl, rfl, by decide +kernel, rfl, by decide +kernel, by decide +kernel⟩
theorem b__law_hold {P : Program} {w : World} {K : PySem.W.Frag} {mg : Str → Option Value} {base : Heap} {C : Addr} (T : Tx P w K mg base C) : BodyOk P w K mg base ["_law_d"] "_law_hold" s__law_hold 1 [0] (F__law_hold C) := by
  intro f cdv A outer s H E hr
  have tk := takes_of (X := cxOf (L2.CX P w) P w K mg base ["_law_d"] "_law_hold" (defScope s__law_hold) f cdv A outer s H E) (E := E) rfl rfl rfl rfl
  exact (dss_cons (ds_ret (g_ix ix_seq ok_ix (de_K (de_S (dl_lst (ga_cons de_int (ga_cons de_int (ga_cons de_int (ga_cons de_int (ga_cons (de_S (g_call ((at__law_off T).mono (by decide)) hr tk (gk_cons (dk_var (pv 0)) (gk_cons (de_K de_int) dks_nil)))) (ga_cons (de_S (g_call ((at__law_off T).mono (by decide)) hr tk (gk_cons (dk_var (pv 0)) (gk_cons (de_K de_int) dks_nil)))) das_nil))))))))) (de_K (de_S (g_call ((at__law_off T).mono (by decide)) hr tk (gk_cons (dk_var (pv 0)) (gk_cons (de_K de_int) dks_nil)))))))
    dss_nil)
theorem at__law_hold {P : Program} {w : World} {K : PySem.W.Frag} {mg : Str → Option Value} {base : Heap} {C : Addr} (T : Tx P w K mg base C) : FnAt P w K mg base 2 "_law_hold" (fn__law_hold C) := fn_at T.f__law_hold sc__law_hold (by decide) (b__law_hold T)
theorem sc__law_names : FnScope ["_law_d", "_law_turn", "_law_signs", "_law_third"] ["_law_d"] (defScope s__law_names) := ⟨rfl, rfl, rfl, by decide +kernel, rfl, by decide +kernel, by decide +kernel⟩
theorem b__law_names {P : Program} {w : World} {K : PySem.W.Frag} {mg : Str → Option Value} {base : Heap} {C : Addr} (T : Tx P w K mg base C) : BodyOk P w K mg base ["_law_d", "_law_turn", "_law_signs", "_law_third"] "_law_names" s__law_names 1 [0] (F__law_names C) := by
  intro f cdv A outer s H E hr
  have tk := takes_of (X := cxOf (L2.CX P w) P w K mg base ["_law_d", "_law_turn", "_law_signs", "_law_third"] "_law_names" (defScope s__law_names) f cdv A outer s H E) (E := E) rfl rfl rfl rfl
  exact (dss_cons (g_set (by decide) sc__law_names.nd (de_L (de_S (g_call ((at__law_off T).mono (by decide)) hr tk (gk_cons (dk_var (pv 0)) (gk_cons (de_K de_int) dks_nil))))))
    (dss_cons (g_set (by decide) sc__law_names.nd (de_L de_str))
    (dss_cons (g_set (by decide) sc__law_names.nd (de_L (de_S (dl_op op_addA ok_add (de_K (de_S (dl_slice (dk_var (pv 2)) (do_some (de_var (pv 1))) do_none))) (de_K (de_S (dl_slice (dk_var (pv 2)) do_none (do_some (de_var (pv 1))))))))))
    (dss_cons (g_set (by decide) sc__law_names.nd (de_L (de_S (dl_op op_mulA ok_mul (de_K (de_S (g_ix ix_seq ok_ix (dk_var (pv 2)) (de_K de_int)))) (de_K (de_S (dl_op op_addA ok_add (de_K de_int) (de_K (de_S (g_call ((at__law_off T).mono (by decide)) hr tk (gk_cons (dk_var (pv 0)) (gk_cons (de_K de_int) dks_nil))))))))))))
    (dss_cons (ds_ret (dl_lst (ga_cons (de_S (g_ix ix_seq ok_ix (dk_var (pv 2)) (de_K de_int))) (ga_cons (de_S (g_ix ix_seq ok_ix (de_K (de_S (dl_lst (ga_cons (de_S (dl_op op_addA ok_add (de_K (de_S (g_ix ix_seq ok_ix (dk_var (pv 2)) (de_K de_int)))) (de_K (de_S (g_ix ix_seq ok_ix (dk_var (pv 2)) (de_K de_int)))))) (ga_cons (de_S (dl_op op_addA ok_add (de_K (de_S (g_ix ix_seq ok_ix (dk_var (pv 2)) (de_K de_int)))) (de_K (de_S (g_ix ix_seq ok_ix (dk_var (pv 2)) (de_K de_int)))))) das_nil))))) (de_K (de_S (g_call ((at__law_off T).mono (by decide)) hr tk (gk_cons (dk_var (pv 0)) (gk_cons (de_K de_int) dks_nil))))))) (ga_cons (de_var (pv 3)) (ga_cons (de_S (dl_op op_addA ok_add (dk_var (pv 3)) (de_K (de_S (g_ix ix_seq ok_ix (dk_var (pv 2)) (de_K (de_S (g_call ((at__law_off T).mono (by decide)) hr tk (gk_cons (dk_var (pv 0)) (gk_cons (de_K de_int) dks_nil)))))))))) das_nil))))))
    dss_nil)))))
theorem at__law_names {P : Program} {w : World} {K : PySem.W.Frag} {mg : Str → Option Value} {base : Heap} {C : Addr} (T : Tx P w K mg base C) : FnAt P w K mg base 2 "_law_names" (fn__law_names C) := fn_at T.f__law_names sc__law_names (by decide) (b__law_names T)
theorem sc__law_rows : FnScope ["_law_d", "_law_many", "_law_names_here", "_law_ins", "_law_mid", "_law_boxes", "_law_last", "_law_cables", "_law_at", "_law_k", "_law_cable"] ["_law_d", "_law_many"] (defScope s__law_rows) := ⟨rfl, rfl, rfl, by decide +kernel, rfl, by decide +kernel, by decide +kernel⟩
theorem b__law_rows {P : Program} {w : World} {K : PySem.W.Frag} {mg : Str → Option Value} {base : Heap} {C : Addr} (T : Tx P w K mg base C) : BodyOk P w K mg base ["_law_d", "_law_many", "_law_names_here", "_law_ins", "_law_mid", "_law_boxes", "_law_last", "_law_cables", "_law_at", "_law_k", "_law_cable"] "_law_rows" s__law_rows 2 [0] (F__law_rows C) := by
  intro f cdv A outer s H E hr
  have tk := takes_of (X := cxOf (L2.CX P w) P w K mg base ["_law_d", "_law_many", "_law_names_here", "_law_ins", "_law_mid", "_law_boxes", "_law_last", "_law_cables", "_law_at", "_law_k", "_law_cable"] "_law_rows" (defScope s__law_rows) f cdv A outer s H E) (E := E) rfl rfl rfl rfl
  exact (dss_cons (g_set (by decide) sc__law_rows.nd (de_L (de_S (g_call ((at__law_names T).mono (by decide)) hr tk (gk_cons (dk_var (pv 0)) dks_nil)))))
    (dss_cons (g_set (by decide) sc__law_rows.nd (de_L (de_S (dl_op op_addA ok_add (de_K de_int) (de_K (de_S (g_call ((at__law_off T).mono (by decide)) hr tk (gk_cons (dk_var (pv 0)) (gk_cons (de_K de_int) dks_nil)))))))))
    (dss_cons (g_set (by decide) sc__law_rows.nd (de_L (de_S (dl_op op_addA ok_add (de_K de_int) (de_K (de_S (g_call ((at__law_off T).mono (by decide)) hr tk (gk_cons (dk_var (pv 0)) (gk_cons (dk_var (pv 1)) dks_nil)))))))))
    (dss_cons (g_set (by decide) sc__law_rows.nd (dl_op op_addA ok_add (de_K (de_S (dl_comp (own := [("_law_k", 9)]) (by decide) (by decide) rfl sc__law_rows.nd (gi_rng1 T.n_range (de_var (pv 3))) (blkOk_by rfl) (fun _ _ _ _ _ => (g_name (by decide) sc__law_rows.nd)) (fun _ _ _ _ _ => dts_nil) (fun _ _ _ _ _ => (de_tup (ga_cons de_str (ga_cons (de_S (g_ix ix_seq ok_ix (dk_var (pv 2)) (dk_var (pv 9)))) das_nil)))) (fun _ => rfl)))) (de_K (de_S (dl_comp (own := [("_law_k", 9)]) (by decide) (by decide) rfl sc__law_rows.nd (gi_rng1 T.n_range (de_var (pv 4))) (blkOk_by rfl) (fun _ _ _ _ _ => (g_name (by decide) sc__law_rows.nd)) (fun _ _ _ _ _ => dts_nil) (fun _ _ _ _ _ => (de_S (g_call ((at__law_box T).mono (by decide)) hr takes0 (gk_cons (dk_var (pv 0)) dks_nil)))) (fun _ => rfl))))))
    (dss_cons (g_set (by decide) sc__law_rows.nd (de_L (de_S (dl_op op_sub ok_sub (de_K (de_S (g_callB cr_lenA ok_len rfl T.n_len (gk_cons (dk_var (pv 5)) dks_nil)))) (de_K de_int)))))
    (dss_cons (g_set (by decide) sc__law_rows.nd (dl_lst das_nil))
    (dss_cons (g_for (passes_of rfl) (gi_rng2 T.n_range (de_var (pv 3)) (de_S (g_callB cr_lenA ok_len rfl T.n_len (gk_cons (dk_var (pv 5)) dks_nil)))) (g_name (by decide) sc__law_rows.nd) (dss_cons (g_for (passes_of rfl) (gi_rng1 T.n_range (de_S (dl_op op_addA ok_add (de_K de_int) (de_K (de_S (dl_op op_mulA ok_mul (de_K (de_S (g_call ((at__law_off T).mono (by decide)) hr tk (gk_cons (dk_var (pv 0)) (gk_cons (de_K de_int) dks_nil))))) (de_K (de_S (g_callT cr_intA ok_intA rfl T.n_int (gk_cons (de_K (ge_cmp op_lt (ok_cmp _) (de_K (de_S (g_callB cr_lenA ok_len rfl T.n_len (gk_cons (dk_var (pv 7)) dks_nil)))) (de_K de_int))) dks_nil)))))))))) (g_name (by decide) sc__law_rows.nd) (dss_cons (g_expr (g_append (de_tup (ga_cons (de_S (g_call ((at__law_off T).mono (by decide)) hr tk (gk_cons (dk_var (pv 0)) (gk_cons (dk_var (pv 8)) dks_nil)))) (ga_cons (de_var (pv 8)) (ga_cons (de_S (g_call ((at__law_hold T).mono (by decide)) hr tk (gk_cons (dk_var (pv 0)) dks_nil))) das_nil)))) (pv 7)))
    dss_nil))
    dss_nil))
    (dss_cons (g_for (passes_of rfl) (gi_rng1 T.n_range (de_var (pv 6))) (g_name (by decide) sc__law_rows.nd) (dss_cons (ds_if (gt_cmp (op_eqA hr.units) ok_eq (de_K (de_S (dl_compO (own := [("_law_cable", 10)]) (by decide) (by decide) rfl sc__law_rows.nd (pv 7) (blkOk_by rfl) (fun _ _ _ _ _ => (g_name (by decide) sc__law_rows.nd)) (fun _ _ _ _ _ => (pts_one (gt_cmp (op_eqA hr.units) ok_eq (de_K (de_S (g_ix ix_seq ok_ix (dk_var (pv 10)) (de_K de_int)))) (dk_var (pv 8))))) (fun _ _ _ _ _ => (de_var (pv 10)))))) (de_K (de_S (dl_lst das_nil)))) (dss_cons (g_expr (g_append (de_tup (ga_cons (de_var (pv 8)) (ga_cons (de_var (pv 6)) (ga_cons (de_S (g_call ((at__law_hold T).mono (by decide)) hr tk (gk_cons (dk_var (pv 0)) dks_nil))) das_nil)))) (pv 7)))
    dss_nil) dss_nil)
    dss_nil))
    (dss_cons (g_for (passes_of rfl) (gi_rng1 T.n_range (de_S (g_call ((at__law_off T).mono (by decide)) hr tk (gk_cons (dk_var (pv 0)) (gk_cons (de_K de_int) dks_nil))))) (g_name (by decide) sc__law_rows.nd) (dss_cons (g_set (by decide) sc__law_rows.nd (de_L (de_S (dl_op op_addA ok_add (dk_var (pv 3)) (de_K (de_S (g_call ((at__law_off T).mono (by decide)) hr tk (gk_cons (dk_var (pv 0)) (gk_cons (dk_var (pv 4)) dks_nil)))))))))
    (dss_cons (g_expr (g_append (de_tup (ga_cons (de_var (pv 8)) (ga_cons (de_S (dl_op op_addA ok_add (dk_var (pv 3)) (de_K (de_S (g_call ((at__law_off T).mono (by decide)) hr tk (gk_cons (dk_var (pv 0)) (gk_cons (de_K (de_S (dl_op op_addA ok_add (de_K (de_S (dl_op op_sub ok_sub (dk_var (pv 8)) (dk_var (pv 3))))) (de_K de_int)))) dks_nil))))))) (ga_cons (de_S (dl_op op_addA ok_add (de_K de_int) (de_K (de_S (g_call ((at__law_off T).mono (by decide)) hr tk (gk_cons (dk_var (pv 0)) (gk_cons (de_K (de_S (g_ix ix_seq ok_ix (de_K (de_S (dl_lst (ga_cons de_int (ga_cons de_int das_nil))))) (de_K (de_S (g_call ((at__law_off T).mono (by decide)) hr tk (gk_cons (dk_var (pv 0)) (gk_cons (de_K de_int) dks_nil)))))))) dks_nil))))))) das_nil)))) (pv 7)))
    dss_nil)))
    (dss_cons (g_for (passes_of rfl) (gi_rng1 T.n_range (de_S (dl_op op_addA ok_add (de_K de_int) (de_K (de_S (g_call ((at__law_off T).mono (by decide)) hr tk (gk_cons (dk_var (pv 0)) (gk_cons (de_K de_int) dks_nil)))))))) (g_name (by decide) sc__law_rows.nd) (dss_cons (g_expr (g_append (de_tup (ga_cons de_str (ga_cons (de_S (g_ix ix_seq ok_ix (dk_var (pv 2)) (de_K (de_S (dl_op op_addA ok_add (de_K de_int) (dk_var (pv 9))))))) das_nil))) (pv 5)))
    (dss_cons (g_expr (g_append (de_tup (ga_cons (de_S (g_ix ix_seq ok_ix (de_K (de_S (dl_lst (ga_cons (de_var (pv 6)) (ga_cons (de_S (g_call ((at__law_off T).mono (by decide)) hr tk (gk_cons (dk_var (pv 0)) (gk_cons (de_K (de_S (dl_op op_addA ok_add (dk_var (pv 6)) (de_K de_int)))) dks_nil)))) das_nil))))) (dk_var (pv 9)))) (ga_cons (de_S (dl_op op_sub ok_sub (de_K (de_S (g_callB cr_lenA ok_len rfl T.n_len (gk_cons (dk_var (pv 5)) dks_nil)))) (de_K de_int))) (ga_cons (de_S (g_call ((at__law_hold T).mono (by decide)) hr tk (gk_cons (dk_var (pv 0)) dks_nil))) das_nil)))) (pv 7)))
    dss_nil)))
    (dss_cons (ds_ret (de_L (de_tup (ga_cons (de_var (pv 5)) (ga_cons (de_var (pv 7)) das_nil)))))
    dss_nil)))))))))))
theorem at__law_rows {P : Program} {w : World} {K : PySem.W.Frag} {mg : Str → Option Value} {base : Heap} {C : Addr} (T : Tx P w K mg base C) : FnAt P w K mg base 3 "_law_rows" (fn__law_rows C) := fn_at T.f__law_rows sc__law_rows (by decide) (b__law_rows T)
theorem sc__law_more : FnScope ["_law_boxes", "_law_cables", "_law_number", "_law_way", "_law_turn", "_law_at", "_law_fresh", "_law_mid", "_law_name", "_law_one", "_law_other", "_law_hold_here", "_law_k"] ["_law_boxes", "_law_cables", "_law_number"] (defScope s__law_more) := ⟨rfl, rfl, rfl, by decide +kernel, rfl, by decide +kernel, by decide +kernel⟩
theorem b__law_more {P : Program} {w : World} {K : PySem.W.Frag} {mg : Str → Option Value} {base : Heap} {C : Addr} (T : Tx P w K mg base C) : BodyOk P w K mg base ["_law_boxes", "_law_cables", "_law_number", "_law_way", "_law_turn", "_law_at", "_law_fresh", "_law_mid", "_law_name", "_law_one", "_law_other", "_law_hold_here", "_law_k"] "_law_more" s__law_more 0 [] (F__law_more C) := by
  intro f cdv A outer s H E hr
  have tk := takes_of (X := cxOf (L2.CX P w) P w K mg base ["_law_boxes", "_law_cables", "_law_number", "_law_way", "_law_turn", "_law_at", "_law_fresh", "_law_mid", "_law_name", "_law_one", "_law_other", "_law_hold_here", "_law_k"] "_law_more" (defScope s__law_more) f cdv A outer s H E) (E := E) rfl rfl rfl rfl
  exact (dss_cons (g_set (by decide) sc__law_more.nd (de_L (de_S (dl_op op_mod ok_mod (dk_var (pv 2)) (de_K de_int)))))
    (dss_cons (g_for (passes_of rfl) (gi_rng1 T.n_range (de_S (dl_op op_mulA ok_mul (de_K de_int) (de_K (de_S (g_callT cr_intA ok_intA rfl T.n_int (gk_cons (de_K (ge_cmp op_inA ok_in (dk_var (pv 3)) (de_K (de_tup (ga_cons de_int (ga_cons de_int das_nil)))))) dks_nil))))))) (g_name (by decide) sc__law_more.nd) (dss_cons (ds_if (PW.pt (dw_and (gt_cmp op_lt (ok_cmp _) (de_K (de_S (g_callB cr_lenA ok_len rfl T.n_len (gk_cons (dk_var (pv 0)) dks_nil)))) (de_K de_int)) (pw_and1 (gt_cmp op_lt (ok_cmp _) (de_K (de_S (g_callB cr_lenA ok_len rfl T.n_len (gk_cons (dk_var (pv 1)) dks_nil)))) (de_K de_int))))) (dss_cons (g_set (by decide) sc__law_more.nd (de_L (de_S (dl_op op_addA ok_add (de_K (de_S (dl_op op_fdiv ok_div (dk_var (pv 2)) (de_K de_int)))) (de_K (de_S (dl_op op_mulA ok_mul (de_K de_int) (dk_var (pv 4)))))))))
    (dss_cons (g_set (by decide) sc__law_more.nd (de_L (de_S (dl_op op_mod ok_mod (dk_var (pv 2)) (de_K (de_S (g_callB cr_lenA ok_len rfl T.n_len (gk_cons (dk_var (pv 1)) dks_nil))))))))
    (dss_cons (g_setT (gg_tup (gg_cons (g_name (by decide) sc__law_more.nd) (gg_cons (g_name (by decide) sc__law_more.nd) (gg_cons (g_name (by decide) sc__law_more.nd) dgs_nil)))) (de_S (g_ix ix_seq ok_ix (dk_var (pv 1)) (dk_var (pv 5)))))
    (dss_cons (g_set (by decide) sc__law_more.nd (de_L (de_S (g_callB cr_lenA ok_len rfl T.n_len (gk_cons (dk_var (pv 0)) dks_nil)))))
    (dss_cons (ds_setLc (own := [("_law_k", 12)]) (by decide) rfl rfl (sw_true rfl rfl rfl rfl) (by decide) (by decide) rfl sc__law_more.nd (gi_rng1 T.n_range (de_var (pv 6))) (blkOk_by rfl) (fun _ _ _ _ _ => (g_name (by decide) sc__law_more.nd)) (fun _ _ _ _ _ => (pts_one (gt_cmp op_notInA ok_notIn (de_K (de_S (g_ix ix_seq ok_ix (de_K (de_S (g_ix ix_seq ok_ix (dk_var (pv 0)) (dk_var (pv 12))))) (de_K de_int)))) (de_K (de_tup (ga_cons de_str (ga_cons de_str das_nil))))))) (fun _ _ _ _ _ => (de_var (pv 12))) (fun _ => rfl))
    (dss_cons (g_set (by decide) sc__law_more.nd (de_L (de_S (dl_op op_mulA ok_mul (de_K (de_S (g_ix ix_seq ok_ix (de_K de_str) (dk_var (pv 4))))) (de_K de_int)))))
    (dss_cons (ds_if (gt_cmp (op_eqA hr.units) ok_eq (dk_var (pv 3)) (de_K de_int)) (dss_cons (g_set (by decide) sc__law_more.nd (de_L (de_S (dl_op op_addA ok_add (dk_var (pv 0)) (de_K (de_S (dl_lst (ga_cons (de_S (g_ix ix_seq ok_ix (de_K (de_S (dl_lst (ga_cons (de_tup (ga_cons de_str (ga_cons (de_S (dl_op op_mod ok_mod (dk_var (pv 2)) (de_K de_int))) das_nil))) (ga_cons (de_tup (ga_cons de_str (ga_cons (de_S (dl_op op_mod ok_mod (dk_var (pv 2)) (de_K de_int))) das_nil))) das_nil))))) (de_K (de_S (dl_op op_mod ok_mod (dk_var (pv 2)) (de_K de_int)))))) das_nil))))))))
    (dss_cons (g_set (by decide) sc__law_more.nd (de_L (de_S (dl_op op_addA ok_add (de_K (de_S (dl_op op_addA ok_add (de_K (de_S (dl_slice (dk_var (pv 1)) do_none (do_some (de_var (pv 5)))))) (de_K (de_S (dl_lst (ga_cons (de_tup (ga_cons (de_var (pv 9)) (ga_cons (de_var (pv 6)) (ga_cons (de_var (pv 11)) das_nil)))) (ga_cons (de_tup (ga_cons (de_var (pv 6)) (ga_cons (de_var (pv 10)) (ga_cons de_int das_nil)))) das_nil)))))))) (de_K (de_S (dl_slice (dk_var (pv 1)) (do_some (de_S (dl_op op_addA ok_add (dk_var (pv 5)) (de_K de_int)))) do_none)))))))
    dss_nil)) (dss_cons (ds_if (gt_cmp (op_eqA hr.units) ok_eq (de_K (de_S (dl_op op_mod ok_mod (dk_var (pv 4)) (de_K de_int)))) (de_K de_int)) (dss_cons (g_set (by decide) sc__law_more.nd (de_L (de_S (dl_op op_addA ok_add (dk_var (pv 0)) (de_K (de_S (dl_lst (ga_cons (de_tup (ga_cons de_str (ga_cons (de_var (pv 8)) das_nil))) das_nil))))))))
    (dss_cons (g_set (by decide) sc__law_more.nd (de_L (de_S (dl_op op_addA ok_add (dk_var (pv 1)) (de_K (de_S (dl_lst (ga_cons (de_tup (ga_cons (de_var (pv 6)) (ga_cons (de_S (g_ix ix_seq ok_ix (dk_var (pv 7)) (de_K (de_S (dl_op op_mod ok_mod (dk_var (pv 2)) (de_K (de_S (g_callB cr_lenA ok_len rfl T.n_len (gk_cons (dk_var (pv 7)) dks_nil))))))))) (ga_cons (de_var (pv 11)) das_nil)))) das_nil))))))))
    dss_nil)) (dss_cons (g_set (by decide) sc__law_more.nd (de_L (de_S (dl_op op_addA ok_add (dk_var (pv 0)) (de_K (de_S (dl_lst (ga_cons (de_tup (ga_cons de_str (ga_cons (de_var (pv 8)) das_nil))) das_nil))))))))
    (dss_cons (g_set (by decide) sc__law_more.nd (de_L (de_S (dl_op op_addA ok_add (dk_var (pv 1)) (de_K (de_S (dl_lst (ga_cons (de_tup (ga_cons (de_S (g_ix ix_seq ok_ix (dk_var (pv 7)) (de_K (de_S (dl_op op_mod ok_mod (dk_var (pv 2)) (de_K (de_S (g_callB cr_lenA ok_len rfl T.n_len (gk_cons (dk_var (pv 7)) dks_nil))))))))) (ga_cons (de_var (pv 6)) (ga_cons de_int das_nil)))) das_nil))))))))
    dss_nil)))
    dss_nil))
    dss_nil))))))) dss_nil)
    dss_nil))
    (dss_cons (ds_ret (de_L (de_tup (ga_cons (de_var (pv 0)) (ga_cons (de_var (pv 1)) das_nil)))))
    dss_nil)))
theorem at__law_more {P : Program} {w : World} {K : PySem.W.Frag} {mg : Str → Option Value} {base : Heap} {C : Addr} (T : Tx P w K mg base C) : FnAt P w K mg base 1 "_law_more" (fn__law_more C) := fn_at T.f__law_more sc__law_more (by decide) (b__law_more T)
theorem sc__law_desk : FnScope ["_law_d", "_law_many", "_law_order", "_law_number", "_law_cables", "_law_boxes", "_law_at", "_law_one", "_law_other", "_law_hold_here"] ["_law_d", "_law_many"] (defScope s__law_desk) := ⟨rfl, rfl, rfl, by decide +kernel, rfl, by decide +kernel, by decide +kernel⟩
theorem b__law_desk {P : Program} {w : World} {K : PySem.W.Frag} {mg : Str → Option Value} {base : Heap} {C : Addr} (T : Tx P w K mg base C) : BodyOk P w K mg base ["_law_d", "_law_many", "_law_order", "_law_number", "_law_cables", "_law_boxes", "_law_at", "_law_one", "_law_other", "_law_hold_here"] "_law_desk" s__law_desk 3 [0] (F__law_desk C) := by
  intro f cdv A outer s H E hr
  have tk := takes_of (X := cxOf (L2.CX P w) P w K mg base ["_law_d", "_law_many", "_law_order", "_law_number", "_law_cables", "_law_boxes", "_law_at", "_law_one", "_law_other", "_law_hold_here"] "_law_desk" (defScope s__law_desk) f cdv A outer s H E) (E := E) rfl rfl rfl rfl
  exact (dss_cons (g_setT (gg_tup (gg_cons (g_name (by decide) sc__law_desk.nd) (gg_cons (g_name (by decide) sc__law_desk.nd) dgs_nil))) (de_S (g_call ((at__law_rows T).mono (by decide)) hr tk (gk_cons (dk_var (pv 0)) (gk_cons (dk_var (pv 1)) dks_nil)))))
    (dss_cons (g_setT (gg_tup (gg_cons (g_name (by decide) sc__law_desk.nd) (gg_cons (g_name (by decide) sc__law_desk.nd) dgs_nil))) (de_S (g_call ((at__law_more T).mono (by decide)) hr tk (gk_cons (dk_var (pv 5)) (gk_cons (dk_var (pv 4)) (gk_cons (de_K (de_S (dl_op op_fdiv ok_div (de_K (de_S (g_ix ix_seq ok_ix (dk_var (pv 0)) (de_K de_int)))) (de_K de_int)))) dks_nil))))))
    (dss_cons (g_set (by decide) sc__law_desk.nd (de_L (de_S (g_call ((at__law_mixed T).mono (by decide)) hr tk (gk_cons (dk_var (pv 0)) (gk_cons (de_K (de_S (g_listRg T.n_list T.n_range (de_S (g_callB cr_lenA ok_len rfl T.n_len (gk_cons (dk_var (pv 5)) dks_nil)))))) dks_nil))))))
    (dss_cons (g_set (by decide) sc__law_desk.nd (de_L (de_S (dl_comp (own := [("_law_at", 6)]) (by decide) (by decide) rfl sc__law_desk.nd (gi_rng1 T.n_range (de_S (g_callB cr_lenA ok_len rfl T.n_len (gk_cons (dk_var (pv 5)) dks_nil)))) (blkOk_by rfl) (fun _ _ _ _ _ => (g_name (by decide) sc__law_desk.nd)) (fun _ _ _ _ _ => dts_nil) (fun _ _ _ _ _ => (de_S (g_index (dk_var (pv 2)) (gk_cons (dk_var (pv 6)) dks_nil)))) (fun _ => rfl)))))
    (dss_cons (ds_setLc (own := [("_law_one", 7), ("_law_other", 8), ("_law_hold_here", 9)]) (by decide) rfl rfl (sw_true rfl rfl rfl rfl) (by decide) (by decide) rfl sc__law_desk.nd (di_seq (de_var (pv 4))) (blkOk_by rfl) (fun _ _ _ _ _ => (gg_tup (gg_cons (g_name (by decide) sc__law_desk.nd) (gg_cons (g_name (by decide) sc__law_desk.nd) (gg_cons (g_name (by decide) sc__law_desk.nd) dgs_nil))))) (fun _ _ _ _ _ => dts_nil) (fun _ _ _ _ _ => (de_tup (ga_cons (de_S (g_ix ix_seq ok_ix (dk_var (pv 3)) (dk_var (pv 7)))) (ga_cons (de_S (g_ix ix_seq ok_ix (dk_var (pv 3)) (dk_var (pv 8)))) (ga_cons (de_var (pv 9)) das_nil))))) (fun _ => rfl))
    (dss_cons (ds_ret (de_L (de_tup (ga_cons (de_S (dl_comp (own := [("_law_at", 6)]) (by decide) (by decide) rfl sc__law_desk.nd (di_seq (de_var (pv 2))) (blkOk_by rfl) (fun _ _ _ _ _ => (g_name (by decide) sc__law_desk.nd)) (fun _ _ _ _ _ => dts_nil) (fun _ _ _ _ _ => (de_S (g_ix ix_seq ok_ix (dk_var (pv 5)) (dk_var (pv 6))))) (fun _ => rfl))) (ga_cons (de_S (g_call ((at__law_mixed T).mono (by decide)) hr tk (gk_cons (dk_var (pv 0)) (gk_cons (dk_var (pv 4)) dks_nil)))) das_nil)))))
    dss_nil))))))
theorem at__law_desk {P : Program} {w : World} {K : PySem.W.Frag} {mg : Str → Option Value} {base : Heap} {C : Addr} (T : Tx P w K mg base C) : FnAt P w K mg base 4 "_law_desk" (fn__law_desk C) := fn_at T.f__law_desk sc__law_desk (by decide) (b__law_desk T)
theorem sc__law_made : FnScope ["_law_t"] ["_law_t"] (defScope s__law_made) := ⟨rfl, rfl, rfl, by decide +kernel, rfl, by decide +kernel, by decide +kernel⟩
theorem b__law_made {P : Program} {w : World} {K : PySem.W.Frag} {mg : Str → Option Value} {base : Heap} {C : Addr} (T : Tx P w K mg base C) : BodyOk P w K mg base ["_law_t"] "_law_made" s__law_made 4 [] (F__law_made C) := by
  intro f cdv A outer s H E hr
  have tk := takes_of (X := cxOf (L2.CX P w) P w K mg base ["_law_t"] "_law_made" (defScope s__law_made) f cdv A outer s H E) (E := E) rfl rfl rfl rfl
  exact (dss_cons (ds_ret (g_make ((at_Desk___init__ T).mono (by decide)) hr tk (gk_cons (de_K (de_S (g_callT call_list_of ok_list rfl T.n_list (gk_cons (de_K (de_S (g_ix ix_seq ok_ix (dk_var (pv 0)) (de_K de_int)))) dks_nil)))) (gk_cons (de_K (de_S (g_callT call_list_of ok_list rfl T.n_list (gk_cons (de_K (de_S (g_ix ix_seq ok_ix (dk_var (pv 0)) (de_K de_int)))) dks_nil)))) dks_nil))))
    dss_nil)
theorem at__law_made {P : Program} {w : World} {K : PySem.W.Frag} {mg : Str → Option Value} {base : Heap} {C : Addr} (T : Tx P w K mg base C) : FnAt P w K mg base 5 "_law_made" (fn__law_made C) := fn_at T.f__law_made sc__law_made (by decide) (b__law_made T)
theorem sc__law_lines : FnScope ["_law_t", "_law_rows_here", "_law_box_here", "_law_row", "_law_piece", "_law_one", "_law_other", "_law_hold_here"] ["_law_t"] (defScope s__law_lines) := ⟨rfl, rfl, rfl, by decide +kernel, rfl, by decide +kernel, by decide +kernel⟩
theorem b__law_lines {P : Program} {w : World} {K : PySem.W.Frag} {mg : Str → Option Value} {base : Heap} {C : Addr} (T : Tx P w K mg base C) : BodyOk P w K mg base ["_law_t", "_law_rows_here", "_law_box_here", "_law_row", "_law_piece", "_law_one", "_law_other", "_law_hold_here"] "_law_lines" s__law_lines 0 [] (F__law_lines C) := by
  intro f cdv A outer s H E hr
  have tk := takes_of (X := cxOf (L2.CX P w) P w K mg base ["_law_t", "_law_rows_here", "_law_box_here", "_law_row", "_law_piece", "_law_one", "_law_other", "_law_hold_here"] "_law_lines" (defScope s__law_lines) f cdv A outer s H E) (E := E) rfl rfl rfl rfl
  exact (dss_cons (g_set (by decide) sc__law_lines.nd (dl_lst das_nil))
    (dss_cons (g_for (passes_of rfl) (di_seq (de_S (g_ix ix_seq ok_ix (dk_var (pv 0)) (de_K de_int)))) (g_name (by decide) sc__law_lines.nd) (dss_cons (g_set (by decide) sc__law_lines.nd (de_L (de_S (g_ix ix_seq ok_ix (dk_var (pv 2)) (de_K de_int)))))
    (dss_cons (g_for (passes_of rfl) (di_seq (de_S (dl_slice (dk_var (pv 2)) (do_some de_int) do_none))) (g_name (by decide) sc__law_lines.nd) (dss_cons (g_set (by decide) sc__law_lines.nd (de_L (de_S (dl_op op_addA ok_add (de_K (de_S (dl_op op_addA ok_add (dk_var (pv 3)) (de_K de_str)))) (de_K (de_S (g_callT cr_strA ok_strA rfl T.n_str (gk_cons (dk_var (pv 4)) dks_nil))))))))
    dss_nil))
    (dss_cons (g_expr (g_append (de_var (pv 3)) (pv 1)))
    dss_nil))))
    (dss_cons (g_for (passes_of rfl) (di_seq (de_S (g_ix ix_seq ok_ix (dk_var (pv 0)) (de_K de_int)))) (gg_tup (gg_cons (g_name (by decide) sc__law_lines.nd) (gg_cons (g_name (by decide) sc__law_lines.nd) (gg_cons (g_name (by decide) sc__law_lines.nd) dgs_nil)))) (dss_cons (g_expr (g_append (de_S (dl_op op_addA ok_add (de_K (de_S (dl_op op_addA ok_add (de_K (de_S (dl_op op_addA ok_add (de_K (de_S (dl_op op_addA ok_add (de_K (de_S (dl_op op_addA ok_add (de_K de_str) (de_K (de_S (g_callT cr_strA ok_strA rfl T.n_str (gk_cons (dk_var (pv 5)) dks_nil))))))) (de_K de_str)))) (de_K (de_S (g_callT cr_strA ok_strA rfl T.n_str (gk_cons (dk_var (pv 6)) dks_nil))))))) (de_K de_str)))) (de_K (de_S (g_callT cr_strA ok_strA rfl T.n_str (gk_cons (dk_var (pv 7)) dks_nil)))))) (pv 1)))
    dss_nil))
    (dss_cons (ds_ret (dl_move (pv 1)))
    dss_nil))))
theorem at__law_lines {P : Program} {w : World} {K : PySem.W.Frag} {mg : Str → Option Value} {base : Heap} {C : Addr} (T : Tx P w K mg base C) : FnAt P w K mg base 1 "_law_lines" (fn__law_lines C) := fn_at T.f__law_lines sc__law_lines (by decide) (b__law_lines T)
theorem sc_law : FnScope ["_law_script", "_law_d", "_law_one", "_law_other", "_law_t", "_law_rows_here", "_law_desk_here"] ["_law_script"] (defScope s_law) := ⟨rfl, rfl, rfl, by decide +kernel, rfl, by decide +kernel, by decide +kernel⟩
theorem b_law {P : Program} {w : World} {K : PySem.W.Frag} {mg : Str → Option Value} {base : Heap} {C : Addr} (T : Tx P w K mg base C) : BodyOk P w K mg base ["_law_script", "_law_d", "_law_one", "_law_other", "_law_t", "_law_rows_here", "_law_desk_here"] "law" s_law 7 [] (F_law C) := by
  intro f cdv A outer s H E hr
  have tk := takes_of (X := cxOf (L2.CX P w) P w K mg base ["_law_script", "_law_d", "_law_one", "_law_other", "_law_t", "_law_rows_here", "_law_desk_here"] "law" (defScope s_law) f cdv A outer s H E) (E := E) rfl rfl rfl rfl
  exact (dss_cons (g_set (by decide) sc_law.nd (g_call ((at__law_dice T).mono (by decide)) hr tk (gk_cons (dk_var (pv 0)) (gk_cons (de_K de_int) dks_nil))))
    (dss_cons (g_set (by decide) sc_law.nd (de_L (de_S (g_call ((at__law_desk T).mono (by decide)) hr tk (gk_cons (dk_var (pv 1)) (gk_cons (de_K de_int) dks_nil))))))
    (dss_cons (g_set (by decide) sc_law.nd (de_L (de_S (g_call ((at__law_desk T).mono (by decide)) hr tk (gk_cons (dk_var (pv 1)) (gk_cons (de_K de_int) dks_nil))))))
    (dss_cons (g_for (passes_of rfl) (di_seq (de_S (dl_lst (ga_cons (de_var (pv 2)) (ga_cons (de_var (pv 3)) (ga_cons (de_var (pv 2)) das_nil)))))) (g_name (by decide) sc_law.nd) (dss_cons (g_set (by decide) sc_law.nd (de_L (de_S (g_call ((at__law_lines T).mono (by decide)) hr tk (gk_cons (dk_var (pv 4)) dks_nil)))))
    (dss_cons (ds_if (dt_not (gt_val (de_S (g_call ((at__law_alike T).mono (by decide)) hr tk (gk_cons (de_K (de_S (g_call ((at_written T).mono (by decide)) hr tk (gk_cons (de_K (de_S (g_call ((at__law_made T).mono (by decide)) hr tk (gk_cons (dk_var (pv 4)) dks_nil)))) dks_nil)))) (gk_cons (de_K (de_S (g_join (de_K de_str) (gk_cons (dk_var (pv 5)) dks_nil)))) dks_nil)))))) (dss_cons (ds_ret (de_L de_bl))
    dss_nil) dss_nil)
    (dss_cons (g_set (by decide) sc_law.nd (de_L (de_S (g_call ((at_read T).mono (by decide)) hr tk (gk_cons (de_K (de_S (g_join (de_K de_str) (gk_cons (dk_var (pv 5)) dks_nil)))) dks_nil)))))
    (dss_cons (ds_if (PW.pt (dw_or (dt_not (gt_val (de_S (g_call ((at__law_alike T).mono (by decide)) hr tk (gk_cons (de_K (de_S (dl_lst (ga_cons (de_S (g_meth0 ((at_Desk_boxes T).mono (by decide)) hr tk (dk_var (pv 6)))) (ga_cons (de_S (g_meth0 ((at_Desk_cables T).mono (by decide)) hr tk (dk_var (pv 6)))) das_nil))))) (gk_cons (de_K (de_S (dl_lst (ga_cons (de_S (g_ix ix_seq ok_ix (dk_var (pv 4)) (de_K de_int))) (ga_cons (de_S (g_ix ix_seq ok_ix (dk_var (pv 4)) (de_K de_int))) das_nil))))) dks_nil)))))) (pw_or1 (gt_cmp (op_neA hr.units) ok_ne (de_K (de_S (g_call ((at_written T).mono (by decide)) hr tk (gk_cons (dk_var (pv 6)) dks_nil)))) (de_K (de_S (g_join (de_K de_str) (gk_cons (dk_var (pv 5)) dks_nil)))))))) (dss_cons (ds_ret (de_L de_bl))
    dss_nil) dss_nil)
    dss_nil)))))
    (dss_cons (ds_ret (de_L de_bl))
    dss_nil)))))
abbrev lv_law : Nat := 8
end Hd
namespace Hd
open PySem PySem.Spec PyProof.Rows L2 Ev
theorem fm_filter {α β : Type} {p : α → Bool} {f : α → β} : ∀ ns : List α, ns.filterMap (fun c => if p c = true then some (f c) else none) = (ns.filter p).map f
  | [] => rfl
  | n :: r => by
    rw [List.filterMap_cons, List.filter_cons]
    cases h : p n with
    | true => simp [fm_filter r]
    | false => simp [fm_filter r]
def Dice (xs : List D) : Prop := ∃ (a b : Int) (r : List Int), xs = .int a :: .int b :: r.map D.int ∧ 0 ≤ a ∧ 0 ≤ b ∧ (∀ x ∈ r, 0 < x) ∧ r.length ≤ 63
theorem off_end {C : Addr} {a b : Int} {r : List Int} {n : Int} {Q : L → VS → Prop} (ha : 0 ≤ a) (hb : 0 ≤ b) (hr : ∀ x ∈ r, 0 < x) (hl : r.length ≤ 63) (hn : 0 < n) (hn2 : n < 1000000) (hq : ∀ r xs', Dice xs' → 0 ≤ r → r < n → Q (.d (.int r)) [some (.own xs'), none]) :
    wp (F__law_off_4 C) [some (.own (.int a :: .int b :: r.map D.int)), some (.d (.int n)), none] (thenF (sSeq (F__law_off_9 C) (sSeq (F__law_off_10 C) sNil)) (retF 2 [0] Q)) := by
  have h1 : n < 1073741824 := by omega
  have e1 : ixN (r.length + 1 + 1) 1 = some 1 := ixN_pos (by omega) (by omega)
  have e0 : ixN (r.length + 1 + 1) 0 = some 0 := ixN_pos (by omega) (by omega)
  simp only [F__law_off_4]
  simp
  split
  · simp [F__law_off_5, F__law_off_6, F__law_off_7, F__law_off_8, hn, h1, e1, outs_eq, List.range_succ]
    exact hq _ _ ⟨a, b / n, r, rfl, ha, Int.ediv_nonneg hb (by omega), hr, hl⟩ (Int.emod_nonneg _ (by omega)) (Int.emod_lt_of_pos _ hn)
  · simp [F__law_off_9, F__law_off_10, hn, h1, e0, outs_eq, List.range_succ]
    exact hq _ _ ⟨_, b, r, rfl, Int.emod_nonneg _ (by omega), hb, hr, hl⟩ (Int.emod_nonneg _ (by omega)) (Int.emod_lt_of_pos _ hn)
theorem off_ok {C : Addr} {xs : List D} {n : Int} {Q : L → VS → Prop} (h : Dice xs) (hn : 0 < n) (hn2 : n < 1000000) (hq : ∀ r xs', Dice xs' → 0 ≤ r → r < n → Q (.d (.int r)) [some (.own xs'), none]) : wp (fn__law_off C).run [some (.own xs), some (.d (.int n))] Q := by
  obtain ⟨a, b, r, rfl, ha, hb, hr, hl⟩ := h
  refine wp_def ?_
  simp only [F__law_off, F__law_off_0, wp_sSeq]
  show wp (F__law_off_1 C) [some (.own (.int a :: .int b :: r.map D.int)), some (.d (.int n)), none] _
  simp only [F__law_off_1]
  simp
  split
  · split
    · cases r with
      | nil => simp at *
      | cons x r =>
        have e2 : ixN (r.length + 1 + 1 + 1) 2 = some 2 := ixN_pos (by omega) (by omega)
        have e1 : ixN (r.length + 1 + 1) 1 = some 1 := ixN_pos (by omega) (by omega)
        have hl' : r.length ≤ 99997 := by simp at hl; omega
        simp [F__law_off_2, F__law_off_3, e2, e1, hl']
        exact off_end ha (Int.le_of_lt (hr x List.mem_cons_self)) (fun y hy => hr y (List.mem_cons_of_mem _ hy)) (by simp at hl; omega) hn hn2 hq
    · exact off_end ha hb hr hl hn hn2 hq
  · exact off_end ha hb hr hl hn hn2 hq
theorem call_off {C : Addr} {s : VS} {j : Nat} {xs : List D} {n : Int} {Q : L → VS → Prop} (hs : at? s j = some (.own xs)) (h : Dice xs) (hn : 0 < n) (hn2 : n < 1000000) (hq : ∀ r xs', Dice xs' → 0 ≤ r → r < n → Q (.d (.int r)) (s.set j (some (.own xs')))) :
    wp (callF (fn__law_off C) [.sl j, .dat (.int n)]) s Q := by
  rw [wp_callF]
  simp only [to_args_sl, hs, to_some, to_args_dat, argsOf_nil]
  exact ⟨⟨rfl, rfl⟩, off_ok h hn hn2 hq⟩
theorem dice_ok {C : Addr} {ns : List Int} {k : Int} {Q : L → VS → Prop} (hk : 0 ≤ k) (hk2 : k < 2147483647) (hl : ns.length ≤ 63) (hq : ∀ xs, Dice xs → Q (.own xs) [none, none]) : wp (fn__law_dice C).run [some (.d (.scr ns)), some (.d (.int k))] Q := by
  refine wp_def ?_
  show wp (F__law_dice C) [some (.d (.scr ns)), some (.d (.int k)), none, none] _
  simp only [F__law_dice, F__law_dice_0, wp_sSeq, F__law_dice_1]
  simp
  simp only [F__law_dice_2]
  simp
  refine wp_loop (fun _ s => ∃ f o, s = [some (.d (.scr ns)), some (.d (.int k)), some (.d (.int f)), o] ∧ 0 ≤ f ∧ f < 2147483647) ⟨k, none, rfl, hk, hk2⟩ ?_ ?_
  · rintro i d s hd ⟨f, o, rfl, h1, h2⟩
    rw [List.getElem?_map] at hd
    cases e : ns[i]? with
    | none => rw [e] at hd; cases hd
    | some c =>
      rw [e] at hd
      cases hd
      have h3 : -18446744073709551616 < f ∧ f < 18446744073709551616 := by omega
      simp [F__law_dice_3, F__law_dice_4, h3]
      exact ⟨Int.emod_nonneg _ (by omega), Int.emod_lt_of_pos _ (by omega)⟩
  · rintro s ⟨f, o, rfl, h1, h2⟩
    simp only [F__law_dice_5]
    have e : lcF (.nm 3) [3] (c2 dGe (vLook 3) (fK (fS (f2 dPow (fK (rt (.int 10))) (fK (rt (.int 18))))))) (vGet 3) (ns.map D.int) [] (wipeV [some (.d (.scr ns)), some (.d (.int k)), some (.d (.int f)), o] [3])
        = some (((ns.filter fun c => decide (1000000000000000000 ≤ c)).map D.int), wipeV [some (.d (.scr ns)), some (.d (.int k)), some (.d (.int f)), o] [3]) := by
      rw [lcF_pure (fun d => match d with | .int c => if 1000000000000000000 ≤ c then some (.int c) else none | _ => none) (by simp; omega)]
      · congr 2
        rw [List.filterMap_map, ← fm_filter]
        congr 1
        funext c
        simp only [Function.comp]
        by_cases h : 1000000000000000000 ≤ c <;> simp [h]
      · intro d hd
        obtain ⟨c, _, rfl⟩ := List.mem_map.mp hd
        simp [wipeV]
    have hlf := List.length_filter_le (fun c => decide (1000000000000000000 ≤ c)) ns
    have hlf2 : (ns.filter fun c => decide (1000000000000000000 ≤ c)).length ≤ 99998 := by omega
    simp [wp_fComp, e, outs_eq, List.range_succ]
    refine ⟨by omega, hq _ ⟨f, 0, _, rfl, h1, by omega, fun x hx => ?_, by omega⟩⟩
    have := (List.mem_filter.mp hx).2
    simp at this
    omega
theorem call_dice {C : Addr} {s : VS} {ns : List Int} {k : Int} {Q : L → VS → Prop} (hk : 0 ≤ k) (hk2 : k < 2147483647) (hl : ns.length ≤ 63) (hq : ∀ xs, Dice xs → Q (.own xs) s) : wp (callF (fn__law_dice C) [.dat (.scr ns), .dat (.int k)]) s Q := by
  rw [wp_callF]
  simp only [to_some, to_args_dat, argsOf_nil]
  exact ⟨⟨rfl, rfl⟩, dice_ok hk hk2 hl fun xs h => hq xs h⟩
end Hd
namespace Hd
open PySem PySem.Spec PyProof.Rows L2 Ev
inductive Bx where
  | inn (n : Str) | out (n : Str) | sum (l : Int) | most (l : Int) | times (b l : Int) | part (b l : Int)
def Bx.d : Bx → D
  | .inn n => .tup [.str "in", .str n]
  | .out n => .tup [.str "out", .str n]
  | .sum l => .tup [.str "sum", .int l]
  | .most l => .tup [.str "most", .int l]
  | .times b l => .tup [.str "times", .int b, .int l]
  | .part b l => .tup [.str "part", .int b, .int l]
def Bx.word : Bx → Str
  | .inn _ => "in"
  | .out _ => "out"
  | .sum _ => "sum"
  | .most _ => "most"
  | .times _ _ => "times"
  | .part _ _ => "part"
def Bx.mid : Bx → Bool
  | .inn _ => false
  | .out _ => false
  | _ => true
def Bx.isIn : Bx → Bool
  | .inn _ => true
  | _ => false
def Bx.isOut : Bx → Bool
  | .out _ => true
  | _ => false
def Bx.late : Bx → Int
  | .inn _ => 0
  | .out _ => 0
  | .sum l => l
  | .most l => l
  | .times _ l => l
  | .part _ l => l
def Bx.name : Bx → Option Str
  | .inn n => some n
  | .out n => some n
  | _ => none
def small : Str := "abcdefghijklmnopqrstuvwxyz"
def okName (n : Str) : Prop := 1 ≤ n.length ∧ n.length ≤ 8 ∧ ∀ c ∈ n.cps.toList, c ∈ small.cps.toList
def Bx.ok : Bx → Prop
  | .inn n => okName n
  | .out n => okName n
  | .sum l => 0 ≤ l ∧ l ≤ 9
  | .most l => 0 ≤ l ∧ l ≤ 9
  | .times b l => (-9 ≤ b ∧ b ≤ 9) ∧ 0 ≤ l ∧ l ≤ 9
  | .part b l => (1 ≤ b ∧ b ≤ 9) ∧ 0 ≤ l ∧ l ≤ 9
structure Cb where
  o : Nat
  t : Nat
  h : Int
def Cb.d (c : Cb) : D := .tup [.int c.o, .int c.t, .int c.h]
theorem to_atI {α : Type} {s : VS} {xs : List α} {r : Int} {Q : α → VS → Prop} (h0 : 0 ≤ r) (h1 : r < xs.length) (h : ∀ x, x ∈ xs → Q x s) : to (atI xs r) s Q := by
  rw [atI_pos h0]
  have hl : r.toNat < xs.length := by omega
  rw [List.getElem?_eq_getElem hl]
  exact h _ (List.getElem_mem hl)
theorem hold_ok {C : Addr} {xs : List D} {Q : L → VS → Prop} (h : Dice xs) (hq : ∀ r xs', Dice xs' → 0 ≤ r → r < 100 → Q (.d (.int r)) [some (.own xs')]) : wp (fn__law_hold C).run [some (.own xs)] Q := by
  refine wp_def ?_
  show wp (F__law_hold C) [some (.own xs)] _
  simp only [F__law_hold, F__law_hold_0, F__law_hold_1]
  simp
  refine call_off rfl h (by omega) (by omega) fun r1 xs1 d1 a1 b1 => ?_
  simp
  refine call_off rfl d1 (by omega) (by omega) fun r2 xs2 d2 a2 b2 => ?_
  simp
  refine call_off rfl d2 (by omega) (by omega) fun r3 xs3 d3 a3 b3 => ?_
  simp
  refine to_atI a3 b3 fun x hx => ?_
  simp [outs_eq, List.range_succ]
  simp at hx
  rcases hx with rfl | rfl | rfl | rfl
  · exact hq _ _ d3 (by omega) (by omega)
  · exact hq _ _ d3 (by omega) (by omega)
  · exact hq _ _ d3 (by omega) (by omega)
  · exact hq _ _ d3 (by omega) (by omega)
theorem call_hold {C : Addr} {s : VS} {j : Nat} {xs : List D} {Q : L → VS → Prop} (hs : at? s j = some (.own xs)) (h : Dice xs) (hq : ∀ r xs', Dice xs' → 0 ≤ r → r < 100 → Q (.d (.int r)) (s.set j (some (.own xs')))) :
    wp (callF (fn__law_hold C) [.sl j]) s Q := by
  rw [wp_callF]
  simp only [to_args_sl, hs, to_some, to_args_dat, argsOf_nil]
  exact ⟨⟨rfl, rfl⟩, hold_ok h hq⟩
theorem box_ok {C : Addr} {xs : List D} {Q : L → VS → Prop} (h : Dice xs) (hq : ∀ (b : Bx) xs', Dice xs' → b.ok → b.mid = true → Q (.d b.d) [some (.own xs')]) : wp (fn__law_box C).run [some (.own xs)] Q := by
  refine wp_def ?_
  show wp (F__law_box C) [some (.own xs), none, none] _
  simp only [F__law_box, F__law_box_0, wp_sSeq, F__law_box_1]
  simp
  refine call_off rfl h (by omega) (by omega) fun r1 xs1 d1 a1 b1 => ?_
  simp
  refine to_atI a1 b1 fun w hw => ?_
  simp only [F__law_box_2]
  simp
  refine call_off rfl d1 (by omega) (by omega) fun r2 xs2 d2 a2 b2 => ?_
  simp
  refine call_off rfl d2 (by omega) (by omega) fun r3 xs3 d3 a3 b3 => ?_
  simp
  refine call_off rfl d3 (by omega) (by omega) fun r4 xs4 d4 a4 b4 => ?_
  simp
  refine to_atI a4 b4 fun l hl => ?_
  obtain ⟨l, rfl, l0, l9⟩ : ∃ i : Int, l = .int i ∧ 0 ≤ i ∧ i ≤ 9 := by
    simp at hl
    rcases hl with rfl | rfl
    · exact ⟨_, rfl, by omega, by omega⟩
    · exact ⟨_, rfl, by omega, by omega⟩
  simp at hw
  rcases hw with rfl | rfl | rfl | rfl
  · simp [F__law_box_3, F__law_box_6, F__law_box_9, outs_eq, List.range_succ]

    exact hq (.sum l) _ d4 ⟨l0, l9⟩ rfl
  · simp [F__law_box_3, F__law_box_6, F__law_box_9, outs_eq, List.range_succ]
    exact hq (.most l) _ d4 ⟨l0, l9⟩ rfl
  · simp [F__law_box_3, F__law_box_4, F__law_box_5]
    refine call_off rfl d4 (by omega) (by omega) fun r5 xs5 d5 a5 b5 => ?_
    simp [outs_eq, List.range_succ]
    exact hq (.times _ l) _ d5 ⟨⟨by omega, by omega⟩, l0, l9⟩ rfl
  · simp [F__law_box_3, F__law_box_6, F__law_box_7, F__law_box_8]
    refine call_off rfl d4 (by omega) (by omega) fun r5 xs5 d5 a5 b5 => ?_
    simp [outs_eq, List.range_succ]
    exact hq (.part _ l) _ d5 ⟨⟨by omega, by omega⟩, l0, l9⟩ rfl
theorem call_box {C : Addr} {s : VS} {j : Nat} {xs : List D} {Q : L → VS → Prop} (hs : at? s j = some (.own xs)) (h : Dice xs) (hq : ∀ (b : Bx) xs', Dice xs' → b.ok → b.mid = true → Q (.d b.d) (s.set j (some (.own xs')))) :
    wp (callF (fn__law_box C) [.sl j]) s Q := by
  rw [wp_callF]
  simp only [to_args_sl, hs, to_some, to_args_dat, argsOf_nil]
  exact ⟨⟨rfl, rfl⟩, box_ok h hq⟩
end Hd
namespace Hd
open PySem PySem.Spec PyProof.Rows L2 Ev
theorem Str.ext' {a b : Str} (h : a.cps.toList = b.cps.toList) : a = b := by
  cases a; cases b
  simp at h
  rw [h]
def sgn (c : Nat) : Str := ⟨#[c]⟩
theorem cps_app (a b : Str) : (a ++ b).cps.toList = a.cps.toList ++ b.cps.toList := by
  show (Str.append a b).cps.toList = _
  simp [Str.append]
theorem cps_rep (c k : Nat) : (repS (sgn c) k).cps.toList = List.replicate k c := by
  unfold repS
  induction k with
  | zero => rfl
  | succ k ih =>
    rw [List.replicate_succ, List.foldl_cons, foldl_app]
    show ((#[] ++ (sgn c).cps) ++ _).toList = _
    simp only [Array.toList_append]
    rw [ih]
    rfl
theorem len_cps (a : Str) : a.length = a.cps.toList.length := by
  show a.cps.size = _
  simp
def rotL (k : Nat) : List Nat := (List.range 26).map fun i => 97 + (i + k) % 26
theorem rot_ok : ∀ k : Fin 26, (cutS small (some (k.val : Int)) none ++ cutS small none (some (k.val : Int))).cps.toList = rotL k.val := by decide +kernel
theorem rot_small : ∀ k : Fin 26, ∀ c ∈ rotL k.val, c ∈ small.cps.toList := by decide +kernel
theorem rot_nd : ∀ k : Fin 26, (rotL k.val).Nodup := by decide +kernel
theorem ofStr_inj {a b : String} : Str.ofString a = Str.ofString b ↔ a = b := by
  constructor
  · intro h
    rw [Str.ofString_eq_toList, Str.ofString_eq_toList] at h
    have h : a.toList.map Char.toNat = b.toList.map Char.toNat := by
      have := congrArg (fun z : Str => z.cps.toList) h
      simpa using this
    have inj : ∀ (x y : List Char), x.map Char.toNat = y.map Char.toNat → x = y := by
      intro x
      induction x with
      | nil => intro y h; cases y with | nil => rfl | cons _ _ => cases h
      | cons c x ih =>
        intro y h
        cases y with
        | nil => cases h
        | cons d y =>
          rw [List.map_cons, List.map_cons] at h
          injection h with h1 h2
          have : c = d := Char.ext (UInt32.toNat_inj.mp h1)
          rw [this, ih y h2]
    exact String.ext (inj _ _ h)
  · rintro rfl; rfl
structure NamesOk (n0 n1 n2 n3 : Str) : Prop where
  k0 : okName n0 ∧ n0.length ≤ 7
  k1 : okName n1 ∧ n1.length ≤ 7
  k2 : okName n2 ∧ n2.length ≤ 7
  k3 : okName n3 ∧ n3.length ≤ 7
  d01 : n0 ≠ n1
  d02 : n0 ≠ n2
  d03 : n0 ≠ n3
  d12 : n1 ≠ n2
  d13 : n1 ≠ n3
  d23 : n2 ≠ n3
theorem okName_of {n : Str} {l : List Nat} (e : n.cps.toList = l) (h1 : 1 ≤ l.length) (h2 : l.length ≤ 7) (h3 : ∀ c ∈ l, c ∈ small.cps.toList) : okName n ∧ n.length ≤ 7 := by
  have hl : n.length = l.length := by rw [len_cps, e]
  exact ⟨⟨by omega, by omega, fun c hc => h3 c (by rw [← e]; exact hc)⟩, by omega⟩
theorem names_pure {c0 c1 c2 c3 cj : Nat} {n1 : Str} {k : Nat} (nd : [c0, c1, c2, c3].Nodup) (hs : ∀ c ∈ [c0, c1, c2, c3], c ∈ small.cps.toList) (hj : cj ∈ [c0, c1, c2, c3]) (h1 : n1 = sgn c0 ++ sgn c1 ∨ n1 = sgn c1 ++ sgn c0) (hk : 1 ≤ k) (hk6 : k ≤ 6) :
    NamesOk (sgn c0) n1 (repS (sgn c2) k) (repS (sgn c2) k ++ sgn cj) := by
  have e0 : (sgn c0).cps.toList = [c0] := rfl
  have e1 : n1.cps.toList = [c0, c1] ∨ n1.cps.toList = [c1, c0] := by
    rcases h1 with rfl | rfl
    · exact .inl (by rw [cps_app]; rfl)
    · exact .inr (by rw [cps_app]; rfl)
  have e2 := cps_rep c2 k
  have e3 : (repS (sgn c2) k ++ sgn cj).cps.toList = List.replicate k c2 ++ [cj] := by rw [cps_app, e2]; rfl
  obtain ⟨k', rfl⟩ : ∃ k', k = k' + 1 := ⟨k - 1, by omega⟩
  have hc : c0 ≠ c1 ∧ c0 ≠ c2 ∧ c1 ≠ c2 := by simp at nd; omega
  have m0 := hs c0 (by simp)
  have m1 := hs c1 (by simp)
  have m2 := hs c2 (by simp)
  have mj := hs cj hj
  refine ⟨okName_of e0 (by simp) (by simp) (fun c hc => by rw [List.mem_singleton.mp hc]; exact m0), ?_, okName_of e2 (by simp) (by simp; omega) ?_, okName_of e3 (by simp) (by simp; omega) ?_, ?_, ?_, ?_, ?_, ?_, ?_⟩
  · rcases e1 with e | e
    · exact okName_of e (by simp) (by simp) (fun c hc => hs c (by simp at hc ⊢; omega))
    · exact okName_of e (by simp) (by simp) (fun c hc => hs c (by simp at hc ⊢; omega))
  · intro c h; rw [List.eq_of_mem_replicate h]; exact m2
  · intro c h
    rcases List.mem_append.mp h with h | h
    · rw [List.eq_of_mem_replicate h]; exact m2
    · rw [List.mem_singleton.mp h]; exact mj
  all_goals intro h; have h := congrArg (fun z : Str => z.cps.toList) h
  · rw [e0] at h; rcases e1 with e | e <;> rw [e] at h <;> simp at h
  · rw [e0, e2, List.replicate_succ] at h; simp at h; omega
  · rw [e0, e3, List.replicate_succ] at h; simp at h
  · rw [e2, List.replicate_succ] at h; rcases e1 with e | e <;> rw [e] at h <;> simp at h <;> omega
  · rw [e3, List.replicate_succ] at h; rcases e1 with e | e <;> rw [e] at h <;> simp at h <;> omega
  · rw [e2, e3] at h
    have := congrArg List.length h
    simp at this
theorem names_ok {C : Addr} {xs : List D} {Q : L → VS → Prop} (h : Dice xs) (hq : ∀ n0 n1 n2 n3 xs', Dice xs' → NamesOk n0 n1 n2 n3 → Q (.own [.str n0, .str n1, .str n2, .str n3]) [some (.own xs')]) : wp (fn__law_names C).run [some (.own xs)] Q := by
  refine wp_def ?_
  show wp (F__law_names C) [some (.own xs), none, none, none] _
  simp only [F__law_names, F__law_names_0, wp_sSeq, F__law_names_1]
  simp
  refine call_off rfl h (by omega) (by omega) fun r1 xs1 d1 a1 b1 => ?_
  have hA : (Str.ofString "abcdefghijklmnopqrstuvwxyz").length ≤ 100000 := by decide +kernel
  simp [F__law_names_2, F__law_names_3, hA]
  obtain ⟨t, rfl⟩ : ∃ t : Fin 26, r1 = (t.val : Int) := ⟨⟨r1.toNat, by omega⟩, by simp; omega⟩
  have hz := rot_ok t
  have hz2 := rot_nd t
  have hz3 := rot_small t
  show _ ∧ _
  have hlen : (cutS (Str.ofString "abcdefghijklmnopqrstuvwxyz") (some (t.val : Int)) none).length + (cutS (Str.ofString "abcdefghijklmnopqrstuvwxyz") none (some (t.val : Int))).length = 26 := by
    have e := congrArg List.length hz
    rw [cps_app, List.length_append, ← len_cps, ← len_cps] at e
    exact e
  refine ⟨by omega, ?_⟩
  generalize hzz : cutS (Str.ofString "abcdefghijklmnopqrstuvwxyz") (some (t.val : Int)) none ++ cutS (Str.ofString "abcdefghijklmnopqrstuvwxyz") none (some (t.val : Int)) = z
  have hz : z.cps.toList = rotL t.val := by rw [← hzz]; exact hz
  obtain ⟨c0, c1, c2, c3, rest, hr⟩ : ∃ c0 c1 c2 c3 rest, rotL t.val = c0 :: c1 :: c2 :: c3 :: rest := ⟨_, _, _, _, _, rfl⟩
  rw [hr] at hz hz2 hz3
  have hzl : z.length ≤ 100000 := by
    have e : (rotL t.val).length = 26 := by unfold rotL; simp
    rw [hr] at e
    rw [len_cps, hz]; omega
  simp [F__law_names_4, dIx_str hzl, hz]
  refine call_off rfl d1 (by omega) (by omega) fun r2 xs2 d2 a2 b2 => ?_
  have e1 : (⟨#[c2]⟩ : Str).length ≤ 1000 := by show (1 : Nat) ≤ 1000; omega
  simp [e1]
  refine ⟨⟨by omega, by omega⟩, ?_⟩
  have f1 : ∀ c : Nat, (⟨#[c]⟩ : Str).length = 1 := fun _ => rfl
  simp [F__law_names_5, dIx_str hzl, hz, f1]
  refine call_off rfl d2 (by omega) (by omega) fun r3 xs3 d3 a3 b3 => ?_
  simp
  refine to_atI a3 b3 fun n1 hn1 => ?_
  simp
  refine call_off rfl d3 (by omega) (by omega) fun r4 xs4 d4 a4 b4 => ?_
  simp [dIx_str hzl]
  rw [hz]
  obtain ⟨cj, hj, ej⟩ : ∃ cj, cj ∈ [c0, c1, c2, c3] ∧ atI (c0 :: c1 :: c2 :: c3 :: rest) r4 = some cj := by
    rw [atI_pos a4]
    obtain ⟨m, hm, rfl⟩ : ∃ m : Nat, m < 4 ∧ r4 = (m : Int) := ⟨r4.toNat, by omega, by omega⟩
    rw [Int.toNat_natCast]
    match m, hm with
    | 0, _ => exact ⟨c0, by simp, rfl⟩
    | 1, _ => exact ⟨c1, by simp, rfl⟩
    | 2, _ => exact ⟨c2, by simp, rfl⟩
    | 3, _ => exact ⟨c3, by simp, rfl⟩
  rw [ej]
  have hl3 : (repS ⟨#[c2]⟩ (1 + r2).toNat).length + 1 ≤ 100000 := by
    have := repS_length ⟨#[c2]⟩ (1 + r2).toNat
    rw [f1] at this
    omega
  simp [f1, hl3, outs_eq, List.range_succ]
  have nd4 : [c0, c1, c2, c3].Nodup := by
    have e : c0 :: c1 :: c2 :: c3 :: rest = [c0, c1, c2, c3] ++ rest := rfl
    rw [e] at hz2
    exact (List.nodup_append.mp hz2).1
  have hs4 : ∀ c ∈ [c0, c1, c2, c3], c ∈ small.cps.toList := fun c hc => hz3 c (by
    have e : c0 :: c1 :: c2 :: c3 :: rest = [c0, c1, c2, c3] ++ rest := rfl
    rw [e]; exact List.mem_append_left _ hc)
  simp at hn1
  rcases hn1 with rfl | rfl
  · exact hq _ _ _ _ _ d4 (names_pure (k := (1 + r2).toNat) nd4 hs4 hj (.inl rfl) (by omega) (by omega))
  · exact hq _ _ _ _ _ d4 (names_pure (k := (1 + r2).toNat) nd4 hs4 hj (.inr rfl) (by omega) (by omega))
theorem call_names {C : Addr} {s : VS} {j : Nat} {xs : List D} {Q : L → VS → Prop} (hs : at? s j = some (.own xs)) (h : Dice xs) (hq : ∀ n0 n1 n2 n3 xs', Dice xs' → NamesOk n0 n1 n2 n3 → Q (.own [.str n0, .str n1, .str n2, .str n3]) (s.set j (some (.own xs')))) :
    wp (callF (fn__law_names C) [.sl j]) s Q := by
  rw [wp_callF]
  simp only [to_args_sl, hs, to_some, to_args_dat, argsOf_nil]
  exact ⟨⟨rfl, rfl⟩, names_ok h hq⟩
end Hd
namespace Hd
open PySem PySem.Spec PyProof.Rows L2 Ev
theorem okD_all {n : Nat} {ds : List D} (h : ∀ d ∈ ds, okD n d = true) : okD (n + 1) (.lst ds) = true := by
  show ds.all (okD n) = true
  rw [List.all_eq_true]; exact h
theorem erase_perm {α : Type} : ∀ (xs : List α) (k : Nat) (h : k < xs.length), (xs[k] :: xs.eraseIdx k).Perm xs
  | [], k, h => by simp at h
  | x :: xs, 0, h => by simp
  | x :: xs, k + 1, h => by
    have ih := erase_perm xs k (by simpa using h)
    rw [List.getElem_cons_succ, List.eraseIdx_cons_succ]
    exact (List.Perm.swap _ _ _).trans (ih.cons x)
theorem mixed_ok {C : Addr} {xs ds : List D} {Q : L → VS → Prop} (h : Dice xs) (hd : ∀ d ∈ ds, okD 19 d = true) (hl : ds.length ≤ 60) (hq : ∀ es xs', Dice xs' → es.Perm ds → Q (.own es) [some (.own xs'), none]) : wp (fn__law_mixed C).run [some (.own xs), some (.d (.lst ds))] Q := by
  refine wp_def ?_
  show wp (F__law_mixed C) [some (.own xs), some (.d (.lst ds)), none, none] _
  simp only [F__law_mixed, F__law_mixed_0, wp_sSeq, F__law_mixed_1]
  simp [F__law_mixed_2]
  simp only [F__law_mixed_3]
  refine wp_while (fun m s => ∃ ys left found, s = [some (.own ys), some (.d (.lst ds)), some (.own left), some (.own found)] ∧ Dice ys ∧ (left ++ found).Perm ds ∧ m = left.length) ?_ 1000 ds.length _ (by omega) ⟨xs, ds, [], rfl, h, by simp, rfl⟩
  rintro m s ⟨ys, left, found, rfl, hy, hp, rfl⟩
  have hlen : left.length + found.length = ds.length := by have := hp.length_eq; simpa using this
  have hok : okD 20 (.lst left) = true := okD_all fun d hd' => hd d (hp.mem_iff.mp (List.mem_append_left _ hd'))
  simp [dEq_nil hok]
  split
  · rename_i hne
    subst hne
    simp [F__law_mixed_6, outs_eq, List.range_succ]
    exact hq _ _ hy (by simpa using hp)
  · rename_i hne
    have hpos : 0 < left.length := List.length_pos_iff.mpr hne
    simp [F__law_mixed_4, F__law_mixed_5]
    refine call_off rfl hy (by omega) (by omega) fun r zs hz a b => ?_
    simp
    refine ⟨by omega, ?_⟩
    rw [ixN_pos a b]
    have hk : r.toNat < left.length := by omega
    simp [List.getElem?_eq_getElem hk]
    refine ⟨by omega, ?_⟩
    refine ⟨(left.eraseIdx r.toNat).length, ?_, zs, _, _, ⟨rfl, rfl, rfl⟩, hz, ?_, rfl⟩
    · rw [List.length_eraseIdx, if_pos hk]; omega
    · refine List.Perm.trans ?_ hp
      have p1 := erase_perm left _ hk
      refine List.Perm.trans ?_ (List.Perm.append_right found p1)
      rw [← List.append_assoc]
      exact List.perm_append_comm
theorem call_mixed {C : Addr} {s : VS} {j : Nat} {xs ds : List D} {Q : L → VS → Prop} (hs : at? s j = some (.own xs)) (h : Dice xs) (hd : ∀ d ∈ ds, okD 19 d = true) (hl : ds.length ≤ 60) (hq : ∀ es xs', Dice xs' → es.Perm ds → Q (.own es) (s.set j (some (.own xs')))) :
    wp (callF (fn__law_mixed C) [.sl j, .dat (.lst ds)]) s Q := by
  rw [wp_callF]
  simp only [to_args_sl, hs, to_some, to_args_dat, argsOf_nil]
  exact ⟨⟨rfl, rfl⟩, mixed_ok h hd hl hq⟩
end Hd
namespace Hd
open PySem PySem.Spec PyProof.Rows L2 Ev
theorem rgD_len {a : Int} {n : Nat} : (rgD a n).length = n := by unfold rgD; simp
theorem rgD_get {a : Int} {n i : Nat} {d : D} (h : (rgD a n)[i]? = some d) : i < n ∧ d = .int (a + (i : Nat)) := by
  unfold rgD at h
  rw [List.getElem?_map] at h
  cases e : (List.range n)[i]? with
  | none => rw [e] at h; cases h
  | some j =>
    rw [e] at h
    have hi := (List.getElem?_eq_some_iff.mp e).1
    rw [List.length_range] at hi
    rw [List.getElem?_range hi] at e
    cases e
    cases h
    exact ⟨hi, rfl⟩
theorem nat_of {r : Int} {n : Int} (h0 : 0 ≤ r) (h1 : r < n) : ∃ m : Nat, r = (m : Int) ∧ (m : Int) < n := ⟨r.toNat, by omega, by omega⟩
structure PhA (nI at_ : Nat) (cs : List Cb) : Prop where
  cab : ∀ c ∈ cs, c.o < c.t ∧ nI ≤ c.t ∧ c.t < at_ ∧ 0 ≤ c.h ∧ c.h ≤ 99
  fed : ∀ j, nI ≤ j → j < at_ → ∃ c ∈ cs, c.t = j
  l1 : cs.length ≤ at_ - nI + 4
  l2 : cs.length ≤ 2 * (at_ - nI)
theorem rowsA1 {C : Addr} {xs : List D} {a1 a2 a3 a4 a5 a6 o9 o10 : Option L} {k : Nat} {cs : List Cb} {Q : Fl → VS → Prop} (h : Dice xs) (hk : 0 < k) (hk2 : k < 20) (hl : cs.length ≤ 40)
    (hq : ∀ xs' new o9, Dice xs' → (∀ c ∈ new, c.o < k ∧ c.t = k ∧ 0 ≤ c.h ∧ c.h ≤ 99) → 1 ≤ new.length → new.length ≤ 2 → (8 ≤ cs.length → new.length = 1) →
      Q .nx [some (.own xs'), a1, a2, a3, a4, a5, a6, some (.own ((cs ++ new).map Cb.d)), some (.d (.int k)), o9, o10]) :
    wp (F__law_rows_9 C) [some (.own xs), a1, a2, a3, a4, a5, a6, some (.own (cs.map Cb.d)), some (.d (.int k)), o9, o10] Q := by
  simp only [F__law_rows_9]
  simp
  refine call_off rfl h (by omega) (by omega) fun r ys hy r0 r2 => ?_
  simp
  have hb : (-18446744073709551616 < r ∧ r < 18446744073709551616) := by omega
  have hlt : r < 2 := r2
  obtain ⟨n, hn, hn1, hn2, hn8⟩ : ∃ n : Nat, 1 + r * (if (cs.length : Int) < 8 then 1 else 0) = (n : Int) ∧ 1 ≤ n ∧ n ≤ 2 ∧ (8 ≤ cs.length → n = 1) := by
    split
    · refine ⟨(1 + r).toNat, by omega, by omega, by omega, fun _ => by omega⟩
    · refine ⟨1, by omega, by omega, by omega, fun _ => rfl⟩
  simp only [hb, true_or, and_self, if_true, true_and, hn]
  refine ⟨⟨by omega, by omega⟩, ?_⟩
  rw [Int.toNat_natCast]
  refine wp_loopN (fun i s => ∃ ys new o9, s = [some (.own ys), a1, a2, a3, a4, a5, a6, some (.own ((cs ++ new).map Cb.d)), some (.d (.int k)), o9, o10] ∧ Dice ys ∧ (∀ c ∈ new, c.o < k ∧ c.t = k ∧ 0 ≤ c.h ∧ c.h ≤ 99) ∧ new.length = i)
    ⟨ys, [], o9, by simp, hy, by simp, rfl⟩ ?_ ?_
  · rintro i d s N hd ⟨ys, new, o9, rfl, hy, hnew, hi⟩ hN
    obtain ⟨hin, rfl⟩ := rgD_get hd
    simp [F__law_rows_10, F__law_rows_11]
    refine call_off rfl hy (by omega) (by omega) fun r zs hz r0 r1 => ?_
    simp
    refine call_hold rfl hz fun hh us hu h0 h1 => ?_
    simp
    refine ⟨by omega, ?_⟩
    obtain ⟨m, rfl, hm⟩ := nat_of r0 r1
    refine hN _ ⟨us, new ++ [⟨m, k, hh⟩], _, by simp [Cb.d]; rfl, hu, ?_, ?_⟩
    · intro c hc
      rcases List.mem_append.mp hc with hc | hc
      · exact hnew c hc
      · rw [List.mem_singleton.mp hc]; exact ⟨by show m < k; omega, rfl, h0, by show hh ≤ 99; omega⟩
    · simp [hi]
  · rintro s ⟨ys, new, o9, rfl, hy, hnew, hi⟩
    rw [rgD_len] at hi
    exact hq ys new o9 hy hnew (by omega) (by omega) (fun h8 => by have := hn8 h8; omega)
theorem rowsA {C : Addr} {xs boxes : List D} {a1 a2 a4 a6 o8 o9 o10 : Option L} {nI nM : Nat} {Q : Fl → VS → Prop} (h : Dice xs) (h1 : 1 ≤ nI) (h2 : nI ≤ 2) (h4 : nM ≤ 6) (hb : boxes.length = nI + nM)
    (hq : ∀ xs' cs o8 o9, Dice xs' → PhA nI (nI + nM) cs → Q .nx [some (.own xs'), a1, a2, some (.d (.int nI)), a4, some (.own boxes), a6, some (.own (cs.map Cb.d)), o8, o9, o10]) :
    wp (F__law_rows_7 C) [some (.own xs), a1, a2, some (.d (.int nI)), a4, some (.own boxes), a6, some (.own []), o8, o9, o10] Q := by
  simp only [F__law_rows_7]
  simp [dRng2, hb]
  refine ⟨by omega, ?_⟩
  have e : ((nI : Int) + (nM : Int)).toNat - nI = nM := by omega
  rw [e]
  refine wp_loopN (fun i s => ∃ ys cs o8 o9, s = [some (.own ys), a1, a2, some (.d (.int nI)), a4, some (.own boxes), a6, some (.own (cs.map Cb.d)), o8, o9, o10] ∧ Dice ys ∧ PhA nI (nI + i) cs)
    ⟨xs, [], o8, o9, rfl, h, ⟨by simp, by intro j h1 h2; omega, by simp, by simp⟩⟩ ?_ ?_
  · rintro i d s N hd ⟨ys, cs, o8, o9, rfl, hy, hp⟩ hN
    obtain ⟨hin, rfl⟩ := rgD_get hd
    have ec : ((nI : Int) + (i : Int)) = ((nI + i : Nat) : Int) := by omega
    have hl1 := hp.l1
    have hl2 := hp.l2
    simp [F__law_rows_8]
    rw [ec]
    refine rowsA1 hy (by omega) (by omega) (by omega) fun zs new o9 hz hnew n1 n2 n8 => ?_
    simp only [thenF_nx, wp_sNil, lend_nx]
    refine hN _ ⟨zs, cs ++ new, _, _, rfl, hz, ⟨?_, ?_, ?_, ?_⟩⟩
    · intro c hc
      rcases List.mem_append.mp hc with hc | hc
      · have := hp.cab c hc; omega
      · have := hnew c hc; omega
    · intro j j1 j2
      by_cases q : j < nI + i
      · obtain ⟨c, hc, e⟩ := hp.fed j j1 q
        exact ⟨c, List.mem_append_left _ hc, e⟩
      · cases new with
        | nil => simp at n1
        | cons c r =>
          exact ⟨c, List.mem_append_right _ List.mem_cons_self, by have := hnew c List.mem_cons_self; omega⟩
    · rw [List.length_append]
      by_cases q : 8 ≤ cs.length
      · have := n8 q; omega
      · omega
    · rw [List.length_append]; omega
  · rintro s ⟨ys, cs, o8, o9, rfl, hy, hp⟩
    rw [rgD_len] at hp
    exact hq ys cs o8 o9 hy hp
end Hd
namespace Hd
open PySem PySem.Spec PyProof.Rows L2 Ev
theorem okD_cb {n : Nat} (c : Cb) : okD (n + 1) c.d = true := by
  show [D.int c.o, D.int c.t, D.int c.h].all (okD n) = true
  cases n <;> rfl
theorem okD_cbs {n : Nat} (cs : List Cb) : okD (n + 2) (.lst (cs.map Cb.d)) = true := okD_all fun d hd => by
  obtain ⟨c, _, rfl⟩ := List.mem_map.mp hd
  exact okD_cb c
structure Core (nI last m : Nat) (cs : List Cb) : Prop where
  cab : ∀ c ∈ cs, nI ≤ c.t ∧ c.t ≤ last ∧ c.o ≤ last ∧ 0 ≤ c.h ∧ c.h ≤ 99 ∧ (c.o < c.t ∨ 1 ≤ c.h)
  fed : ∀ j, nI ≤ j → j ≤ last → ∃ c ∈ cs, c.t = j ∧ c.o < j
  used : ∀ j, j < last → ∃ c ∈ cs, c.o = j ∧ j < c.t
  len : cs.length ≤ m
structure PhB (nI last at_ m : Nat) (cs : List Cb) : Prop where
  cab : ∀ c ∈ cs, c.o < c.t ∧ nI ≤ c.t ∧ c.t ≤ last ∧ 0 ≤ c.h ∧ c.h ≤ 99
  fed : ∀ j, nI ≤ j → j ≤ last → ∃ c ∈ cs, c.t = j
  used : ∀ j, j < at_ → ∃ c ∈ cs, c.o = j
  len : ∃ o0, o0 < last ∧ (∃ c ∈ cs, c.o = o0) ∧ cs.length + (if o0 < at_ then 1 else 0) ≤ m + at_
theorem rowsB {C : Addr} {xs : List D} {a1 a2 a3 a4 a5 o8 o9 : Option L} {nI last m : Nat} {cs : List Cb} {Q : Fl → VS → Prop} (h : Dice xs) (hl : last ≤ 10) (hm : m ≤ 20) (hp : PhB nI last 0 m cs)
    (hq : ∀ xs' cs o8, Dice xs' → PhB nI last last m cs → Q .nx [some (.own xs'), a1, a2, a3, a4, a5, some (.d (.int last)), some (.own (cs.map Cb.d)), o8, o9, none]) :
    wp (F__law_rows_12 C) [some (.own xs), a1, a2, a3, a4, a5, some (.d (.int last)), some (.own (cs.map Cb.d)), o8, o9, none] Q := by
  simp only [F__law_rows_12]
  simp
  refine ⟨by omega, ?_⟩
  refine wp_loopN (fun i s => ∃ ys cs o8, s = [some (.own ys), a1, a2, a3, a4, a5, some (.d (.int last)), some (.own (cs.map Cb.d)), o8, o9, none] ∧ Dice ys ∧ PhB nI last i m cs) ⟨xs, cs, o8, rfl, h, hp⟩ ?_ ?_
  · rintro i d s N hd ⟨ys, cs, o8, rfl, hy, hp⟩ hN
    obtain ⟨hin, rfl⟩ := rgD_get hd
    have ei : (0 : Int) + (i : Int) = (i : Int) := by omega
    rw [ei]
    obtain ⟨o0, ho, hoc, hlen⟩ := hp.len
    have hlc : cs.length ≤ 30 := by split at hlen <;> omega
    simp [F__law_rows_13, F__law_rows_14, wp_fCompO]
    have e : lcF (.nm 10) [10] (c2 dEq (fK (fS (f2 dIx (vLook 10) (fK (rt (.int 0)))))) (vLook 8)) (vGet 10) (cs.map Cb.d) [] (wipeV [some (.own ys), a1, a2, a3, a4, a5, some (.d (.int last)), none, some (.d (.int (i : Int))), o9, none] [10])
        = some ((cs.filter fun c => decide (c.o = i)).map Cb.d, wipeV [some (.own ys), a1, a2, a3, a4, a5, some (.d (.int last)), none, some (.d (.int (i : Int))), o9, none] [10]) := by
      rw [lcF_pure (fun d => match d with | .tup (.int a :: r) => if a = (i : Int) then some (.tup (.int a :: r)) else none | _ => none) (by simp; omega)]
      · congr 2
        rw [List.filterMap_map, ← fm_filter]
        congr 1
        funext c
        simp only [Function.comp, Cb.d]
        by_cases hc : c.o = i
        · simp [hc]
        · have : ¬((c.o : Int) = (i : Int)) := by omega
          simp [hc, this]
      · intro d hd
        obtain ⟨c, _, rfl⟩ := List.mem_map.mp hd
        simp [wipeV, Cb.d]
    rw [e]
    simp [dEq_nil (okD_cbs (n := 18) _), restV, wipeV, keepD]
    split
    · rename_i hnone
      simp [F__law_rows_15, F__law_rows_16]
      refine call_hold rfl hy fun hh us hu h0 h1 => ?_
      simp
      refine ⟨by omega, hN _ ⟨us, cs ++ [⟨i, last, hh⟩], _, by simp [Cb.d]; rfl, hu, ⟨?_, ?_, ?_, ?_⟩⟩⟩
      · intro c hc
        rcases List.mem_append.mp hc with hc | hc
        · exact hp.cab c hc
        · rw [List.mem_singleton.mp hc]
          obtain ⟨c0, hc0, e0⟩ := hp.fed last (by
            obtain ⟨c1, hc1, _⟩ := hoc
            have := hp.cab c1 hc1; omega) (Nat.le_refl _)
          have := hp.cab c0 hc0
          exact ⟨hin, by show nI ≤ last; omega, Nat.le_refl _, h0, by show hh ≤ 99; omega⟩
      · intro j j1 j2
        obtain ⟨c, hc, e⟩ := hp.fed j j1 j2
        exact ⟨c, List.mem_append_left _ hc, e⟩
      · intro j hj
        by_cases q : j < i
        · obtain ⟨c, hc, e⟩ := hp.used j q
          exact ⟨c, List.mem_append_left _ hc, e⟩
        · exact ⟨⟨i, last, hh⟩, by simp, by show i = j; omega⟩
      · obtain ⟨c1, hc1, e1⟩ := hoc
        refine ⟨o0, ho, ⟨c1, List.mem_append_left _ hc1, e1⟩, ?_⟩
        have hne : o0 ≠ i := fun z => by
          have := hnone c1 hc1
          omega
        rw [List.length_append, List.length_singleton]
        split at hlen <;> split <;> omega
    · rename_i hsome
      refine hN _ ⟨ys, cs, _, rfl, hy, ⟨hp.cab, hp.fed, ?_, ?_⟩⟩
      · intro j hj
        by_cases q : j < i
        · exact hp.used j q
        · simp at hsome
          obtain ⟨c, hc, e⟩ := hsome
          exact ⟨c, hc, by omega⟩
      · refine ⟨o0, ho, hoc, ?_⟩
        split at hlen <;> split <;> omega
  · rintro s ⟨ys, cs, o8, rfl, hy, hp⟩
    rw [rgD_len] at hp
    exact hq ys cs o8 hy hp
theorem rowsC {C : Addr} {xs : List D} {a1 a2 a5 a6 o8 o9 o10 : Option L} {nI nM m : Nat} {cs : List Cb} {Q : Fl → VS → Prop} (h : Dice xs) (h1 : 1 ≤ nM) (h2 : nM ≤ 6) (h3 : nI ≤ 2) (hm : m ≤ 30) (hp : Core nI (nI + nM - 1) m cs)
    (hq : ∀ xs' cs o8 o9, Dice xs' → Core nI (nI + nM - 1) (m + 2) cs → Q .nx [some (.own xs'), a1, a2, some (.d (.int nI)), some (.d (.int nM)), a5, a6, some (.own (cs.map Cb.d)), o8, o9, o10]) :
    wp (F__law_rows_17 C) [some (.own xs), a1, a2, some (.d (.int nI)), some (.d (.int nM)), a5, a6, some (.own (cs.map Cb.d)), o8, o9, o10] Q := by
  simp only [F__law_rows_17]
  simp
  refine call_off rfl h (by omega) (by omega) fun r ys hy r0 r2 => ?_
  obtain ⟨n, rfl, hn⟩ := nat_of r0 r2
  simp
  refine ⟨by omega, ?_⟩
  refine wp_loopN (fun i s => ∃ ys cs o8 o9, s = [some (.own ys), a1, a2, some (.d (.int nI)), some (.d (.int nM)), a5, a6, some (.own (cs.map Cb.d)), o8, o9, o10] ∧ Dice ys ∧ Core nI (nI + nM - 1) (m + i) cs) ⟨ys, cs, o8, o9, rfl, hy, hp⟩ ?_ ?_
  · rintro i d s N hd ⟨ys, cs, o8, o9, rfl, hy, hp⟩ hN
    obtain ⟨hin, rfl⟩ := rgD_get hd
    have hlc := hp.len
    simp [F__law_rows_18, F__law_rows_19]
    refine call_off rfl hy (by omega) (by omega) fun r zs hz r0 r1 => ?_
    obtain ⟨a, rfl, ha⟩ := nat_of r0 r1
    simp [F__law_rows_20]
    refine call_off rfl hz (by omega) (by omega) fun r ws hw r0 r1 => ?_
    obtain ⟨b, rfl, hb⟩ := nat_of r0 r1
    simp
    refine call_off rfl hw (by omega) (by omega) fun r us hu r0 r1 => ?_
    simp
    refine to_atI r0 r1 fun x hx => ?_
    obtain ⟨w, rfl, hw1, hw2⟩ : ∃ w : Int, x = .int w ∧ 0 < w ∧ w ≤ 40 := by
      simp at hx
      rcases hx with rfl | rfl
      · exact ⟨_, rfl, by omega, by omega⟩
      · exact ⟨_, rfl, by omega, by omega⟩
    refine call_off rfl hu hw1 (by omega) fun r vs hv r0 r1 => ?_
    simp
    have e1 : (nI : Int) + (a : Int) = ((nI + a : Nat) : Int) := by omega
    have e2 : (nI : Int) + (b : Int) = ((nI + b : Nat) : Int) := by omega
    refine ⟨by omega, hN _ ⟨vs, cs ++ [⟨nI + a, nI + b, 1 + r⟩], _, _, by simp [Cb.d]; exact ⟨rfl, rfl⟩, hv, ⟨?_, ?_, ?_, ?_⟩⟩⟩
    · intro c hc
      rcases List.mem_append.mp hc with hc | hc
      · exact hp.cab c hc
      · rw [List.mem_singleton.mp hc]
        exact ⟨by show nI ≤ nI + b; omega, by show nI + b ≤ nI + nM - 1; omega, by show nI + a ≤ nI + nM - 1; omega, by show 0 ≤ 1 + r; omega, by show 1 + r ≤ 99; omega, .inr (by show 1 ≤ 1 + r; omega)⟩
    · intro j j1 j2
      obtain ⟨c, hc, e⟩ := hp.fed j j1 j2
      exact ⟨c, List.mem_append_left _ hc, e⟩
    · intro j hj
      obtain ⟨c, hc, e⟩ := hp.used j hj
      exact ⟨c, List.mem_append_left _ hc, e⟩
    · rw [List.length_append, List.length_singleton]; omega
  · rintro s ⟨ys, cs, o8, o9, rfl, hy, hp⟩
    rw [rgD_len] at hp
    exact hq ys cs o8 o9 hy ⟨hp.cab, hp.fed, hp.used, by have := hp.len; omega⟩
theorem rowsD {C : Addr} {xs : List D} {a1 a3 a4 o8 o9 o10 : Option L} {last : Nat} {bs : List Bx} {cs : List Cb} {n0 n1 n2 n3 : Str} {Q : Fl → VS → Prop} (h : Dice xs) (hl : last ≤ 10) (hb : bs.length = last + 1) (hc : cs.length ≤ 30)
    (hq : ∀ xs' (outs_ : List Bx) (oc : List Cb) o9, Dice xs' → (∃ x y : Cb, x.o = last ∧ x.t = last + 1 ∧ 0 ≤ x.h ∧ x.h ≤ 99 ∧ y.o ≤ last ∧ y.t = last + 2 ∧ 0 ≤ y.h ∧ y.h ≤ 99 ∧ ((outs_ = [.out n2] ∧ oc = [x]) ∨ (outs_ = [.out n2, .out n3] ∧ oc = [x, y]))) →
      Q .nx [some (.own xs'), a1, some (.d (.lst [.str n0, .str n1, .str n2, .str n3])), a3, a4, some (.own ((bs ++ outs_).map Bx.d)), some (.d (.int last)), some (.own ((cs ++ oc).map Cb.d)), o8, o9, o10]) :
    wp (F__law_rows_21 C) [some (.own xs), a1, some (.d (.lst [.str n0, .str n1, .str n2, .str n3])), a3, a4, some (.own (bs.map Bx.d)), some (.d (.int last)), some (.own (cs.map Cb.d)), o8, o9, o10] Q := by
  simp only [F__law_rows_21]
  simp
  refine call_off rfl h (by omega) (by omega) fun r ys hy r0 r2 => ?_
  simp
  refine ⟨by omega, ?_⟩
  obtain ⟨n, e, hn⟩ : ∃ n : Nat, (1 + r).toNat = n ∧ (n = 1 ∨ n = 2) := ⟨_, rfl, by omega⟩
  rw [e]
  refine wp_loopN (fun i s => ∃ (ys : List D) (outs_ : List Bx) (oc : List Cb) (o9 : Option L), s = [some (.own ys), a1, some (.d (.lst [.str n0, .str n1, .str n2, .str n3])), a3, a4, some (.own ((bs ++ outs_).map Bx.d)), some (.d (.int last)), some (.own ((cs ++ oc).map Cb.d)), o8, o9, o10] ∧ Dice ys ∧
      (∃ x y : Cb, x.o = last ∧ x.t = last + 1 ∧ 0 ≤ x.h ∧ x.h ≤ 99 ∧ y.o ≤ last ∧ y.t = last + 2 ∧ 0 ≤ y.h ∧ y.h ≤ 99 ∧ outs_ = [Bx.out n2, .out n3].take i ∧ oc = [x, y].take i)) ⟨ys, [], [], o9, by simp, hy, ⟨last, last + 1, 0⟩, ⟨last, last + 2, 0⟩, by simp⟩ ?_ ?_
  · rintro i d s N hd ⟨ys, outs_, oc, o9, rfl, hy, x, y, x1, x2, x3, x4, y1, y2, y3, y4, rfl, rfl⟩ hN
    obtain ⟨hin, rfl⟩ := rgD_get hd
    have ei : (0 : Int) + (i : Int) = (i : Int) := by omega
    rw [ei]
    have hi : i = 0 ∨ i = 1 := by omega
    rcases hi with rfl | rfl
    · simp [F__law_rows_22, F__law_rows_23, hb]
      refine ⟨by omega, ?_⟩
      simp [F__law_rows_24]
      refine call_off rfl hy (by omega) (by omega) fun r zs hz r0 r1 => ?_
      simp
      refine call_hold rfl hz fun hh us hu h0 h1 => ?_
      simp
      have e3 : (bs.length : Int) = ((last + 1 : Nat) : Int) := by omega
      refine ⟨by omega, hN _ ⟨us, [.out n2], [⟨last, last + 1, hh⟩], _, by simp [Cb.d, Bx.d, hb]; rfl, hu, ⟨last, last + 1, hh⟩, y, rfl, rfl, h0, by show hh ≤ 99; omega, y1, y2, y3, y4, rfl, rfl⟩⟩
    · simp [F__law_rows_22, F__law_rows_23, hb]
      refine ⟨by omega, ?_⟩
      simp [F__law_rows_24]
      refine call_off rfl hy (by omega) (by omega) fun r zs hz r0 r1 => ?_
      obtain ⟨a, rfl, ha⟩ := nat_of r0 r1
      simp
      refine call_hold rfl hz fun hh us hu h0 h1 => ?_
      simp
      refine ⟨by omega, hN _ ⟨us, [.out n2, .out n3], [x, ⟨a, last + 2, hh⟩], some (.d (.int 1)), by simp [Cb.d, Bx.d, hb]; omega, hu, x, ⟨a, last + 2, hh⟩, x1, x2, x3, x4, by show a ≤ last; omega, rfl, h0, by show hh ≤ 99; omega, rfl, rfl⟩⟩
  · rintro s ⟨ys, outs_, oc, o9, rfl, hy, x, y, x1, x2, x3, x4, y1, y2, y3, y4, rfl, rfl⟩
    rw [rgD_len]
    refine hq ys _ _ o9 hy ⟨x, y, x1, x2, x3, x4, y1, y2, y3, y4, ?_⟩
    rcases hn with rfl | rfl
    · exact .inl ⟨rfl, rfl⟩
    · exact .inr ⟨rfl, rfl⟩
end Hd
namespace Hd
open PySem PySem.Spec PyProof.Rows L2 Ev
inductive Fed (bs : List Bx) (cs : List Cb) : Nat → Prop
  | start {i : Nat} {n : Str} : bs[i]? = some (.inn n) → Fed bs cs i
  | step {c : Cb} : c ∈ cs → Fed bs cs c.o → Fed bs cs c.t
inductive Used (bs : List Bx) (cs : List Cb) : Nat → Prop
  | start {i : Nat} {n : Str} : bs[i]? = some (.out n) → Used bs cs i
  | step {c : Cb} : c ∈ cs → Used bs cs c.t → Used bs cs c.o
structure WF (bs : List Bx) (cs : List Cb) : Prop where
  nb : bs.length ≤ 10
  nc : cs.length ≤ 20
  box : ∀ b ∈ bs, b.ok
  names : (bs.filterMap Bx.name).Nodup
  cab : ∀ c ∈ cs, c.o < bs.length ∧ c.t < bs.length ∧ 0 ≤ c.h ∧ c.h ≤ 99
  src : ∀ c ∈ cs, ∀ b, bs[c.o]? = some b → b.isOut = false
  dst : ∀ c ∈ cs, ∀ b, bs[c.t]? = some b → b.isIn = false
  fed : ∀ i, i < bs.length → Fed bs cs i
  used : ∀ i, i < bs.length → Used bs cs i
  one : ∀ i n, bs[i]? = some (.out n) → (cs.filter fun c => decide (c.t = i)).length ≤ 1
  rank : ∃ ρ : Nat → Int, ∀ c ∈ cs, c.h = 0 → ρ c.o < ρ c.t
  mid : ∃ b ∈ bs, b.mid = true
structure Short (bs : List Bx) : Prop where
  short : ∀ b ∈ bs, ∀ n, b.name = some n → n.length ≤ 7
theorem filter_none {α : Type} {p : α → Bool} {l : List α} (h : ∀ x ∈ l, p x = false) : l.filter p = [] := by
  rw [List.filter_eq_nil_iff]; intro x hx; rw [h x hx]; simp
theorem Bx.mid_out {b : Bx} (h : b.mid = true) : b.isOut = false := by cases b <;> first | rfl | cases h
theorem Bx.mid_in {b : Bx} (h : b.mid = true) : b.isIn = false := by cases b <;> first | rfl | cases h
theorem Bx.mid_name {b : Bx} (h : b.mid = true) : b.name = none := by cases b <;> first | rfl | cases h
theorem wf_rows {is ms outs_ : List Bx} {cs oc : List Cb} {nI last m : Nat} {n0 n1 n2 n3 : Str} {x y : Cb} (hn : NamesOk n0 n1 n2 n3) (hi : is = [.inn n0] ∨ is = [.inn n0, .inn n1]) (hI : is.length = nI) (hm : ∀ b ∈ ms, b.ok ∧ b.mid = true) (hm1 : 1 ≤ ms.length) (hm6 : ms.length ≤ 6) (hl : nI + ms.length = last + 1) (hc : Core nI last 18 cs)
    (hx : x.o = last ∧ x.t = last + 1 ∧ 0 ≤ x.h ∧ x.h ≤ 99) (hy : y.o ≤ last ∧ y.t = last + 2 ∧ 0 ≤ y.h ∧ y.h ≤ 99) (ho : (outs_ = [.out n2] ∧ oc = [x]) ∨ (outs_ = [.out n2, .out n3] ∧ oc = [x, y])) :
    WF (is ++ ms ++ outs_) (cs ++ oc) ∧ Short (is ++ ms ++ outs_) := by
  have hI2 : 1 ≤ nI ∧ nI ≤ 2 := by rcases hi with rfl | rfl <;> simp at hI <;> omega
  have hol : 1 ≤ outs_.length ∧ outs_.length ≤ 2 ∧ oc.length = outs_.length := by rcases ho with ⟨rfl, rfl⟩ | ⟨rfl, rfl⟩ <;> simp
  have hlen : (is ++ ms ++ outs_).length = last + 1 + outs_.length := by simp; omega
  have getI : ∀ i, i < nI → ∃ n, (is ++ ms ++ outs_)[i]? = some (.inn n) := fun i h => by
    rcases hi with rfl | rfl
    · simp at hI
      have : i = 0 := by omega
      subst this; exact ⟨n0, rfl⟩
    · simp at hI
      have : i = 0 ∨ i = 1 := by omega
      rcases this with rfl | rfl
      · exact ⟨n0, rfl⟩
      · exact ⟨n1, rfl⟩
  have getM : ∀ i, nI ≤ i → i ≤ last → ∃ b, (is ++ ms ++ outs_)[i]? = some b ∧ b.mid = true := fun i h1 h2 => by
    have hlt : i - nI < ms.length := by omega
    refine ⟨ms[i - nI], ?_, (hm _ (List.getElem_mem hlt)).2⟩
    rw [List.append_assoc, List.getElem?_append_right (by omega), List.getElem?_append_left (by omega), hI, List.getElem?_eq_getElem hlt]
  have getO : ∀ i, last < i → i < last + 1 + outs_.length → ∃ n, (is ++ ms ++ outs_)[i]? = some (.out n) := fun i h1 h2 => by
    rw [List.getElem?_append_right (by simp; omega)]
    have e : i - (is ++ ms).length = i - (last + 1) := by simp; omega
    rw [e]
    rcases ho with ⟨rfl, rfl⟩ | ⟨rfl, rfl⟩
    · simp at h2
      have : i - (last + 1) = 0 := by omega
      rw [this]; exact ⟨n2, rfl⟩
    · simp at h2
      have : i - (last + 1) = 0 ∨ i - (last + 1) = 1 := by omega
      rcases this with e | e <;> rw [e]
      · exact ⟨n2, rfl⟩
      · exact ⟨n3, rfl⟩
  have ocs : ∀ c ∈ oc, c.o ≤ last ∧ last < c.t ∧ c.t < last + 1 + outs_.length ∧ 0 ≤ c.h ∧ c.h ≤ 99 := fun c h => by
    rcases ho with ⟨rfl, rfl⟩ | ⟨rfl, rfl⟩
    · rw [List.mem_singleton.mp h]; simp; omega
    · simp at h
      rcases h with rfl | rfl
      · simp; omega
      · simp; omega
  have allc : ∀ c ∈ cs ++ oc, c.o ≤ last ∧ nI ≤ c.t ∧ c.t < last + 1 + outs_.length ∧ 0 ≤ c.h ∧ c.h ≤ 99 ∧ (c.o < c.t ∨ 1 ≤ c.h) := fun c h => by
    rcases List.mem_append.mp h with h | h
    · have := hc.cab c h; omega
    · have := ocs c h; omega
  have fedAll : ∀ i, i < last + 1 + outs_.length → Fed (is ++ ms ++ outs_) (cs ++ oc) i := by
    intro i
    induction i using Nat.strongRecOn with
    | _ i ih =>
      intro h
      by_cases h1 : i < nI
      · obtain ⟨n, e⟩ := getI i h1
        exact .start e
      · by_cases h2 : i ≤ last
        · obtain ⟨c, hc1, e1, e2⟩ := hc.fed i (by omega) h2
          subst e1
          exact .step (List.mem_append_left _ hc1) (ih c.o e2 (by omega))
        · rcases ho with ⟨rfl, rfl⟩ | ⟨rfl, rfl⟩
          · simp at h
            have : i = x.t := by omega
            subst this
            exact .step (List.mem_append_right _ (by simp)) (ih x.o (by omega) (by simp; omega))
          · simp at h
            have : i = x.t ∨ i = y.t := by omega
            rcases this with rfl | rfl
            · exact .step (List.mem_append_right _ (by simp)) (ih x.o (by omega) (by simp; omega))
            · exact .step (List.mem_append_right _ (by simp)) (ih y.o (by omega) (by simp; omega))
  have usedAll : ∀ k i, last + 1 + outs_.length - i = k → i < last + 1 + outs_.length → Used (is ++ ms ++ outs_) (cs ++ oc) i := by
    intro k
    induction k using Nat.strongRecOn with
    | _ k ih =>
      intro i hk h
      by_cases h1 : i < last
      · obtain ⟨c, hc1, e1, e2⟩ := hc.used i h1
        have := hc.cab c hc1
        subst e1
        exact .step (List.mem_append_left _ hc1) (ih (last + 1 + outs_.length - c.t) (by omega) c.t rfl (by omega))
      · by_cases h2 : i = last
        · have : i = x.o := by omega
          subst this
          refine .step (List.mem_append_right _ ?_) (ih (last + 1 + outs_.length - x.t) (by omega) x.t rfl (by omega))
          rcases ho with ⟨rfl, rfl⟩ | ⟨rfl, rfl⟩ <;> simp
        · obtain ⟨n, e⟩ := getO i (by omega) h
          exact .start e
  have boxes : ∀ b ∈ is ++ ms ++ outs_, b.ok := fun b h => by
    rcases List.mem_append.mp h with h | h
    · rcases List.mem_append.mp h with h | h
      · rcases hi with rfl | rfl
        · rw [List.mem_singleton.mp h]; exact hn.k0.1
        · simp at h
          rcases h with rfl | rfl
          · exact hn.k0.1
          · exact hn.k1.1
      · exact (hm b h).1
    · rcases ho with ⟨rfl, rfl⟩ | ⟨rfl, rfl⟩
      · rw [List.mem_singleton.mp h]; exact hn.k2.1
      · simp at h
        rcases h with rfl | rfl
        · exact hn.k2.1
        · exact hn.k3.1
  have msn : ms.filterMap Bx.name = [] := by
    rw [List.filterMap_eq_nil_iff]
    intro b hb
    exact Bx.mid_name (hm b hb).2
  refine ⟨⟨by rw [hlen]; omega, by rw [List.length_append]; have := hc.len; omega, boxes, ?_, ?_, ?_, ?_, fun i h => fedAll i (by rw [← hlen]; exact h), fun i h => usedAll _ i rfl (by rw [← hlen]; exact h), ?_, ⟨fun i => (i : Int), ?_⟩, ?_⟩, ⟨?_⟩⟩
  · rw [List.filterMap_append, List.filterMap_append, msn, List.append_nil]
    rcases hi with rfl | rfl <;> rcases ho with ⟨rfl, rfl⟩ | ⟨rfl, rfl⟩ <;> simp [Bx.name, hn.d01, hn.d02, hn.d03, hn.d12, hn.d13, hn.d23]
  · intro c h
    have := allc c h
    rw [hlen]; omega
  · intro c h b hb
    have := allc c h
    by_cases q : c.o < nI
    · obtain ⟨n, e⟩ := getI c.o q
      rw [e] at hb; cases hb; rfl
    · obtain ⟨b', e, hb'⟩ := getM c.o (by omega) (by omega)
      rw [e] at hb; cases hb
      exact Bx.mid_out hb'
  · intro c h b hb
    have := allc c h
    by_cases q : c.t ≤ last
    · obtain ⟨b', e, hb'⟩ := getM c.t (by omega) q
      rw [e] at hb; cases hb
      exact Bx.mid_in hb'
    · obtain ⟨n, e⟩ := getO c.t (by omega) (by omega)
      rw [e] at hb; cases hb; rfl
  · intro i n e
    have hil := (List.getElem?_eq_some_iff.mp e).1
    rw [hlen] at hil
    have hgt : last < i := by
      rcases Nat.lt_or_ge last i with q | q
      · exact q
      · exfalso
        by_cases q2 : i < nI
        · obtain ⟨n', e'⟩ := getI i q2
          rw [e'] at e; cases e
        · obtain ⟨b', e', hb'⟩ := getM i (by omega) q
          rw [e'] at e; cases e; cases hb'
    rw [List.filter_append, filter_none (l := cs) (fun c hc1 => by have := hc.cab c hc1; simp; omega), List.nil_append]
    rcases ho with ⟨rfl, rfl⟩ | ⟨rfl, rfl⟩
    · exact Nat.le_trans (List.length_filter_le _ _) (by simp)
    · rw [List.filter_cons, List.filter_cons, List.filter_nil]
      by_cases q : x.t = i
      · have : ¬(y.t = i) := by omega
        simp [q, this]
      · by_cases q2 : y.t = i <;> simp [q, q2]
  · intro c h e
    have := allc c h
    show (c.o : Int) < (c.t : Int)
    omega
  · cases ms with
    | nil => simp at hm1
    | cons b r => exact ⟨b, by simp, (hm b List.mem_cons_self).2⟩
  · intro b h n e
    rcases List.mem_append.mp h with h | h
    · rcases List.mem_append.mp h with h | h
      · rcases hi with rfl | rfl
        · rw [List.mem_singleton.mp h] at e; cases e; exact hn.k0.2
        · simp at h
          rcases h with rfl | rfl
          · cases e; exact hn.k0.2
          · cases e; exact hn.k1.2
      · rw [Bx.mid_name (hm b h).2] at e; cases e
    · rcases ho with ⟨rfl, rfl⟩ | ⟨rfl, rfl⟩
      · rw [List.mem_singleton.mp h] at e; cases e; exact hn.k2.2
      · simp at h
        rcases h with rfl | rfl
        · cases e; exact hn.k2.2
        · cases e; exact hn.k3.2
theorem rows_ok {C : Addr} {xs : List D} {many : Int} {Q : L → VS → Prop} (h : Dice xs) (hm1 : 1 ≤ many) (hm6 : many ≤ 6) (hq : ∀ (bs : List Bx) (cs : List Cb) xs', Dice xs' → WF bs cs → Short bs → Q (.d (.tup [.lst (bs.map Bx.d), .lst (cs.map Cb.d)])) [some (.own xs'), none]) : wp (fn__law_rows C).run [some (.own xs), some (.d (.int many))] Q := by
  refine wp_def ?_
  show wp (F__law_rows C) [some (.own xs), some (.d (.int many)), none, none, none, none, none, none, none, none, none] _
  simp only [F__law_rows, F__law_rows_0, wp_sSeq, F__law_rows_1]
  simp
  refine call_names rfl h fun n0 n1 n2 n3 xs1 d1 hn => ?_
  simp [F__law_rows_2]
  refine call_off rfl d1 (by omega) (by omega) fun r1 xs2 d2 a1 b1 => ?_
  obtain ⟨nI, eI, hI1, hI2⟩ : ∃ nI : Nat, 1 + r1 = (nI : Int) ∧ 1 ≤ nI ∧ nI ≤ 2 := ⟨(1 + r1).toNat, by omega, by omega, by omega⟩
  simp [eI, F__law_rows_3]
  refine call_off rfl d2 (by omega) (by omega) fun r2 xs3 d3 a2 b2 => ?_
  obtain ⟨nM, eM, hM1, hM2⟩ : ∃ nM : Nat, 1 + r2 = (nM : Int) ∧ 1 ≤ nM ∧ nM ≤ 6 := ⟨(1 + r2).toNat, by omega, by omega, by omega⟩
  simp [eM, F__law_rows_4, wp_fComp]
  refine ⟨by omega, ?_⟩
  let is : List Bx := [Bx.inn n0, .inn n1].take nI
  have his : is = [.inn n0] ∨ is = [.inn n0, .inn n1] := by
    have : nI = 1 ∨ nI = 2 := by omega
    rcases this with rfl | rfl
    · exact .inl rfl
    · exact .inr rfl
  have hisl : is.length = nI := by simp [is]; omega
  refine lcF_inN (fun i acc s => acc = (is.take i).map Bx.d ∧ s = [some (.own xs3), some (.d (.int many)), some (.d (.lst [.str n0, .str n1, .str n2, .str n3])), some (.d (.int nI)), some (.d (.int nM)), none, none, none, none, none, none]) ⟨rfl, rfl⟩ ?_ ?_
  · rintro i d acc s N hd ⟨rfl, rfl⟩ hN
    obtain ⟨hin, rfl⟩ := rgD_get hd
    have ei : (0 : Int) + (i : Int) = (i : Int) := by omega
    rw [ei]
    have hi : i = 0 ∨ i = 1 := by omega
    rcases hi with rfl | rfl
    · simp [bYes, wipeV, is]
      refine hN _ _ ⟨?_, rfl⟩
      rcases his with e | e <;> rw [e] <;> rfl
    · simp [bYes, wipeV]
      refine ⟨by rw [hisl]; omega, hN _ _ ⟨?_, rfl⟩⟩
      rcases his with e | e
      · rw [e] at hisl; simp at hisl; omega
      · rw [e]; rfl
  · rintro acc s ⟨rfl, rfl⟩
    rw [rgD_len, ← hisl, List.take_length, hisl]
    simp [wipeV, restV, keepD]
    refine ⟨by omega, ?_⟩
    refine lcF_inN (fun i acc s => ∃ (ys : List D) (ms : List Bx), acc = ms.map Bx.d ∧ ms.length = i ∧ (∀ b ∈ ms, b.ok ∧ b.mid = true) ∧ Dice ys ∧ s = [some (.own ys), some (.d (.int many)), some (.d (.lst [.str n0, .str n1, .str n2, .str n3])), some (.d (.int nI)), some (.d (.int nM)), none, none, none, none, none, none]) ⟨xs3, [], rfl, rfl, by simp, d3, rfl⟩ ?_ ?_
    · rintro i d acc s N hd ⟨ys, ms, rfl, hml, hms, hy, rfl⟩ hN
      obtain ⟨hin, rfl⟩ := rgD_get hd
      simp [bYes, wipeV]
      refine call_box rfl hy fun b zs hz hb1 hb2 => ?_
      simp
      refine ⟨by omega, hN _ _ ⟨zs, ms ++ [b], by simp, by simp [hml], ?_, hz, rfl⟩⟩
      intro b' hb'
      rcases List.mem_append.mp hb' with hb' | hb'
      · exact hms b' hb'
      · rw [List.mem_singleton.mp hb']; exact ⟨hb1, hb2⟩
    · rintro acc s ⟨ys, ms, rfl, hml, hms, hy, rfl⟩
      rw [rgD_len] at hml
      simp [wipeV, restV, keepD, hisl, hml]
      refine ⟨by omega, ?_⟩
      have el : (nI : Int) + (nM : Int) - 1 = ((nI + nM - 1 : Nat) : Int) := by omega
      simp [F__law_rows_5, F__law_rows_6, hisl, hml]
      rw [el, ← List.map_append]
      refine rowsA hy hI1 hI2 hM2 (by simp [hisl, hml]) fun xs4 cs o8 o9 d4 pA => ?_
      simp only [thenF_nx, wp_sSeq]
      have pB : PhB nI (nI + nM - 1) 0 (nM + 4) cs := by
        refine ⟨fun c hc => by have := pA.cab c hc; omega, fun j j1 j2 => pA.fed j j1 (by omega), fun j hj => by omega, ?_⟩
        obtain ⟨c, hc, e⟩ := pA.fed nI (Nat.le_refl _) (by omega)
        have := pA.cab c hc
        have := pA.l1
        exact ⟨c.o, by omega, ⟨c, hc, rfl⟩, by simp; omega⟩
      refine rowsB d4 (by omega) (by omega) pB fun xs5 cs o8 d5 pB => ?_
      simp only [thenF_nx, wp_sSeq]
      have pC : Core nI (nI + nM - 1) 16 cs := by
        refine ⟨fun c hc => by have := pB.cab c hc; omega, fun j j1 j2 => ?_, fun j hj => ?_, ?_⟩
        · obtain ⟨c, hc, e⟩ := pB.fed j j1 j2
          have := pB.cab c hc
          exact ⟨c, hc, e, by omega⟩
        · obtain ⟨c, hc, e⟩ := pB.used j hj
          have := pB.cab c hc
          exact ⟨c, hc, e, by omega⟩
        · obtain ⟨o0, h1, _, h2⟩ := pB.len
          rw [if_pos h1] at h2
          omega
      refine rowsC d5 hM1 hM2 hI2 (by omega) pC fun xs6 cs o8 o9 d6 pC => ?_
      simp only [thenF_nx, wp_sSeq]
      refine rowsD d6 (by omega) (by simp [hisl, hml]; omega) (by have := pC.len; omega) fun xs7 outs_ oc o9 d7 hx => ?_
      obtain ⟨x, y, x1, x2, x3, x4, y1, y2, y3, y4, ho⟩ := hx
      simp [F__law_rows_25, outs_eq, List.range_succ]
      obtain ⟨w1, w2⟩ := wf_rows (m := 0) hn his hisl hms (by omega) (by omega) (by omega) pC ⟨x1, x2, x3, x4⟩ ⟨y1, y2, y3, y4⟩ ho
      have := hq _ _ xs7 d7 w1 w2
      simpa using this
theorem call_rows {C : Addr} {s : VS} {j : Nat} {xs : List D} {many : Int} {Q : L → VS → Prop} (hs : at? s j = some (.own xs)) (h : Dice xs) (hm1 : 1 ≤ many) (hm6 : many ≤ 6) (hq : ∀ (bs : List Bx) (cs : List Cb) xs', Dice xs' → WF bs cs → Short bs → Q (.d (.tup [.lst (bs.map Bx.d), .lst (cs.map Cb.d)])) (s.set j (some (.own xs')))) :
    wp (callF (fn__law_rows C) [.sl j, .dat (.int many)]) s Q := by
  rw [wp_callF]
  simp only [to_args_sl, hs, to_some, to_args_dat, argsOf_nil]
  exact ⟨⟨rfl, rfl⟩, rows_ok h hm1 hm6 hq⟩
end Hd
namespace Hd
open PySem PySem.Spec PyProof.Rows L2 Ev
theorem fed_mono {bs bs' : List Bx} {cs cs' : List Cb} (h1 : ∀ (i : Nat) (n : Str), bs[i]? = some (Bx.inn n) → bs'[i]? = some (Bx.inn n)) (h2 : ∀ c ∈ cs, Fed bs' cs' c.o → Fed bs' cs' c.t) {i : Nat} (h : Fed bs cs i) : Fed bs' cs' i := by
  induction h with
  | start e => exact .start (h1 _ _ e)
  | step hc _ ih => exact h2 _ hc ih
theorem used_mono {bs bs' : List Bx} {cs cs' : List Cb} (h1 : ∀ (i : Nat) (n : Str), bs[i]? = some (Bx.out n) → bs'[i]? = some (Bx.out n)) (h2 : ∀ c ∈ cs, Used bs' cs' c.t → Used bs' cs' c.o) {i : Nat} (h : Used bs cs i) : Used bs' cs' i := by
  induction h with
  | start e => exact .start (h1 _ _ e)
  | step hc _ ih => exact h2 _ hc ih
theorem get_app {bs : List Bx} {b x : Bx} {i : Nat} (h : bs[i]? = some x) : (bs ++ [b])[i]? = some x := by
  rw [List.getElem?_append_left (List.getElem?_eq_some_iff.mp h).1]; exact h
theorem get_new {bs : List Bx} {b : Bx} : (bs ++ [b])[bs.length]? = some b := by simp
theorem get_cases {bs : List Bx} {b x : Bx} {i : Nat} (h : (bs ++ [b])[i]? = some x) : (i < bs.length ∧ bs[i]? = some x) ∨ (i = bs.length ∧ x = b) := by
  rcases Nat.lt_or_ge i bs.length with q | q
  · rw [List.getElem?_append_left q] at h; exact .inl ⟨q, h⟩
  · have hl := (List.getElem?_eq_some_iff.mp h).1
    simp at hl
    have : i = bs.length := by omega
    subst this
    rw [get_new] at h; cases h
    exact .inr ⟨rfl, rfl⟩
theorem get_lt {bs : List Bx} {i : Nat} (h : i < bs.length) : ∃ b, bs[i]? = some b := ⟨bs[i], List.getElem?_eq_getElem h⟩
theorem wf_insert {bs : List Bx} {l r : List Cb} {c : Cb} {b : Bx} (w : WF bs (l ++ c :: r)) (hb : b.ok) (hm : b.mid = true) (h1 : bs.length < 10) (h2 : (l ++ c :: r).length < 20) :
    WF (bs ++ [b]) (l ++ [⟨c.o, bs.length, c.h⟩, ⟨bs.length, c.t, 0⟩] ++ r) := by
  have hc : c ∈ l ++ c :: r := by simp
  have inl : ∀ {x : Cb}, x ∈ l → x ∈ l ++ c :: r := fun h => by simp [h]
  have inr : ∀ {x : Cb}, x ∈ r → x ∈ l ++ c :: r := fun h => by simp [h]
  have m1 : (⟨c.o, bs.length, c.h⟩ : Cb) ∈ l ++ [⟨c.o, bs.length, c.h⟩, ⟨bs.length, c.t, 0⟩] ++ r := by simp
  have m2 : (⟨bs.length, c.t, 0⟩ : Cb) ∈ l ++ [⟨c.o, bs.length, c.h⟩, ⟨bs.length, c.t, 0⟩] ++ r := by simp
  have old : ∀ x ∈ l ++ c :: r, x = c ∨ x ∈ l ++ [⟨c.o, bs.length, c.h⟩, ⟨bs.length, c.t, 0⟩] ++ r := fun x h => by
    simp at h ⊢
    rcases h with h | h | h <;> simp [h]
  have new : ∀ x ∈ l ++ [⟨c.o, bs.length, c.h⟩, ⟨bs.length, c.t, 0⟩] ++ r, x ∈ l ++ c :: r ∨ x = ⟨c.o, bs.length, c.h⟩ ∨ x = ⟨bs.length, c.t, 0⟩ := fun x h => by
    simp at h
    rcases h with h | h | h | h
    · exact .inl (inl h)
    · exact .inr (.inl h)
    · exact .inr (.inr h)
    · exact .inl (inr h)
  have hcab := w.cab c hc
  have fedOld : ∀ i, i < bs.length → Fed (bs ++ [b]) (l ++ [⟨c.o, bs.length, c.h⟩, ⟨bs.length, c.t, 0⟩] ++ r) i := fun i hi => fed_mono (fun _ _ e => get_app e) (fun x hx f => by
    rcases old x hx with rfl | hx
    · have f1 : Fed (bs ++ [b]) (l ++ [⟨x.o, bs.length, x.h⟩, ⟨bs.length, x.t, 0⟩] ++ r) bs.length := Fed.step (c := ⟨x.o, bs.length, x.h⟩) m1 f
      exact Fed.step (c := ⟨bs.length, x.t, 0⟩) m2 f1
    · exact .step hx f) (w.fed i hi)
  have usedOld : ∀ i, i < bs.length → Used (bs ++ [b]) (l ++ [⟨c.o, bs.length, c.h⟩, ⟨bs.length, c.t, 0⟩] ++ r) i := fun i hi => used_mono (fun _ _ e => get_app e) (fun x hx f => by
    rcases old x hx with rfl | hx
    · have f1 : Used (bs ++ [b]) (l ++ [⟨x.o, bs.length, x.h⟩, ⟨bs.length, x.t, 0⟩] ++ r) bs.length := Used.step (c := ⟨bs.length, x.t, 0⟩) m2 f
      exact Used.step (c := ⟨x.o, bs.length, x.h⟩) m1 f1
    · exact .step hx f) (w.used i hi)
  obtain ⟨ρ, hρ⟩ := w.rank
  refine ⟨by simp; omega, by simp at h2 ⊢; omega, ?_, ?_, ?_, ?_, ?_, ?_, ?_, ?_, ⟨fun i => if i = bs.length then 2 * ρ c.t - 1 else 2 * ρ i, ?_⟩, ?_⟩
  · intro x hx
    rcases List.mem_append.mp hx with hx | hx
    · exact w.box x hx
    · rw [List.mem_singleton.mp hx]; exact hb
  · rw [List.filterMap_append]
    have : [b].filterMap Bx.name = [] := by simp [Bx.mid_name hm]
    rw [this, List.append_nil]; exact w.names
  · intro x hx
    rw [List.length_append, List.length_singleton]
    rcases new x hx with h | rfl | rfl
    · have := w.cab x h; omega
    · exact ⟨by show c.o < _; omega, by show bs.length < _; omega, hcab.2.2.1, hcab.2.2.2⟩
    · exact ⟨by show bs.length < _; omega, by show c.t < _; omega, by show (0 : Int) ≤ 0; omega, by show (0 : Int) ≤ 99; omega⟩
  · intro x hx y hy
    rcases new x hx with h | rfl | rfl
    · rcases get_cases hy with ⟨_, e⟩ | ⟨e, _⟩
      · exact w.src x h y e
      · have := w.cab x h; omega
    · rcases get_cases hy with ⟨_, e⟩ | ⟨e, _⟩
      · exact w.src c hc y e
      · have e : c.o = bs.length := e
        omega
    · have hy : (bs ++ [b])[bs.length]? = some y := hy
      rw [get_new] at hy; cases hy; exact Bx.mid_out hm
  · intro x hx y hy
    rcases new x hx with h | rfl | rfl
    · rcases get_cases hy with ⟨_, e⟩ | ⟨e, _⟩
      · exact w.dst x h y e
      · have := w.cab x h; omega
    · have hy : (bs ++ [b])[bs.length]? = some y := hy
      rw [get_new] at hy; cases hy; exact Bx.mid_in hm
    · rcases get_cases hy with ⟨_, e⟩ | ⟨e, _⟩
      · exact w.dst c hc y e
      · have e : c.t = bs.length := e
        omega
  · intro i hi
    rw [List.length_append, List.length_singleton] at hi
    by_cases q : i < bs.length
    · exact fedOld i q
    · have : i = bs.length := by omega
      subst this
      exact Fed.step m1 (fedOld c.o hcab.1)
  · intro i hi
    rw [List.length_append, List.length_singleton] at hi
    by_cases q : i < bs.length
    · exact usedOld i q
    · have : i = bs.length := by omega
      subst this
      exact Used.step m2 (usedOld c.t hcab.2.1)
  · intro i n e
    rcases get_cases e with ⟨hi, e⟩ | ⟨_, e⟩
    · have := w.one i n e
      rw [List.filter_append, List.filter_cons] at this
      rw [List.filter_append, List.filter_append, List.filter_cons, List.filter_cons, List.filter_nil]
      have q1 : ¬(bs.length = i) := by omega
      by_cases q : c.t = i
      · simp [q, q1] at this ⊢
        omega
      · simp [q, q1] at this ⊢
        omega
    · rw [← e] at hm; cases hm
  · intro x hx hz
    rcases new x hx with h | rfl | rfl
    · have := w.cab x h
      have := hρ x h hz
      show (if x.o = bs.length then _ else _) < (if x.t = bs.length then _ else _)
      rw [if_neg (by omega), if_neg (by omega)]
      omega
    · have hz : c.h = 0 := hz
      have := hρ c hc hz
      show (if c.o = bs.length then _ else _) < (if bs.length = bs.length then _ else _)
      rw [if_neg (by omega), if_pos rfl]
      dsimp only
      omega
    · show (if bs.length = bs.length then _ else _) < (if c.t = bs.length then _ else _)
      rw [if_neg (by omega : ¬c.t = bs.length), if_pos rfl]
      dsimp only
      omega
  · obtain ⟨x, hx, e⟩ := w.mid
    exact ⟨x, by simp [hx], e⟩
theorem wf_in {bs : List Bx} {cs : List Cb} {k : Nat} {x : Bx} {n : Str} {h : Int} (w : WF bs cs) (hk : bs[k]? = some x) (hx : x.mid = true) (hn : okName n) (hf : n ∉ bs.filterMap Bx.name) (h0 : 0 ≤ h) (h9 : h ≤ 99) (h1 : bs.length < 10) (h2 : cs.length < 20) :
    WF (bs ++ [.inn n]) (cs ++ [⟨bs.length, k, h⟩]) := by
  have hkl := (List.getElem?_eq_some_iff.mp hk).1
  have new : ∀ y ∈ cs ++ [(⟨bs.length, k, h⟩ : Cb)], y ∈ cs ∨ y = ⟨bs.length, k, h⟩ := fun y hy => by
    rcases List.mem_append.mp hy with q | q
    · exact .inl q
    · exact .inr (List.mem_singleton.mp q)
  have m1 : (⟨bs.length, k, h⟩ : Cb) ∈ cs ++ [(⟨bs.length, k, h⟩ : Cb)] := by simp
  have fedOld : ∀ i, i < bs.length → Fed (bs ++ [.inn n]) (cs ++ [⟨bs.length, k, h⟩]) i := fun i hi => fed_mono (fun _ _ e => get_app e) (fun x hx f => .step (List.mem_append_left _ hx) f) (w.fed i hi)
  have usedOld : ∀ i, i < bs.length → Used (bs ++ [.inn n]) (cs ++ [⟨bs.length, k, h⟩]) i := fun i hi => used_mono (fun _ _ e => get_app e) (fun x hx f => .step (List.mem_append_left _ hx) f) (w.used i hi)
  obtain ⟨ρ, hρ⟩ := w.rank
  refine ⟨by simp; omega, by simp; omega, ?_, ?_, ?_, ?_, ?_, ?_, ?_, ?_, ⟨fun i => if i = bs.length then ρ k - 1 else ρ i, ?_⟩, ?_⟩
  · intro y hy
    rcases List.mem_append.mp hy with hy | hy
    · exact w.box y hy
    · rw [List.mem_singleton.mp hy]; exact hn
  · rw [List.filterMap_append, List.nodup_append]
    refine ⟨w.names, by simp [Bx.name], fun a ha b hb e => ?_⟩
    simp [Bx.name] at hb
    subst hb; subst e
    exact hf ha
  · intro y hy
    rw [List.length_append, List.length_singleton]
    rcases new y hy with q | rfl
    · have := w.cab y q; omega
    · exact ⟨by show bs.length < _; omega, by show k < _; omega, h0, h9⟩
  · intro y hy z hz
    rcases new y hy with q | rfl
    · rcases get_cases hz with ⟨_, e⟩ | ⟨e, _⟩
      · exact w.src y q z e
      · have := w.cab y q; omega
    · have hz : (bs ++ [Bx.inn n])[bs.length]? = some z := hz
      rw [get_new] at hz; cases hz; rfl
  · intro y hy z hz
    rcases new y hy with q | rfl
    · rcases get_cases hz with ⟨_, e⟩ | ⟨e, _⟩
      · exact w.dst y q z e
      · have := w.cab y q; omega
    · have hz : (bs ++ [Bx.inn n])[k]? = some z := hz
      rw [get_app hk] at hz; cases hz; exact Bx.mid_in hx
  · intro i hi
    rw [List.length_append, List.length_singleton] at hi
    by_cases q : i < bs.length
    · exact fedOld i q
    · have : i = bs.length := by omega
      subst this
      exact .start get_new
  · intro i hi
    rw [List.length_append, List.length_singleton] at hi
    by_cases q : i < bs.length
    · exact usedOld i q
    · have : i = bs.length := by omega
      subst this
      exact Used.step m1 (usedOld k hkl)
  · intro i m e
    rcases get_cases e with ⟨hi, e⟩ | ⟨_, e⟩
    · have := w.one i m e
      rw [List.filter_append, List.filter_cons, List.filter_nil]
      have q : ¬(k = i) := fun q => by
        subst q
        rw [hk] at e; cases e; cases hx
      simp [q]
      exact this
    · cases e
  · intro y hy hz
    rcases new y hy with q | rfl
    · have := w.cab y q
      have := hρ y q hz
      show (if y.o = bs.length then _ else _) < (if y.t = bs.length then _ else _)
      rw [if_neg (by omega), if_neg (by omega)]
      omega
    · show (if bs.length = bs.length then _ else _) < (if k = bs.length then _ else _)
      rw [if_neg (by omega : ¬k = bs.length), if_pos rfl]
      dsimp only
      omega
  · obtain ⟨x, hx, e⟩ := w.mid
    exact ⟨x, by simp [hx], e⟩
theorem wf_out {bs : List Bx} {cs : List Cb} {k : Nat} {x : Bx} {n : Str} {h : Int} (w : WF bs cs) (hk : bs[k]? = some x) (hx : x.mid = true) (hn : okName n) (hf : n ∉ bs.filterMap Bx.name) (h0 : 0 ≤ h) (h9 : h ≤ 99) (h1 : bs.length < 10) (h2 : cs.length < 20) :
    WF (bs ++ [.out n]) (cs ++ [⟨k, bs.length, h⟩]) := by
  have hkl := (List.getElem?_eq_some_iff.mp hk).1
  have new : ∀ y ∈ cs ++ [(⟨k, bs.length, h⟩ : Cb)], y ∈ cs ∨ y = ⟨k, bs.length, h⟩ := fun y hy => by
    rcases List.mem_append.mp hy with q | q
    · exact .inl q
    · exact .inr (List.mem_singleton.mp q)
  have m1 : (⟨k, bs.length, h⟩ : Cb) ∈ cs ++ [(⟨k, bs.length, h⟩ : Cb)] := by simp
  have fedOld : ∀ i, i < bs.length → Fed (bs ++ [.out n]) (cs ++ [⟨k, bs.length, h⟩]) i := fun i hi => fed_mono (fun _ _ e => get_app e) (fun x hx f => .step (List.mem_append_left _ hx) f) (w.fed i hi)
  have usedOld : ∀ i, i < bs.length → Used (bs ++ [.out n]) (cs ++ [⟨k, bs.length, h⟩]) i := fun i hi => used_mono (fun _ _ e => get_app e) (fun x hx f => .step (List.mem_append_left _ hx) f) (w.used i hi)
  obtain ⟨ρ, hρ⟩ := w.rank
  refine ⟨by simp; omega, by simp; omega, ?_, ?_, ?_, ?_, ?_, ?_, ?_, ?_, ⟨fun i => if i = bs.length then ρ k + 1 else ρ i, ?_⟩, ?_⟩
  · intro y hy
    rcases List.mem_append.mp hy with hy | hy
    · exact w.box y hy
    · rw [List.mem_singleton.mp hy]; exact hn
  · rw [List.filterMap_append, List.nodup_append]
    refine ⟨w.names, by simp [Bx.name], fun a ha b hb e => ?_⟩
    simp [Bx.name] at hb
    subst hb; subst e
    exact hf ha
  · intro y hy
    rw [List.length_append, List.length_singleton]
    rcases new y hy with q | rfl
    · have := w.cab y q; omega
    · exact ⟨by show k < _; omega, by show bs.length < _; omega, h0, h9⟩
  · intro y hy z hz
    rcases new y hy with q | rfl
    · rcases get_cases hz with ⟨_, e⟩ | ⟨e, _⟩
      · exact w.src y q z e
      · have := w.cab y q; omega
    · have hz : (bs ++ [Bx.out n])[k]? = some z := hz
      rw [get_app hk] at hz; cases hz; exact Bx.mid_out hx
  · intro y hy z hz
    rcases new y hy with q | rfl
    · rcases get_cases hz with ⟨_, e⟩ | ⟨e, _⟩
      · exact w.dst y q z e
      · have := w.cab y q; omega
    · have hz : (bs ++ [Bx.out n])[bs.length]? = some z := hz
      rw [get_new] at hz; cases hz; rfl
  · intro i hi
    rw [List.length_append, List.length_singleton] at hi
    by_cases q : i < bs.length
    · exact fedOld i q
    · have : i = bs.length := by omega
      subst this
      exact Fed.step m1 (fedOld k hkl)
  · intro i hi
    rw [List.length_append, List.length_singleton] at hi
    by_cases q : i < bs.length
    · exact usedOld i q
    · have : i = bs.length := by omega
      subst this
      exact .start get_new
  · intro i m e
    rcases get_cases e with ⟨hi, e⟩ | ⟨rfl, e⟩
    · have := w.one i m e
      rw [List.filter_append, List.filter_cons, List.filter_nil]
      have q : ¬(bs.length = i) := by omega
      simp [q]
      exact this
    · rw [List.filter_append, filter_none (l := cs) (fun c hc1 => by have := w.cab c hc1; simp; omega), List.nil_append]
      exact Nat.le_trans (List.length_filter_le _ _) (by simp)
  · intro y hy hz
    rcases new y hy with q | rfl
    · have := w.cab y q
      have := hρ y q hz
      show (if y.o = bs.length then _ else _) < (if y.t = bs.length then _ else _)
      rw [if_neg (by omega), if_neg (by omega)]
      omega
    · show (if k = bs.length then _ else _) < (if bs.length = bs.length then _ else _)
      rw [if_neg (by omega : ¬k = bs.length), if_pos rfl]
      dsimp only
      omega
  · obtain ⟨x, hx, e⟩ := w.mid
    exact ⟨x, by simp [hx], e⟩
end Hd
namespace Hd
open PySem PySem.Spec PyProof.Rows L2 Ev
@[simp] theorem dIn_two_int {i a b : Int} : dIn (.int i) (.tup [.int a, .int b]) = some (decide (i = a ∨ i = b)) := by
  show some ((a == i) || ((b == i) || false)) = _
  rw [Bool.or_false]
  congr 1
  rw [Bool.eq_iff_iff, Bool.or_eq_true, beq_iff_eq, beq_iff_eq, decide_eq_true_iff]
  exact ⟨fun h => h.imp Eq.symm Eq.symm, fun h => h.imp Eq.symm Eq.symm⟩
@[simp] theorem dIx_box0 {b : Bx} : dIx b.d (.int 0) = some (.d (.str b.word)) := by cases b <;> rfl
theorem word_mid {b : Bx} : decide (b.word = Str.ofString "in" ∨ b.word = Str.ofString "out") = !b.mid := by cases b <;> simp [Bx.word, Bx.mid, ofStr_inj]
@[simp] theorem dIx_cb0 {c : Cb} : dIx c.d (.int 0) = some (.d (.int c.o)) := rfl
@[simp] theorem dIx_cb1 {c : Cb} : dIx c.d (.int 1) = some (.d (.int c.t)) := rfl
@[simp] theorem dIx_cb2 {c : Cb} : dIx c.d (.int 2) = some (.d (.int c.h)) := rfl
theorem cutL_take {α : Type} {xs : List α} {a : Nat} (h : a ≤ xs.length) : cutL xs none (some (a : Int)) = xs.take a := by
  unfold cutL
  rw [HT.sIx_nat, HT.sIx_none, Nat.min_eq_left h]
  simp
theorem cutL_drop {α : Type} {xs : List α} {a : Nat} (h : a ≤ xs.length) : cutL xs (some (a : Int)) none = xs.drop a := by
  unfold cutL
  rw [HT.sIx_nat, HT.sIx_none, Nat.min_eq_left h]
  rw [List.take_of_length_le (by simp)]
theorem wf_cables {bs : List Bx} {cs : List Cb} (w : WF bs cs) : 0 < cs.length := by
  obtain ⟨b, hb, hm⟩ := w.mid
  obtain ⟨i, hi, e⟩ := List.getElem_of_mem hb
  have f := w.fed i hi
  cases f with
  | start e2 => rw [List.getElem?_eq_getElem hi, e] at e2; cases e2; cases hm
  | step hc _ => exact List.length_pos_of_mem hc
def midAt (bs : List Bx) (k : Nat) : Bool := match bs[k]? with
  | some b => b.mid
  | none => false
def eight (t : Nat) : Str := repS (sgn (110 + t)) 8
theorem eight_cps (t : Nat) : (eight t).cps.toList = List.replicate 8 (110 + t) := cps_rep _ _
theorem eight_len (t : Nat) : (eight t).length = 8 := by rw [len_cps, eight_cps]; simp
theorem eight_inj {t u : Nat} (h : eight t = eight u) : t = u := by
  have := congrArg (fun z : Str => z.cps.toList) h
  rw [eight_cps, eight_cps] at this
  simp at this
  omega
theorem eight_ok {t : Nat} (h : t < 6) : okName (eight t) := by
  refine ⟨by rw [eight_len]; omega, by rw [eight_len]; omega, fun c hc => ?_⟩
  rw [eight_cps] at hc
  rw [List.eq_of_mem_replicate hc]
  have : ∀ t : Fin 6, 110 + t.val ∈ small.cps.toList := by decide +kernel
  exact this ⟨t, h⟩
def NameInv (t : Nat) (bs : List Bx) : Prop := ∀ b ∈ bs, ∀ n, b.name = some n → n.length ≤ 7 ∨ ∃ u, u < t ∧ n = eight u
theorem NameInv.fresh {t : Nat} {bs : List Bx} (h : NameInv t bs) : eight t ∉ bs.filterMap Bx.name := fun hm => by
  obtain ⟨b, hb, e⟩ := List.mem_filterMap.mp hm
  rcases h b hb _ e with q | ⟨u, hu, q⟩
  · rw [eight_len] at q; omega
  · have := eight_inj q; omega
theorem NameInv.snoc {t : Nat} {bs : List Bx} {b : Bx} (h : NameInv t bs) (hb : b.name = none ∨ b.name = some (eight t)) : NameInv (t + 1) (bs ++ [b]) := by
  intro x hx n e
  rcases List.mem_append.mp hx with hx | hx
  · rcases h x hx n e with q | ⟨u, hu, q⟩
    · exact .inl q
    · exact .inr ⟨u, by omega, q⟩
  · rw [List.mem_singleton.mp hx] at e
    rcases hb with q | q
    · rw [q] at e; cases e
    · rw [q] at e; cases e; exact .inr ⟨t, by omega, rfl⟩
theorem NameInv.up {t : Nat} {bs : List Bx} (h : NameInv t bs) : NameInv (t + 1) bs := fun x hx n e => by
  rcases h x hx n e with q | ⟨u, hu, q⟩
  · exact .inl q
  · exact .inr ⟨u, by omega, q⟩
theorem ix_nopqrs {t : Nat} (h : t < 6) : dIx (.str (Str.ofString "nopqrs")) (.int (t : Int)) = some (.d (.str (sgn (110 + t)))) := by
  have hl : (Str.ofString "nopqrs").length ≤ 100000 := by decide +kernel
  rw [dIx_str hl, Ev.atI_nat]
  have : ∀ t : Fin 6, (Str.ofString "nopqrs").cps.toList[t.val]? = some (110 + t.val) := by decide +kernel
  rw [this ⟨t, h⟩]
  rfl
theorem mids_ne {bs : List Bx} {cs : List Cb} (w : WF bs cs) : 0 < ((List.range bs.length).filter (midAt bs)).length := by
  obtain ⟨b, hb, hm⟩ := w.mid
  obtain ⟨i, hi, e⟩ := List.getElem_of_mem hb
  refine List.length_pos_of_mem (a := i) (List.mem_filter.mpr ⟨List.mem_range.mpr hi, ?_⟩)
  unfold midAt
  rw [List.getElem?_eq_getElem hi, e]
  exact hm
theorem mids_of {bs : List Bx} {k : Nat} (h : k ∈ (List.range bs.length).filter (midAt bs)) : ∃ b, bs[k]? = some b ∧ b.mid = true := by
  obtain ⟨h1, h2⟩ := List.mem_filter.mp h
  unfold midAt at h2
  split at h2
  · rename_i b e; exact ⟨b, e, h2⟩
  · cases h2
theorem more_turn {C : Addr} {bs : List Bx} {cs : List Cb} {num way : Int} {t : Nat} {o5 o6 o7 o8 o9 o10 o11 o12 : Option L} {N : Fl → VS → Prop} (w : WF bs cs) (hn : NameInv t bs) (ht : t < 6) (h0 : 0 ≤ num)
    (hN : ∀ bs' cs' num' o5 o6 o7 o8 o9 o10 o11, WF bs' cs' → NameInv (t + 1) bs' → 0 ≤ num' → N .nx [some (.d (.lst (bs'.map Bx.d))), some (.d (.lst (cs'.map Cb.d))), some (.d (.int num')), some (.d (.int way)), some (.d (.int (t : Int))), o5, o6, o7, o8, o9, o10, o11, none]) :
    wp (F__law_more_4 C) [some (.d (.lst (bs.map Bx.d))), some (.d (.lst (cs.map Cb.d))), some (.d (.int num)), some (.d (.int way)), some (.d (.int (t : Int))), o5, o6, o7, o8, o9, o10, o11, none] N := by
  simp only [F__law_more_4]
  simp
  split
  · split
    · rename_i hb10 hc20
      have hb10 : bs.length < 10 := by omega
      have hc20 : cs.length < 20 := by omega
      have hcp := wf_cables w
      simp [F__law_more_5, F__law_more_6, F__law_more_7]
      refine ⟨hcp, ?_⟩
      obtain ⟨num', en, hn0⟩ : ∃ num', num / 3 + 7 * (t : Int) = num' ∧ 0 ≤ num' := ⟨_, rfl, by omega⟩
      rw [en]
      obtain ⟨a, ea, ha⟩ : ∃ a : Nat, num' % (cs.length : Int) = (a : Int) ∧ a < cs.length := by
        have h1 := Int.emod_nonneg num' (by omega : (cs.length : Int) ≠ 0)
        have h2 := Int.emod_lt_of_pos num' (by omega : (0 : Int) < (cs.length : Int))
        exact ⟨(num' % (cs.length : Int)).toNat, by omega, by omega⟩
      rw [ea]
      simp [F__law_more_8, Ev.atI_nat, List.getElem?_eq_getElem ha]
      obtain ⟨c, ec⟩ : ∃ c, cs[a] = c := ⟨_, rfl⟩
      have hcm : c ∈ cs := by rw [← ec]; exact List.getElem_mem ha
      rw [ec]
      simp [Cb.d, F__law_more_9, F__law_more_10, wp_fComp]
      refine ⟨by omega, ?_⟩
      refine lcF_inN (fun i acc s => acc = ((List.range i).filter (midAt bs)).map (fun (k : Nat) => D.int (k : Int)) ∧ s = [some (.d (.lst (bs.map Bx.d))), some (.d (.lst (cs.map Cb.d))), some (.d (.int num')), some (.d (.int way)), some (.d (.int (t : Int))), some (.d (.int (a : Int))), some (.d (.int (bs.length : Int))), o7, o8, some (.d (.int c.o)), some (.d (.int c.t)), some (.d (.int c.h)), none]) ⟨rfl, by simp [wipeV, Cb.d]⟩ ?_ ?_
      · rintro i d acc s N hd ⟨rfl, rfl⟩ hN
        obtain ⟨hin, rfl⟩ := rgD_get hd
        have ei : (0 : Int) + (i : Int) = (i : Int) := by omega
        rw [ei]
        simp [Ev.atI_nat, List.getElem?_eq_getElem hin, wipeV]
        have hrl : ((List.range i).filter (midAt bs)).length ≤ i := by
          have := List.length_filter_le (midAt bs) (List.range i)
          simpa using this
        have hmid : midAt bs i = bs[i].mid := by unfold midAt; rw [List.getElem?_eq_getElem hin]
        have hw := word_mid (b := bs[i])
        split
        · rename_i hq
          have hq2 : bs[i].mid = false := by
            have : decide (bs[i].word = Str.ofString "in" ∨ bs[i].word = Str.ofString "out") = true := decide_eq_true hq
            rw [hw] at this; simpa using this
          refine hN _ _ ⟨?_, rfl⟩
          rw [List.range_succ, List.filter_append]
          simp [hmid, hq2]
        · rename_i hq
          have hq2 : bs[i].mid = true := by
            have : decide (bs[i].word = Str.ofString "in" ∨ bs[i].word = Str.ofString "out") = false := decide_eq_false hq
            rw [hw] at this; simpa using this
          refine ⟨by omega, hN _ _ ⟨?_, rfl⟩⟩
          rw [List.range_succ, List.filter_append]
          simp [hmid, hq2]
      · rintro acc s ⟨rfl, rfl⟩
        rw [rgD_len]
        simp [restV, wipeV, keepD, F__law_more_11, ix_nopqrs ht]
        obtain ⟨mids, em, hmp, hmo⟩ : ∃ mids : List Nat, (List.range bs.length).filter (midAt bs) = mids ∧ 0 < mids.length ∧ ∀ k ∈ mids, ∃ b, bs[k]? = some b ∧ b.mid = true := ⟨_, rfl, mids_ne w, fun k hk => mids_of hk⟩
        rw [em]
        have hsl : (sgn (110 + t)).length ≤ 1000 := by show (1 : Nat) ≤ 1000; omega
        refine ⟨hsl, ?_⟩
        simp only [F__law_more_12]
        simp
        split
        · simp [F__law_more_13, F__law_more_14]
          refine to_atI (Int.emod_nonneg _ (by omega)) (by have := Int.emod_lt_of_pos num' (by omega : (0 : Int) < 2); simp; omega) fun x hx => ?_
          obtain ⟨b, rfl, hb1, hb2⟩ : ∃ b : Bx, x = b.d ∧ b.ok ∧ b.mid = true := by
            simp at hx
            rcases hx with rfl | rfl
            · exact ⟨.sum (num' % 5), rfl, ⟨Int.emod_nonneg _ (by omega), by have := Int.emod_lt_of_pos num' (by omega : (0 : Int) < 5); omega⟩, rfl⟩
            · exact ⟨.most (num' % 3), rfl, ⟨Int.emod_nonneg _ (by omega), by have := Int.emod_lt_of_pos num' (by omega : (0 : Int) < 3); omega⟩, rfl⟩
          simp
          refine ⟨by omega, ?_⟩
          have ea1 : (a : Int) + 1 = ((a + 1 : Nat) : Int) := by omega
          simp [F__law_more_15]
          rw [ea1, cutL_take (by simp; omega), cutL_drop (by simp; omega)]
          simp
          refine ⟨by omega, by omega, ?_⟩
          have spl : cs = cs.take a ++ c :: cs.drop (a + 1) := by
            rw [← ec, ← List.drop_eq_getElem_cons ha, List.take_append_drop]
          have w' : WF bs (cs.take a ++ c :: cs.drop (a + 1)) := by rw [← spl]; exact w
          have := hN (bs ++ [b]) (cs.take a ++ [⟨c.o, bs.length, c.h⟩, ⟨bs.length, c.t, 0⟩] ++ cs.drop (a + 1)) num' (some (.d (.int (a : Int)))) (some (.d (.int (bs.length : Int)))) (some (.own (mids.map fun (k : Nat) => D.int (k : Int)))) (some (.d (.str (eight t)))) (some (.d (.int c.o))) (some (.d (.int c.t))) (some (.d (.int c.h))) (wf_insert w' hb1 hb2 hb10 (by rw [← spl]; exact hc20)) (hn.snoc (.inl (Bx.mid_name hb2))) hn0
          simpa [Cb.d, eight] using this
        · simp [F__law_more_16, F__law_more_17]
          split
          · simp [F__law_more_18, F__law_more_19]
            refine ⟨by omega, ?_⟩
            simp [F__law_more_20]
            refine ⟨hmp, ?_⟩
            refine to_atI (Int.emod_nonneg _ (by omega)) (by have := Int.emod_lt_of_pos num' (by omega : (0 : Int) < (mids.length : Int)); simp; omega) fun x hx => ?_
            obtain ⟨k, hk, rfl⟩ := List.mem_map.mp hx
            obtain ⟨b, hb1, hb2⟩ := hmo k hk
            have hcab := w.cab c hcm
            simp
            refine ⟨by omega, ?_⟩
            have := hN (bs ++ [.inn (eight t)]) (cs ++ [⟨bs.length, k, c.h⟩]) num' (some (.d (.int (a : Int)))) (some (.d (.int (bs.length : Int)))) (some (.own (mids.map fun (k : Nat) => D.int (k : Int)))) (some (.d (.str (eight t)))) (some (.d (.int c.o))) (some (.d (.int c.t))) (some (.d (.int c.h))) (wf_in w hb1 hb2 (eight_ok ht) hn.fresh hcab.2.2.1 hcab.2.2.2 hb10 hc20) (hn.snoc (.inr rfl)) hn0
            simpa [Cb.d, Bx.d, eight] using this
          · simp [F__law_more_21, F__law_more_22]
            refine ⟨by omega, ?_⟩
            simp [F__law_more_23]
            refine ⟨hmp, ?_⟩
            refine to_atI (Int.emod_nonneg _ (by omega)) (by have := Int.emod_lt_of_pos num' (by omega : (0 : Int) < (mids.length : Int)); simp; omega) fun x hx => ?_
            obtain ⟨k, hk, rfl⟩ := List.mem_map.mp hx
            obtain ⟨b, hb1, hb2⟩ := hmo k hk
            simp
            refine ⟨by omega, ?_⟩
            have := hN (bs ++ [.out (eight t)]) (cs ++ [⟨k, bs.length, 0⟩]) num' (some (.d (.int (a : Int)))) (some (.d (.int (bs.length : Int)))) (some (.own (mids.map fun (k : Nat) => D.int (k : Int)))) (some (.d (.str (eight t)))) (some (.d (.int c.o))) (some (.d (.int c.t))) (some (.d (.int c.h))) (wf_out w hb1 hb2 (eight_ok ht) hn.fresh (by omega) (by omega) hb10 hc20) (hn.snoc (.inr rfl)) hn0
            simpa [Cb.d, Bx.d, eight] using this
    · exact hN _ _ _ _ _ _ _ _ _ _ w hn.up h0
  · exact hN _ _ _ _ _ _ _ _ _ _ w hn.up h0
end Hd
namespace Hd
open PySem PySem.Spec PyProof.Rows L2 Ev
theorem more_ok {C : Addr} {bs : List Bx} {cs : List Cb} {num : Int} {Q : L → VS → Prop} (w : WF bs cs) (hs : Short bs) (h0 : 0 ≤ num) (hq : ∀ (bs : List Bx) (cs : List Cb), WF bs cs → Q (.d (.tup [.lst (bs.map Bx.d), .lst (cs.map Cb.d)])) [none, none, none]) :
    wp (fn__law_more C).run [some (.d (.lst (bs.map Bx.d))), some (.d (.lst (cs.map Cb.d))), some (.d (.int num))] Q := by
  refine wp_def ?_
  show wp (F__law_more C) [some (.d (.lst (bs.map Bx.d))), some (.d (.lst (cs.map Cb.d))), some (.d (.int num)), none, none, none, none, none, none, none, none, none, none] _
  simp only [F__law_more, F__law_more_0, wp_sSeq, F__law_more_1]
  simp
  simp only [F__law_more_2]
  simp
  obtain ⟨n, en, hn⟩ : ∃ n : Nat, 6 * (if num % 8 = 0 ∨ num % 8 = 2 then (1 : Int) else 0) = (n : Int) ∧ n ≤ 6 := by
    split
    · exact ⟨6, rfl, by omega⟩
    · exact ⟨0, rfl, by omega⟩
  rw [en]
  refine ⟨by omega, ?_⟩
  rw [Int.toNat_natCast]
  refine wp_loopN (fun i s => ∃ (bs : List Bx) (cs : List Cb) (num' : Int) (o4 o5 o6 o7 o8 o9 o10 o11 : Option L), s = [some (.d (.lst (bs.map Bx.d))), some (.d (.lst (cs.map Cb.d))), some (.d (.int num')), some (.d (.int (num % 8))), o4, o5, o6, o7, o8, o9, o10, o11, none] ∧ WF bs cs ∧ NameInv i bs ∧ 0 ≤ num')
    ⟨bs, cs, num, _, _, _, _, _, _, _, _, rfl, w, fun b hb n e => .inl (hs.short b hb n e), h0⟩ ?_ ?_
  · rintro i d s N hd ⟨bs, cs, num', o4, o5, o6, o7, o8, o9, o10, o11, rfl, w, hN, h0⟩ hh
    obtain ⟨hin, rfl⟩ := rgD_get hd
    have ei : (0 : Int) + (i : Int) = (i : Int) := by omega
    rw [ei]
    simp [F__law_more_3]
    refine more_turn (o12 := none) w hN (by omega) h0 fun bs' cs' num'' o5 o6 o7 o8 o9 o10 o11 w' hN' h0' => ?_
    simp only [thenF_nx, wp_sNil, lend_nx]
    exact hh _ ⟨bs', cs', num'', _, _, _, _, _, _, _, _, rfl, w', hN', h0'⟩
  · rintro s ⟨bs, cs, num', o4, o5, o6, o7, o8, o9, o10, o11, rfl, w, hN, h0⟩
    simp [F__law_more_24, outs_eq, List.range_succ]
    exact hq bs cs w
theorem call_more {C : Addr} {s : VS} {bs : List Bx} {cs : List Cb} {num : Int} {Q : L → VS → Prop} (w : WF bs cs) (hs : Short bs) (h0 : 0 ≤ num) (hq : ∀ (bs : List Bx) (cs : List Cb), WF bs cs → Q (.d (.tup [.lst (bs.map Bx.d), .lst (cs.map Cb.d)])) s) :
    wp (callF (fn__law_more C) [.dat (.lst (bs.map Bx.d)), .dat (.lst (cs.map Cb.d)), .dat (.int num)]) s Q := by
  rw [wp_callF]
  simp only [to_some, to_args_dat, argsOf_nil]
  exact ⟨⟨rfl, rfl⟩, more_ok w hs h0 fun bs cs w => hq bs cs w⟩
theorem perm_map_inv {α β : Type} {f : α → β} {es : List β} {l : List α} (h : es.Perm (l.map f)) : ∃ l' : List α, l'.Perm l ∧ es = l'.map f := by
  generalize e : l.map f = m at h
  induction h generalizing l with
  | nil =>
    cases l with
    | nil => exact ⟨[], List.Perm.refl _, rfl⟩
    | cons a r => cases e
  | cons x _ ih =>
    cases l with
    | nil => cases e
    | cons a r =>
      injection e with e1 e2
      obtain ⟨l', p, q⟩ := ih e2
      exact ⟨a :: l', p.cons a, by rw [List.map_cons, e1, q]⟩
  | swap x y l2 =>
    cases l with
    | nil => cases e
    | cons a r =>
      cases r with
      | nil => injection e with _ e2; cases e2
      | cons b r =>
        injection e with e1 e2
        injection e2 with e2 e3
        exact ⟨b :: a :: r, List.Perm.swap _ _ _, by rw [List.map_cons, List.map_cons, e1, e2, e3]⟩
  | trans _ _ ih1 ih2 =>
    obtain ⟨l2, p2, q2⟩ := ih2 e
    obtain ⟨l1, p1, q1⟩ := ih1 q2.symm
    exact ⟨l1, p1.trans p2, q1⟩
theorem filterMap_get {α : Type} (l : List α) : (List.range l.length).filterMap (fun i => l[i]?) = l := by
  induction l with
  | nil => rfl
  | cons a r ih =>
    rw [List.length_cons, List.range_succ_eq_map, List.filterMap_cons, List.filterMap_map]
    simp only [List.getElem?_cons_zero, Function.comp_def, List.getElem?_cons_succ]
    rw [ih]
def reCb (pos : Nat → Nat) (c : Cb) : Cb := ⟨pos c.o, pos c.t, c.h⟩
theorem wf_perm {bs : List Bx} {cs cs' : List Cb} {order : List Nat} {pos : Nat → Nat} (w : WF bs cs) (ho : order.Perm (List.range bs.length)) (hp : ∀ a, a < bs.length → order[pos a]? = some a) (hc : cs'.Perm (cs.map (reCb pos))) :
    WF (order.filterMap fun a => bs[a]?) cs' := by
  have hol : order.length = bs.length := by rw [ho.length_eq, List.length_range]
  have hlt : ∀ a ∈ order, a < bs.length := fun a ha => List.mem_range.mp (ho.mem_iff.mp ha)
  have hperm : (order.filterMap fun a => bs[a]?).Perm bs := by
    have := ho.filterMap (fun a => bs[a]?)
    rwa [filterMap_get] at this
  have hlen : (order.filterMap fun a => bs[a]?).length = bs.length := hperm.length_eq
  have hget : ∀ (j a : Nat), order[j]? = some a → (order.filterMap fun a => bs[a]?)[j]? = bs[a]? := by
    have gen : ∀ (l : List Nat), (∀ a ∈ l, a < bs.length) → ∀ (j a : Nat), l[j]? = some a → (l.filterMap fun a => bs[a]?)[j]? = bs[a]? := by
      intro l
      induction l with
      | nil => intro _ j a e; simp at e
      | cons x l ih =>
        intro h j a e
        have hx := h x List.mem_cons_self
        rw [List.filterMap_cons, List.getElem?_eq_getElem hx]
        cases j with
        | zero => simp at e; subst e; simp [List.getElem?_eq_getElem hx]
        | succ j => simp at e; simpa using ih (fun a ha => h a (List.mem_cons_of_mem _ ha)) j a e
    exact gen order hlt
  have hpos : ∀ a, a < bs.length → pos a < bs.length ∧ (order.filterMap fun a => bs[a]?)[pos a]? = bs[a]? := fun a ha => by
    have e := hp a ha
    have := (List.getElem?_eq_some_iff.mp e).1
    exact ⟨by omega, hget _ _ e⟩
  have hinj : ∀ a b, a < bs.length → b < bs.length → pos a = pos b → a = b := fun a b ha hb e => by
    have e1 := hp a ha
    rw [e, hp b hb] at e1
    exact (Option.some.inj e1).symm
  have hnd : order.Nodup := ho.nodup_iff.mpr List.nodup_range
  have hsurj : ∀ j, j < bs.length → ∃ a, a < bs.length ∧ pos a = j ∧ order[j]? = some a := fun j hj => by
    have e : order[j]? = some order[j] := List.getElem?_eq_getElem (by omega)
    have ha := hlt _ (List.mem_of_getElem? e)
    refine ⟨order[j], ha, ?_, e⟩
    have e2 := hp _ ha
    have hl2 := (List.getElem?_eq_some_iff.mp e2).1
    exact (List.getElem?_inj hl2 hnd).mp (by rw [e2, e])
  have cin : ∀ c' ∈ cs', ∃ c ∈ cs, c' = reCb pos c := fun c' h => by
    obtain ⟨c, h1, h2⟩ := List.mem_map.mp (hc.mem_iff.mp h)
    exact ⟨c, h1, h2.symm⟩
  have cin' : ∀ c ∈ cs, reCb pos c ∈ cs' := fun c h => hc.mem_iff.mpr (List.mem_map.mpr ⟨c, h, rfl⟩)
  have fed' : ∀ i, Fed bs cs i → Fed (order.filterMap fun a => bs[a]?) cs' (pos i) := fun i f => by
    induction f with
    | start e => exact .start (by rw [(hpos _ (List.getElem?_eq_some_iff.mp e).1).2]; exact e)
    | step hc1 _ ih => exact Fed.step (c := reCb pos _) (cin' _ hc1) ih
  have used' : ∀ i, Used bs cs i → Used (order.filterMap fun a => bs[a]?) cs' (pos i) := fun i f => by
    induction f with
    | start e => exact .start (by rw [(hpos _ (List.getElem?_eq_some_iff.mp e).1).2]; exact e)
    | step hc1 _ ih => exact Used.step (c := reCb pos _) (cin' _ hc1) ih
  obtain ⟨ρ, hρ⟩ := w.rank
  refine ⟨by rw [hlen]; exact w.nb, by rw [hc.length_eq, List.length_map]; exact w.nc, fun b hb => w.box b (hperm.mem_iff.mp hb), (hperm.filterMap Bx.name).nodup_iff.mpr w.names, ?_, ?_, ?_, ?_, ?_, ?_, ⟨fun j => ρ (order[j]?.getD 0), ?_⟩, ?_⟩
  · intro c' h
    obtain ⟨c, h1, rfl⟩ := cin c' h
    have := w.cab c h1
    rw [hlen]
    exact ⟨(hpos _ this.1).1, (hpos _ this.2.1).1, this.2.2.1, this.2.2.2⟩
  · intro c' h b hb
    obtain ⟨c, h1, rfl⟩ := cin c' h
    have := w.cab c h1
    have hb : (order.filterMap fun a => bs[a]?)[pos c.o]? = some b := hb
    rw [(hpos _ this.1).2] at hb
    exact w.src c h1 b hb
  · intro c' h b hb
    obtain ⟨c, h1, rfl⟩ := cin c' h
    have := w.cab c h1
    have hb : (order.filterMap fun a => bs[a]?)[pos c.t]? = some b := hb
    rw [(hpos _ this.2.1).2] at hb
    exact w.dst c h1 b hb
  · intro j hj
    rw [hlen] at hj
    obtain ⟨a, ha, rfl, _⟩ := hsurj j hj
    exact fed' a (w.fed a ha)
  · intro j hj
    rw [hlen] at hj
    obtain ⟨a, ha, rfl, _⟩ := hsurj j hj
    exact used' a (w.used a ha)
  · intro j n e
    have hj := (List.getElem?_eq_some_iff.mp e).1
    rw [hlen] at hj
    obtain ⟨a, ha, rfl, ea⟩ := hsurj j hj
    rw [hget _ _ ea] at e
    have e1 := w.one a n e
    rw [(hc.filter _).length_eq, List.filter_map, List.length_map]
    have : (List.filter ((fun c => decide (c.t = pos a)) ∘ reCb pos) cs) = cs.filter fun c => decide (c.t = a) := by
      apply List.filter_congr
      intro c hc1
      have := w.cab c hc1
      show decide (pos c.t = pos a) = decide (c.t = a)
      by_cases q : c.t = a
      · simp [q]
      · have : pos c.t ≠ pos a := fun z => q (hinj _ _ this.2.1 ha z)
        simp [q, this]
    rw [this]; exact e1
  · intro c' h hz
    obtain ⟨c, h1, rfl⟩ := cin c' h
    have hcb := w.cab c h1
    have := hρ c h1 hz
    show ρ (order[pos c.o]?.getD 0) < ρ (order[pos c.t]?.getD 0)
    rw [hp _ hcb.1, hp _ hcb.2.1]
    exact this
  · obtain ⟨b, hb, e⟩ := w.mid
    exact ⟨b, hperm.mem_iff.mpr hb, e⟩
theorem idxF_nat : ∀ (l : List Nat) (a : Nat), a ∈ l → ∃ j, idxF (.int (a : Int)) (l.map fun (k : Nat) => D.int (k : Int)) = some j ∧ l[j]? = some a
  | [], a, h => by simp at h
  | x :: l, a, h => by
    rw [List.map_cons, idxF]
    have e : eqF (.int (x : Int)) (.int (a : Int)) = decide (x = a) := by
      show ((x : Int) == (a : Int)) = _
      rw [Bool.eq_iff_iff, beq_iff_eq, decide_eq_true_iff]; omega
    rw [e]
    by_cases q : x = a
    · subst q; exact ⟨0, by simp, rfl⟩
    · obtain ⟨j, h1, h2⟩ := idxF_nat l a (by
        rcases List.mem_cons.mp h with r | r
        · exact absurd r.symm q
        · exact r)
      exact ⟨j + 1, by simp [q, h1], by simpa using h2⟩
def posOf (order : List Nat) (a : Nat) : Nat := (idxF (.int (a : Int)) (order.map fun (k : Nat) => D.int (k : Int))).getD 0
theorem posOf_ok {order : List Nat} {a : Nat} (h : a ∈ order) : idxF (.int (a : Int)) (order.map fun (k : Nat) => D.int (k : Int)) = some (posOf order a) ∧ order[posOf order a]? = some a := by
  obtain ⟨j, h1, h2⟩ := idxF_nat order a h
  have e : posOf order a = j := by unfold posOf; rw [h1]; rfl
  rw [e]; exact ⟨h1, h2⟩
theorem flD_nats (l : List Nat) : (l.map fun (k : Nat) => D.int (k : Int)).all flD = true := by
  rw [List.all_eq_true]; intro x hx; obtain ⟨i, _, rfl⟩ := List.mem_map.mp hx; rfl
theorem rgD_nat {n : Nat} : rgD 0 n = (List.range n).map fun (k : Nat) => D.int (k : Int) := by
  unfold rgD
  apply List.map_congr_left
  intro a _
  simp
theorem mixed_okO {C : Addr} {xs ds : List D} {l1 : L} {Q : L → VS → Prop} (h : Dice xs) (hl1 : l1 = .d (.lst ds) ∨ l1 = .own ds) (hd : ∀ d ∈ ds, okD 19 d = true) (hl : ds.length ≤ 60) (hq : ∀ es xs', Dice xs' → es.Perm ds → Q (.own es) [some (.own xs'), none]) : wp (fn__law_mixed C).run [some (.own xs), some l1] Q := by
  rcases hl1 with rfl | rfl
  · exact mixed_ok h hd hl hq
  refine wp_def ?_
  show wp (F__law_mixed C) [some (.own xs), some (.own ds), none, none] _
  simp only [F__law_mixed, F__law_mixed_0, wp_sSeq, F__law_mixed_1]
  simp [F__law_mixed_2]
  simp only [F__law_mixed_3]
  refine wp_whileN (fun m s => ∃ ys left found, s = [some (.own ys), some (.own ds), some (.own left), some (.own found)] ∧ Dice ys ∧ (left ++ found).Perm ds ∧ m = left.length) 1000 ds.length (by omega) ⟨xs, ds, [], rfl, h, by simp, rfl⟩ ?_
  rintro m s N ⟨ys, left, found, rfl, hy, hp, rfl⟩ hN
  have hlen : left.length + found.length = ds.length := by have := hp.length_eq; simpa using this
  have hok : okD 20 (.lst left) = true := okD_all fun d hd' => hd d (hp.mem_iff.mp (List.mem_append_left _ hd'))
  simp [dEq_nil hok]
  split
  · rename_i hne
    subst hne
    simp [F__law_mixed_6, outs_eq, List.range_succ]
    exact hq _ _ hy (by simpa using hp)
  · rename_i hne
    have hpos : 0 < left.length := List.length_pos_iff.mpr hne
    simp [F__law_mixed_4, F__law_mixed_5]
    refine call_off rfl hy (by omega) (by omega) fun r zs hz a b => ?_
    simp
    refine ⟨by omega, ?_⟩
    rw [ixN_pos a b]
    have hk : r.toNat < left.length := by omega
    simp [List.getElem?_eq_getElem hk]
    refine ⟨by omega, ?_⟩
    refine hN (left.eraseIdx r.toNat).length _ ?_ ⟨zs, _, _, rfl, hz, ?_, rfl⟩
    · rw [List.length_eraseIdx, if_pos hk]; omega
    · refine List.Perm.trans ?_ hp
      have p1 := erase_perm left _ hk
      refine List.Perm.trans ?_ (List.Perm.append_right found p1)
      rw [← List.append_assoc]
      exact List.perm_append_comm
theorem call_mixedO {C : Addr} {s : VS} {j i : Nat} {xs ds : List D} {Q : L → VS → Prop} (hs : at? s j = some (.own xs)) (hi : at? s i = some (.own ds)) (hij : j ≠ i) (h : Dice xs) (hd : ∀ d ∈ ds, okD 19 d = true) (hl : ds.length ≤ 60) (hq : ∀ es xs', Dice xs' → es.Perm ds → Q (.own es) ((s.set i none).set j (some (.own xs')))) :
    wp (callF (fn__law_mixed C) [.sl j, .sl i]) s Q := by
  rw [wp_callF]
  simp only [to_args_sl, hs, hi, to_some, to_args_dat, argsOf_nil]
  have hij' : i ≠ j := fun z => hij z.symm
  exact ⟨⟨by simp [hij'], rfl⟩, mixed_okO h (.inr rfl) hd hl hq⟩
theorem desk_ok {C : Addr} {xs : List D} {many : Int} {Q : L → VS → Prop} (h : Dice xs) (hm1 : 1 ≤ many) (hm6 : many ≤ 6) (hq : ∀ (bs : List Bx) (cs : List Cb) xs', Dice xs' → WF bs cs → Q (.d (.tup [.lst (bs.map Bx.d), .lst (cs.map Cb.d)])) [some (.own xs'), none]) : wp (fn__law_desk C).run [some (.own xs), some (.d (.int many))] Q := by
  refine wp_def ?_
  show wp (F__law_desk C) [some (.own xs), some (.d (.int many)), none, none, none, none, none, none, none, none] _
  simp only [F__law_desk, F__law_desk_0, wp_sSeq, F__law_desk_1]
  simp
  refine call_rows rfl h hm1 hm6 fun bs cs xs1 d1 w1 s1 => ?_
  obtain ⟨a, b, r, rfl, ha, hb, hr, hrl⟩ := d1
  have d1 : Dice (.int a :: .int b :: r.map D.int) := ⟨a, b, r, rfl, ha, hb, hr, hrl⟩
  simp [F__law_desk_2]
  refine call_more w1 s1 (Int.ediv_nonneg ha (by omega)) fun bs cs w => ?_
  have hnb := w.nb
  have hnc := w.nc
  simp [F__law_desk_3]
  refine ⟨by omega, ?_⟩
  refine call_mixed rfl d1 (fun d hd => ?_) (by rw [rgD_len]; omega) fun es xs2 d2 hp => ?_
  · rw [rgD_nat] at hd
    obtain ⟨k, _, rfl⟩ := List.mem_map.mp hd
    rfl
  rw [rgD_nat] at hp
  obtain ⟨order, ho, rfl⟩ := perm_map_inv hp
  have hmem : ∀ a, a < bs.length → a ∈ order := fun a h => ho.mem_iff.mpr (List.mem_range.mpr h)
  simp [F__law_desk_4, wp_fComp]
  refine ⟨by omega, ?_⟩
  refine lcF_inN (fun i acc s => acc = (List.range i).map (fun k => D.int (posOf order k : Int)) ∧ s = [some (.own xs2), some (.d (.int many)), some (.d (.lst (order.map fun (k : Nat) => D.int (k : Int)))), none, some (.d (.lst (cs.map Cb.d))), some (.d (.lst (bs.map Bx.d))), none, none, none, none]) ⟨rfl, rfl⟩ ?_ ?_
  · rintro i d acc s N hd ⟨rfl, rfl⟩ hN
    obtain ⟨hin, rfl⟩ := rgD_get hd
    have ei : (0 : Int) + (i : Int) = (i : Int) := by omega
    rw [ei]
    obtain ⟨e1, e2⟩ := posOf_ok (hmem i hin)
    have e3 : dIndex (.lst (order.map fun (k : Nat) => D.int (k : Int))) [.int (i : Int)] = some (.d (.int (posOf order i : Int))) := by
      show (if (flD (.int (i : Int)) && (order.map fun (k : Nat) => D.int (k : Int)).all flD) = true then _ else _) = _
      rw [flD_nats, e1]
      rfl
    simp [bYes, wipeV, isT, e3]
    refine ⟨by omega, hN _ _ ⟨?_, rfl⟩⟩
    rw [List.range_succ]; simp
  · rintro acc s ⟨rfl, rfl⟩
    rw [rgD_len]
    simp [wipeV, restV, keepD, F__law_desk_5, wp_fComp]
    have hcab := w.cab
    have hlt : ∀ a, a < bs.length → ((List.range bs.length).map fun k => D.int (posOf order k : Int))[a]? = some (.int (posOf order a : Int)) := fun a ha => by
      rw [List.getElem?_map, List.getElem?_range ha]; rfl
    have e4 : lcF (.tp [.nm 7, .nm 8, .nm 9]) [7, 8, 9] bYes (fTup (aCons (fS (f2 dIx (vLook 3) (vLook 7))) (aCons (fS (f2 dIx (vLook 3) (vLook 8))) (aCons (vGet 9) aNil)))) (cs.map Cb.d) []
        [some (.own xs2), some (.d (.int many)), some (.d (.lst (order.map fun (k : Nat) => D.int (k : Int)))), some (.d (.lst ((List.range bs.length).map fun k => D.int (posOf order k : Int)))), some (.d (.lst (cs.map Cb.d))), some (.d (.lst (bs.map Bx.d))), none, none, none, none]
        = some ((cs.map (reCb (posOf order))).map Cb.d, [some (.own xs2), some (.d (.int many)), some (.d (.lst (order.map fun (k : Nat) => D.int (k : Int)))), some (.d (.lst ((List.range bs.length).map fun k => D.int (posOf order k : Int)))), some (.d (.lst (cs.map Cb.d))), some (.d (.lst (bs.map Bx.d))), none, none, none, none]) := by
      rw [lcF_pure (fun d => match d with | .tup [.int o, .int t, .int h] => some (.tup [.int (posOf order o.toNat : Int), .int (posOf order t.toNat : Int), .int h]) | _ => none) (by simp; omega)]
      · congr 2
        rw [List.filterMap_map, List.map_map, ← List.filterMap_eq_map]
        congr 1
      · intro d hd
        obtain ⟨c, hc, rfl⟩ := List.mem_map.mp hd
        have := hcab c hc
        simp [Cb.d, bYes, Ev.atI_nat, hlt c.o this.1, hlt c.t this.2.1, wipeV]
    rw [e4]
    simp [wipeV, restV, keepD, F__law_desk_6, wp_fComp]
    have hlo : ∀ a ∈ order, a < bs.length := fun a ha => List.mem_range.mp (ho.mem_iff.mp ha)
    have hol : order.length = bs.length := by rw [ho.length_eq, List.length_range]
    have e5 : ∀ o4, lcF (.nm 6) [6] bYes (fS (f2 dIx (vLook 5) (vLook 6))) (order.map fun (k : Nat) => D.int (k : Int)) []
        [some (.own xs2), some (.d (.int many)), some (.d (.lst (order.map fun (k : Nat) => D.int (k : Int)))), some (.d (.lst ((List.range bs.length).map fun k => D.int (posOf order k : Int)))), o4, some (.d (.lst (bs.map Bx.d))), none, none, none, none]
        = some ((order.filterMap fun a => bs[a]?).map Bx.d, [some (.own xs2), some (.d (.int many)), some (.d (.lst (order.map fun (k : Nat) => D.int (k : Int)))), some (.d (.lst ((List.range bs.length).map fun k => D.int (posOf order k : Int)))), o4, some (.d (.lst (bs.map Bx.d))), none, none, none, none]) := by
      intro o4
      rw [lcF_pure (fun d => match d with | .int k => (bs[k.toNat]?).map Bx.d | _ => none) (by simp; omega)]
      · congr 2
        rw [List.filterMap_map, List.map_filterMap]
        congr 1
      · intro d hd
        obtain ⟨a, ha, rfl⟩ := List.mem_map.mp hd
        simp [bYes, Ev.atI_nat, List.getElem?_eq_getElem (hlo a ha), wipeV]
    rw [e5]
    simp [wipeV, restV, keepD]
    refine call_mixedO rfl rfl (by decide) d2 (fun d hd => ?_) (by simp; omega) fun es xs3 d3 hp2 => ?_
    · obtain ⟨c, _, rfl⟩ := List.mem_map.mp hd
      exact okD_cb (n := 18) _
    · rw [← List.map_map] at hp2
      obtain ⟨cs', hp3, rfl⟩ := perm_map_inv hp2
      simp [outs_eq, List.range_succ]
      have w' := wf_perm w ho (fun a ha => (posOf_ok (hmem a ha)).2) hp3
      have := hq _ _ xs3 d3 w'
      simpa using this
theorem call_desk {C : Addr} {s : VS} {j : Nat} {xs : List D} {many : Int} {Q : L → VS → Prop} (hs : at? s j = some (.own xs)) (h : Dice xs) (hm1 : 1 ≤ many) (hm6 : many ≤ 6) (hq : ∀ (bs : List Bx) (cs : List Cb) xs', Dice xs' → WF bs cs → Q (.d (.tup [.lst (bs.map Bx.d), .lst (cs.map Cb.d)])) (s.set j (some (.own xs')))) :
    wp (callF (fn__law_desk C) [.sl j, .dat (.int many)]) s Q := by
  rw [wp_callF]
  simp only [to_args_sl, hs, to_some, to_args_dat, argsOf_nil]
  exact ⟨⟨rfl, rfl⟩, desk_ok h hm1 hm6 hq⟩
end Hd
namespace Hd
open PySem PySem.Spec PyProof.Rows L2 Ev
def HasF (C : Addr) (f : Str) (d : D) (l : L) : Prop := ∀ s : VS, fldOf C f (some l :: s) (pkOf 0 l) = some d
def IsC (C : Addr) (m : Str) (l : L) : Prop := ∀ s : VS, ∃ fs, clsOf (some l :: s) (pkOf 0 l) = some (C, fs) ∧ m ∉ fs
theorem callM {fn : Fn} {l : L} {s : VS} {ds : List D} {Q : L → VS → Prop} (hn : ds.length + 1 = fn.n) (h : wp fn.run (some l :: ds.map fun d => some (.d d)) fun r os => (∃ os', os = some l :: os' ∧ os'.length = ds.length) ∧ Q r (some l :: s)) :
    wp (callF fn (pkOf 0 l :: ds.map Pk.dat)) (some l :: s) Q := by
  have a1 : ∀ (s0 : VS) (ds : List D), argsOf s0 (ds.map Pk.dat) = some (ds.map fun d => some (.d d)) := fun s0 ds => by
    induction ds with
    | nil => rfl
    | cons d r ih => rw [List.map_cons, argsOf, ih]; rfl
  have a2 : ∀ (ds : List D), slND (ds.map Pk.dat) = true := fun ds => by
    induction ds with
    | nil => rfl
    | cons d r ih => exact ih
  have a3 : ∀ (ds : List D) j, hasSl j (ds.map Pk.dat) = false := fun ds j => by
    induction ds with
    | nil => rfl
    | cons d r ih => exact ih
  have a4 : ∀ (ds : List D) (s0 os : VS), os.length = ds.length → setO s0 (ds.map Pk.dat) os = s0 := fun ds => by
    induction ds with
    | nil => intro s0 os _; simp
    | cons d r ih =>
      intro s0 os e
      cases os with
      | nil => cases e
      | cons o os => rw [List.map_cons, setO_dat]; exact ih s0 os (by simpa using e)
  rw [wp_callF]
  cases l with
  | d x =>
    rw [pkOf_d, to_args_dat, a1]
    refine ⟨⟨by rw [slND_dat]; exact a2 ds, by simp; omega⟩, wp_mono h ?_⟩
    rintro r os ⟨⟨os', rfl, hl⟩, q⟩
    rw [setO_dat, a4 ds _ _ hl]; exact q
  | own x =>
    rw [pkOf_own, to_args_sl, at_zero, to_some, a1]
    refine ⟨⟨by rw [slND_sl, a3, a2]; rfl, by simp; omega⟩, wp_mono h ?_⟩
    rintro r os ⟨⟨os', rfl, hl⟩, q⟩
    rw [setO_sl, a4 ds _ _ hl]; exact q
  | odi k x =>
    rw [pkOf_odi, to_args_sl, at_zero, to_some, a1]
    refine ⟨⟨by rw [slND_sl, a3, a2]; rfl, by simp; omega⟩, wp_mono h ?_⟩
    rintro r os ⟨⟨os', rfl, hl⟩, q⟩
    rw [setO_sl, a4 ds _ _ hl]; exact q
  | obj a b c =>
    rw [pkOf_obj, to_args_sl, at_zero, to_some, a1]
    refine ⟨⟨by rw [slND_sl, a3, a2]; rfl, by simp; omega⟩, wp_mono h ?_⟩
    rintro r os ⟨⟨os', rfl, hl⟩, q⟩
    rw [setO_sl, a4 ds _ _ hl]; exact q
theorem to_cls {C : Addr} {m : Str} {l : L} {s : VS} {P : VS → Prop} (h : IsC C m l) (hp : P (some l :: s)) : to (clsOf (some l :: s) (pkOf 0 l)) (some l :: s) fun p s => (p.1 = C ∧ m ∉ p.2) ∧ P s := by
  obtain ⟨fs, e, hm⟩ := h s
  rw [e]
  exact ⟨⟨rfl, hm⟩, hp⟩
theorem call_must {C : Addr} {s : VS} {x y : D} {Q : L → VS → Prop} (hq : Q (.d .non) s) : wp (callF (fn_must C) [.dat (.bl true), .dat x, .dat y]) s Q := by
  rw [wp_callF]
  simp only [to_some, to_args_dat, argsOf_nil]
  refine ⟨⟨rfl, rfl⟩, ?_⟩
  refine wp_def ?_
  show wp (F_must C) [some (.d (.bl true)), some (.d x), some (.d y)] _
  simp [F_must, F_must_0, F_must_1, outs_eq, List.range_succ]
  exact hq
@[simp] theorem dIn_sign {c : Nat} {z : Str} : dIn (.str ⟨#[c]⟩) (.str z) = some (decide (c ∈ z.cps.toList)) := rfl
theorem name_ok {C : Addr} {n : Str} {Q : L → VS → Prop} (h : okName n) (hq : Q (.d (.bl true)) [none]) : wp (fn_is_name C).run [some (.d (.str n))] Q := by
  refine wp_def ?_
  show wp (F_is_name C) [some (.d (.str n)), none] _
  obtain ⟨h1, h2, h3⟩ := h
  have e : lcF (.nm 1) [1] (c2 dNotIn (vLook 1) (fK (rt (.str "abcdefghijklmnopqrstuvwxyz")))) (vGet 1) (signs n) [] [some (.d (.str n)), none] = some ([], [some (.d (.str n)), none]) := by
    rw [lcF_pure (fun _ => none) (by unfold Ev.signs; rw [List.length_map, ← len_cps]; omega)]
    · simp
    · intro d hd
      unfold Ev.signs at hd
      obtain ⟨c, hc, rfl⟩ := List.mem_map.mp hd
      have h4 := h3 c hc
      have h5 : decide (c ∈ (Str.ofString "abcdefghijklmnopqrstuvwxyz").cps.toList) = true := decide_eq_true h4
      simp only [asg_nm, List.length_cons, List.length_nil, List.set_cons_succ, List.set_cons_zero, wp_c2, wp_vLook, at_succ, at_zero, to_some, pkOf_d, wp_fK, wp_rt, res_dat, dNotIn_eq, dIn_sign, h5]
      simp [wipeV]
      exact Array.mem_toList_iff.mp h4
  have h4 : n.length ≤ 100000 := by omega
  have h1 : (1 : Int) ≤ (n.length : Int) := by omega
  have h2 : (n.length : Int) ≤ 8 := by omega
  simp [F_is_name, F_is_name_0, F_is_name_1, wp_fComp, h4, h1, h2, wipeV, restV, keepD, e, dEq_nil (xs := []) rfl, outs_eq, List.range_succ]
  exact hq
theorem call_name {C : Addr} {s : VS} {n : Str} {Q : L → VS → Prop} (h : okName n) (hq : Q (.d (.bl true)) s) : wp (callF (fn_is_name C) [.dat (.str n)]) s Q := by
  rw [wp_callF]
  simp only [to_some, to_args_dat, argsOf_nil]
  exact ⟨⟨rfl, rfl⟩, name_ok h hq⟩
theorem names_fm (bs : List Bx) : (bs.map Bx.d).filterMap (fun d => match d with | .tup [.str w, .str n] => if w = Str.ofString "in" ∨ w = Str.ofString "out" then some (D.str n) else none | _ => none) = (bs.filterMap Bx.name).map D.str := by
  rw [List.filterMap_map, List.map_filterMap]
  congr 1
  funext b
  cases b <;> simp [Bx.d, Bx.name, Function.comp]
theorem d_names {C : Addr} {l : L} {bs : List Bx} {a : Nat} {Q : L → VS → Prop} (hk : HasF C "kept" (.lst (bs.map Bx.d)) l) (hb : bs.length ≤ 10) (ha : a ≤ bs.length) (hq : Q (.own (((bs.take a).filterMap Bx.name).map D.str)) [some l, none]) : wp (fn_Desk_names C).run [some l, some (.d (.int (a : Int)))] Q := by
  refine wp_def ?_
  show wp (F_Desk_names C) [some l, some (.d (.int (a : Int))), none] _
  have hk := hk
  unfold HasF at hk
  have e : lcF (.nm 2) [2] (c2 dIn (fK (fS (f2 dIx (vLook 2) (fK (rt (.int 0)))))) (fK (fTup (aCons (rt (.str "in")) (aCons (rt (.str "out")) aNil))))) (fS (f2 dIx (vLook 2) (fK (rt (.int 1))))) ((bs.map Bx.d).take a) [] [some l, some (.d (.int (a : Int))), none]
      = some (((bs.take a).filterMap Bx.name).map D.str, [some l, some (.d (.int (a : Int))), none]) := by
    rw [← List.map_take, lcF_pure _ (by simp; omega), names_fm]
    intro d hd
    obtain ⟨b, _, rfl⟩ := List.mem_map.mp hd
    cases b <;> simp [Bx.d, wipeV, ofStr_inj]
  simp [F_Desk_names, F_Desk_names_0, F_Desk_names_1, wp_fComp, hk, wipeV, restV, keepD, outs_eq, List.range_succ]
  rw [cutL_take (by simp; omega), e]
  simp [wipeV, restV, keepD]
  exact hq
def Bx.size : Bx → Int
  | .times _ _ => 3
  | .part _ _ => 3
  | _ => 2
theorem sizes_ok (b : Bx) : dTab t_SIZES (.str b.word) (.int 0) = some (.int b.size) := by
  have h1 : t_SIZES.lookup (Str.ofString "in") = some 2 := by decide +kernel
  have h2 : t_SIZES.lookup (Str.ofString "out") = some 2 := by decide +kernel
  have h3 : t_SIZES.lookup (Str.ofString "sum") = some 2 := by decide +kernel
  have h4 : t_SIZES.lookup (Str.ofString "most") = some 2 := by decide +kernel
  have h5 : t_SIZES.lookup (Str.ofString "times") = some 3 := by decide +kernel
  have h6 : t_SIZES.lookup (Str.ofString "part") = some 3 := by decide +kernel
  cases b <;> simp [dTab, Bx.word, Bx.size, h1, h2, h3, h4, h5, h6]
theorem names_fresh {bs : List Bx} {a : Nat} {b : Bx} {n : Str} (h : (bs.filterMap Bx.name).Nodup) (e : bs[a]? = some b) (hn : b.name = some n) : n ∉ (bs.take a).filterMap Bx.name := fun hm => by
  have hl := (List.getElem?_eq_some_iff.mp e).1
  have sp : bs = bs.take a ++ b :: bs.drop (a + 1) := by
    have : bs[a] = b := (List.getElem?_eq_some_iff.mp e).2
    rw [← this, ← List.drop_eq_getElem_cons hl, List.take_append_drop]
  rw [sp, List.filterMap_append, List.filterMap_cons, hn, List.nodup_append] at h
  exact h.2.2 n hm n (by simp) rfl
theorem d_is_box {C : Addr} {l : L} {bs : List Bx} {a : Nat} {b : Bx} {Q : L → VS → Prop} (hk : HasF C "kept" (.lst (bs.map Bx.d)) l) (hc : IsC C "names" l) (hb : bs.length ≤ 10) (ha : bs[a]? = some b) (hbo : b.ok) (hnd : (bs.filterMap Bx.name).Nodup) (hq : Q (.d (.bl true)) [some l, none]) : wp (fn_Desk_is_box C).run [some l, some (.d (.int (a : Int)))] Q := by
  refine wp_def ?_
  show wp (F_Desk_is_box C) [some l, some (.d (.int (a : Int))), none] _
  have hk2 := hk
  unfold HasF at hk2
  have hal := (List.getElem?_eq_some_iff.mp ha).1
  simp only [F_Desk_is_box, F_Desk_is_box_0, wp_sSeq, F_Desk_is_box_1]
  simp [hk2, Ev.atI_nat, ha]
  have hlen : dLen [b.d] = some (.d (.int b.size)) := by cases b <;> rfl
  have hsz : b.size ≠ 0 := by cases b <;> simp [Bx.size]
  simp [F_Desk_is_box_2, hlen, hsz, sizes_ok]
  have hw := word_mid (b := b)
  simp only [F_Desk_is_box_5]
  simp
  cases hmid : b.mid with
  | false =>
    obtain ⟨n, hn, hd1, hok⟩ : ∃ n, b.name = some n ∧ dIx b.d (.int 1) = some (.d (.str n)) ∧ okName n := by
      cases b with
      | inn n => exact ⟨n, rfl, rfl, hbo⟩
      | out n => exact ⟨n, rfl, rfl, hbo⟩
      | _ => cases hmid
    have hio : b.word = Str.ofString "in" ∨ b.word = Str.ofString "out" := by
      rw [hmid] at hw; simpa using hw
    simp [hio, F_Desk_is_box_6, F_Desk_is_box_7, hd1]
    refine call_name hok ?_
    simp [hd1, wp_fMeth]
    refine to_cls hc ?_
    refine callM (ds := [.int (a : Int)]) rfl ?_
    refine d_names hk hb (by omega) ⟨⟨[none], rfl, rfl⟩, ?_⟩
    have := names_fresh hnd ha hn
    simp [this, outs_eq, List.range_succ]
    exact hq
  | true =>
    have hio : ¬(b.word = Str.ofString "in" ∨ b.word = Str.ofString "out") := by
      rw [hmid] at hw; simpa using hw
    rw [if_neg hio]
    simp only [F_Desk_is_box_8, F_Desk_is_box_11, F_Desk_is_box_14]
    cases b with
    | inn n => cases hmid
    | out n => cases hmid
    | sum v => simp [Bx.word, Bx.d, ofStr_inj, hbo.1, hbo.2, outs_eq, List.range_succ]; exact hq
    | most v => simp [Bx.word, Bx.d, ofStr_inj, hbo.1, hbo.2, outs_eq, List.range_succ]; exact hq
    | times k v => obtain ⟨⟨h1, h2⟩, h3, h4⟩ := hbo; simp [Bx.word, Bx.d, ofStr_inj, h1, h2, h3, h4, outs_eq, List.range_succ]; exact hq
    | part k v => obtain ⟨⟨h1, h2⟩, h3, h4⟩ := hbo; simp [Bx.word, Bx.d, ofStr_inj, h1, h2, h3, h4, outs_eq, List.range_succ]; exact hq
theorem word_out {b : Bx} : (b.word = Str.ofString "out") ↔ b.isOut = true := by cases b <;> simp [Bx.word, Bx.isOut, ofStr_inj]
theorem word_in {b : Bx} : (b.word = Str.ofString "in") ↔ b.isIn = true := by cases b <;> simp [Bx.word, Bx.isIn, ofStr_inj]
theorem d_is_cable {C : Addr} {l : L} {bs : List Bx} {c : Cb} {x y : Bx} {Q : L → VS → Prop} (hk : HasF C "kept" (.lst (bs.map Bx.d)) l) (hx : bs[c.o]? = some x) (hy : bs[c.t]? = some y) (h0 : 0 ≤ c.h) (h9 : c.h ≤ 99) (hxo : x.isOut = false) (hyi : y.isIn = false) (hq : Q (.d (.bl true)) [some l, none]) : wp (fn_Desk_is_cable C).run [some l, some (.d c.d)] Q := by
  refine wp_def ?_
  show wp (F_Desk_is_cable C) [some l, some (.d c.d), none, none, none] _
  unfold HasF at hk
  have hol := (List.getElem?_eq_some_iff.mp hx).1
  have htl := (List.getElem?_eq_some_iff.mp hy).1
  have w1 : ¬(x.word = Str.ofString "out") := fun h => by rw [word_out.mp h] at hxo; cases hxo
  have w2 : ¬(y.word = Str.ofString "in") := fun h => by rw [word_in.mp h] at hyi; cases hyi
  simp only [F_Desk_is_cable, F_Desk_is_cable_0, wp_sSeq, F_Desk_is_cable_1]
  simp [Cb.d]
  have e1 : (c.o : Int) < (bs.length : Int) := by omega
  have e2 : (c.t : Int) < (bs.length : Int) := by omega
  simp [F_Desk_is_cable_2, hk, e1, e2, h0, h9]
  simp [F_Desk_is_cable_5, hk, Ev.atI_nat, hx, hy, w1, w2, outs_eq, List.range_succ]
  exact hq
end Hd
namespace Hd
open PySem PySem.Spec PyProof.Rows L2 Ev
abbrev nD (l : List Nat) : List D := l.map fun (k : Nat) => D.int (k : Int)
theorem nD_int (l : List Nat) : nD l = (l.map fun (k : Nat) => (k : Int)).map D.int := by unfold nD; rw [List.map_map]; rfl
@[simp] theorem dEq_nats_nil {l : List Nat} : dEq (.lst (nD l)) (.lst []) = some (decide (l = [])) := by
  rw [nD_int, dEq_ints_nil]; simp
@[simp] theorem dIn_nats {a : Nat} {l : List Nat} : dIn (.int (a : Int)) (.lst (nD l)) = some (decide (a ∈ l)) := by
  rw [nD_int, dIn_ints]
  congr 1
  rw [Bool.eq_iff_iff, decide_eq_true_iff, decide_eq_true_iff, List.mem_map]
  constructor
  · rintro ⟨k, hk, e⟩
    have : k = a := by omega
    rw [← this]; exact hk
  · intro h; exact ⟨a, h, rfl⟩
def wordIs (bs : List Bx) (w : Str) (k : Nat) : Bool := match bs[k]? with
  | some b => decide (b.word = w)
  | none => false
theorem d_ends {C : Addr} {l : L} {bs : List Bx} {w : Str} {Q : L → VS → Prop} (hk : HasF C "kept" (.lst (bs.map Bx.d)) l) (hb : bs.length ≤ 10) (hq : Q (.own (nD ((List.range bs.length).filter (wordIs bs w)))) [some l, none]) : wp (fn_Desk_ends C).run [some l, some (.d (.str w))] Q := by
  refine wp_def ?_
  show wp (F_Desk_ends C) [some l, some (.d (.str w)), none] _
  unfold HasF at hk
  simp [F_Desk_ends, F_Desk_ends_0, F_Desk_ends_1, wp_fComp, hk, wipeV]
  refine ⟨by omega, ?_⟩
  refine lcF_inN (fun i acc s => acc = nD ((List.range i).filter (wordIs bs w)) ∧ s = [some l, some (.d (.str w)), none]) ⟨rfl, rfl⟩ ?_ ?_
  · rintro i d acc s N hd ⟨rfl, rfl⟩ hN
    obtain ⟨hin, rfl⟩ := rgD_get hd
    have ei : (0 : Int) + (i : Int) = (i : Int) := by omega
    rw [ei]
    have hrl : ((List.range i).filter (wordIs bs w)).length ≤ i := by
      have := List.length_filter_le (wordIs bs w) (List.range i)
      simpa using this
    have hwi : wordIs bs w i = decide (bs[i].word = w) := by unfold wordIs; rw [List.getElem?_eq_getElem hin]
    simp [hk, Ev.atI_nat, List.getElem?_eq_getElem hin, wipeV]
    split
    · rename_i hq
      refine ⟨by omega, hN _ _ ⟨?_, rfl⟩⟩
      rw [List.range_succ, List.filter_append]
      simp [hwi, hq, nD]
    · rename_i hq
      refine hN _ _ ⟨?_, rfl⟩
      rw [List.range_succ, List.filter_append]
      simp [hwi, hq, nD]
  · rintro acc s ⟨rfl, rfl⟩
    rw [rgD_len]
    simp [restV, keepD, outs_eq, List.range_succ]
    exact hq
theorem d_is_twice {C : Addr} {l : L} {bs : List Bx} {cs : List Cb} {a : Nat} {b : Bx} {Q : L → VS → Prop} (hk : HasF C "kept" (.lst (bs.map Bx.d)) l) (hw : HasF C "wires" (.lst (cs.map Cb.d)) l) (hc : cs.length ≤ 20) (ha : bs[a]? = some b) (h1 : b.isOut = true → (cs.filter fun c => decide (c.t = a)).length ≤ 1) (hq : Q (.d (.bl false)) [some l, none]) : wp (fn_Desk_is_twice C).run [some l, some (.d (.int (a : Int)))] Q := by
  refine wp_def ?_
  show wp (F_Desk_is_twice C) [some l, some (.d (.int (a : Int))), none] _
  unfold HasF at hk hw
  simp [F_Desk_is_twice, F_Desk_is_twice_0, F_Desk_is_twice_1, hk, Ev.atI_nat, ha]
  split
  · rename_i ho
    have e : lcF (.nm 2) [2] (c2 dEq (fK (fS (f2 dIx (vLook 2) (fK (rt (.int 1)))))) (vLook 1)) (vGet 2) (cs.map Cb.d) [] [some l, some (.d (.int (a : Int))), none] = some ((cs.filter fun c => decide (c.t = a)).map Cb.d, [some l, some (.d (.int (a : Int))), none]) := by
      rw [lcF_pure (fun d => match d with | .tup [.int x, .int y, z] => if y = (a : Int) then some (.tup [.int x, .int y, z]) else none | _ => none) (by simp; omega)]
      · congr 2
        rw [List.filterMap_map, ← fm_filter]
        congr 1
        funext c
        simp only [Function.comp, Cb.d]
        by_cases q : c.t = a
        · simp [q]
        · have : ¬((c.t : Int) = (a : Int)) := by omega
          simp [q, this]
      · intro d hd
        obtain ⟨c, _, rfl⟩ := List.mem_map.mp hd
        simp [wipeV, Cb.d]
    have := h1 (word_out.mp ho)
    have h2 : ¬((1 : Int) < ((cs.filter fun c => decide (c.t = a)).length : Int)) := by omega
    simp [wp_fComp, hw, wipeV, e, restV, keepD, h2, outs_eq, List.range_succ]
    exact hq
  · simp [outs_eq, List.range_succ]
    exact hq
inductive Reach (cs : List Cb) (sd : Bool) (st : List Nat) : Nat → Prop
  | start {i : Nat} : i ∈ st → Reach cs sd st i
  | step {c : Cb} : c ∈ cs → Reach cs sd st (if sd then c.t else c.o) → Reach cs sd st (if sd then c.o else c.t)
def srcS (sd : Bool) (c : Cb) : Nat := if sd then c.t else c.o
def dstS (sd : Bool) (c : Cb) : Nat := if sd then c.o else c.t
structure Led (n : Nat) (cs : List Cb) (sd : Bool) (st found waiting : List Nat) (at_ : Option Nat) (k : Nat) : Prop where
  st : ∀ x ∈ st, x ∈ found
  wt : ∀ x ∈ waiting, x ∈ found
  nd : found.Nodup
  lt : ∀ x ∈ found, x < n
  cl : ∀ x ∈ found, x ∉ waiting → at_ ≠ some x → ∀ c ∈ cs, srcS sd c = x → dstS sd c ∈ found
  ca : ∀ x, at_ = some x → ∀ c ∈ cs.take k, srcS sd c = x → dstS sd c ∈ found
theorem nodup_sub : ∀ {l m : List Nat}, l.Nodup → (∀ x ∈ l, x ∈ m) → l.length ≤ m.length
  | [], _, _, _ => Nat.zero_le _
  | x :: l, m, nd, h => by
    have hx := h x List.mem_cons_self
    have hn : x ∉ l := (List.nodup_cons.mp nd).1
    have ih := nodup_sub (l := l) (m := m.erase x) (List.nodup_cons.mp nd).2 fun y hy => (List.mem_erase_of_ne (fun e => hn (by rw [← e]; exact hy))).mpr (h y (List.mem_cons_of_mem _ hy))
    rw [List.length_erase_of_mem hx] at ih
    have := List.length_pos_of_mem hx
    rw [List.length_cons]; omega
theorem nodup_len {l : List Nat} {n : Nat} (nd : l.Nodup) (lt : ∀ x ∈ l, x < n) : l.length ≤ n := by
  have := nodup_sub nd (m := List.range n) fun x hx => List.mem_range.mpr (lt x hx)
  simpa using this
theorem nodup_full {l : List Nat} {n : Nat} (nd : l.Nodup) (lt : ∀ x ∈ l, x < n) (h : ∀ x, x < n → x ∈ l) : l.length = n := by
  have h1 := nodup_len nd lt
  have h2 := nodup_sub List.nodup_range (m := l) fun x hx => h x (List.mem_range.mp hx)
  rw [List.length_range] at h2
  omega
theorem nodup_snoc {l : List Nat} {x : Nat} (nd : l.Nodup) (h : x ∉ l) : (l ++ [x]).Nodup := by
  rw [List.nodup_append]
  exact ⟨nd, by simp, fun a ha b hb e => h (by rw [List.mem_singleton.mp hb] at e; rw [← e]; exact ha)⟩
theorem d_led {C : Addr} {l : L} {n : Nat} {cs : List Cb} {st : List Nat} {sd : Bool} {Q : L → VS → Prop} (hw : HasF C "wires" (.lst (cs.map Cb.d)) l) (hn : n ≤ 10) (hc : ∀ c ∈ cs, c.o < n ∧ c.t < n) (hcl : cs.length ≤ 20) (hnd : st.Nodup) (hlt : ∀ x ∈ st, x < n)
    (hq : ∀ found : List Nat, (∀ i, Reach cs sd st i → i ∈ found) → Q (.own (nD found)) [some l, none, none]) : wp (fn_Desk_led_from C).run [some l, some (.d (.lst (nD st))), some (.d (.int (if sd then 1 else 0)))] Q := by
  refine wp_def ?_
  show wp (F_Desk_led_from C) [some l, some (.d (.lst (nD st))), some (.d (.int (if sd then 1 else 0))), none, none, none, none] _
  unfold HasF at hw
  simp only [F_Desk_led_from, F_Desk_led_from_0, wp_sSeq, F_Desk_led_from_1]
  simp [F_Desk_led_from_2]
  simp only [F_Desk_led_from_3]
  have hsl := nodup_len hnd hlt
  refine wp_whileN (fun m s => ∃ (found waiting : List Nat) (o5 o6 : Option L), s = [some l, some (.d (.lst (nD st))), some (.d (.int (if sd then 1 else 0))), some (.own (nD found)), some (.own (nD waiting)), o5, o6] ∧ Led n cs sd st found waiting none 0 ∧ m = (n - found.length) + waiting.length ∧ m ≤ n) 1000 _ (?_ : (n - st.length) + st.length < 1000) ⟨st, st, none, none, rfl, ⟨fun x h => h, fun x h => h, hnd, hlt, fun x h1 h2 => absurd h1 h2, fun x h => by cases h⟩, rfl, by omega⟩ ?_
  · omega
  rintro m s N ⟨found, waiting, o5, o6, rfl, hL, rfl, hmn⟩ hN
  have hfl := nodup_len hL.nd hL.lt
  simp
  split
  · rename_i he
    subst he
    simp [F_Desk_led_from_12, outs_eq, List.range_succ]
    refine hq found fun i hr => ?_
    induction hr with
    | start h => exact hL.st _ h
    | step hc1 _ ih => exact hL.cl _ ih (by simp) (by simp) _ hc1 rfl
  · rename_i hne
    obtain ⟨ws, a, rfl⟩ : ∃ ws a, waiting = ws ++ [a] := ⟨waiting.dropLast, waiting.getLast hne, (List.dropLast_concat_getLast hne).symm⟩
    simp [F_Desk_led_from_4, F_Desk_led_from_5, nD]
    simp [F_Desk_led_from_6, hw]
    refine wp_loopN (fun i s => ∃ (found' waiting' : List Nat) (o6 : Option L), s = [some l, some (.d (.lst (nD st))), some (.d (.int (if sd then 1 else 0))), some (.own (nD found')), some (.own (nD waiting')), some (.d (.int (a : Int))), o6] ∧ Led n cs sd st found' waiting' (some a) i ∧ (n - found'.length) + waiting'.length = (n - found.length) + ws.length) ⟨found, ws, o6, rfl, ⟨hL.st, fun x h => hL.wt x (by simp [h]), hL.nd, hL.lt, fun x h1 h2 h3 => hL.cl x h1 (by simp [h2]; exact fun z => h3 (by rw [z])) (by simp), fun x hx c hc1 => by simp at hc1⟩, rfl⟩ ?_ ?_
    · rintro i d s N2 hd2 ⟨f', w', o6, rfl, hL', hm⟩ hN2
      rw [List.getElem?_map] at hd2
      cases ec : cs[i]? with
      | none => rw [ec] at hd2; cases hd2
      | some c =>
        rw [ec] at hd2
        cases hd2
        have hcm := List.mem_of_getElem? ec
        have hcb := hc c hcm
        have htk : cs.take (i + 1) = cs.take i ++ [c] := by rw [List.take_succ, ec]; rfl
        have e1 : dIx c.d (.int (if sd then 1 else 0)) = some (.d (.int (srcS sd c : Int))) := by cases sd <;> rfl
        have e2 : dIx c.d (.int (1 - (if sd then 1 else 0))) = some (.d (.int (dstS sd c : Int))) := by cases sd <;> rfl
        have hdl : dstS sd c < n := by cases sd <;> simp [dstS] <;> omega
        have hfl' := nodup_len hL'.nd hL'.lt
        simp [F_Desk_led_from_7, F_Desk_led_from_8, e1, e2]
        split
        · rename_i hsrc
          have hsrc : srcS sd c = a := by omega
          split
          · rename_i hin
            refine hN2 _ ⟨f', w', _, rfl, ⟨hL'.st, hL'.wt, hL'.nd, hL'.lt, hL'.cl, fun x hx c' hc' e => ?_⟩, hm⟩
            rw [htk] at hc'
            rcases List.mem_append.mp hc' with h | h
            · exact hL'.ca x hx c' h e
            · rw [List.mem_singleton.mp h]; exact hin
          · rename_i hin
            have hfn : f'.length < n := by
              have := nodup_len (nodup_snoc hL'.nd hin) (n := n) fun x hx => by
                rcases List.mem_append.mp hx with h | h
                · exact hL'.lt x h
                · rw [List.mem_singleton.mp h]; exact hdl
              simp at this; omega
            have hwn : w'.length < 100000 := by simp at hmn; omega
            simp [F_Desk_led_from_9, F_Desk_led_from_10, F_Desk_led_from_11, e2, nD]
            refine ⟨by omega, hwn, ?_⟩
            refine hN2 _ ⟨f' ++ [dstS sd c], w' ++ [dstS sd c], some (.d c.d), by simp [nD], ⟨?_, ?_, nodup_snoc hL'.nd hin, ?_, ?_, ?_⟩, by simp; omega⟩
            · intro x hx; exact List.mem_append_left _ (hL'.st x hx)
            · intro x hx
              rcases List.mem_append.mp hx with h | h
              · exact List.mem_append_left _ (hL'.wt x h)
              · exact List.mem_append_right _ h
            · intro x hx
              rcases List.mem_append.mp hx with h | h
              · exact hL'.lt x h
              · rw [List.mem_singleton.mp h]; exact hdl
            · intro x hx hxw hxa c' hc' e
              rcases List.mem_append.mp hx with h | h
              · exact List.mem_append_left _ (hL'.cl x h (fun z => hxw (List.mem_append_left _ z)) hxa c' hc' e)
              · exact absurd (List.mem_append_right _ h) hxw
            · intro x hx c' hc' e
              rw [htk] at hc'
              rcases List.mem_append.mp hc' with h | h
              · exact List.mem_append_left _ (hL'.ca x hx c' h e)
              · rw [List.mem_singleton.mp h]; simp
        · rename_i hsrc
          have hsrc : srcS sd c ≠ a := by omega
          refine hN2 _ ⟨f', w', _, rfl, ⟨hL'.st, hL'.wt, hL'.nd, hL'.lt, hL'.cl, fun x hx c' hc' e => ?_⟩, hm⟩
          rw [htk] at hc'
          rcases List.mem_append.mp hc' with h | h
          · exact hL'.ca x hx c' h e
          · rw [List.mem_singleton.mp h] at e
            cases hx
            exact absurd e hsrc
    · rintro s ⟨f', w', o6, rfl, hL', hm⟩
      simp only [thenF_nx, wp_sNil, lend_nx]
      refine hN ((n - f'.length) + w'.length) _ (by simp; omega) ⟨f', w', _, _, rfl, ⟨hL'.st, hL'.wt, hL'.nd, hL'.lt, fun x h1 h2 _ c hc1 e => ?_, fun x h => by cases h⟩, rfl, by simp at hmn; omega⟩
      by_cases q : x = a
      · subst q
        have := hL'.ca x rfl
        rw [List.length_map, List.take_length] at this
        exact this c hc1 e
      · exact hL'.cl x h1 h2 (fun z => q (Option.some.inj z).symm) c hc1 e
end Hd
namespace Hd
open PySem PySem.Spec PyProof.Rows L2 Ev
def Topo (cs : List Cb) (order : List Nat) : Prop := ∀ j a, order[j]? = some a → ∀ c ∈ cs, c.t = a → c.h = 0 → c.o ∈ order.take j
theorem Topo.snoc {cs : List Cb} {order : List Nat} {a : Nat} (h : Topo cs order) (ha : ∀ c ∈ cs, c.t = a → c.h = 0 → c.o ∈ order) : Topo cs (order ++ [a]) := by
  intro j x e c hc ht hz
  rcases Nat.lt_or_ge j order.length with q | q
  · rw [List.getElem?_append_left q] at e
    rw [List.take_append_of_le_length (by omega)]
    exact h j x e c hc ht hz
  · have hl := (List.getElem?_eq_some_iff.mp e).1
    simp at hl
    have : j = order.length := by omega
    subst this
    rw [List.getElem?_append_right (Nat.le_refl _), Nat.sub_self] at e
    cases e
    rw [List.take_append_of_le_length (Nat.le_refl _), List.take_length]
    exact ha c hc ht hz
structure Ord (n : Nat) (cs : List Cb) (found : List Nat) : Prop where
  nd : found.Nodup
  lt : ∀ x ∈ found, x < n
  topo : Topo cs found
def Stuck (n : Nat) (cs : List Cb) (found : List Nat) (k : Nat) : Prop := ∀ a, a < k → a ∉ found → ∃ c ∈ cs, c.t = a ∧ c.h = 0 ∧ c.o ∉ found
theorem ord_full {n : Nat} {cs : List Cb} {found : List Nat} (o : Ord n cs found) (st : Stuck n cs found n) (hc : ∀ c ∈ cs, c.o < n ∧ c.t < n) (hr : ∃ ρ : Nat → Int, ∀ c ∈ cs, c.h = 0 → ρ c.o < ρ c.t) : ∀ x, x < n → x ∈ found := by
  obtain ⟨ρ, hρ⟩ := hr
  -- a missing box of least rank
  have key : ∀ (k : Nat) (a : Nat), a < n → a ∉ found → ∃ b, b < n ∧ b ∉ found ∧ ρ b ≤ ρ a - k := by
    intro k
    induction k with
    | zero => intro a h1 h2; exact ⟨a, h1, h2, by omega⟩
    | succ k ih =>
      intro a h1 h2
      obtain ⟨b, b1, b2, b3⟩ := ih a h1 h2
      obtain ⟨c, c1, c2, c3, c4⟩ := st b b1 b2
      have := hρ c c1 c3
      exact ⟨c.o, (hc c c1).1, c4, by rw [c2] at this; omega⟩
  intro x hx
  by_cases q : x ∈ found
  · exact q
  · exfalso
    -- ranks of boxes below n are bounded from below
    have bd : ∀ m : Nat, ∃ B : Int, ∀ b, b < m → B ≤ ρ b := by
      intro m
      induction m with
      | zero => exact ⟨0, fun b h => by omega⟩
      | succ m ih =>
        obtain ⟨B, hB⟩ := ih
        refine ⟨min B (ρ m), fun b h => ?_⟩
        rcases Nat.lt_or_ge b m with z | z
        · have := hB b z; omega
        · have : b = m := by omega
          subst this; omega
    obtain ⟨B, hB⟩ := bd n
    obtain ⟨b, b1, b2, b3⟩ := key (ρ x - B + 1).toNat x hx q
    have h1 := hB b b1
    have h2 := hB x hx
    omega
theorem d_in_order {C : Addr} {l : L} {bs : List Bx} {cs : List Cb} {Q : L → VS → Prop} (hk : HasF C "kept" (.lst (bs.map Bx.d)) l) (hw : HasF C "wires" (.lst (cs.map Cb.d)) l) (hn : bs.length ≤ 10) (hcl : cs.length ≤ 20) (hc : ∀ c ∈ cs, c.o < bs.length ∧ c.t < bs.length) (hr : ∃ ρ : Nat → Int, ∀ c ∈ cs, c.h = 0 → ρ c.o < ρ c.t)
    (hq : ∀ order : List Nat, order.Nodup → (∀ x ∈ order, x < bs.length) → (∀ x, x < bs.length → x ∈ order) → Topo cs order → Q (.own (nD order)) [some l]) : wp (fn_Desk_in_order C).run [some l] Q := by
  refine wp_def ?_
  show wp (F_Desk_in_order C) [some l, none, none, none, none, none, none] _
  unfold HasF at hk hw
  simp only [F_Desk_in_order, F_Desk_in_order_0, wp_sSeq, F_Desk_in_order_1]
  simp [F_Desk_in_order_2]
  simp only [F_Desk_in_order_3]
  refine wp_whileN (fun m s => ∃ (found : List Nat) (mn : Int) (o3 o4 : Option L), s = [some l, some (.own (nD found)), some (.d (.int mn)), o3, o4, none, none] ∧ Ord bs.length cs found ∧ ((mn = -1 ∧ found = []) ∨ (mn ≤ found.length ∧ (mn = found.length → Stuck bs.length cs found bs.length))) ∧ m = 2 * (bs.length - found.length) + (if mn < found.length then 1 else 0)) 1000 (2 * bs.length + 1) (by omega)
    ⟨[], -1, none, none, rfl, ⟨List.nodup_nil, by simp, fun j a e => by simp at e⟩, .inl ⟨rfl, rfl⟩, by simp⟩ ?_
  rintro m s N ⟨found, mn, o3, o4, rfl, hO, hI, rfl⟩ hN
  have hfl := nodup_len hO.nd hO.lt
  simp
  split
  · rename_i hlt
    simp [F_Desk_in_order_4, F_Desk_in_order_5, F_Desk_in_order_6, hk]
    refine ⟨by omega, ?_⟩
    refine wp_loopN (fun i s => ∃ (f' new : List Nat) (o3 o4 : Option L), s = [some l, some (.own (nD f')), some (.d (.int (found.length : Int))), o3, o4, none, none] ∧ Ord bs.length cs f' ∧ f' = found ++ new ∧ (new = [] → Stuck bs.length cs found i)) ⟨found, [], o3, o4, rfl, hO, by simp, fun _ a h => by omega⟩ ?_ ?_
    · rintro i d s N2 hd ⟨f', new, o3, o4, rfl, hO', hfe, hS⟩ hN2
      obtain ⟨hin, rfl⟩ := rgD_get hd
      have ei : (0 : Int) + (i : Int) = (i : Int) := by omega
      rw [ei]
      have hfl' := nodup_len hO'.nd hO'.lt
      simp [F_Desk_in_order_7, F_Desk_in_order_8, wp_fComp, hw]
      have e1 : lcF (.nm 5) [5] (bAnd (c2 dEq (fK (fS (f2 dIx (vLook 5) (fK (rt (.int 1)))))) (vLook 3)) (c2 dEq (fK (fS (f2 dIx (vLook 5) (fK (rt (.int 2)))))) (fK (rt (.int 0))))) (fS (f2 dIx (vLook 5) (fK (rt (.int 0))))) (cs.map Cb.d) [] [some l, some (.own (nD f')), some (.d (.int (found.length : Int))), some (.d (.int (i : Int))), o4, none, none]
          = some (nD ((cs.filter fun c => decide (c.t = i ∧ c.h = 0)).map Cb.o), [some l, some (.own (nD f')), some (.d (.int (found.length : Int))), some (.d (.int (i : Int))), o4, none, none]) := by
        rw [lcF_pure (fun d => match d with | .tup [.int x, .int y, .int z] => if y = (i : Int) ∧ z = 0 then some (.int x) else none | _ => none) (by simp; omega)]
        · congr 2
          unfold nD
          rw [List.filterMap_map, List.map_map, ← fm_filter]
          congr 1
          funext c
          simp only [Function.comp, Cb.d]
          by_cases q : c.t = i ∧ c.h = 0
          · have q1 : (c.t : Int) = (i : Int) ∧ c.h = 0 := ⟨by omega, q.2⟩
            rw [if_pos q1, if_pos (decide_eq_true q)]
          · have q1 : ¬((c.t : Int) = (i : Int) ∧ c.h = 0) := fun z => q ⟨by omega, z.2⟩
            rw [if_neg q1, if_neg (by simp only [decide_eq_true_eq]; exact q)]
        · intro d hd
          obtain ⟨c, _, rfl⟩ := List.mem_map.mp hd
          simp [wipeV, Cb.d]
          by_cases q1 : (c.t : Int) = (i : Int) <;> by_cases q2 : c.h = 0 <;> simp [q1, q2]
      simp [wipeV]
      rw [e1]
      obtain ⟨ah, eah, hah⟩ : ∃ ah : List Nat, (cs.filter fun c => decide (c.t = i ∧ c.h = 0)).map Cb.o = ah ∧ ∀ x, x ∈ ah ↔ ∃ c ∈ cs, c.t = i ∧ c.h = 0 ∧ c.o = x := ⟨_, rfl, fun x => by
        simp only [List.mem_map, List.mem_filter, decide_eq_true_eq]
        constructor
        · rintro ⟨c, ⟨h1, h2, h3⟩, h4⟩; exact ⟨c, h1, h2, h3, h4⟩
        · rintro ⟨c, h1, h2, h3, h4⟩; exact ⟨c, ⟨h1, h2, h3⟩, h4⟩⟩
      have hahl : ah.length ≤ 20 := by
        rw [← eah, List.length_map]
        exact Nat.le_trans (List.length_filter_le _ _) hcl
      rw [eah]
      have e2 : lcF (.nm 6) [6] (c2 dNotIn (vLook 6) (vLook 1)) (vGet 6) (nD ah) [] [some l, some (.own (nD f')), some (.d (.int (found.length : Int))), some (.d (.int (i : Int))), some (.d (.lst (nD ah))), none, none]
          = some (nD (ah.filter fun x => decide (x ∉ f')), [some l, some (.own (nD f')), some (.d (.int (found.length : Int))), some (.d (.int (i : Int))), some (.d (.lst (nD ah))), none, none]) := by
        rw [lcF_pure (fun d => match d with | .int x => if x.toNat ∉ f' then some (.int x) else none | _ => none) (by simp [nD]; omega)]
        · congr 2
          unfold nD
          rw [List.filterMap_map, ← fm_filter]
          congr 1
          funext x
          simp only [Function.comp, Int.toNat_natCast]
          by_cases q : x ∉ f'
          · rw [if_pos q, if_pos (decide_eq_true q)]
          · rw [if_neg q, if_neg (by simp only [decide_eq_true_eq]; exact q)]
        · intro d hd
          obtain ⟨x, _, rfl⟩ := List.mem_map.mp hd
          simp only [asg_nm, List.length_cons, List.length_nil, List.set_cons_succ, List.set_cons_zero, wp_c2, wp_vLook, at_succ, at_zero, to_some, pkOf_d, pkOf_own, res_dat, res_slS, res_sl0, resL_own, dNotIn_eq, dIn_nats]
          by_cases q : x ∈ f'
          · simp [q, wipeV]
          · simp [q, wipeV]
      simp [restV, keepD, F_Desk_in_order_9, wp_fComp, wipeV]
      split
      · rename_i hf
        refine hN2 _ ⟨f', new, _, _, rfl, hO', hfe, fun hnew a ha hna => ?_⟩
        subst hnew
        rw [List.append_nil] at hfe
        by_cases q : a < i
        · exact hS rfl a q hna
        · have : a = i := by omega
          subst this
          rw [hfe] at hf
          exact absurd hf hna
      · rename_i hnf
        rw [e2]
        simp [restV, keepD, wipeV]
        split
        · rename_i hall
          have hall2 : ∀ x ∈ ah, x ∈ f' := fun x hx => hall x hx
          simp [F_Desk_in_order_10, F_Desk_in_order_11]
          refine ⟨by omega, hN2 _ ⟨f' ++ [i], new ++ [i], _, _, by simp [nD]; exact ⟨rfl, rfl⟩, ⟨nodup_snoc hO'.nd hnf, ?_, hO'.topo.snoc fun c hc1 ht hz => hall2 c.o ((hah c.o).mpr ⟨c, hc1, ht, hz, rfl⟩)⟩, by rw [hfe, List.append_assoc], fun h => by simp at h⟩⟩
          intro x hx
          rcases List.mem_append.mp hx with h | h
          · exact hO'.lt x h
          · rw [List.mem_singleton.mp h]; exact hin
        · rename_i hnall
          simp at hnall
          obtain ⟨x, hx1, hx2⟩ := hnall
          obtain ⟨c, c1, c2, c3, c4⟩ := (hah x).mp hx1
          refine hN2 _ ⟨f', new, _, _, rfl, hO', hfe, fun hnew a ha hna => ?_⟩
          subst hnew
          rw [List.append_nil] at hfe
          by_cases q : a < i
          · exact hS rfl a q hna
          · have : a = i := by omega
            subst this
            exact ⟨c, c1, c2, c3, by rw [c4, ← hfe]; exact hx2⟩
    · rintro s ⟨f', new, o3, o4, rfl, hO', rfl, hS⟩
      simp only [thenF_nx, wp_sNil, lend_nx]
      have hfl' := nodup_len hO'.nd hO'.lt
      rw [rgD_len] at hS
      refine hN (2 * (bs.length - (found ++ new).length) + (if (found.length : Int) < (found ++ new).length then 1 else 0)) _ ?_ ⟨found ++ new, (found.length : Int), _, _, rfl, hO', .inr ⟨by simp; omega, fun e => ?_⟩, rfl⟩
      · rw [if_pos hlt]
        rw [List.length_append] at hfl' ⊢
        split <;> omega
      · have : new = [] := by
          rw [List.length_append] at e
          exact List.length_eq_zero_iff.mp (by omega)
        subst this
        rw [List.append_nil]
        exact hS rfl
  · rename_i hge
    simp [F_Desk_in_order_12, outs_eq, List.range_succ]
    rcases hI with ⟨h1, h2⟩ | ⟨h1, h2⟩
    · subst h2; simp at hge; omega
    · exact hq found hO.nd hO.lt (ord_full hO (h2 (by omega)) hc hr) hO.topo
end Hd
namespace Hd
open PySem PySem.Spec PyProof.Rows L2 Ev
def objAt (s : VS) (j : Nat) : Option (Addr × List Str × List L) := match s[j]? with
  | some (some (.obj C fs ls)) => some (C, fs, ls)
  | _ => none
@[simp] theorem objAt_zero {C : Addr} {fs : List Str} {ls : List L} {s : VS} : objAt (some (.obj C fs ls) :: s) 0 = some (C, fs, ls) := rfl
theorem wp_sFldSet {j : Nat} {C : Addr} {f : Str} {Fv : M L} {s : VS} {Q : Fl → VS → Prop} : wp (sFldSet j C f Fv) s Q ↔ wp Fv s fun l s => to (objAt s j) s fun p s => (p.1 = C ∧ f ∉ p.2.1 ∧ p.2.1.length < 900) ∧ Q .nx (s.set j (some (.obj p.1 (p.2.1 ++ [f]) (p.2.2 ++ [l])))) := by
  unfold sFldSet; rw [wp_bd]; refine wp_congr fun l s => ?_
  unfold wp objAt; dsimp only
  cases h : s[j]? with
  | none => simp
  | some o =>
    cases o with
    | none => simp
    | some l =>
      cases l with
      | obj C' fs ls =>
        dsimp only [to_some]
        split
        · rename_i h; simp [h]
        · rename_i h; simp only [to_some, h, false_and] <;> exact Iff.rfl
      | _ => simp
theorem fed_reach {bs : List Bx} {cs : List Cb} {i : Nat} (h : Fed bs cs i) : Reach cs false ((List.range bs.length).filter (wordIs bs (Str.ofString "in"))) i := by
  induction h with
  | start e =>
    refine .start (List.mem_filter.mpr ⟨List.mem_range.mpr (List.getElem?_eq_some_iff.mp e).1, ?_⟩)
    unfold wordIs; rw [e]; exact decide_eq_true rfl
  | step hc _ ih => exact Reach.step (sd := false) hc ih
theorem used_reach {bs : List Bx} {cs : List Cb} {i : Nat} (h : Used bs cs i) : Reach cs true ((List.range bs.length).filter (wordIs bs (Str.ofString "out"))) i := by
  induction h with
  | start e =>
    refine .start (List.mem_filter.mpr ⟨List.mem_range.mpr (List.getElem?_eq_some_iff.mp e).1, ?_⟩)
    unfold wordIs; rw [e]; exact decide_eq_true rfl
  | step hc _ ih => exact Reach.step (sd := true) hc ih
abbrev deskL (C : Addr) (bs : List Bx) (cs : List Cb) (order : List Nat) : L := .obj C ["kept", "wires", "order"] [.d (.lst (bs.map Bx.d)), .d (.lst (cs.map Cb.d)), .d (.lst (nD order))]
abbrev deskD (C : Addr) (bs : List Bx) (cs : List Cb) (order : List Nat) : D := .ins C ["kept", "wires", "order"] [.lst (bs.map Bx.d), .lst (cs.map Cb.d), .lst (nD order)]
structure OrdOk (bs : List Bx) (cs : List Cb) (order : List Nat) : Prop where
  nd : order.Nodup
  lt : ∀ x ∈ order, x < bs.length
  all : ∀ x, x < bs.length → x ∈ order
  topo : Topo cs order
theorem st_nd {bs : List Bx} {w : Str} : ((List.range bs.length).filter (wordIs bs w)).Nodup := List.Pairwise.filter _ List.nodup_range
theorem st_lt {bs : List Bx} {w : Str} : ∀ x ∈ (List.range bs.length).filter (wordIs bs w), x < bs.length := fun x h => List.mem_range.mp (List.mem_filter.mp h).1
theorem init_ok {C : Addr} {bs : List Bx} {cs : List Cb} {Q : L → VS → Prop} (w : WF bs cs) (hq : ∀ order, OrdOk bs cs order → Q (.d .non) [some (deskL C bs cs order), none, none]) :
    wp (fn_Desk___init__ C).run [some (.obj C [] []), some (.d (.lst (bs.map Bx.d))), some (.d (.lst (cs.map Cb.d)))] Q := by
  refine wp_def ?_
  show wp (F_Desk___init__ C) [some (.obj C [] []), some (.d (.lst (bs.map Bx.d))), some (.d (.lst (cs.map Cb.d))), none, none, none] _
  have hnb := w.nb
  have hnc := w.nc
  have hpos : 0 < bs.length := by
    obtain ⟨b, hb, _⟩ := w.mid
    exact List.length_pos_of_mem hb
  have p1 : (1 : Int) ≤ (bs.length : Int) := by omega
  have p2 : (bs.length : Int) ≤ 10 := by omega
  have p3 : (cs.length : Int) ≤ 20 := by omega
  simp only [F_Desk___init__, F_Desk___init___0, wp_sSeq, F_Desk___init___1]
  simp [p1, p2]
  refine call_must ?_
  simp [F_Desk___init___2, wp_sFldSet]
  obtain ⟨l, hl⟩ : ∃ l, L.obj C [Str.ofString "kept"] [.d (.lst (bs.map Bx.d))] = l := ⟨_, rfl⟩
  have hk : HasF C "kept" (.lst (bs.map Bx.d)) l := by
    subst hl; intro s; simp [fldOf, look]
  have hc1 : IsC C "names" l := by
    subst hl; intro s; exact ⟨_, rfl, by simp [ofStr_inj]⟩
  have hc2 : IsC C "is_box" l := by
    subst hl; intro s; exact ⟨_, rfl, by simp [ofStr_inj]⟩
  rw [hl]
  simp [F_Desk___init___3]
  refine ⟨by omega, ?_⟩
  refine wp_loopN (fun i s => ∃ o3 : Option L, s = [some l, some (.d (.lst (bs.map Bx.d))), some (.d (.lst (cs.map Cb.d))), o3, none, none]) ⟨none, rfl⟩ ?_ ?_
  · rintro i d s N hd ⟨o3, rfl⟩ hN
    obtain ⟨hin, rfl⟩ := rgD_get hd
    have ei : (0 : Int) + (i : Int) = (i : Int) := by omega
    rw [ei]
    obtain ⟨b, hb⟩ := get_lt hin
    simp [F_Desk___init___4, F_Desk___init___5, wp_fMeth]
    refine to_cls hc2 ?_
    refine callM (ds := [.int (i : Int)]) rfl ?_
    refine d_is_box hk hc1 hnb hb (w.box b (List.mem_of_getElem? hb)) w.names ⟨⟨[none], rfl, rfl⟩, ?_⟩
    simp
    refine call_must ?_
    simp
    exact hN _ ⟨_, rfl⟩
  rintro s ⟨o3, rfl⟩
  simp [F_Desk___init___6, p3]
  refine call_must ?_
  subst hl
  simp [F_Desk___init___7, wp_sFldSet, ofStr_inj]
  obtain ⟨l, hl⟩ : ∃ l, L.obj C [Str.ofString "kept", Str.ofString "wires"] [.d (.lst (bs.map Bx.d)), .d (.lst (cs.map Cb.d))] = l := ⟨_, rfl⟩
  have hk : HasF C "kept" (.lst (bs.map Bx.d)) l := by
    subst hl; intro s; simp [fldOf, look]
  have hw : HasF C "wires" (.lst (cs.map Cb.d)) l := by
    subst hl; intro s; simp [fldOf, look, ofStr_inj]
  have hcl : ∀ m, m ≠ Str.ofString "kept" → m ≠ Str.ofString "wires" → IsC C m l := by
    subst hl; intro m h1 h2 s; exact ⟨_, rfl, by simp [h1, h2]⟩
  have c1 : IsC C "is_cable" l := hcl _ (by simp [ofStr_inj]) (by simp [ofStr_inj])
  have c2 : IsC C "ends" l := hcl _ (by simp [ofStr_inj]) (by simp [ofStr_inj])
  have c3 : IsC C "led_from" l := hcl _ (by simp [ofStr_inj]) (by simp [ofStr_inj])
  have c4 : IsC C "is_twice" l := hcl _ (by simp [ofStr_inj]) (by simp [ofStr_inj])
  have c5 : IsC C "in_order" l := hcl _ (by simp [ofStr_inj]) (by simp [ofStr_inj])
  rw [hl]
  simp [F_Desk___init___8]
  refine ⟨by omega, ?_⟩
  refine wp_loopN (fun i s => ∃ o3 : Option L, s = [some l, some (.d (.lst (bs.map Bx.d))), some (.d (.lst (cs.map Cb.d))), o3, none, none]) ⟨o3, rfl⟩ ?_ ?_
  · rintro i d s N hd ⟨o3, rfl⟩ hN
    obtain ⟨hin, rfl⟩ := rgD_get hd
    have ei : (0 : Int) + (i : Int) = (i : Int) := by omega
    rw [ei]
    have hcm : cs[i] ∈ cs := List.getElem_mem hin
    have hcb := w.cab _ hcm
    obtain ⟨x, hx⟩ := get_lt hcb.1
    obtain ⟨y, hy⟩ := get_lt hcb.2.1
    simp [F_Desk___init___9, F_Desk___init___10, wp_fMeth]
    refine to_cls c1 ?_
    simp [Ev.atI_nat, List.getElem?_eq_getElem hin]
    refine callM (ds := [(cs[i]).d]) rfl ?_
    refine d_is_cable hk hx hy hcb.2.2.1 hcb.2.2.2 (w.src _ hcm x hx) (w.dst _ hcm y hy) ⟨⟨[none], rfl, rfl⟩, ?_⟩
    simp
    refine call_must ?_
    simp
    exact hN _ ⟨_, rfl⟩
  rintro s ⟨o3, rfl⟩
  simp [F_Desk___init___11, wp_fMeth]
  refine to_cls c3 ?_
  simp only [at_zero, to_some]
  refine to_cls c2 ?_
  refine callM (ds := [.str (Str.ofString "in")]) rfl ?_
  refine d_ends hk hnb ⟨⟨[none], rfl, rfl⟩, ?_⟩
  simp
  refine callM (ds := [.lst (nD ((List.range bs.length).filter (wordIs bs (Str.ofString "in")))), .int 0]) rfl ?_
  refine d_led (sd := false) (n := bs.length) hw hnb (fun c hc => ⟨(w.cab c hc).1, (w.cab c hc).2.1⟩) hnc st_nd st_lt fun fed hfed => ⟨⟨[none, none], rfl, rfl⟩, ?_⟩
  simp [F_Desk___init___12, wp_fMeth]
  refine to_cls c3 ?_
  simp only [at_zero, to_some]
  refine to_cls c2 ?_
  refine callM (ds := [.str (Str.ofString "out")]) rfl ?_
  refine d_ends hk hnb ⟨⟨[none], rfl, rfl⟩, ?_⟩
  simp
  refine callM (ds := [.lst (nD ((List.range bs.length).filter (wordIs bs (Str.ofString "out")))), .int 1]) rfl ?_
  refine d_led (sd := true) (n := bs.length) hw hnb (fun c hc => ⟨(w.cab c hc).1, (w.cab c hc).2.1⟩) hnc st_nd st_lt fun used hused => ⟨⟨[none, none], rfl, rfl⟩, ?_⟩
  simp [F_Desk___init___13]
  refine ⟨by omega, ?_⟩
  refine wp_loopN (fun i s => ∃ o3 : Option L, s = [some l, some (.d (.lst (bs.map Bx.d))), some (.d (.lst (cs.map Cb.d))), o3, some (.d (.lst (nD fed))), some (.d (.lst (nD used)))]) ⟨o3, rfl⟩ ?_ ?_
  · rintro i d s N hd ⟨o3, rfl⟩ hN
    obtain ⟨hin, rfl⟩ := rgD_get hd
    have ei : (0 : Int) + (i : Int) = (i : Int) := by omega
    rw [ei]
    obtain ⟨b, hb⟩ := get_lt hin
    have h1 : i ∈ fed := hfed i (fed_reach (w.fed i hin))
    have h2 : i ∈ used := hused i (used_reach (w.used i hin))
    simp only [F_Desk___init___14, F_Desk___init___15]
    simp [wp_fMeth, h1, h2]
    refine to_cls c4 ?_
    refine callM (ds := [.int (i : Int)]) rfl ?_
    refine d_is_twice hk hw hnc hb (fun ho => ?_) ⟨⟨[none], rfl, rfl⟩, ?_⟩
    · cases b with
      | out n => exact w.one i n hb
      | _ => cases ho
    · simp
      refine call_must ?_
      simp
      exact hN _ ⟨_, rfl⟩
  rintro s ⟨o3, rfl⟩
  simp [F_Desk___init___16, wp_fMeth, wp_sFldSet]
  refine to_cls c5 ?_
  refine callM (ds := []) rfl ?_
  refine d_in_order hk hw hnb hnc (fun c hc => ⟨(w.cab c hc).1, (w.cab c hc).2.1⟩) w.rank fun order h1 h2 h3 h4 => ⟨⟨[], rfl, rfl⟩, ?_⟩
  subst hl
  have hlo : order.length = bs.length := nodup_full h1 h2 h3
  simp [ofStr_inj, F_Desk___init___17, fldOf, look, hlo]
  refine call_must ?_
  simp [outs_eq, List.range_succ]
  exact hq order ⟨h1, h2, h3, h4⟩
theorem made_ok {C : Addr} {bs : List Bx} {cs : List Cb} {Q : L → VS → Prop} (w : WF bs cs) (hq : ∀ order, OrdOk bs cs order → Q (deskL C bs cs order) [none]) :
    wp (fn__law_made C).run [some (.d (.tup [.lst (bs.map Bx.d), .lst (cs.map Cb.d)]))] Q := by
  refine wp_def ?_
  show wp (F__law_made C) [some (.d (.tup [.lst (bs.map Bx.d), .lst (cs.map Cb.d)]))] _
  simp [F__law_made, F__law_made_0, F__law_made_1, wp_fMake]
  obtain ⟨r, os, e, order, ho, rfl, rfl⟩ := wp_out (init_ok (C := C) (Q := fun r os => ∃ order, OrdOk bs cs order ∧ r = .d .non ∧ os = [some (deskL C bs cs order), none, none]) w fun order ho => ⟨order, ho, rfl, rfl⟩)
  refine makeF_in (ls := [some (.d (.lst (bs.map Bx.d))), some (.d (.lst (cs.map Cb.d)))]) rfl rfl rfl e ?_
  simp [outs_eq, List.range_succ]
  exact hq order ho
theorem call_made {C : Addr} {s : VS} {bs : List Bx} {cs : List Cb} {Q : L → VS → Prop} (w : WF bs cs) (hq : ∀ order, OrdOk bs cs order → Q (deskL C bs cs order) s) :
    wp (callF (fn__law_made C) [.dat (.tup [.lst (bs.map Bx.d), .lst (cs.map Cb.d)])]) s Q := by
  rw [wp_callF]
  simp only [to_some, to_args_dat, argsOf_nil]
  exact ⟨⟨rfl, rfl⟩, made_ok w fun order ho => hq order ho⟩
end Hd
namespace Hd
open PySem PySem.Spec PyProof.Rows L2 Ev
def numS (i : Int) : Str := Str.ofString (toString i)
def SP : Str := Str.ofString " "
def NL : Str := Str.ofString "\n"
theorem num_all : ∀ k : Fin 109, let i : Int := (k.val : Int) - 9; let z := numS i; z.length ≤ 3 ∧ 1 ≤ z.length ∧ 32 ∉ z.cps.toList ∧ 10 ∉ z.cps.toList ∧ PySem.intText? z = some i ∧ i.natAbs.log2 < 1920 := by decide +kernel
theorem num_ok {i : Int} (h1 : -9 ≤ i) (h2 : i ≤ 99) : (numS i).length ≤ 3 ∧ 1 ≤ (numS i).length ∧ 32 ∉ (numS i).cps.toList ∧ 10 ∉ (numS i).cps.toList ∧ PySem.intText? (numS i) = some i ∧ i.natAbs.log2 < 1920 := by
  have := num_all ⟨(i + 9).toNat, by omega⟩
  have e : (((⟨(i + 9).toNat, by omega⟩ : Fin 109).val : Int) - 9) = i := by show ((i + 9).toNat : Int) - 9 = i; omega
  rw [e] at this
  exact this
def figS (z : Str) : Str := if cutS z none (some 1) = Str.ofString "-" then cutS z (some 1) none else z
theorem fig_all : ∀ k : Fin 109, let i : Int := (k.val : Int) - 9; let z := numS i; 1 ≤ (figS z).length ∧ (figS z).length ≤ 2 ∧ ((figS z).cps.toList.head? = some 48 → z = Str.ofString "0") ∧ ∀ c ∈ (figS z).cps.toList, c ∈ (Str.ofString "0123456789").cps.toList := by decide +kernel
theorem fig_ok {i : Int} (h1 : -9 ≤ i) (h2 : i ≤ 99) : 1 ≤ (figS (numS i)).length ∧ (figS (numS i)).length ≤ 2 ∧ ((figS (numS i)).cps.toList.head? = some 48 → numS i = Str.ofString "0") ∧ ∀ c ∈ (figS (numS i)).cps.toList, c ∈ (Str.ofString "0123456789").cps.toList := by
  have := fig_all ⟨(i + 9).toNat, by omega⟩
  have e : (((⟨(i + 9).toNat, by omega⟩ : Fin 109).val : Int) - 9) = i := by show ((i + 9).toNat : Int) - 9 = i; omega
  rw [e] at this
  exact this
theorem zero_sign {c : Nat} : (Str.mk #[c] = Str.ofString "0") ↔ c = 48 := by
  constructor
  · intro h
    have := congrArg (fun z : Str => z.cps.toList) h
    have e : (Str.ofString "0").cps.toList = [48] := by decide +kernel
    rw [e] at this
    simpa using this
  · rintro rfl
    decide +kernel
theorem number_ok {C : Addr} {i : Int} {r : D} {Q : L → VS → Prop} (h1 : -9 ≤ i) (h2 : i ≤ 99) (hq : Q (.d (.int i)) [none, none]) : wp (fn_number_of C).run [some (.d (.str (numS i))), some (.d r)] Q := by
  refine wp_def ?_
  show wp (F_number_of C) [some (.d (.str (numS i))), some (.d r), none, none] _
  obtain ⟨a1, a2, a3, a4, a5, a6⟩ := num_ok h1 h2
  obtain ⟨b1, b2, b3, b4⟩ := fig_ok h1 h2
  have hz : (numS i).length ≤ 100000 := by omega
  simp only [F_number_of, F_number_of_0, wp_sSeq]
  have key : ∀ G : Fl → VS → Prop, G .nx [some (.d (.str (numS i))), some (.d r), some (.d (.str (figS (numS i)))), none] → wp (F_number_of_1 C) [some (.d (.str (numS i))), some (.d r), none, none] G := by
    intro G hG
    simp only [F_number_of_1]
    unfold figS at hG
    by_cases hc : cutS (numS i) none (some 1) = Str.ofString "-"
    · rw [if_pos hc] at hG
      simp [hz, hc]
      exact hG
    · rw [if_neg hc] at hG
      simp [hz, hc]
      exact hG
  refine key _ ?_
  obtain ⟨f, hf⟩ : ∃ f, figS (numS i) = f := ⟨_, rfl⟩
  rw [hf] at b1 b2 b3 b4 ⊢
  have hfl : f.length ≤ 100000 := by omega
  have l1 : (1 : Int) ≤ (f.length : Int) := by omega
  have l2 : (f.length : Int) ≤ 2 := by omega
  obtain ⟨c, t, hct⟩ : ∃ c t, f.cps.toList = c :: t := by
    rw [len_cps] at b1
    cases e : f.cps.toList with
    | nil => rw [e] at b1; simp at b1
    | cons c t => exact ⟨c, t, rfl⟩
  rw [hct] at b3
  have hz48 : ¬(Str.mk #[c] = Str.ofString "0" ∧ ¬(numS i = Str.ofString "0")) := fun h => h.2 (b3 (by rw [zero_sign.mp h.1]; rfl))
  have step2 : ∀ G : Fl → VS → Prop, G .nx [some (.d (.str (numS i))), some (.d r), some (.d (.str f)), none] → wp (F_number_of_2 C) [some (.d (.str (numS i))), some (.d r), some (.d (.str f)), none] G := by
    intro G hG
    simp only [F_number_of_2]
    simp [hfl, l1, l2, dIx_str hfl]
    have e0 : f.cps[0]? = some c := by
      have : f.cps.toList[0]? = some c := by rw [hct]; rfl
      simpa using this
    simp [e0]
    by_cases q : Str.mk #[c] = Str.ofString "0"
    · have q2 : numS i = Str.ofString "0" := Classical.byContradiction fun z => hz48 ⟨q, z⟩
      simp [q, q2]
      rw [q2] at hG
      exact hG
    · simp [q]
      exact hG
  simp only [thenF_nx, wp_sSeq]
  refine step2 _ ?_
  have e : lcF (.nm 3) [3] (c2 dNotIn (vLook 3) (fK (rt (.str "0123456789")))) (vGet 3) (Ev.signs f) [] [some (.d (.str (numS i))), some (.d r), some (.d (.str f)), none] = some ([], [some (.d (.str (numS i))), some (.d r), some (.d (.str f)), none]) := by
    rw [lcF_pure (fun _ => none) (by unfold Ev.signs; rw [List.length_map, ← len_cps]; omega)]
    · simp
    · intro d hd
      unfold Ev.signs at hd
      obtain ⟨x, hx, rfl⟩ := List.mem_map.mp hd
      have h5 : decide (x ∈ (Str.ofString "0123456789").cps.toList) = true := decide_eq_true (b4 x hx)
      simp only [asg_nm, List.length_cons, List.length_nil, List.set_cons_succ, List.set_cons_zero, wp_c2, wp_vLook, at_succ, at_zero, to_some, pkOf_d, wp_fK, wp_rt, res_dat, dNotIn_eq, dIn_sign, h5]
      simp [wipeV]
      exact Array.mem_toList_iff.mp (b4 x hx)
  have hint : dIntA [.str (numS i)] = some (.d (.int i)) := by
    show (match PySem.intText? (numS i) with
      | some n => if (numS i).length ≤ 640 then some (L.d (.int n)) else none
      | none => none) = _
    rw [a5]
    have : (numS i).length ≤ 640 := by omega
    simp [this]
  simp [F_number_of_5, wp_fComp, wipeV, e, restV, keepD, dEq_nil (xs := []) rfl, F_number_of_8, hint, outs_eq, List.range_succ]
  exact hq
theorem call_number {C : Addr} {s : VS} {i : Int} {r : D} {Q : L → VS → Prop} (h1 : -9 ≤ i) (h2 : i ≤ 99) (hq : Q (.d (.int i)) s) : wp (callF (fn_number_of C) [.dat (.str (numS i)), .dat r]) s Q := by
  rw [wp_callF]
  simp only [to_some, to_args_dat, argsOf_nil]
  exact ⟨⟨rfl, rfl⟩, number_ok h1 h2 hq⟩
end Hd
namespace Hd
open PySem PySem.Spec PyProof.Rows L2 Ev
def strD : D → Str
  | .str a => a
  | .int i => numS i
  | _ => Str.ofString ""
def Bx.ps : Bx → List D
  | .inn n => [.str "in", .str n]
  | .out n => [.str "out", .str n]
  | .sum l => [.str "sum", .int l]
  | .most l => [.str "most", .int l]
  | .times b l => [.str "times", .int b, .int l]
  | .part b l => [.str "part", .int b, .int l]
theorem Bx.d_ps (b : Bx) : b.d = .tup b.ps := by cases b <;> rfl
def Bx.words (b : Bx) : List Str := b.ps.map strD
def Cb.words (c : Cb) : List Str := [numS c.o, numS c.t, numS c.h]
def Bx.line (b : Bx) : Str := Txt.join SP b.words
def Cb.line (c : Cb) : Str := Str.ofString "cable " ++ Txt.join SP c.words
def textOf (bs : List Bx) (cs : List Cb) : Str := Txt.join NL (bs.map Bx.line ++ cs.map Cb.line)
theorem join_tl (y : Str) (ps : List Str) : (Txt.join y ps).cps.toList = TL.joinL y.cps.toList (ps.map fun z => z.cps.toList) := by
  rw [TL.join_eq]; exact TL.tl_join y ps
theorem joinL_len {S : List Nat} : ∀ (ps : List (List Nat)), (TL.joinL S ps).length ≤ (ps.map List.length).sum + ps.length * S.length
  | [] => by simp [TL.joinL]
  | [p] => by simp [TL.joinL]
  | p :: q :: r => by
    have ih := joinL_len (S := S) (q :: r)
    rw [TL.joinL, List.length_append, List.length_append, List.map_cons, List.sum_cons, List.length_cons, Nat.succ_mul]
    omega
theorem joinL_mem {S : List Nat} {c : Nat} : ∀ (ps : List (List Nat)), c ∈ TL.joinL S ps → c ∈ S ∨ ∃ p ∈ ps, c ∈ p
  | [], h => by simp [TL.joinL] at h
  | [p], h => .inr ⟨p, by simp, h⟩
  | p :: q :: r, h => by
    rw [TL.joinL] at h
    rcases List.mem_append.mp h with h | h
    · exact .inr ⟨p, by simp, h⟩
    · rcases List.mem_append.mp h with h | h
      · exact .inl h
      · rcases joinL_mem (q :: r) h with h | ⟨x, hx, h⟩
        · exact .inl h
        · exact .inr ⟨x, List.mem_cons_of_mem _ hx, h⟩
theorem join_len (y : Str) (ps : List Str) {m : Nat} (h : ∀ z ∈ ps, z.length ≤ m) : (Txt.join y ps).length ≤ ps.length * (m + y.length) := by
  have h1 := joinL_len (S := y.cps.toList) (ps.map fun z => z.cps.toList)
  rw [← join_tl, ← len_cps, ← len_cps, List.length_map, List.map_map] at h1
  have h2 : ∀ l : List Str, (∀ z ∈ l, z.length ≤ m) → (l.map (List.length ∘ fun z => z.cps.toList)).sum ≤ l.length * m := by
    intro l
    induction l with
    | nil => intro _; simp
    | cons a r ih =>
      intro h
      have i1 := ih fun z hz => h z (List.mem_cons_of_mem _ hz)
      have i2 := h a List.mem_cons_self
      rw [List.map_cons, List.sum_cons, List.length_cons, Nat.succ_mul]
      have : (List.length ∘ fun z : Str => z.cps.toList) a = a.length := (len_cps a).symm
      omega
  have h3 := h2 ps h
  rw [Nat.mul_add]
  omega
theorem sum_len {ps : List Str} {m : Nat} (h : ∀ z ∈ ps, z.length ≤ m) : (ps.map fun z : Str => z.length).sum ≤ ps.length * m := by
  induction ps with
  | nil => simp
  | cons a r ih =>
    have i1 := ih fun z hz => h z (List.mem_cons_of_mem _ hz)
    have i2 := h a List.mem_cons_self
    rw [List.map_cons, List.sum_cons, List.length_cons, Nat.succ_mul]
    omega
structure OkW (z : Str) : Prop where
  len : z.length ≤ 8
  sp : 32 ∉ z.cps.toList
  nl : 10 ∉ z.cps.toList
theorem okW_num {i : Int} (h1 : -9 ≤ i) (h2 : i ≤ 99) : OkW (numS i) := by
  obtain ⟨a1, a2, a3, a4, a5, a6⟩ := num_ok h1 h2
  exact ⟨by omega, a3, a4⟩
theorem okW_name {n : Str} (h : okName n) : OkW n := by
  have s1 : 32 ∉ small.cps.toList := by decide +kernel
  have s2 : 10 ∉ small.cps.toList := by decide +kernel
  exact ⟨h.2.1, fun z => s1 (h.2.2 _ z), fun z => s2 (h.2.2 _ z)⟩
instance : DecidablePred fun z : Str => z.length ≤ 8 ∧ 32 ∉ z.cps.toList ∧ 10 ∉ z.cps.toList := fun z => inferInstance
theorem okW_of {z : Str} (h : z.length ≤ 8 ∧ 32 ∉ z.cps.toList ∧ 10 ∉ z.cps.toList) : OkW z := ⟨h.1, h.2.1, h.2.2⟩
theorem okW_words {b : Bx} (h : b.ok) : ∀ z ∈ b.words, OkW z := by
  have w1 : OkW (Str.ofString "in") := okW_of (by decide +kernel)
  have w2 : OkW (Str.ofString "out") := okW_of (by decide +kernel)
  have w3 : OkW (Str.ofString "sum") := okW_of (by decide +kernel)
  have w4 : OkW (Str.ofString "most") := okW_of (by decide +kernel)
  have w5 : OkW (Str.ofString "times") := okW_of (by decide +kernel)
  have w6 : OkW (Str.ofString "part") := okW_of (by decide +kernel)
  intro z hz
  cases b with
  | inn n => simp [Bx.words, Bx.ps, strD] at hz; rcases hz with rfl | rfl; exact w1; exact okW_name h
  | out n => simp [Bx.words, Bx.ps, strD] at hz; rcases hz with rfl | rfl; exact w2; exact okW_name h
  | sum l => simp [Bx.words, Bx.ps, strD] at hz; obtain ⟨h1, h2⟩ := h; rcases hz with rfl | rfl; exact w3; exact okW_num (by omega) (by omega)
  | most l => simp [Bx.words, Bx.ps, strD] at hz; obtain ⟨h1, h2⟩ := h; rcases hz with rfl | rfl; exact w4; exact okW_num (by omega) (by omega)
  | times k l => simp [Bx.words, Bx.ps, strD] at hz; obtain ⟨⟨h1, h2⟩, h3, h4⟩ := h; rcases hz with rfl | rfl | rfl; exact w5; exact okW_num (by omega) (by omega); exact okW_num (by omega) (by omega)
  | part k l => simp [Bx.words, Bx.ps, strD] at hz; obtain ⟨⟨h1, h2⟩, h3, h4⟩ := h; rcases hz with rfl | rfl | rfl; exact w6; exact okW_num (by omega) (by omega); exact okW_num (by omega) (by omega)
end Hd
namespace Hd
open PySem PySem.Spec PyProof.Rows L2 Ev
structure IsDesk (C : Addr) (bs : List Bx) (cs : List Cb) (order : List Nat) (dk : D) : Prop where
  kept : ∀ s, fldOf C (Str.ofString "kept") s (.dat dk) = some (.lst (bs.map Bx.d))
  wires : ∀ s, fldOf C (Str.ofString "wires") s (.dat dk) = some (.lst (cs.map Cb.d))
  order : ∀ s, fldOf C (Str.ofString "order") s (.dat dk) = some (.lst (nD order))
  cls : ∀ s m, m ≠ Str.ofString "kept" → m ≠ Str.ofString "wires" → m ≠ Str.ofString "order" → ∃ fs, clsOf s (.dat dk) = some (C, fs) ∧ m ∉ fs
theorem isDesk_ok {C : Addr} {bs : List Bx} {cs : List Cb} {order : List Nat} : IsDesk C bs cs order (deskD C bs cs order) := by
  refine ⟨fun s => by simp [fldOf, look], fun s => by simp [fldOf, look, ofStr_inj], fun s => by simp [fldOf, look, ofStr_inj], fun s m h1 h2 h3 => ⟨_, rfl, by simp [h1, h2, h3]⟩⟩
theorem to_clsD {C : Addr} {bs : List Bx} {cs : List Cb} {order : List Nat} {dk : D} {m : Str} {s : VS} {P : VS → Prop} (h : IsDesk C bs cs order dk) (h1 : m ≠ Str.ofString "kept") (h2 : m ≠ Str.ofString "wires") (h3 : m ≠ Str.ofString "order") (hp : P s) : to (clsOf s (.dat dk)) s fun p s => (p.1 = C ∧ m ∉ p.2) ∧ P s := by
  obtain ⟨fs, e, hm⟩ := h.cls s m h1 h2 h3
  rw [e]
  exact ⟨⟨rfl, hm⟩, hp⟩
def okP (d : D) : Prop := (∃ a, d = .str a) ∨ ∃ i : Int, d = .int i ∧ -9 ≤ i ∧ i ≤ 99
theorem okP_str {d : D} (h : okP d) : dStrA [d] = some (.d (.str (strD d))) := by
  rcases h with ⟨a, rfl⟩ | ⟨i, rfl, h1, h2⟩
  · rfl
  · rw [dStrA_int, if_pos (num_ok h1 h2).2.2.2.2.2]; rfl
theorem okP_box {b : Bx} (h : b.ok) : ∀ d ∈ b.ps, okP d := by
  intro d hd
  cases b with
  | inn n => simp [Bx.ps] at hd; rcases hd with rfl | rfl <;> exact .inl ⟨_, rfl⟩
  | out n => simp [Bx.ps] at hd; rcases hd with rfl | rfl <;> exact .inl ⟨_, rfl⟩
  | sum l => simp [Bx.ps] at hd; obtain ⟨h1, h2⟩ := h; rcases hd with rfl | rfl; exact .inl ⟨_, rfl⟩; exact .inr ⟨_, rfl, by omega, by omega⟩
  | most l => simp [Bx.ps] at hd; obtain ⟨h1, h2⟩ := h; rcases hd with rfl | rfl; exact .inl ⟨_, rfl⟩; exact .inr ⟨_, rfl, by omega, by omega⟩
  | times k l => simp [Bx.ps] at hd; obtain ⟨⟨h1, h2⟩, h3, h4⟩ := h; rcases hd with rfl | rfl | rfl; exact .inl ⟨_, rfl⟩; exact .inr ⟨_, rfl, by omega, by omega⟩; exact .inr ⟨_, rfl, by omega, by omega⟩
  | part k l => simp [Bx.ps] at hd; obtain ⟨⟨h1, h2⟩, h3, h4⟩ := h; rcases hd with rfl | rfl | rfl; exact .inl ⟨_, rfl⟩; exact .inr ⟨_, rfl, by omega, by omega⟩; exact .inr ⟨_, rfl, by omega, by omega⟩
theorem words_len (b : Bx) : 2 ≤ b.words.length ∧ b.words.length ≤ 3 := by cases b <;> simp [Bx.words, Bx.ps]
theorem line_len {b : Bx} (h : b.ok) : b.line.length ≤ 30 := by
  have h1 := join_len SP b.words (m := 8) fun z hz => (okW_words h z hz).len
  have h2 := words_len b
  have h3 : SP.length = 1 := by decide +kernel
  rw [h3] at h1
  unfold Bx.line
  omega
structure OkC (c : Cb) : Prop where
  o : (c.o : Int) ≤ 99
  t : (c.t : Int) ≤ 99
  h0 : 0 ≤ c.h
  h9 : c.h ≤ 99
theorem okW_cwords {c : Cb} (h : OkC c) : ∀ z ∈ c.words, OkW z := by
  intro z hz
  obtain ⟨h1, h2, h3, h4⟩ := h
  simp [Cb.words] at hz
  rcases hz with rfl | rfl | rfl
  · exact okW_num (by omega) (by omega)
  · exact okW_num (by omega) (by omega)
  · exact okW_num (by omega) (by omega)
theorem cjoin_len {c : Cb} (h : OkC c) : (Txt.join SP c.words).length ≤ 30 := by
  have h1 := join_len SP c.words (m := 8) fun z hz => (okW_cwords h z hz).len
  have h3 : SP.length = 1 := by decide +kernel
  have h4 : c.words.length = 3 := rfl
  rw [h3, h4] at h1
  omega
theorem cline_len {c : Cb} (h : OkC c) : c.line.length ≤ 40 := by
  have h1 := cjoin_len h
  have h2 : (Str.ofString "cable ").length = 6 := by decide +kernel
  unfold Cb.line
  rw [len_cps, cps_app, List.length_append, ← len_cps, ← len_cps]
  omega
theorem okC_of {bs : List Bx} {cs : List Cb} (w : WF bs cs) {c : Cb} (hc : c ∈ cs) : OkC c := by
  have := w.cab c hc
  have := w.nb
  exact ⟨by omega, by omega, by omega, by omega⟩
theorem join_sz {ps : List Str} {y : Str} {m n : Nat} (h : ∀ z ∈ ps, z.length ≤ m) (hl : ps.length ≤ n) (hb : n * (m + y.length) ≤ 100000) : (ps.map fun z : Str => z.length).sum + ps.length * y.length ≤ 100000 := by
  have h1 := sum_len h
  have h2 : ps.length * (m + y.length) ≤ n * (m + y.length) := Nat.mul_le_mul_right _ hl
  rw [Nat.mul_add] at h2
  omega
theorem pieces {j : Nat} {ps : List D} {s : VS} {e : M D} (he : e = fS (fN dStrA (kCons (vLook j) kNil))) (hj : j < s.length) (hn : s[j]? = some none) (hp : ∀ d ∈ ps, okP d) (hl : ps.length ≤ 1000) : lcF (.nm j) [j] bYes e ps [] s = some ((ps.map strD).map D.str, s) := by
  subst he
  rw [lcF_pure (fun d => some (.str (strD d))) (by omega)]
  · congr 2
    rw [List.map_map, ← List.filterMap_eq_map]
    rfl
  · intro d hd
    have hs : ∀ x, at? (s.set j (some x)) j = some x := fun x => by
      unfold at?; rw [List.getElem?_set_self hj]
    have hw : ∀ x, wipeV (s.set j x) [j] = s := fun x => by
      show (s.set j x).set j none = s
      rw [List.set_set]
      apply List.ext_getElem?
      intro i
      by_cases q : j = i
      · subst q; rw [List.getElem?_set_self hj, hn]
      · rw [List.getElem?_set_ne q]
    simp [hj, bYes, hs, okP_str (hp d hd), hw]
end Hd
namespace Hd
open PySem PySem.Spec PyProof.Rows L2 Ev
theorem fm_of {β : Type} {g : D → Option D} {f h : β → D} (he : ∀ b, g (h b) = some (f b)) : ∀ l : List β, (l.map h).filterMap g = l.map f
  | [] => rfl
  | a :: r => by rw [List.map_cons, List.filterMap_cons, he, List.map_cons, fm_of he r]
theorem SP_len : SP.length = 1 := by decide +kernel
theorem NL_len : NL.length = 1 := by decide +kernel
theorem ps_len (b : Bx) : b.ps.length ≤ 3 := by cases b <;> simp [Bx.ps]
theorem bjoin {b : Bx} (h : b.ok) : dJoin (.str SP) [.lst ((b.ps.map strD).map D.str)] = some (.d (.str b.line)) := by
  rw [dJoin_strs, if_pos]
  · rfl
  · exact join_sz (m := 8) (n := 3) (fun z hz => (okW_words h z hz).len) (by simpa using ps_len b) (by rw [SP_len]; omega)
theorem cjoin {c : Cb} (h : OkC c) : dJoin (.str SP) [.lst (c.words.map D.str)] = some (.d (.str (Txt.join SP c.words))) := by
  rw [dJoin_strs, if_pos]
  exact join_sz (m := 8) (n := 3) (fun z hz => (okW_cwords h z hz).len) (Nat.le_refl _) (by rw [SP_len]; omega)
theorem tjoin {bs : List Bx} {cs : List Cb} (w : WF bs cs) : dJoin (.str NL) [.lst ((bs.map Bx.line ++ cs.map Cb.line).map D.str)] = some (.d (.str (textOf bs cs))) := by
  rw [dJoin_strs, if_pos]
  · rfl
  · refine join_sz (m := 40) (n := 30) (fun z hz => ?_) ?_ (by rw [NL_len]; omega)
    · rcases List.mem_append.mp hz with h | h
      · obtain ⟨b, hb, rfl⟩ := List.mem_map.mp h
        have := line_len (w.box b hb); omega
      · obtain ⟨c, hc, rfl⟩ := List.mem_map.mp h
        have := cline_len (okC_of w hc); omega
    · have := w.nb; have := w.nc
      simp; omega
theorem written_ok {C : Addr} {bs : List Bx} {cs : List Cb} {order : List Nat} {dk : D} {Q : L → VS → Prop} (hd : IsDesk C bs cs order dk) (w : WF bs cs) (hq : Q (.d (.str (textOf bs cs))) [none]) : wp (fn_written C).run [some (.d dk)] Q := by
  refine wp_def ?_
  show wp (F_written C) [some (.d dk), none, none, none, none, none] _
  have hnb := w.nb
  have hnc := w.nc
  simp only [F_written, F_written_0, wp_sSeq, F_written_1]
  simp [wp_fComp, hd.kept, wipeV]
  have e1 : lcF (.nm 2) [2] bYes (fS (fM "str" dJoin (fK (rt (.str " "))) (kCons (fK (fS (fComp [3] (iSeq (vGet 2)) (.nm 3) bYes (fS (fN dStrA (kCons (vLook 3) kNil)))))) kNil))) (bs.map Bx.d) [] [some (.d dk), none, none, none, none, none]
      = some ((bs.map Bx.line).map D.str, [some (.d dk), none, none, none, none, none]) := by
    rw [lcF_pure (fun d => match d with | .tup ps => some (.str (Txt.join SP (ps.map strD))) | _ => none) (by simp; omega)]
    · congr 2
      rw [List.map_map]
      exact fm_of (fun b => by simp [Function.comp, Bx.d_ps, Bx.line, Bx.words]) bs
    · intro d hdm
      obtain ⟨b, hb, rfl⟩ := List.mem_map.mp hdm
      have hok := w.box b hb
      have hj := bjoin hok
      unfold SP at hj
      simp [bYes, isT, wp_fComp, Bx.d_ps, wipeV]
      have hp := pieces (j := 3) (ps := b.ps) (s := [some (.d dk), none, some (.d (.tup b.ps)), none, none, none]) rfl (by simp) rfl (okP_box hok) (by have := ps_len b; omega)
      rw [show (rt true : M Bool) = bYes from rfl, hp]
      simp [wipeV, restV, keepD]
      rw [← List.map_map, hj]
      simp [wipeV, Bx.line, Bx.words, SP]
  rw [e1]
  simp [restV, keepD, wipeV, F_written_2, isT, wp_fComp, hd.wires]
  have e2 : ∀ o1, lcF (.nm 4) [4] bYes (fS (f2 dAdd (fK (rt (.str "cable "))) (fK (fS (fM "str" dJoin (fK (rt (.str " "))) (kCons (fK (fS (fComp [5] (iSeq (vGet 4)) (.nm 5) bYes (fS (fN dStrA (kCons (vLook 5) kNil)))))) kNil)))))) (cs.map Cb.d) [] [some (.d dk), o1, none, none, none, none]
      = some ((cs.map Cb.line).map D.str, [some (.d dk), o1, none, none, none, none]) := by
    intro o1
    rw [lcF_pure (fun d => match d with | .tup ps => some (.str (Str.ofString "cable " ++ Txt.join SP (ps.map strD))) | _ => none) (by simp; omega)]
    · congr 2
      rw [List.map_map]
      exact fm_of (fun c => by simp [Function.comp, Cb.d, Cb.line, Cb.words, strD]) cs
    · intro d hdm
      obtain ⟨c, hc, rfl⟩ := List.mem_map.mp hdm
      have hok := okC_of w hc
      have hj := cjoin hok
      have hjl := cjoin_len hok
      unfold SP at hj hjl
      have hpo : ∀ d ∈ [D.int c.o, D.int c.t, D.int c.h], okP d := by
        intro d hd
        obtain ⟨h1, h2, h3, h4⟩ := hok
        simp at hd
        rcases hd with rfl | rfl | rfl
        · exact .inr ⟨_, rfl, by omega, by omega⟩
        · exact .inr ⟨_, rfl, by omega, by omega⟩
        · exact .inr ⟨_, rfl, by omega, by omega⟩
      have hcl : (Str.ofString "cable ").length = 6 := by decide +kernel
      simp [bYes, isT, wp_fComp, Cb.d, wipeV]
      have hp := pieces (j := 5) (ps := [D.int c.o, D.int c.t, D.int c.h]) (s := [some (.d dk), o1, none, none, some (.d (.tup [D.int c.o, D.int c.t, D.int c.h])), none]) rfl (by simp) rfl hpo (by simp)
      rw [show (rt true : M Bool) = bYes from rfl, hp]
      have hj2 : dJoin (.str (Str.ofString " ")) [.lst [.str (numS c.o), .str (numS c.t), .str (numS c.h)]] = some (.d (.str (Txt.join (Str.ofString " ") c.words))) := hj
      simp [wipeV, restV, keepD, strD, hj2, hcl]
      refine ⟨by omega, ?_⟩
      simp [Cb.words, SP]
  rw [e2]
  simp [restV, keepD, wipeV]
  refine ⟨by omega, ?_⟩
  have ht := tjoin w
  unfold NL at ht
  rw [List.map_append] at ht
  simp only [List.map_map] at ht ⊢
  rw [ht]
  simp [outs_eq, List.range_succ]
  exact hq
end Hd
namespace Hd
open PySem PySem.Spec PyProof.Rows L2 Ev
def okAl : Nat → D → Bool
  | _, .non => true
  | _, .bl _ => true
  | _, .int _ => true
  | _, .str _ => true
  | n + 1, .tup xs => decide (xs.length ≤ 1000) && xs.all (okAl n)
  | n + 1, .lst xs => decide (xs.length ≤ 1000) && xs.all (okAl n)
  | _, _ => false
theorem blsOf_rep : ∀ n : Nat, blsOf (List.replicate n (D.bl true)) = some (List.replicate n true)
  | 0 => rfl
  | n + 1 => by rw [List.replicate_succ, blsOf, blsOf_rep n]; rfl
theorem alike_all {C : Addr} {fr : Fn} {x y : D} {xs : List D} {Q : L → VS → Prop} (hl : xs.length ≤ 1000) (hx : ∀ i : Int, dIx x (.int i) = (atI xs i).map L.d) (hy : ∀ i : Int, dIx y (.int i) = (atI xs i).map L.d) (hlen : dLen [y] = some (.d (.int xs.length)))
    (hfr : ∀ d ∈ xs, ∀ (s : VS) (P : L → VS → Prop), P (.d (.bl true)) s → wp (callF fr [.dat d, .dat d]) s P) (hq : Q (.d (.bl true)) [none, none]) :
    wp (F__law_alike_25 C fr) [some (.d x), some (.d y), none, none] (thenF sNil (retF 2 [] Q)) := by
  simp only [F__law_alike_25]
  simp [wp_fComp, hlen, wipeV]
  refine ⟨by omega, ?_⟩
  refine lcF_inN (fun i acc s => acc = List.replicate i (D.bl true) ∧ s = [some (.d x), some (.d y), none, none]) ⟨rfl, rfl⟩ ?_ ?_
  · rintro i d acc s N hd ⟨rfl, rfl⟩ hN
    obtain ⟨hi, rfl⟩ := rgD_get hd
    have ei : (0 : Int) + (i : Int) = (i : Int) := by omega
    rw [ei]
    simp [bYes, hx, hy, Ev.atI_nat, List.getElem?_eq_getElem hi]
    refine hfr _ (List.getElem_mem hi) _ _ ?_
    simp [wipeV]
    refine ⟨by omega, hN _ _ ⟨?_, rfl⟩⟩
    rw [List.replicate_succ']
  · rintro acc s ⟨rfl, rfl⟩
    rw [rgD_len]
    have : dAll [.lst (List.replicate xs.length (D.bl true))] = some (.d (.bl true)) := by
      show (blsOf (List.replicate xs.length (D.bl true))).map _ = _
      rw [blsOf_rep]
      simp
    simp [restV, keepD, this, outs_eq, List.range_succ]
    exact hq
theorem alike_same {C : Addr} : ∀ (n : Nat) (d : D), okAl n d = true → ∀ (s : VS) (Q : L → VS → Prop), Q (.d (.bl true)) s → wp (callF (fn__law_alikeN C (n + 1)) [.dat d, .dat d]) s Q := by
  intro n
  induction n with
  | zero =>
    intro d hd s Q hq
    rw [wp_callF]
    simp only [to_some, to_args_dat, argsOf_nil]
    refine ⟨⟨rfl, by rw [fn__law_alikeN]; rfl⟩, ?_⟩
    rw [fn__law_alikeN]
    refine wp_def ?_
    show wp (F__law_alike C (fn__law_alikeN C 0)) [some (.d d), some (.d d), none, none] _
    cases d with
    | non =>
      have h1 : dIs .non .non = some true := rfl
      simp [F__law_alike, F__law_alike_0, F__law_alike_1, F__law_alike_2, F__law_alike_3, h1, outs_eq, List.range_succ]
      exact hq
    | bl b =>
      have h1 : dIs (.bl b) .non = some false := rfl
      have h2 : dIsi "bool" (.bl b) = some true := rfl
      simp [F__law_alike, F__law_alike_0, F__law_alike_1, F__law_alike_4, F__law_alike_5, F__law_alike_6, h1, h2, outs_eq, List.range_succ]
      exact hq
    | int b =>
      have h1 : dIs (.int b) .non = some false := rfl
      have h2 : dIsi "bool" (.int b) = some false := rfl
      have h3 : dIsi "int" (.int b) = some true := rfl
      simp [F__law_alike, F__law_alike_0, F__law_alike_1, F__law_alike_4, F__law_alike_7, F__law_alike_8, F__law_alike_9, h1, h2, h3, outs_eq, List.range_succ]
      exact hq
    | str b =>
      have h1 : dIs (.str b) .non = some false := rfl
      have h2 : dIsi "bool" (.str b) = some false := rfl
      have h3 : dIsi "int" (.str b) = some false := rfl
      have h4 : dIsi "str" (.str b) = some true := rfl
      simp [F__law_alike, F__law_alike_0, F__law_alike_1, F__law_alike_4, F__law_alike_7, F__law_alike_10, F__law_alike_11, F__law_alike_12, h1, h2, h3, h4, outs_eq, List.range_succ]
      exact hq
    | _ => cases hd
  | succ n ih =>
    intro d hd s Q hq
    rw [wp_callF]
    simp only [to_some, to_args_dat, argsOf_nil]
    refine ⟨⟨rfl, by rw [fn__law_alikeN]; rfl⟩, ?_⟩
    rw [fn__law_alikeN]
    refine wp_def ?_
    show wp (F__law_alike C (fn__law_alikeN C (n + 1))) [some (.d d), some (.d d), none, none] _
    cases d with
    | non =>
      have h1 : dIs .non .non = some true := rfl
      simp [F__law_alike, F__law_alike_0, F__law_alike_1, F__law_alike_2, F__law_alike_3, h1, outs_eq, List.range_succ]
      exact hq
    | bl b =>
      have h1 : dIs (.bl b) .non = some false := rfl
      have h2 : dIsi "bool" (.bl b) = some true := rfl
      simp [F__law_alike, F__law_alike_0, F__law_alike_1, F__law_alike_4, F__law_alike_5, F__law_alike_6, h1, h2, outs_eq, List.range_succ]
      exact hq
    | int b =>
      have h1 : dIs (.int b) .non = some false := rfl
      have h2 : dIsi "bool" (.int b) = some false := rfl
      have h3 : dIsi "int" (.int b) = some true := rfl
      simp [F__law_alike, F__law_alike_0, F__law_alike_1, F__law_alike_4, F__law_alike_7, F__law_alike_8, F__law_alike_9, h1, h2, h3, outs_eq, List.range_succ]
      exact hq
    | str b =>
      have h1 : dIs (.str b) .non = some false := rfl
      have h2 : dIsi "bool" (.str b) = some false := rfl
      have h3 : dIsi "int" (.str b) = some false := rfl
      have h4 : dIsi "str" (.str b) = some true := rfl
      simp [F__law_alike, F__law_alike_0, F__law_alike_1, F__law_alike_4, F__law_alike_7, F__law_alike_10, F__law_alike_11, F__law_alike_12, h1, h2, h3, h4, outs_eq, List.range_succ]
      exact hq
    | tup xs =>
      have hd : (decide (xs.length ≤ 1000) && xs.all (okAl n)) = true := hd
      simp at hd
      have h1 : dIs (.tup xs) .non = some false := rfl
      have h2 : dIsi "bool" (.tup xs) = some false := rfl
      have h3 : dIsi "int" (.tup xs) = some false := rfl
      have h4 : dIsi "str" (.tup xs) = some false := rfl
      have h5 : dIsi "dict" (.tup xs) = some false := rfl
      have h6 : dIsi "tuple" (.tup xs) = some true := rfl
      have h7 : dIsi "list" (.tup xs) = some false := rfl
      simp [F__law_alike, F__law_alike_0, F__law_alike_1, F__law_alike_4, F__law_alike_7, F__law_alike_10, F__law_alike_13, F__law_alike_19, F__law_alike_22, h1, h2, h3, h4, h5, h6, h7]
      exact alike_all hd.1 (fun i => rfl) (fun i => rfl) rfl (fun d hdm s P hP => ih d (hd.2 d hdm) s P hP) hq
    | lst xs =>
      have hd : (decide (xs.length ≤ 1000) && xs.all (okAl n)) = true := hd
      simp at hd
      have h1 : dIs (.lst xs) .non = some false := rfl
      have h2 : dIsi "bool" (.lst xs) = some false := rfl
      have h3 : dIsi "int" (.lst xs) = some false := rfl
      have h4 : dIsi "str" (.lst xs) = some false := rfl
      have h5 : dIsi "dict" (.lst xs) = some false := rfl
      have h6 : dIsi "tuple" (.lst xs) = some false := rfl
      have h7 : dIsi "list" (.lst xs) = some true := rfl
      simp [F__law_alike, F__law_alike_0, F__law_alike_1, F__law_alike_4, F__law_alike_7, F__law_alike_10, F__law_alike_13, F__law_alike_19, F__law_alike_22, h1, h2, h3, h4, h5, h6, h7]
      exact alike_all hd.1 (fun i => rfl) (fun i => rfl) rfl (fun d hdm s P hP => ih d (hd.2 d hdm) s P hP) hq
    | _ => cases hd
theorem call_alike {C : Addr} {s : VS} {d : D} {Q : L → VS → Prop} (h : okAl 5 d = true) (hq : Q (.d (.bl true)) s) : wp (callF (fn__law_alike C) [.dat d, .dat d]) s Q := alike_same 5 d h s Q hq
end Hd
namespace Hd
open PySem PySem.Spec PyProof.Rows L2 Ev
theorem fm_mem {β : Type} {g : D → Option D} {f h : β → D} : ∀ {l : List β}, (∀ b ∈ l, g (h b) = some (f b)) → (l.map h).filterMap g = l.map f
  | [], _ => rfl
  | a :: r, he => by rw [List.map_cons, List.filterMap_cons, he a List.mem_cons_self, List.map_cons, fm_mem fun b hb => he b (List.mem_cons_of_mem _ hb)]
theorem at_set_ne {s : VS} {j r : Nat} {o : Option L} (h : r ≠ j) : at? (s.set j o) r = at? s r := by unfold at?; rw [List.getElem?_set_ne (Ne.symm h)]
theorem nums_ok {C : Addr} {j r : Nat} {ns : List Int} {s : VS} {x : D} (hj : j < s.length) (hn : s[j]? = some none) (hr : at? s r = some (.d x)) (hne : r ≠ j) (hp : ∀ i ∈ ns, -9 ≤ i ∧ i ≤ 99) (hl : ns.length ≤ 1000) :
    lcF (.nm j) [j] bYes (fS (fCall (fn_number_of C) (kCons (vLook j) (kCons (vLook r) kNil)))) (ns.map fun i => D.str (numS i)) [] s = some (ns.map D.int, s) := by
  rw [lcF_pure (fun d => match d with | .str z => (PySem.intText? z).map D.int | _ => none) (by simp; omega)]
  · congr 2
    exact fm_mem fun i hi => by simp [(num_ok (hp i hi).1 (hp i hi).2).2.2.2.2.1]
  · intro d hd
    obtain ⟨i, hi, rfl⟩ := List.mem_map.mp hd
    have hs : ∀ x, at? (s.set j (some x)) j = some x := fun x => by
      unfold at?; rw [List.getElem?_set_self hj]
    have hw : ∀ x, wipeV (s.set j x) [j] = s := fun x => by
      show (s.set j x).set j none = s
      rw [List.set_set]
      apply List.ext_getElem?
      intro i
      by_cases q : j = i
      · subst q; rw [List.getElem?_set_self hj, hn]
      · rw [List.getElem?_set_ne q]
    simp [hj, bYes, hs, at_set_ne hne, hr]
    refine call_number (hp i hi).1 (hp i hi).2 ?_
    simp [hw, (num_ok (hp i hi).1 (hp i hi).2).2.2.2.2.1]
theorem box_of_ok {C : Addr} {b : Bx} {r : D} {Q : L → VS → Prop} (hb : b.ok) (hq : Q (.d b.d) [none, none]) : wp (fn_box_of C).run [some (.d (.lst (b.words.map D.str))), some (.d r)] Q := by
  refine wp_def ?_
  show wp (F_box_of C) [some (.d (.lst (b.words.map D.str))), some (.d r), none] _
  simp only [F_box_of, F_box_of_0, wp_sSeq, F_box_of_1]
  cases b with
  | inn n =>
    simp [Bx.words, Bx.ps, strD, F_box_of_2, F_box_of_3]
    refine call_name hb ?_
    simp [F_box_of_6, outs_eq, List.range_succ]
    exact hq
  | out n =>
    simp [Bx.words, Bx.ps, strD, F_box_of_2, F_box_of_3, ofStr_inj]
    refine call_name hb ?_
    simp [F_box_of_6, outs_eq, List.range_succ]
    exact hq
  | sum l =>
    obtain ⟨h1, h2⟩ := hb
    simp [Bx.words, Bx.ps, strD, ofStr_inj, F_box_of_7, wp_fComp, wipeV, cutL, HT.sIx]
    have h := nums_ok (C := C) (j := 2) (r := 1) (ns := [l]) (s := [some (.d (.lst [.str (Str.ofString "sum"), .str (numS l)])), some (.d r), none]) (x := r) (by simp) rfl rfl (by decide) (fun i hi => by simp at hi; subst hi; omega) (by simp)
    simp only [List.map_cons, List.map_nil] at h
    rw [h]
    simp [restV, keepD, dTuple, dAdd, outs_eq, List.range_succ]
    exact hq
  | most l =>
    obtain ⟨h1, h2⟩ := hb
    simp [Bx.words, Bx.ps, strD, ofStr_inj, F_box_of_7, wp_fComp, wipeV, cutL, HT.sIx]
    have h := nums_ok (C := C) (j := 2) (r := 1) (ns := [l]) (s := [some (.d (.lst [.str (Str.ofString "most"), .str (numS l)])), some (.d r), none]) (x := r) (by simp) rfl rfl (by decide) (fun i hi => by simp at hi; subst hi; omega) (by simp)
    simp only [List.map_cons, List.map_nil] at h
    rw [h]
    simp [restV, keepD, dTuple, dAdd, outs_eq, List.range_succ]
    exact hq
  | times k l =>
    obtain ⟨⟨h1, h2⟩, h3, h4⟩ := hb
    simp [Bx.words, Bx.ps, strD, ofStr_inj, F_box_of_7, wp_fComp, wipeV, cutL, HT.sIx]
    have h := nums_ok (C := C) (j := 2) (r := 1) (ns := [k, l]) (s := [some (.d (.lst [.str (Str.ofString "times"), .str (numS k), .str (numS l)])), some (.d r), none]) (x := r) (by simp) rfl rfl (by decide) (fun i hi => by simp at hi; rcases hi with rfl | rfl <;> omega) (by simp)
    simp only [List.map_cons, List.map_nil] at h
    rw [h]
    simp [restV, keepD, dTuple, dAdd, outs_eq, List.range_succ]
    exact hq
  | part k l =>
    obtain ⟨⟨h1, h2⟩, h3, h4⟩ := hb
    simp [Bx.words, Bx.ps, strD, ofStr_inj, F_box_of_7, wp_fComp, wipeV, cutL, HT.sIx]
    have h := nums_ok (C := C) (j := 2) (r := 1) (ns := [k, l]) (s := [some (.d (.lst [.str (Str.ofString "part"), .str (numS k), .str (numS l)])), some (.d r), none]) (x := r) (by simp) rfl rfl (by decide) (fun i hi => by simp at hi; rcases hi with rfl | rfl <;> omega) (by simp)
    simp only [List.map_cons, List.map_nil] at h
    rw [h]
    simp [restV, keepD, dTuple, dAdd, outs_eq, List.range_succ]
    exact hq
theorem call_box_of {C : Addr} {s : VS} {b : Bx} {r : D} {Q : L → VS → Prop} (hb : b.ok) (hq : Q (.d b.d) s) : wp (callF (fn_box_of C) [.dat (.lst (b.words.map D.str)), .dat r]) s Q := by
  rw [wp_callF]
  simp only [to_some, to_args_dat, argsOf_nil]
  exact ⟨⟨rfl, rfl⟩, box_of_ok hb hq⟩
theorem SP_tl : SP.cps.toList = [32] := by decide +kernel
theorem NL_tl : NL.cps.toList = [10] := by decide +kernel
theorem split_box {b : Bx} (h : b.ok) : Txt.split b.line SP = b.words := by
  refine TL.split_join (y := SP) (s := 32) (S := []) SP_tl (by decide +kernel) (fun e => ?_) fun p hp => (okW_words h p hp).sp
  have := (words_len b).1; rw [e] at this; simp at this
def cWord : Str := Str.ofString "cable"
theorem cline_join (c : Cb) : c.line = Txt.join SP (cWord :: c.words) := by
  have h1 : ∀ a b : Str, a.cps.toList = b.cps.toList → a = b := fun a b h => by
    cases a; cases b; simp at h; rw [h]
  apply h1
  unfold Cb.line
  rw [cps_app, join_tl, join_tl]
  have e1 : (Str.ofString "cable ").cps.toList = cWord.cps.toList ++ SP.cps.toList := by decide +kernel
  rw [e1]
  show _ = TL.joinL SP.cps.toList (cWord.cps.toList :: (c.words.map fun z => z.cps.toList))
  simp only [Cb.words, List.map_cons, List.map_nil, TL.joinL, List.append_assoc]
theorem split_cab {c : Cb} (h : OkC c) : Txt.split c.line SP = cWord :: c.words := by
  rw [cline_join]
  refine TL.split_join (y := SP) (s := 32) (S := []) SP_tl (by decide +kernel) (by simp) fun p hp => ?_
  rcases List.mem_cons.mp hp with rfl | hp
  · show 32 ∉ cWord.cps.toList
    decide +kernel
  · exact (okW_cwords h p hp).sp
theorem mem_join_nl {y : Str} {ps : List Str} (hy : 10 ∉ y.cps.toList) (h : ∀ z ∈ ps, 10 ∉ z.cps.toList) : 10 ∉ (Txt.join y ps).cps.toList := by
  rw [join_tl]
  intro q
  rcases joinL_mem _ q with q | ⟨p, hp, q⟩
  · exact hy q
  · obtain ⟨z, hz, rfl⟩ := List.mem_map.mp hp
    exact h z hz q
theorem bline_nl {b : Bx} (h : b.ok) : 10 ∉ b.line.cps.toList := mem_join_nl (by decide +kernel) fun z hz => (okW_words h z hz).nl
theorem cline_nl {c : Cb} (h : OkC c) : 10 ∉ c.line.cps.toList := by
  rw [cline_join]
  refine mem_join_nl (by decide +kernel) fun z hz => ?_
  rcases List.mem_cons.mp hz with rfl | hz
  · decide +kernel
  · exact (okW_cwords h z hz).nl
theorem split_text {bs : List Bx} {cs : List Cb} (w : WF bs cs) : Txt.split (textOf bs cs) NL = bs.map Bx.line ++ cs.map Cb.line := by
  refine TL.split_join (y := NL) (s := 10) (S := []) NL_tl (by decide +kernel) (fun e => ?_) fun p hp => ?_
  · obtain ⟨b, hb, _⟩ := w.mid
    have h1 := congrArg List.length e
    have h2 := List.length_pos_of_mem hb
    rw [List.length_append, List.length_map, List.length_nil] at h1
    omega
  · rcases List.mem_append.mp hp with h | h
    · obtain ⟨b, hb, rfl⟩ := List.mem_map.mp h
      exact bline_nl (w.box b hb)
    · obtain ⟨c, hc, rfl⟩ := List.mem_map.mp h
      exact cline_nl (okC_of w hc)
theorem text_len {bs : List Bx} {cs : List Cb} (w : WF bs cs) : (textOf bs cs).length ≤ 5000 := by
  have h1 := join_len NL (bs.map Bx.line ++ cs.map Cb.line) (m := 40) fun z hz => by
    rcases List.mem_append.mp hz with h | h
    · obtain ⟨b, hb, rfl⟩ := List.mem_map.mp h
      have := line_len (w.box b hb); omega
    · obtain ⟨c, hc, rfl⟩ := List.mem_map.mp h
      have := cline_len (okC_of w hc); omega
  have := w.nb; have := w.nc
  rw [NL_len] at h1
  simp at h1
  unfold textOf
  omega
end Hd
namespace Hd
open PySem PySem.Spec PyProof.Rows L2 Ev
abbrev tD (bs : List Bx) (cs : List Cb) : D := .tup [.lst (bs.map Bx.d), .lst (cs.map Cb.d)]
theorem words_word (b : Bx) : ∃ t, b.words = b.word :: t := by cases b <;> exact ⟨_, rfl⟩
theorem word_cable (b : Bx) : b.word ≠ Str.ofString "cable" := by cases b <;> simp [Bx.word, ofStr_inj]
theorem words_size (b : Bx) : (b.words.length : Int) = b.size := by cases b <;> rfl
theorem dsplit_box {b : Bx} (h : b.ok) : dSplit (.str b.line) [.str (Str.ofString " ")] = some (.own (b.words.map D.str)) := by
  have hl := line_len h
  have := split_box h
  unfold SP at this
  rw [dSplit_str, if_pos ⟨by decide +kernel, by omega⟩, this]
theorem dsplit_cab {c : Cb} (h : OkC c) : dSplit (.str c.line) [.str (Str.ofString " ")] = some (.own ((cWord :: c.words).map D.str)) := by
  have hl := cline_len h
  have := split_cab h
  unfold SP at this
  rw [dSplit_str, if_pos ⟨by decide +kernel, by omega⟩, this]
theorem dsplit_text {bs : List Bx} {cs : List Cb} (w : WF bs cs) : dSplit (.str (textOf bs cs)) [.str (Str.ofString "\n")] = some (.own ((bs.map Bx.line ++ cs.map Cb.line).map D.str)) := by
  have hl := text_len w
  have := split_text w
  unfold NL at this
  rw [dSplit_str, if_pos ⟨by decide +kernel, by omega⟩, this]
theorem read_ok {C : Addr} {bs : List Bx} {cs : List Cb} {Q : L → VS → Prop} (w : WF bs cs) (hq : ∀ order, OrdOk bs cs order → Q (deskL C bs cs order) [none]) : wp (fn_read C).run [some (.d (.str (textOf bs cs)))] Q := by
  refine wp_def ?_
  show wp (F_read C) [some (.d (.str (textOf bs cs))), none, none, none, none, none, none] _
  have hnb := w.nb
  have hnc := w.nc
  simp only [F_read, F_read_0, wp_sSeq, F_read_1]
  simp [F_read_2, F_read_3, isT, dsplit_text w]
  refine wp_loopN (fun i s => ∃ o3 o4 o5 : Option L, s = [some (.d (.str (textOf bs cs))), some (.own ((bs.take i).map Bx.d)), some (.own ((cs.take (i - bs.length)).map Cb.d)), o3, o4, o5, none]) ⟨none, none, none, by simp⟩ ?_ ?_
  · rintro i d s N hd ⟨o3, o4, o5, rfl⟩ hN
    obtain ⟨x, hx, rfl⟩ := enumD_get hd
    simp only [F_read_4, F_read_5]
    by_cases hi : i < bs.length
    · rw [List.getElem?_append_left (by simpa using hi)] at hx
      simp [List.getElem?_eq_getElem hi] at hx
      subst hx
      obtain ⟨b, hb⟩ : ∃ b, bs[i] = b := ⟨_, rfl⟩
      have hok : b.ok := by rw [← hb]; exact w.box _ (List.getElem_mem hi)
      have hnx := hN
      rw [hb]
      simp [isT, dsplit_box hok]
      obtain ⟨t, ht⟩ := words_word b
      have hsz := words_size b
      have h0 : (b.words.map D.str)[0]? = some (.str b.word) := by rw [ht]; rfl
      have hlen : (b.words.map D.str).length = b.words.length := by simp
      have hz : i - bs.length = 0 := by omega
      have hbo := fun (s : VS) (r : D) (Q : L → VS → Prop) (hq : Q (.d b.d) s) => call_box_of (C := C) (s := s) (b := b) (r := r) (Q := Q) hok hq
      obtain ⟨ws, hws⟩ : ∃ ws, b.words.map D.str = ws := ⟨_, rfl⟩
      rw [hws] at h0 hlen hbo ⊢
      rw [hz]
      have hsz2 : b.size = (ws.length : Int) := by rw [hlen]; exact hsz.symm
      simp [F_read_6, h0, word_cable b, F_read_12, F_read_13, dEq_nil (xs := []) rfl, sizes_ok, hsz2, F_read_16]
      refine hbo _ _ _ ?_
      have hbi : i < 100000 := by omega
      simp
      refine ⟨by omega, ?_⟩
      refine hnx _ ⟨some (.d (.int (i : Int))), some (.d (.str b.line)), some (.d (.lst ws)), ?_⟩
      have e1 : bs.take (i + 1) = bs.take i ++ [b] := by rw [List.take_succ, List.getElem?_eq_getElem hi, hb]; rfl
      have e2 : i + 1 - bs.length = 0 := by omega
      rw [e1, e2]
      simp
    · have hle : bs.length ≤ i := by omega
      obtain ⟨k, hk⟩ : ∃ k, k = i - bs.length := ⟨_, rfl⟩
      rw [List.getElem?_append_right (by simpa using hle)] at hx
      simp only [List.length_map, ← hk] at hx
      have hkc : k < cs.length := by
        have := (List.getElem?_eq_some_iff.mp hx).1
        simpa using this
      simp [List.getElem?_eq_getElem hkc] at hx
      subst hx
      obtain ⟨c, hc⟩ : ∃ c, cs[k] = c := ⟨_, rfl⟩
      have hok : OkC c := by rw [← hc]; exact okC_of w (List.getElem_mem hkc)
      rw [hc]
      simp [isT, dsplit_cab hok]
      have hns := nums_ok (C := C) (j := 6) (r := 3) (ns := [(c.o : Int), (c.t : Int), c.h]) (s := [some (.d (.str (textOf bs cs))), some (.own ((bs.take i).map Bx.d)), some (.own ((cs.take (i - bs.length)).map Cb.d)), some (.d (.int (i : Int))), some (.d (.str c.line)), some (.d (.lst (D.str cWord :: c.words.map D.str))), none]) (x := .int (i : Int)) (by simp) rfl rfl (by decide) (fun z hz => by
        obtain ⟨h1, h2, h3, h4⟩ := hok
        simp at hz; rcases hz with rfl | rfl | rfl <;> omega) (by simp)
      simp only [List.map_cons, List.map_nil] at hns
      simp only [List.map_take] at hns
      have hw3 : c.words.length = 3 := rfl
      simp [F_read_6, cWord, F_read_7, F_read_8, hw3, F_read_11, wp_fComp, wipeV]
      have hcut : cutL (D.str (Str.ofString "cable") :: c.words.map D.str) (some 1) none = [.str (numS c.o), .str (numS c.t), .str (numS c.h)] := by
        simp [cutL, HT.sIx, Cb.words]
      unfold cWord at hns
      rw [hcut, hns]
      simp [restV, keepD, dTuple]
      refine ⟨by omega, ?_⟩
      refine hN _ ⟨some (.d (.int (i : Int))), some (.d (.str c.line)), some (.d (.lst (.str (Str.ofString "cable") :: c.words.map D.str))), ?_⟩
      have e1 : bs.take (i + 1) = bs.take i := by rw [List.take_of_length_le (by omega), List.take_of_length_le (by omega)]
      have e2 : cs.take (i + 1 - bs.length) = cs.take (i - bs.length) ++ [c] := by
        have : i + 1 - bs.length = k + 1 := by omega
        rw [this, ← hk, List.take_succ, List.getElem?_eq_getElem hkc, hc]; rfl
      rw [e1, e2]
      simp [Cb.d]
  · rintro s ⟨o3, o4, o5, rfl⟩
    rw [enumD_len]
    have e1 : bs.take ((bs.map Bx.line ++ cs.map Cb.line).map D.str).length = bs := List.take_of_length_le (by simp)
    have e2 : cs.take (((bs.map Bx.line ++ cs.map Cb.line).map D.str).length - bs.length) = cs := List.take_of_length_le (by simp)
    simp only [List.map_append] at e1 e2
    simp only [List.map_map] at e1 e2
    rw [e1, e2]
    simp [F_read_17, wp_fMake]
    obtain ⟨r, os, e, order, ho, rfl, rfl⟩ := wp_out (init_ok (C := C) (Q := fun r os => ∃ order, OrdOk bs cs order ∧ r = .d .non ∧ os = [some (deskL C bs cs order), none, none]) w fun order ho => ⟨order, ho, rfl, rfl⟩)
    refine makeF_in (ls := [some (.d (.lst (bs.map Bx.d))), some (.d (.lst (cs.map Cb.d)))]) rfl rfl rfl e ?_
    simp [outs_eq, List.range_succ]
    exact hq order ho
theorem call_read {C : Addr} {s : VS} {bs : List Bx} {cs : List Cb} {Q : L → VS → Prop} (w : WF bs cs) (hq : ∀ order, OrdOk bs cs order → Q (deskL C bs cs order) s) : wp (callF (fn_read C) [.dat (.str (textOf bs cs))]) s Q := by
  rw [wp_callF]
  simp only [to_some, to_args_dat, argsOf_nil]
  exact ⟨⟨rfl, rfl⟩, read_ok w fun order ho => hq order ho⟩
theorem call_written {C : Addr} {s : VS} {bs : List Bx} {cs : List Cb} {order : List Nat} {dk : D} {Q : L → VS → Prop} (hd : IsDesk C bs cs order dk) (w : WF bs cs) (hq : Q (.d (.str (textOf bs cs))) s) : wp (callF (fn_written C) [.dat dk]) s Q := by
  rw [wp_callF]
  simp only [to_some, to_args_dat, argsOf_nil]
  exact ⟨⟨rfl, rfl⟩, written_ok hd w hq⟩
theorem str_ext {a b : Str} (h : a.cps.toList = b.cps.toList) : a = b := by
  cases a; cases b; simp at h; rw [h]
theorem line2 (a b : Str) : a ++ SP ++ b = Txt.join SP [a, b] := str_ext (by rw [cps_app, cps_app, join_tl]; simp [TL.joinL])
theorem line3 (a b c : Str) : a ++ SP ++ b ++ SP ++ c = Txt.join SP [a, b, c] := str_ext (by rw [cps_app, cps_app, cps_app, cps_app, join_tl]; simp [TL.joinL])
theorem line4 (c : Cb) : Str.ofString "cable " ++ numS c.o ++ SP ++ numS c.t ++ SP ++ numS c.h = c.line := by
  unfold Cb.line
  exact str_ext (by rw [cps_app, cps_app, cps_app, cps_app, cps_app, cps_app, join_tl]; simp [TL.joinL, Cb.words])
theorem app_len (a b : Str) : (a ++ b).length = a.length + b.length := by rw [len_cps, len_cps, len_cps, cps_app, List.length_append]
theorem repr_num (i : Int) : Str.ofString i.repr = numS i := rfl
theorem lines_ok {C : Addr} {bs : List Bx} {cs : List Cb} {Q : L → VS → Prop} (w : WF bs cs) (hq : Q (.own ((bs.map Bx.line ++ cs.map Cb.line).map D.str)) [none]) : wp (fn__law_lines C).run [some (.d (tD bs cs))] Q := by
  refine wp_def ?_
  show wp (F__law_lines C) [some (.d (tD bs cs)), none, none, none, none, none, none, none] _
  have hnb := w.nb
  have hnc := w.nc
  simp only [F__law_lines, F__law_lines_0, wp_sSeq, F__law_lines_1]
  simp [F__law_lines_2]
  refine wp_loopN (fun i s => ∃ o2 o3 o4 : Option L, s = [some (.d (tD bs cs)), some (.own (((bs.take i).map Bx.line).map D.str)), o2, o3, o4, none, none, none]) ⟨none, none, none, rfl⟩ ?_ ?_
  · rintro i d s N hd ⟨o2, o3, o4, rfl⟩ hN
    have hi : i < bs.length := by
      have := (List.getElem?_eq_some_iff.mp hd).1
      simpa using this
    simp [List.getElem?_eq_getElem hi] at hd
    subst hd
    obtain ⟨b, hb⟩ : ∃ b, bs[i] = b := ⟨_, rfl⟩
    have hok : b.ok := by rw [← hb]; exact w.box _ (List.getElem_mem hi)
    rw [hb]
    have e1 : ((bs.take (i + 1)).map Bx.line).map D.str = ((bs.take i).map Bx.line).map D.str ++ [.str b.line] := by rw [List.take_succ, List.getElem?_eq_getElem hi, hb]; simp
    have hlen : (((bs.take i).map Bx.line).map D.str).length ≤ 10 := by simp; omega
    obtain ⟨acc, hacc⟩ : ∃ acc, ((bs.take i).map Bx.line).map D.str = acc := ⟨_, rfl⟩
    rw [hacc] at e1 hlen ⊢
    have hN2 : ∀ o2 o3 o4 : Option L, N [some (.d (tD bs cs)), some (.own (acc ++ [.str b.line])), o2, o3, o4, none, none, none] := fun o2 o3 o4 => hN _ ⟨o2, o3, o4, by rw [e1]⟩
    have hSP := SP_len
    unfold SP at hSP
    have hlt : acc.length < 100000 := by omega
    have w1 : (Str.ofString "in").length = 2 := by decide +kernel
    have w2 : (Str.ofString "out").length = 3 := by decide +kernel
    have w3 : (Str.ofString "sum").length = 3 := by decide +kernel
    have w4 : (Str.ofString "most").length = 4 := by decide +kernel
    have w5 : (Str.ofString "times").length = 5 := by decide +kernel
    have w6 : (Str.ofString "part").length = 4 := by decide +kernel
    simp only [F__law_lines_3, wp_sSeq, F__law_lines_4, F__law_lines_5, F__law_lines_8]
    cases b with
    | inn n =>
      have hn := (okW_name hok).len
      simp [Bx.d, dSl, HT.sIx, cutL, wp_loop_cons, F__law_lines_6, F__law_lines_7, app_len, hSP, w1, hlt]
      refine ⟨by omega, ?_⟩
      have e := line2 (Str.ofString "in") n
      unfold SP at e
      rw [e]
      exact hN2 _ _ _
    | out n =>
      have hn := (okW_name hok).len
      simp [Bx.d, dSl, HT.sIx, cutL, wp_loop_cons, F__law_lines_6, F__law_lines_7, app_len, hSP, w2, hlt]
      refine ⟨by omega, ?_⟩
      have e := line2 (Str.ofString "out") n
      unfold SP at e
      rw [e]
      exact hN2 _ _ _
    | sum l =>
      obtain ⟨h1, h2⟩ := hok
      obtain ⟨a1, a2, a3, a4, a5, a6⟩ := num_ok (i := l) (by omega) (by omega)
      simp [Bx.d, dSl, HT.sIx, cutL, wp_loop_cons, F__law_lines_6, F__law_lines_7, app_len, hSP, w3, hlt, a6, repr_num]
      refine ⟨by omega, ?_⟩
      have e := line2 (Str.ofString "sum") (numS l)
      unfold SP at e
      rw [e]
      exact hN2 _ _ _
    | most l =>
      obtain ⟨h1, h2⟩ := hok
      obtain ⟨a1, a2, a3, a4, a5, a6⟩ := num_ok (i := l) (by omega) (by omega)
      simp [Bx.d, dSl, HT.sIx, cutL, wp_loop_cons, F__law_lines_6, F__law_lines_7, app_len, hSP, w4, hlt, a6, repr_num]
      refine ⟨by omega, ?_⟩
      have e := line2 (Str.ofString "most") (numS l)
      unfold SP at e
      rw [e]
      exact hN2 _ _ _
    | times k l =>
      obtain ⟨⟨h1, h2⟩, h3, h4⟩ := hok
      obtain ⟨a1, a2, a3, a4, a5, a6⟩ := num_ok (i := l) (by omega) (by omega)
      obtain ⟨b1, b2, b3, b4, b5, b6⟩ := num_ok (i := k) (by omega) (by omega)
      simp [Bx.d, dSl, HT.sIx, cutL, wp_loop_cons, F__law_lines_6, F__law_lines_7, app_len, hSP, w5, hlt, a6, b6, repr_num]
      refine ⟨by omega, by omega, by omega, ?_⟩
      have e := line3 (Str.ofString "times") (numS k) (numS l)
      unfold SP at e
      rw [e]
      exact hN2 _ _ _
    | part k l =>
      obtain ⟨⟨h1, h2⟩, h3, h4⟩ := hok
      obtain ⟨a1, a2, a3, a4, a5, a6⟩ := num_ok (i := l) (by omega) (by omega)
      obtain ⟨b1, b2, b3, b4, b5, b6⟩ := num_ok (i := k) (by omega) (by omega)
      simp [Bx.d, dSl, HT.sIx, cutL, wp_loop_cons, F__law_lines_6, F__law_lines_7, app_len, hSP, w6, hlt, a6, b6, repr_num]
      refine ⟨by omega, by omega, by omega, ?_⟩
      have e := line3 (Str.ofString "part") (numS k) (numS l)
      unfold SP at e
      rw [e]
      exact hN2 _ _ _
  · rintro s ⟨o2, o3, o4, rfl⟩
    have e0 : bs.take (bs.map Bx.d).length = bs := List.take_of_length_le (by simp)
    rw [e0]
    simp only [thenF_nx, wp_sSeq, F__law_lines_9]
    simp
    refine wp_loopN (fun i s => ∃ o2 o3 o4 o5 o6 o7 : Option L, s = [some (.d (tD bs cs)), some (.own ((bs.map Bx.line).map D.str ++ ((cs.take i).map Cb.line).map D.str)), o2, o3, o4, o5, o6, o7]) ⟨o2, o3, o4, none, none, none, by simp⟩ ?_ ?_
    · rintro i d s N hd ⟨o2, o3, o4, o5, o6, o7, rfl⟩ hN
      have hi : i < cs.length := by
        have := (List.getElem?_eq_some_iff.mp hd).1
        simpa using this
      simp [List.getElem?_eq_getElem hi] at hd
      subst hd
      obtain ⟨c, hc⟩ : ∃ c, cs[i] = c := ⟨_, rfl⟩
      have hok : OkC c := by rw [← hc]; exact okC_of w (List.getElem_mem hi)
      rw [hc]
      have e1 : (bs.map Bx.line).map D.str ++ ((cs.take (i + 1)).map Cb.line).map D.str = (bs.map Bx.line).map D.str ++ ((cs.take i).map Cb.line).map D.str ++ [.str c.line] := by rw [List.take_succ, List.getElem?_eq_getElem hi, hc]; simp
      have hlen : ((bs.map Bx.line).map D.str ++ ((cs.take i).map Cb.line).map D.str).length ≤ 30 := by simp; omega
      obtain ⟨acc, hacc⟩ : ∃ acc, (bs.map Bx.line).map D.str ++ ((cs.take i).map Cb.line).map D.str = acc := ⟨_, rfl⟩
      rw [hacc] at e1 hlen ⊢
      have hN2 : ∀ o2 o3 o4 o5 o6 o7 : Option L, N [some (.d (tD bs cs)), some (.own (acc ++ [.str c.line])), o2, o3, o4, o5, o6, o7] := fun o2 o3 o4 o5 o6 o7 => hN _ ⟨o2, o3, o4, o5, o6, o7, by rw [e1]⟩
      have hSP := SP_len
      unfold SP at hSP
      have hlt : acc.length < 100000 := by omega
      have w1 : (Str.ofString "cable ").length = 6 := by decide +kernel
      obtain ⟨h1, h2, h3, h4⟩ := hok
      obtain ⟨a1, _, _, _, _, a6⟩ := num_ok (i := (c.o : Int)) (by omega) (by omega)
      obtain ⟨b1, _, _, _, _, b6⟩ := num_ok (i := (c.t : Int)) (by omega) (by omega)
      obtain ⟨c1, _, _, _, _, c6⟩ := num_ok (i := c.h) (by omega) (by omega)
      have e := line4 c
      have a7 : c.o.log2 < 1920 := by simpa using a6
      have b7 : c.t.log2 < 1920 := by simpa using b6
      unfold SP at e
      simp only [F__law_lines_10, F__law_lines_11]
      simp [Cb.d, app_len, hSP, w1, hlt, a7, b7, c6, repr_num]
      and_intros
      all_goals first | omega | skip
      rw [e]
      exact hN2 _ _ _ _ _ _
    · rintro s ⟨o2, o3, o4, o5, o6, o7, rfl⟩
      have e0 : cs.take (cs.map Cb.d).length = cs := List.take_of_length_le (by simp)
      rw [e0, ← List.map_append]
      simp [F__law_lines_12, outs_eq, List.range_succ]
      simpa using hq
theorem call_lines {C : Addr} {s : VS} {bs : List Bx} {cs : List Cb} {Q : L → VS → Prop} (w : WF bs cs) (hq : Q (.own ((bs.map Bx.line ++ cs.map Cb.line).map D.str)) s) : wp (callF (fn__law_lines C) [.dat (tD bs cs)]) s Q := by
  rw [wp_callF]
  simp only [to_some, to_args_dat, argsOf_nil]
  exact ⟨⟨rfl, rfl⟩, lines_ok w hq⟩
end Hd
namespace Hd
open PySem PySem.Spec PyProof.Rows L2 Ev
theorem okAl_box (b : Bx) : okAl 3 b.d = true := by cases b <;> rfl
theorem okAl_cab (c : Cb) : okAl 3 c.d = true := rfl
theorem okAl_desk {bs : List Bx} {cs : List Cb} (w : WF bs cs) : okAl 5 (.lst [.lst (bs.map Bx.d), .lst (cs.map Cb.d)]) = true := by
  have h1 : okAl 4 (.lst (bs.map Bx.d)) = true := by
    show (decide ((bs.map Bx.d).length ≤ 1000) && (bs.map Bx.d).all (okAl 3)) = true
    have := w.nb
    rw [Bool.and_eq_true]
    exact ⟨decide_eq_true (by simp; omega), List.all_eq_true.mpr fun d hd => by obtain ⟨b, _, rfl⟩ := List.mem_map.mp hd; exact okAl_box b⟩
  have h2 : okAl 4 (.lst (cs.map Cb.d)) = true := by
    show (decide ((cs.map Cb.d).length ≤ 1000) && (cs.map Cb.d).all (okAl 3)) = true
    have := w.nc
    rw [Bool.and_eq_true]
    exact ⟨decide_eq_true (by simp; omega), List.all_eq_true.mpr fun d hd => by obtain ⟨b, _, rfl⟩ := List.mem_map.mp hd; exact okAl_cab b⟩
  show (decide (2 ≤ 1000) && (okAl 4 (.lst (bs.map Bx.d)) && (okAl 4 (.lst (cs.map Cb.d)) && true))) = true
  rw [h1, h2]; rfl
theorem boxes_ok {C : Addr} {bs : List Bx} {cs : List Cb} {order : List Nat} {dk : D} {Q : L → VS → Prop} (hd : IsDesk C bs cs order dk) (hq : Q (.own (bs.map Bx.d)) [some (.d dk)]) : wp (fn_Desk_boxes C).run [some (.d dk)] Q := by
  refine wp_def ?_
  show wp (F_Desk_boxes C) [some (.d dk)] _
  simp [F_Desk_boxes, F_Desk_boxes_0, F_Desk_boxes_1, hd.kept, outs_eq, List.range_succ]
  exact hq
theorem cables_ok {C : Addr} {bs : List Bx} {cs : List Cb} {order : List Nat} {dk : D} {Q : L → VS → Prop} (hd : IsDesk C bs cs order dk) (hq : Q (.own (cs.map Cb.d)) [some (.d dk)]) : wp (fn_Desk_cables C).run [some (.d dk)] Q := by
  refine wp_def ?_
  show wp (F_Desk_cables C) [some (.d dk)] _
  simp [F_Desk_cables, F_Desk_cables_0, F_Desk_cables_1, hd.wires, outs_eq, List.range_succ]
  exact hq
theorem call_boxes {C : Addr} {s : VS} {bs : List Bx} {cs : List Cb} {order : List Nat} {dk : D} {Q : L → VS → Prop} (hd : IsDesk C bs cs order dk) (hq : Q (.own (bs.map Bx.d)) s) : wp (callF (fn_Desk_boxes C) [.dat dk]) s Q := by
  rw [wp_callF]
  simp only [to_some, to_args_dat, argsOf_nil]
  exact ⟨⟨rfl, rfl⟩, boxes_ok hd hq⟩
theorem call_cables {C : Addr} {s : VS} {bs : List Bx} {cs : List Cb} {order : List Nat} {dk : D} {Q : L → VS → Prop} (hd : IsDesk C bs cs order dk) (hq : Q (.own (cs.map Cb.d)) s) : wp (callF (fn_Desk_cables C) [.dat dk]) s Q := by
  rw [wp_callF]
  simp only [to_some, to_args_dat, argsOf_nil]
  exact ⟨⟨rfl, rfl⟩, cables_ok hd hq⟩
structure OkA (n : Nat) (d : D) : Prop where
  h : okAl n d = true
theorem call_alikeS {C : Addr} {s : VS} {d : D} {Q : L → VS → Prop} (h : OkA 5 d) (hq : Q (.d (.bl true)) s) : wp (callF (fn__law_alike C) [.dat d, .dat d]) s Q := call_alike h.h hq
theorem okA_desk {bs : List Bx} {cs : List Cb} (w : WF bs cs) : OkA 5 (.lst [.lst (bs.map Bx.d), .lst (cs.map Cb.d)]) := OkA.mk (okAl_desk w)
theorem t_alike {C : Addr} {s : VS} {bs : List Bx} {cs : List Cb} {Q : L → VS → Prop} (w : WF bs cs) (hq : Q (.d (.bl true)) s) : wp (callF (fn__law_alike C) [.dat (.lst [.lst (bs.map Bx.d), .lst (cs.map Cb.d)]), .dat (.lst [.lst (bs.map Bx.d), .lst (cs.map Cb.d)])]) s Q := call_alikeS (okA_desk w) hq
theorem turn_ok {C : Addr} {o0 o1 o2 o3 o5 o6 : Option L} {bs : List Bx} {cs : List Cb} {Q : Fl → VS → Prop} (w : WF bs cs) (hq : ∀ o5 o6, Q .nx [o0, o1, o2, o3, some (.d (tD bs cs)), o5, o6]) : wp (F_law_5 C) [o0, o1, o2, o3, some (.d (tD bs cs)), o5, o6] Q := by
  have ht := tjoin w
  unfold NL at ht
  simp only [F_law_5, wp_sSeq, F_law_6]
  simp
  refine call_lines w ?_
  obtain ⟨ls, hls⟩ : ∃ ls, (bs.map Bx.line ++ cs.map Cb.line).map D.str = ls := ⟨_, rfl⟩
  rw [hls] at ht ⊢
  simp [F_law_7]
  refine call_made w fun order ho => ?_
  have hdt : (deskL C bs cs order).data = some (deskD C bs cs order) := rfl
  rw [hdt]
  obtain ⟨dk, hdk, hd⟩ : ∃ dk, deskD C bs cs order = dk ∧ IsDesk C bs cs order dk := ⟨_, rfl, isDesk_ok⟩
  rw [hdk]
  simp
  refine call_written hd w ?_
  simp [isT, ht]
  refine call_alike rfl ?_
  simp [F_law_10, isT, ht]
  refine call_read w fun order2 ho2 => ?_
  have hdt : (deskL C bs cs order2).data = some (deskD C bs cs order2) := rfl
  rw [hdt]
  obtain ⟨dk2, hdk2, hd2⟩ : ∃ dk, deskD C bs cs order2 = dk ∧ IsDesk C bs cs order2 dk := ⟨_, rfl, isDesk_ok⟩
  rw [hdk2]
  simp [F_law_11, wp_fMeth]
  refine to_clsD hd2 (by simp [ofStr_inj]) (by simp [ofStr_inj]) (by simp [ofStr_inj]) ?_
  refine call_boxes hd2 ?_
  simp
  refine to_clsD hd2 (by simp [ofStr_inj]) (by simp [ofStr_inj]) (by simp [ofStr_inj]) ?_
  refine call_cables hd2 ?_
  simp
  refine t_alike w ?_
  simp
  refine call_written hd2 w ?_
  simp [isT, ht]
  exact hq _ _
theorem law_true (C : Addr) (ns : List Int) (hl : ns.length ≤ 63) : ∃ ps, (fn_law C).run [some (.d (.scr ns))] = some (.ok (.d (.bl true)), ps) := by
  have main : wp (fn_law C).run [some (.d (.scr ns))] fun l os => l = .d (.bl true) := by
    refine wp_def ?_
    show wp (F_law C) [some (.d (.scr ns)), none, none, none, none, none, none] _
    simp only [F_law, F_law_0, wp_sSeq, F_law_1]
    simp
    refine call_dice (by omega) (by omega) hl fun xs h => ?_
    simp [F_law_2]
    refine call_desk rfl h (by omega) (by omega) fun bs cs ys hy w => ?_
    simp [F_law_3]
    refine call_desk rfl hy (by omega) (by omega) fun bs2 cs2 zs hz w2 => ?_
    simp [F_law_4, wp_loop_cons]
    refine turn_ok w fun o5 o6 => ?_
    simp
    refine turn_ok w2 fun o5 o6 => ?_
    simp
    refine turn_ok w fun o5 o6 => ?_
    simp [F_law_14]
  obtain ⟨l, ps, e, rfl⟩ := wp_out main
  exact ⟨ps, e⟩
end Hd
namespace Hd
open PySem PySem.Spec PyProof.Rows L2 Ev
def d__wall : He.DefD := ⟨("_wall", none), "_wall", "_wall", defArgs s__wall, defBody s__wall, defScope s__wall, [], []⟩
def d_must : He.DefD := ⟨("must", none), "must", "must", defArgs s_must, defBody s_must, defScope s_must, [], []⟩
def d_is_name : He.DefD := ⟨("is_name", none), "is_name", "is_name", defArgs s_is_name, defBody s_is_name, defScope s_is_name, [], []⟩
def d_Desk___init__ : He.DefD := ⟨("Desk", some "__init__"), "__init__", "Desk.__init__", defArgs s_Desk___init__, defBody s_Desk___init__, defScope s_Desk___init__, [], []⟩
def d_Desk_is_box : He.DefD := ⟨("Desk", some "is_box"), "is_box", "Desk.is_box", defArgs s_Desk_is_box, defBody s_Desk_is_box, defScope s_Desk_is_box, [], []⟩
def d_Desk_names : He.DefD := ⟨("Desk", some "names"), "names", "Desk.names", defArgs s_Desk_names, defBody s_Desk_names, defScope s_Desk_names, [], []⟩
def d_Desk_is_cable : He.DefD := ⟨("Desk", some "is_cable"), "is_cable", "Desk.is_cable", defArgs s_Desk_is_cable, defBody s_Desk_is_cable, defScope s_Desk_is_cable, [], []⟩
def d_Desk_led_from : He.DefD := ⟨("Desk", some "led_from"), "led_from", "Desk.led_from", defArgs s_Desk_led_from, defBody s_Desk_led_from, defScope s_Desk_led_from, [], []⟩
def d_Desk_is_twice : He.DefD := ⟨("Desk", some "is_twice"), "is_twice", "Desk.is_twice", defArgs s_Desk_is_twice, defBody s_Desk_is_twice, defScope s_Desk_is_twice, [], []⟩
def d_Desk_in_order : He.DefD := ⟨("Desk", some "in_order"), "in_order", "Desk.in_order", defArgs s_Desk_in_order, defBody s_Desk_in_order, defScope s_Desk_in_order, [], []⟩
def d_Desk_boxes : He.DefD := ⟨("Desk", some "boxes"), "boxes", "Desk.boxes", defArgs s_Desk_boxes, defBody s_Desk_boxes, defScope s_Desk_boxes, [], []⟩
def d_Desk_cables : He.DefD := ⟨("Desk", some "cables"), "cables", "Desk.cables", defArgs s_Desk_cables, defBody s_Desk_cables, defScope s_Desk_cables, [], []⟩
def d_Desk_late : He.DefD := ⟨("Desk", some "late"), "late", "Desk.late", defArgs s_Desk_late, defBody s_Desk_late, defScope s_Desk_late, [], []⟩
def d_Desk_ends : He.DefD := ⟨("Desk", some "ends"), "ends", "Desk.ends", defArgs s_Desk_ends, defBody s_Desk_ends, defScope s_Desk_ends, [], []⟩
def d_written : He.DefD := ⟨("written", none), "written", "written", defArgs s_written, defBody s_written, defScope s_written, [], []⟩
def d_number_of : He.DefD := ⟨("number_of", none), "number_of", "number_of", defArgs s_number_of, defBody s_number_of, defScope s_number_of, [], []⟩
def d_read : He.DefD := ⟨("read", none), "read", "read", defArgs s_read, defBody s_read, defScope s_read, [], []⟩
def d_box_of : He.DefD := ⟨("box_of", none), "box_of", "box_of", defArgs s_box_of, defBody s_box_of, defScope s_box_of, [], []⟩
def d__law_dice : He.DefD := ⟨("_law_dice", none), "_law_dice", "_law_dice", defArgs s__law_dice, defBody s__law_dice, defScope s__law_dice, [], []⟩
def d__law_off : He.DefD := ⟨("_law_off", none), "_law_off", "_law_off", defArgs s__law_off, defBody s__law_off, defScope s__law_off, [], []⟩
def d__law_alike : He.DefD := ⟨("_law_alike", none), "_law_alike", "_law_alike", defArgs s__law_alike, defBody s__law_alike, defScope s__law_alike, [], []⟩
def d__law_mixed : He.DefD := ⟨("_law_mixed", none), "_law_mixed", "_law_mixed", defArgs s__law_mixed, defBody s__law_mixed, defScope s__law_mixed, [], []⟩
def d__law_box : He.DefD := ⟨("_law_box", none), "_law_box", "_law_box", defArgs s__law_box, defBody s__law_box, defScope s__law_box, [], []⟩
def d__law_hold : He.DefD := ⟨("_law_hold", none), "_law_hold", "_law_hold", defArgs s__law_hold, defBody s__law_hold, defScope s__law_hold, [], []⟩
def d__law_names : He.DefD := ⟨("_law_names", none), "_law_names", "_law_names", defArgs s__law_names, defBody s__law_names, defScope s__law_names, [], []⟩
def d__law_rows : He.DefD := ⟨("_law_rows", none), "_law_rows", "_law_rows", defArgs s__law_rows, defBody s__law_rows, defScope s__law_rows, [], []⟩
def d__law_more : He.DefD := ⟨("_law_more", none), "_law_more", "_law_more", defArgs s__law_more, defBody s__law_more, defScope s__law_more, [], []⟩
def d__law_desk : He.DefD := ⟨("_law_desk", none), "_law_desk", "_law_desk", defArgs s__law_desk, defBody s__law_desk, defScope s__law_desk, [], []⟩
def d__law_made : He.DefD := ⟨("_law_made", none), "_law_made", "_law_made", defArgs s__law_made, defBody s__law_made, defScope s__law_made, [], []⟩
def d__law_lines : He.DefD := ⟨("_law_lines", none), "_law_lines", "_law_lines", defArgs s__law_lines, defBody s__law_lines, defScope s__law_lines, [], []⟩
def d_law : He.DefD := ⟨("law", none), "law", "law", defArgs s_law, defBody s_law, defScope s_law, [], []⟩
def fn : List He.DefD := [d__wall, d_must, d_is_name, d_Desk___init__, d_Desk_is_box, d_Desk_names, d_Desk_is_cable, d_Desk_led_from, d_Desk_is_twice, d_Desk_in_order, d_Desk_boxes, d_Desk_cables, d_Desk_late, d_Desk_ends, d_written, d_number_of, d_read, d_box_of, d__law_dice, d__law_off, d__law_alike, d__law_mixed, d__law_box, d__law_hold, d__law_names, d__law_rows, d__law_more, d__law_desk, d__law_made, d__law_lines, d_law]
def fa : List He.Fa := [.glo "_wall", .glo "LateError", .glo "BadDesk", .glo "BadText", .str "SMALL" "abcdefghijklmnopqrstuvwxyz", .glo "SIZES", .int "MOST_BOXES" 10, .int "MOST_CABLES" 20, .int "MOST_LATE" 9, .int "MOST_BY" 9, .int "MOST_HOLD" 99, .glo "must", .glo "is_name", .glo "Desk", .str "FIGURES" "0123456789", .glo "written", .glo "number_of", .glo "read", .glo "box_of", .glo "_law_dice", .glo "_law_off", .glo "_law_alike", .glo "_law_mixed", .glo "_law_box", .glo "_law_hold", .glo "_law_names", .glo "_law_rows", .glo "_law_more", .glo "_law_desk", .glo "_law_made", .glo "_law_lines", .glo "law", .free "abs", .free "all", .free "bool", .free "dict", .free "enumerate", .free "int", .free "isinstance", .free "len", .free "list", .free "range", .free "str", .free "tuple", .cls "Desk", .mkr "Desk", .noat "Desk" "kept", .noat "Desk" "order", .noat "Desk" "wires", .meth "Desk" "is_box", .meth "Desk" "names", .meth "Desk" "is_cable", .meth "Desk" "led_from", .meth "Desk" "is_twice", .meth "Desk" "in_order", .meth "Desk" "boxes", .meth "Desk" "cables", .meth "Desk" "late", .meth "Desk" "ends"]
def ts : List TabU := [(fun K => He.ga K "SIZES", t_SIZES)]
abbrev R : PySem.W.OpenRow := PySem.W.OpenLaw.row PySem.Challenge.rw_evenlate_k18_whole_written_and_read
abbrev hk : PySem.W.Hook := hookU 5 fa fn ts
def ob (s : PySem.W.SharedT) : AlU := obsUG 5 fa fn ts (HandSHeadRun.getT s)
theorem ob_eq (s : PySem.W.SharedT) : ob s = hk.obs s.abs := obsUG_eq (HandSHeadRun.getT_eq s)
def loose : List Str := ["_wall", "LateError", "BadDesk", "BadText", "SMALL", "SIZES", "MOST_BOXES", "MOST_CABLES", "MOST_LATE", "MOST_BY", "MOST_HOLD", "must", "is_name", "Desk", "FIGURES", "written", "number_of", "read", "box_of", "_law_dice", "_law_off", "_law_alike", "_law_mixed", "_law_box", "_law_hold", "_law_names", "_law_rows", "_law_more", "_law_desk", "_law_made", "_law_lines"]
theorem run (w : World) : HandSHeadRun.RunEq R (PySem.W.view R.prog [35]) hk ob 4000 loose w := PySem.W.byRow2 "special-get-raises" (P := fun w => HandSHeadRun.RunEq R (PySem.W.view R.prog [35]) hk ob 4000 loose w) (fun w => by intro os; kernel_rfl) (fun w => by intro os; kernel_rfl) w
theorem tx {P : Program} {w : World} {K : PySem.W.Frag} {h : Heap} {mg : Str → Option Value} (KX : K.In h) (G : h.Ns mainGlobals mg) (c : SaysU fa fn ts w K) (base : Heap) : Tx P w K mg base (He.ga K "Desk") where
  n_abs := He.free_ok KX G (c.fact 32 (f := .free "abs") rfl)
  n_all := He.free_ok KX G (c.fact 33 (f := .free "all") rfl)
  n_bool := He.free_ok KX G (c.fact 34 (f := .free "bool") rfl)
  n_dict := He.free_ok KX G (c.fact 35 (f := .free "dict") rfl)
  n_enumerate := He.free_ok KX G (c.fact 36 (f := .free "enumerate") rfl)
  n_int := He.free_ok KX G (c.fact 37 (f := .free "int") rfl)
  n_isinstance := He.free_ok KX G (c.fact 38 (f := .free "isinstance") rfl)
  n_len := He.free_ok KX G (c.fact 39 (f := .free "len") rfl)
  n_list := He.free_ok KX G (c.fact 40 (f := .free "list") rfl)
  n_range := He.free_ok KX G (c.fact 41 (f := .free "range") rfl)
  n_str := He.free_ok KX G (c.fact 42 (f := .free "str") rfl)
  n_tuple := He.free_ok KX G (c.fact 43 (f := .free "tuple") rfl)
  g_SMALL := He.str_ok KX G (c.fact 4 (f := .str "SMALL" "abcdefghijklmnopqrstuvwxyz") rfl)
  t_SIZES := c.tab 0 (t := (fun K => He.ga K "SIZES", t_SIZES)) (He.glo_ok KX G (c.fact 5 (f := .glo "SIZES") rfl)) rfl
  g_MOST_BOXES := He.int_ok KX G (c.fact 6 (f := .int "MOST_BOXES" 10) rfl)
  g_MOST_CABLES := He.int_ok KX G (c.fact 7 (f := .int "MOST_CABLES" 20) rfl)
  g_MOST_LATE := He.int_ok KX G (c.fact 8 (f := .int "MOST_LATE" 9) rfl)
  g_MOST_BY := He.int_ok KX G (c.fact 9 (f := .int "MOST_BY" 9) rfl)
  g_MOST_HOLD := He.int_ok KX G (c.fact 10 (f := .int "MOST_HOLD" 99) rfl)
  g_FIGURES := He.str_ok KX G (c.fact 14 (f := .str "FIGURES" "0123456789") rfl)
  cls := He.cls_ok (c.fact 44 (f := .cls "Desk") rfl)
  na_kept := He.noat_ok (c.fact 46 (f := .noat "Desk" "kept") rfl)
  na_order := He.noat_ok (c.fact 47 (f := .noat "Desk" "order") rfl)
  na_wires := He.noat_ok (c.fact 48 (f := .noat "Desk" "wires") rfl)
  f_must := by
    obtain ⟨fd, F⟩ := c.t.d.def_ 1 (d := d_must) rfl
    exact ⟨⟨_, fd, He.glo_ok KX G (c.fact 11 (f := .glo "must") rfl), F.kp, (FunD.bindsN F fun _ _ _ _ _ _ us hl => match us, hl with | [_, _, _], _ => rfl), He5.fun_of F⟩⟩
  f_is_name := by
    obtain ⟨fd, F⟩ := c.t.d.def_ 2 (d := d_is_name) rfl
    exact ⟨⟨_, fd, He.glo_ok KX G (c.fact 12 (f := .glo "is_name") rfl), F.kp, (FunD.bindsN F fun _ _ _ _ _ _ us hl => match us, hl with | [_], _ => rfl), He5.fun_of F⟩⟩
  i_Desk___init__ := by
    obtain ⟨fd, F⟩ := c.t.d.def_ 3 (d := d_Desk___init__) rfl
    exact ⟨⟨_, fd, He.glo_ok KX G (c.fact 13 (f := .glo "Desk") rfl), He.mkr_ok (c.fact 45 (f := .mkr "Desk") rfl), (FunD.bindsN F fun _ _ _ _ _ _ us hl => match us, hl with | [_, _, _], _ => rfl), He5.fun_of F⟩⟩
  m_Desk_is_box := by
    obtain ⟨fd, F⟩ := c.t.d.def_ 4 (d := d_Desk_is_box) rfl
    exact ⟨⟨_, fd, He.meth_ok (c.fact 49 (f := .meth "Desk" "is_box") rfl), (FunD.bindsN F fun _ _ _ _ _ _ us hl => match us, hl with | [_, _], _ => rfl), He5.fun_of F⟩⟩
  m_Desk_names := by
    obtain ⟨fd, F⟩ := c.t.d.def_ 5 (d := d_Desk_names) rfl
    exact ⟨⟨_, fd, He.meth_ok (c.fact 50 (f := .meth "Desk" "names") rfl), (FunD.bindsN F fun _ _ _ _ _ _ us hl => match us, hl with | [_, _], _ => rfl), He5.fun_of F⟩⟩
  m_Desk_is_cable := by
    obtain ⟨fd, F⟩ := c.t.d.def_ 6 (d := d_Desk_is_cable) rfl
    exact ⟨⟨_, fd, He.meth_ok (c.fact 51 (f := .meth "Desk" "is_cable") rfl), (FunD.bindsN F fun _ _ _ _ _ _ us hl => match us, hl with | [_, _], _ => rfl), He5.fun_of F⟩⟩
  m_Desk_led_from := by
    obtain ⟨fd, F⟩ := c.t.d.def_ 7 (d := d_Desk_led_from) rfl
    exact ⟨⟨_, fd, He.meth_ok (c.fact 52 (f := .meth "Desk" "led_from") rfl), (FunD.bindsN F fun _ _ _ _ _ _ us hl => match us, hl with | [_, _, _], _ => rfl), He5.fun_of F⟩⟩
  m_Desk_is_twice := by
    obtain ⟨fd, F⟩ := c.t.d.def_ 8 (d := d_Desk_is_twice) rfl
    exact ⟨⟨_, fd, He.meth_ok (c.fact 53 (f := .meth "Desk" "is_twice") rfl), (FunD.bindsN F fun _ _ _ _ _ _ us hl => match us, hl with | [_, _], _ => rfl), He5.fun_of F⟩⟩
  m_Desk_in_order := by
    obtain ⟨fd, F⟩ := c.t.d.def_ 9 (d := d_Desk_in_order) rfl
    exact ⟨⟨_, fd, He.meth_ok (c.fact 54 (f := .meth "Desk" "in_order") rfl), (FunD.bindsN F fun _ _ _ _ _ _ us hl => match us, hl with | [_], _ => rfl), He5.fun_of F⟩⟩
  m_Desk_boxes := by
    obtain ⟨fd, F⟩ := c.t.d.def_ 10 (d := d_Desk_boxes) rfl
    exact ⟨⟨_, fd, He.meth_ok (c.fact 55 (f := .meth "Desk" "boxes") rfl), (FunD.bindsN F fun _ _ _ _ _ _ us hl => match us, hl with | [_], _ => rfl), He5.fun_of F⟩⟩
  m_Desk_cables := by
    obtain ⟨fd, F⟩ := c.t.d.def_ 11 (d := d_Desk_cables) rfl
    exact ⟨⟨_, fd, He.meth_ok (c.fact 56 (f := .meth "Desk" "cables") rfl), (FunD.bindsN F fun _ _ _ _ _ _ us hl => match us, hl with | [_], _ => rfl), He5.fun_of F⟩⟩
  m_Desk_ends := by
    obtain ⟨fd, F⟩ := c.t.d.def_ 13 (d := d_Desk_ends) rfl
    exact ⟨⟨_, fd, He.meth_ok (c.fact 58 (f := .meth "Desk" "ends") rfl), (FunD.bindsN F fun _ _ _ _ _ _ us hl => match us, hl with | [_, _], _ => rfl), He5.fun_of F⟩⟩
  f_written := by
    obtain ⟨fd, F⟩ := c.t.d.def_ 14 (d := d_written) rfl
    exact ⟨⟨_, fd, He.glo_ok KX G (c.fact 15 (f := .glo "written") rfl), F.kp, (FunD.bindsN F fun _ _ _ _ _ _ us hl => match us, hl with | [_], _ => rfl), He5.fun_of F⟩⟩
  f_number_of := by
    obtain ⟨fd, F⟩ := c.t.d.def_ 15 (d := d_number_of) rfl
    exact ⟨⟨_, fd, He.glo_ok KX G (c.fact 16 (f := .glo "number_of") rfl), F.kp, (FunD.bindsN F fun _ _ _ _ _ _ us hl => match us, hl with | [_, _], _ => rfl), He5.fun_of F⟩⟩
  f_read := by
    obtain ⟨fd, F⟩ := c.t.d.def_ 16 (d := d_read) rfl
    exact ⟨⟨_, fd, He.glo_ok KX G (c.fact 17 (f := .glo "read") rfl), F.kp, (FunD.bindsN F fun _ _ _ _ _ _ us hl => match us, hl with | [_], _ => rfl), He5.fun_of F⟩⟩
  f_box_of := by
    obtain ⟨fd, F⟩ := c.t.d.def_ 17 (d := d_box_of) rfl
    exact ⟨⟨_, fd, He.glo_ok KX G (c.fact 18 (f := .glo "box_of") rfl), F.kp, (FunD.bindsN F fun _ _ _ _ _ _ us hl => match us, hl with | [_, _], _ => rfl), He5.fun_of F⟩⟩
  f__law_dice := by
    obtain ⟨fd, F⟩ := c.t.d.def_ 18 (d := d__law_dice) rfl
    exact ⟨⟨_, fd, He.glo_ok KX G (c.fact 19 (f := .glo "_law_dice") rfl), F.kp, (FunD.bindsN F fun _ _ _ _ _ _ us hl => match us, hl with | [_, _], _ => rfl), He5.fun_of F⟩⟩
  f__law_off := by
    obtain ⟨fd, F⟩ := c.t.d.def_ 19 (d := d__law_off) rfl
    exact ⟨⟨_, fd, He.glo_ok KX G (c.fact 20 (f := .glo "_law_off") rfl), F.kp, (FunD.bindsN F fun _ _ _ _ _ _ us hl => match us, hl with | [_, _], _ => rfl), He5.fun_of F⟩⟩
  f__law_alike := by
    obtain ⟨fd, F⟩ := c.t.d.def_ 20 (d := d__law_alike) rfl
    exact ⟨⟨_, fd, He.glo_ok KX G (c.fact 21 (f := .glo "_law_alike") rfl), F.kp, (FunD.bindsN F fun _ _ _ _ _ _ us hl => match us, hl with | [_, _], _ => rfl), He5.fun_of F⟩⟩
  f__law_mixed := by
    obtain ⟨fd, F⟩ := c.t.d.def_ 21 (d := d__law_mixed) rfl
    exact ⟨⟨_, fd, He.glo_ok KX G (c.fact 22 (f := .glo "_law_mixed") rfl), F.kp, (FunD.bindsN F fun _ _ _ _ _ _ us hl => match us, hl with | [_, _], _ => rfl), He5.fun_of F⟩⟩
  f__law_box := by
    obtain ⟨fd, F⟩ := c.t.d.def_ 22 (d := d__law_box) rfl
    exact ⟨⟨_, fd, He.glo_ok KX G (c.fact 23 (f := .glo "_law_box") rfl), F.kp, (FunD.bindsN F fun _ _ _ _ _ _ us hl => match us, hl with | [_], _ => rfl), He5.fun_of F⟩⟩
  f__law_hold := by
    obtain ⟨fd, F⟩ := c.t.d.def_ 23 (d := d__law_hold) rfl
    exact ⟨⟨_, fd, He.glo_ok KX G (c.fact 24 (f := .glo "_law_hold") rfl), F.kp, (FunD.bindsN F fun _ _ _ _ _ _ us hl => match us, hl with | [_], _ => rfl), He5.fun_of F⟩⟩
  f__law_names := by
    obtain ⟨fd, F⟩ := c.t.d.def_ 24 (d := d__law_names) rfl
    exact ⟨⟨_, fd, He.glo_ok KX G (c.fact 25 (f := .glo "_law_names") rfl), F.kp, (FunD.bindsN F fun _ _ _ _ _ _ us hl => match us, hl with | [_], _ => rfl), He5.fun_of F⟩⟩
  f__law_rows := by
    obtain ⟨fd, F⟩ := c.t.d.def_ 25 (d := d__law_rows) rfl
    exact ⟨⟨_, fd, He.glo_ok KX G (c.fact 26 (f := .glo "_law_rows") rfl), F.kp, (FunD.bindsN F fun _ _ _ _ _ _ us hl => match us, hl with | [_, _], _ => rfl), He5.fun_of F⟩⟩
  f__law_more := by
    obtain ⟨fd, F⟩ := c.t.d.def_ 26 (d := d__law_more) rfl
    exact ⟨⟨_, fd, He.glo_ok KX G (c.fact 27 (f := .glo "_law_more") rfl), F.kp, (FunD.bindsN F fun _ _ _ _ _ _ us hl => match us, hl with | [_, _, _], _ => rfl), He5.fun_of F⟩⟩
  f__law_desk := by
    obtain ⟨fd, F⟩ := c.t.d.def_ 27 (d := d__law_desk) rfl
    exact ⟨⟨_, fd, He.glo_ok KX G (c.fact 28 (f := .glo "_law_desk") rfl), F.kp, (FunD.bindsN F fun _ _ _ _ _ _ us hl => match us, hl with | [_, _], _ => rfl), He5.fun_of F⟩⟩
  f__law_made := by
    obtain ⟨fd, F⟩ := c.t.d.def_ 28 (d := d__law_made) rfl
    exact ⟨⟨_, fd, He.glo_ok KX G (c.fact 29 (f := .glo "_law_made") rfl), F.kp, (FunD.bindsN F fun _ _ _ _ _ _ us hl => match us, hl with | [_], _ => rfl), He5.fun_of F⟩⟩
  f__law_lines := by
    obtain ⟨fd, F⟩ := c.t.d.def_ 29 (d := d__law_lines) rfl
    exact ⟨⟨_, fd, He.glo_ok KX G (c.fact 30 (f := .glo "_law_lines") rfl), F.kp, (FunD.bindsN F fun _ _ _ _ _ _ us hl => match us, hl with | [_], _ => rfl), He5.fun_of F⟩⟩
abbrev LawTrue : Prop := ∀ (C : Addr) (ns : List Int), ns.length ≤ 63 → ∃ ps, (fn_law C).run [some (.d (.scr ns))] = some (.ok (.d (.bl true)), ps)
abbrev spLaw (K : PySem.W.Frag) : Sp := fun vs H Q _ => SpF K (fn_law (He.ga K "Desk")) vs H Q fun _ _ _ => False
theorem facts {P : Program} {w : World} {K : PySem.W.Frag} {h : Heap} {mg : Str → Option Value} {f : Addr} (KX : K.In h) (G : h.Ns mainGlobals mg) (hfa : mg ("law" : Str) = some (.ref f)) (c : SaysU fa fn ts w K) :
    ∃ fd : FuncData, (∀ (s : Shared) (v : Value), BindsTo s fd ⟨[v], []⟩ [("_law_script", v)]) ∧ ∀ base : Heap, K.In base → base.Ns mainGlobals mg → FnOk P w K mg base L2.CX0 lv_law f fd ["_law_script"] (spLaw K) := by
  obtain ⟨fd, F⟩ := c.t.d.def_ 30 (d := d_law) rfl
  have e := hfa.symm.trans (He.glo_ok KX G (c.fact 31 (f := .glo "law") rfl))
  cases e
  have b := FunD.bindsA (ps := ["_law_script"]) F fun _ _ _ _ _ _ us hl => match us, hl with | [_], _ => rfl
  exact ⟨fd, fun s v => b s [v] rfl, fun base _ _ => Ev.FnOk.calm (fn_ok (He5.fun_of F) sc_law (by decide) (b_law (tx KX G c base) _))⟩
end Hd
open PySem PySem.W PySem.Calls PyProof.Rows
theorem Hd.holds_of (lt : Hd.LawTrue) : PySem.Challenge.rw_evenlate_k18_whole_written_and_read.Holds := by
  w_on; o_law
  refine HandSHeadRun.head_any (r := OpenLaw.row PySem.Challenge.rw_evenlate_k18_whole_written_and_read) (q := view (OpenLaw.row PySem.Challenge.rw_evenlate_k18_whole_written_and_read).prog [35]) (H := Hd.hk) (ob := Hd.ob) (M := 4000) (loose := Hd.loose) (d := HandSHeadRun.topDef (OpenLaw.row PySem.Challenge.rw_evenlate_k18_whole_written_and_read).prog 35) (kwd := []) Hd.ob_eq
    (by kernel_rfl) (fun s => by kernel_rfl) Hd.run (by kernel_rfl) (by kernel_rfl) (by kernel_rfl) (by rfl) (by first | assumption | decide +kernel) (by decide +kernel) ⟨rfl, rfl, rfl, rfl, rfl, by decide +kernel⟩ ?hw ?hc
  case hw => w_witness2
  case hc =>
    refine L2.walk_ofE (l := PySem.Challenge.rw_evenlate_k18_whole_written_and_read) (n := 63) (k := Hd.lv_law) (x := "_law_script") (CX := L2.CX0) rfl (by decide) (by kernel_rfl) ⟨rfl, by decide, by decide⟩ ?F (fun _ _ _ _ z => z)
    intro w mg fa h Y G hmg0
    obtain ⟨K, KX, c⟩ := Y
    have hmg : mg ("law" : PySem.Str) = some (.ref fa) := by
      have e : (HandSHeadRun.topDef (OpenLaw.row PySem.Challenge.rw_evenlate_k18_whole_written_and_read).prog 35).name = ("law" : PySem.Str) := by kernel_rfl
      rw [← e]
      exact hmg0
    obtain ⟨fd, hb, hF⟩ := Hd.facts (P := (PySem.Challenge.rw_evenlate_k18_whole_written_and_read).prog) (w := w) KX G hmg c
    exact ⟨K, fd, Hd.spLaw K, KX, hb, fun H a ns hl hO hS => (lt _ ns hl).elim fun ps e => Ev.law_sp rfl e hO hS, hF⟩
theorem PySem.Challenge.cw_evenlate_k18_whole_written_and_read_holds : PySem.Challenge.rw_evenlate_k18_whole_written_and_read.Holds := by
  exact Hd.holds_of Hd.law_true
