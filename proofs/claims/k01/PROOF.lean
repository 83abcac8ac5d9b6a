import PyProof.Rows.All
import Wide.All
import OpenK.AllK
import Wide.FinOn
import HandS.ForMost
import HandS.ForExc
import HandS.Evl
import HandS.Style
import HandS.Conv
import HandS.More
import HandS.WordsDict
import HandS.ExcCtx
import HandS.CallSlots
import HandS.HeadWalk
import HandS.IsInst
import HandS.HeadNt
import HandS.Head0
import HandS.Head1
import HandS.Head2
import HandS.HeadEnd
import HandS.HeadHook1
import HandS.HeadHook2
import HandS.HeadHook3
import HandS.Text
import HandS.RaiseMore
import HandS.Iter
import HandS.ExcInit
import HandS.ClsMeth
import HandS.ExcField
import HandS.HotCalls
import HandS.Comp
import HandS.List
import HandS.Exc
import KE.KExcIs
import HandS.ExcIs
import HandS.ExcInitHot
import KE.KStateDown
import Lean
import HandS.Defaults
import PySem.Challenge.RW_evenlate_k01_desks_refused
set_option Elab.async false
set_option linter.all false
set_option maxRecDepth 100000
set_option maxHeartbeats 0
namespace Ev
open PySem PySem.Spec PyProof.Rows L2
open Evl (Ex)

inductive D where
  | non | bl (b : Bool) | int (i : Int) | str (x : Str)
  | tup (xs : List D) | lst (xs : List D) | scr (ns : List Int)
  | ins (C : Addr) (fs : List Str) (ds : List D)
  | dic (ks : List Key) (ds : List D)

mutual
inductive Rep (K : PySem.W.Frag) (H : Hp) : V → D → Prop
  | non : Rep K H .non .non
  | bl (b : Bool) : Rep K H (.bl b) (.bl b)
  | int (i : Int) : Rep K H (.int i) (.int i)
  | str (x : Str) : Rep K H (.str x) (.str x)
  | tup {a : Addr} {vs : List V} {ds : List D} : H a = some (.tup vs) → RepL K H vs ds → Rep K H (.ref a) (.tup ds)
  | lst {a : Addr} {vs : List V} {ds : List D} : H a = some (.lst vs) → RepL K H vs ds → Rep K H (.ref a) (.lst ds)
  | scr {a : Addr} {ns : List Int} : SqL K H a (ns.map V.int) → Rep K H (.ref a) (.scr ns)
  | ins {a C dx : Addr} {kvs : List (Str × V)} {fs : List Str} {ds : List D} : H a = some (.ins C dx kvs) → kvs.map (·.1) = fs → RepL K H (kvs.map (·.2)) ds → Rep K H (.ref a) (.ins C fs ds)
  | dic {a : Addr} {kvs : List (Key × V)} {ks : List Key} {ds : List D} : H a = some (.dK kvs) → kvs.map (·.1) = ks → RepL K H (kvs.map (·.2)) ds → Rep K H (.ref a) (.dic ks ds)
inductive RepL (K : PySem.W.Frag) (H : Hp) : List V → List D → Prop
  | nil : RepL K H [] []
  | cons {v : V} {vs : List V} {d : D} {ds : List D} : Rep K H v d → RepL K H vs ds → RepL K H (v :: vs) (d :: ds)
end

section
variable {K : PySem.W.Frag} {H H' : Hp}
mutual
theorem Rep.mono (e : Ex H H') : ∀ (d : D) {v : V}, Rep K H v d → Rep K H' v d
  | .non, _, h => by cases h; exact .non
  | .bl b, _, h => by cases h; exact .bl b
  | .int i, _, h => by cases h; exact .int i
  | .str x, _, h => by cases h; exact .str x
  | .tup ds, _, h => by cases h with | tup h1 h2 => exact .tup (e _ _ h1) (RepL.mono e ds h2)
  | .lst ds, _, h => by cases h with | lst h1 h2 => exact .lst (e _ _ h1) (RepL.mono e ds h2)
  | .scr ns, _, h => by cases h with | scr h1 => exact .scr (Evl.ex_l e h1)
  | .ins C fs ds, _, h => by cases h with | ins h1 h2 h3 => exact .ins (e _ _ h1) h2 (RepL.mono e ds h3)
  | .dic ks ds, _, h => by cases h with | dic h1 h2 h3 => exact .dic (e _ _ h1) h2 (RepL.mono e ds h3)
theorem RepL.mono (e : Ex H H') : ∀ (ds : List D) {vs : List V}, RepL K H vs ds → RepL K H' vs ds
  | [], _, h => by cases h; exact .nil
  | d :: ds, _, h => by cases h with | cons h1 h2 => exact .cons (Rep.mono e d h1) (RepL.mono e ds h2)
end
theorem RepL.length : ∀ {ds : List D} {vs : List V}, RepL K H vs ds → vs.length = ds.length
  | [], _, h => by cases h; rfl
  | d :: ds, _, h => by cases h with | cons h1 h2 => simp only [List.length_cons, RepL.length h2]
theorem RepL.get : ∀ {ds : List D} {vs : List V} {i : Nat} {d : D}, RepL K H vs ds → ds[i]? = some d → ∃ v, vs[i]? = some v ∧ Rep K H v d
  | [], _, _, _, h, e => by simp at e
  | d :: ds, _, 0, x, h, e => by
    cases h with
    | cons h1 h2 =>
      simp at e; subst e
      exact ⟨_, rfl, h1⟩
  | d :: ds, _, i + 1, x, h, e => by
    cases h with
    | cons h1 h2 =>
      obtain ⟨v, e1, e2⟩ := RepL.get (i := i) (d := x) h2 (by simpa using e)
      exact ⟨v, by simpa using e1, e2⟩
theorem RepL.getv {ds : List D} {vs : List V} {i : Nat} {v : V} (h : RepL K H vs ds) (e : vs[i]? = some v) : ∃ d, ds[i]? = some d ∧ Rep K H v d := by
  have hl := h.length
  have hi : i < ds.length := by
    have := (List.getElem?_eq_some_iff.mp e).1
    omega
  obtain ⟨v', e1, r⟩ := h.get (List.getElem?_eq_getElem hi)
  rw [e] at e1
  cases e1
  exact ⟨_, List.getElem?_eq_getElem hi, r⟩
theorem RepL.append : ∀ {ds es : List D} {vs us : List V}, RepL K H vs ds → RepL K H us es → RepL K H (vs ++ us) (ds ++ es)
  | [], _, _, _, h, k => by cases h; exact k
  | d :: ds, _, _, _, h, k => by cases h with | cons h1 h2 => exact .cons h1 (RepL.append h2 k)
theorem RepL.one {v : V} {d : D} (h : Rep K H v d) : RepL K H [v] [d] := .cons h .nil
theorem RepL.take : ∀ {ds : List D} {vs : List V} (n : Nat), RepL K H vs ds → RepL K H (vs.take n) (ds.take n)
  | _, _, 0, _ => by rw [List.take_zero, List.take_zero]; exact .nil
  | [], _, n + 1, h => by cases h; exact .nil
  | d :: ds, _, n + 1, h => by cases h with | cons h1 h2 => exact .cons h1 (RepL.take n h2)
theorem RepL.drop : ∀ {ds : List D} {vs : List V} (n : Nat), RepL K H vs ds → RepL K H (vs.drop n) (ds.drop n)
  | _, _, 0, h => h
  | [], _, n + 1, h => by cases h; exact .nil
  | d :: ds, _, n + 1, h => by cases h with | cons h1 h2 => exact RepL.drop n h2
theorem RepL.set : ∀ {ds : List D} {vs : List V} {v : V} {d : D} (n : Nat), RepL K H vs ds → Rep K H v d → RepL K H (vs.set n v) (ds.set n d)
  | [], _, _, _, n, h, _ => by cases h; exact .nil
  | d :: ds, _, _, _, 0, h, k => by cases h with | cons h1 h2 => exact .cons k h2
  | d :: ds, _, _, _, n + 1, h, k => by cases h with | cons h1 h2 => exact .cons h1 (RepL.set n h2 k)
theorem RepL.erase : ∀ {ds : List D} {vs : List V} (n : Nat), RepL K H vs ds → RepL K H (vs.eraseIdx n) (ds.eraseIdx n)
  | [], _, n, h => by cases h; exact .nil
  | d :: ds, _, 0, h => by cases h with | cons h1 h2 => exact h2
  | d :: ds, _, n + 1, h => by cases h with | cons h1 h2 => exact .cons h1 (RepL.erase n h2)
theorem RepL.dropLast {ds : List D} {vs : List V} (h : RepL K H vs ds) : RepL K H vs.dropLast ds.dropLast := by
  rw [List.dropLast_eq_take, List.dropLast_eq_take, h.length]
  exact h.take _
theorem RepL.rep {ds : List D} {vs : List V} (h : RepL K H vs ds) : ∀ k : Nat, RepL K H (List.replicate k vs).flatten (List.replicate k ds).flatten
  | 0 => .nil
  | k + 1 => by
    rw [List.replicate_succ, List.replicate_succ, List.flatten_cons, List.flatten_cons]
    exact RepL.append h (RepL.rep h k)
theorem RepL.ints : ∀ {ns : List Int} {vs : List V}, RepL K H vs (ns.map D.int) → vs = ns.map V.int
  | [], _, h => by cases h; rfl
  | n :: ns, _, h => by cases h with | cons h1 h2 => cases h1; rw [RepL.ints h2]; rfl
theorem RepL.of_ints : ∀ (ns : List Int), RepL K H (ns.map V.int) (ns.map D.int)
  | [] => .nil
  | n :: ns => .cons (.int n) (RepL.of_ints ns)
theorem RepL.strs : ∀ {ns : List Str} {vs : List V}, RepL K H vs (ns.map D.str) → vs = ns.map V.str
  | [], _, h => by cases h; rfl
  | n :: ns, _, h => by cases h with | cons h1 h2 => cases h1; rw [RepL.strs h2]; rfl
theorem RepL.of_strs : ∀ (ns : List Str), RepL K H (ns.map V.str) (ns.map D.str)
  | [] => .nil
  | n :: ns => .cons (.str n) (RepL.of_strs ns)
theorem RepL.bls : ∀ {ns : List Bool} {vs : List V}, RepL K H vs (ns.map D.bl) → vs = ns.map V.bl
  | [], _, h => by cases h; rfl
  | n :: ns, _, h => by cases h with | cons h1 h2 => cases h1; rw [RepL.bls h2]; rfl
theorem RepL.of_bls : ∀ (ns : List Bool), RepL K H (ns.map V.bl) (ns.map D.bl)
  | [] => .nil
  | n :: ns => .cons (.bl n) (RepL.of_bls ns)
end

inductive L where
  | d (x : D)
  | own (xs : List D)
  | odi (ks : List Key) (ds : List D)
  | obj (C : Addr) (fs : List Str) (ls : List L)
  | oll (ls : List L)
  | odl (ks : List Key) (ls : List L)
  | otp (ls : List L)
  | hole

mutual
inductive LOk (K : PySem.W.Frag) (Hs H : Hp) : V → L → List Addr → Prop
  | d {v : V} {x : D} : Rep K Hs v x → LOk K Hs H v (.d x) []
  | own {a : Addr} {vs : List V} {xs : List D} : H a = some (.lst vs) → RepL K Hs vs xs → LOk K Hs H (.ref a) (.own xs) [a]
  | odi {a : Addr} {kvs : List (Key × V)} {ks : List Key} {ds : List D} : H a = some (.dK kvs) → kvs.map (·.1) = ks → RepL K Hs (kvs.map (·.2)) ds → LOk K Hs H (.ref a) (.odi ks ds) [a]
  | obj {a C dx : Addr} {kvs : List (Str × V)} {fs : List Str} {ls : List L} {f : List Addr} : H a = some (.ins C dx kvs) → kvs.map (·.1) = fs → LOkL K Hs H (kvs.map (·.2)) ls f → LOk K Hs H (.ref a) (.obj C fs ls) (a :: f)
  | oll {a : Addr} {vs : List V} {ls : List L} {f : List Addr} : H a = some (.lst vs) → LOkL K Hs H vs ls f → LOk K Hs H (.ref a) (.oll ls) (a :: f)
  | odl {a : Addr} {kvs : List (Key × V)} {ks : List Key} {ls : List L} {f : List Addr} : H a = some (.dK kvs) → kvs.map (·.1) = ks → LOkL K Hs H (kvs.map (·.2)) ls f → LOk K Hs H (.ref a) (.odl ks ls) (a :: f)
  | otp {a : Addr} {vs : List V} {ls : List L} {f : List Addr} : H a = some (.tup vs) → LOkL K Hs H vs ls f → LOk K Hs H (.ref a) (.otp ls) (a :: f)
  | hole {v : V} : LOk K Hs H v .hole []
inductive LOkL (K : PySem.W.Frag) (Hs H : Hp) : List V → List L → List Addr → Prop
  | nil : LOkL K Hs H [] [] []
  | cons {v : V} {vs : List V} {l : L} {ls : List L} {f g : List Addr} : LOk K Hs H v l f → LOkL K Hs H vs ls g → LOkL K Hs H (v :: vs) (l :: ls) (f ++ g)
end
section
variable {K : PySem.W.Frag} {Hs Hs' H H' : Hp}
mutual
theorem LOk.mono (e : Ex Hs Hs') : ∀ (l : L) {v : V} {f : List Addr}, LOk K Hs H v l f → (∀ a ∈ f, H' a = H a) → LOk K Hs' H' v l f
  | .d x, _, _, h, k => by cases h with | d h1 => exact .d (h1.mono e)
  | .own xs, _, _, h, k => by cases h with | own h1 h2 => exact .own ((k _ (by simp)).trans h1) (h2.mono e)
  | .odi ks ds, _, _, h, k => by cases h with | odi h1 h2 h3 => exact .odi ((k _ (by simp)).trans h1) h2 (h3.mono e)
  | .obj C fs ls, _, _, h, k => by
    cases h with
    | obj h1 h2 h3 => exact .obj ((k _ (by simp)).trans h1) h2 (LOkL.mono e ls h3 fun a ha => k a (List.mem_cons_of_mem _ ha))
  | .oll ls, _, _, h, k => by
    cases h with
    | oll h1 h3 => exact .oll ((k _ (by simp)).trans h1) (LOkL.mono e ls h3 fun a ha => k a (List.mem_cons_of_mem _ ha))
  | .odl ks ls, _, _, h, k => by
    cases h with
    | odl h1 h2 h3 => exact .odl ((k _ (by simp)).trans h1) h2 (LOkL.mono e ls h3 fun a ha => k a (List.mem_cons_of_mem _ ha))
  | .otp ls, _, _, h, k => by
    cases h with
    | otp h1 h3 => exact .otp ((k _ (by simp)).trans h1) (LOkL.mono e ls h3 fun a ha => k a (List.mem_cons_of_mem _ ha))
  | .hole, _, _, h, k => by cases h; exact .hole
theorem LOkL.mono (e : Ex Hs Hs') : ∀ (ls : List L) {vs : List V} {f : List Addr}, LOkL K Hs H vs ls f → (∀ a ∈ f, H' a = H a) → LOkL K Hs' H' vs ls f
  | [], _, _, h, k => by cases h; exact .nil
  | l :: ls, _, _, h, k => by
    cases h with
    | cons h1 h2 => exact .cons (LOk.mono e l h1 fun a ha => k a (List.mem_append_left _ ha)) (LOkL.mono e ls h2 fun a ha => k a (List.mem_append_right _ ha))
end
mutual
theorem LOk.live : ∀ (l : L) {v : V} {f : List Addr}, LOk K Hs H v l f → ∀ a ∈ f, H a ≠ none
  | .d x, _, _, h, a, ha => by cases h; simp at ha
  | .own xs, _, _, h, a, ha => by cases h with | own h1 h2 => simp at ha; subst ha; rw [h1]; simp
  | .odi ks ds, _, _, h, a, ha => by cases h with | odi h1 h2 h3 => simp at ha; subst ha; rw [h1]; simp
  | .obj C fs ls, _, _, h, a, ha => by
    cases h with
    | obj h1 h2 h3 =>
      rcases List.mem_cons.mp ha with rfl | ha
      · rw [h1]; simp
      · exact LOkL.live ls h3 a ha
  | .oll ls, _, _, h, a, ha => by
    cases h with
    | oll h1 h3 =>
      rcases List.mem_cons.mp ha with rfl | ha
      · rw [h1]; simp
      · exact LOkL.live ls h3 a ha
  | .odl ks ls, _, _, h, a, ha => by
    cases h with
    | odl h1 h2 h3 =>
      rcases List.mem_cons.mp ha with rfl | ha
      · rw [h1]; simp
      · exact LOkL.live ls h3 a ha
  | .otp ls, _, _, h, a, ha => by
    cases h with
    | otp h1 h3 =>
      rcases List.mem_cons.mp ha with rfl | ha
      · rw [h1]; simp
      · exact LOkL.live ls h3 a ha
  | .hole, _, _, h, a, ha => by cases h; simp at ha
theorem LOkL.live : ∀ (ls : List L) {vs : List V} {f : List Addr}, LOkL K Hs H vs ls f → ∀ a ∈ f, H a ≠ none
  | [], _, _, h, a, ha => by cases h; simp at ha
  | l :: ls, _, _, h, a, ha => by
    cases h with
    | cons h1 h2 =>
      rcases List.mem_append.mp ha with ha | ha
      · exact LOk.live l h1 a ha
      · exact LOkL.live ls h2 a ha
end
end

structure Xn where
  C : Addr
  fs : Option (List Str × List D)
def XOk (K : PySem.W.Frag) (Hs H : Hp) (c : Value) (dd : Option Addr) (x : Xn) : Prop :=
  c = .ref x.C ∧ match x.fs with
    | none => dd = none
    | some (fs, ds) => ∃ d kvs, dd = some d ∧ H d = some (.xd kvs) ∧ Hs d = none ∧ kvs.map (·.1) = fs ∧ RepL K Hs (kvs.map (·.2)) ds

abbrev VS := List (Option L)
structure Fm where
  B : Hp
  S : Hp
  pin : List (Nat × V)
structure Sm (K : PySem.W.Frag) (fm : Fm) (Hs : Hp) (vs : VS) (σ : L2.St) (H : Hp) (xf : List Addr) (ft : Nat → List Addr) : Prop where
  sub : Ex Hs H
  base : Ex fm.B H
  grow : Ex fm.S Hs
  new : ∀ a, Hs a ≠ none → fm.S a ≠ none ∨ fm.B a = none
  len : vs.length = σ.length
  ok : ∀ i l, vs[i]? = some (some l) → ∃ v, σ[i]? = some (some v) ∧ LOk K Hs H v l (ft i)
  nd : ∀ i, (ft i).Nodup
  dj : ∀ i j a, a ∈ ft i → a ∈ ft j → i = j
  sp : ∀ i a, a ∈ ft i → Hs a = none ∧ fm.B a = none ∧ H a ≠ none
  xnd : xf.Nodup
  xdj : ∀ i a, a ∈ ft i → a ∉ xf
  xsp : ∀ a, a ∈ xf → Hs a = none ∧ fm.B a = none ∧ H a ≠ none
  pins : ∀ p ∈ fm.pin, σ[p.1]? = some (some p.2)
def Sim (K : PySem.W.Frag) (fm : Fm) (Hs : Hp) (vs : VS) (σ : L2.St) (H : Hp) (xf : List Addr) : Prop := ∃ ft, Sm K fm Hs vs σ H xf ft

section
variable {K : PySem.W.Frag} {fm : Fm} {Hs : Hp} {vs : VS} {σ : L2.St} {H : Hp} {xf : List Addr}
theorem Sim.sub (h : Sim K fm Hs vs σ H xf) : Ex Hs H := let ⟨_, s⟩ := h; s.sub
theorem Sim.slot (h : Sim K fm Hs vs σ H xf) {i : Nat} {l : L} (e : vs[i]? = some (some l)) : ∃ v f, σ[i]? = some (some v) ∧ LOk K Hs H v l f := let ⟨ft, s⟩ := h; let ⟨v, a, b⟩ := s.ok i l e; ⟨v, ft i, a, b⟩
theorem Sim.slotD (h : Sim K fm Hs vs σ H xf) {i : Nat} {x : D} (e : vs[i]? = some (some (.d x))) : ∃ v, σ[i]? = some (some v) ∧ Rep K Hs v x := by
  obtain ⟨v, f, e1, r⟩ := h.slot e
  cases r with | d r => exact ⟨v, e1, r⟩
theorem Sim.alloc (h : Sim K fm Hs vs σ H xf) {p : Addr} (hp : H p = none) (o : HO) : Sim K fm (upd Hs p o) vs σ (upd H p o) xf := by
  obtain ⟨ft, s⟩ := h
  have hs : Hs p = none := Evl.fresh_back s.sub hp
  have hb : fm.B p = none := Evl.fresh_back s.base hp
  have ne : ∀ a, H a ≠ none → a ≠ p := fun a ha e => ha (by rw [e]; exact hp)
  refine ⟨ft, ⟨fun a u e => ?_, fun a u e => ?_, fun a u e => ?_, fun a e => ?_, s.len, fun i l e => ?_, s.nd, s.dj, fun i a ha => ?_, s.xnd, s.xdj, fun a ha => ?_, s.pins⟩⟩
  · by_cases q : a = p
    · subst q; rw [upd_same] at e ⊢; exact e
    · rw [upd_ne q] at e ⊢; exact s.sub a u e
  · rw [upd_ne (ne_of_none (s.base a u e) hp)]; exact s.base a u e
  · rw [upd_ne (ne_of_none (s.grow a u e) hs)]; exact s.grow a u e
  · by_cases q : a = p
    · exact .inr (by rw [q]; exact hb)
    · rw [upd_ne q] at e; exact s.new a e
  · obtain ⟨v, e1, r⟩ := s.ok i l e
    exact ⟨v, e1, r.mono (Ex.new hs) l fun a ha => upd_ne (ne a (s.sp i a ha).2.2)⟩
  · obtain ⟨h1, h2, h3⟩ := s.sp i a ha
    exact ⟨by rw [upd_ne (ne a h3)]; exact h1, h2, by rw [upd_ne (ne a h3)]; exact h3⟩
  · obtain ⟨h1, h2, h3⟩ := s.xsp a ha
    exact ⟨by rw [upd_ne (ne a h3)]; exact h1, h2, by rw [upd_ne (ne a h3)]; exact h3⟩
theorem Sim.allocX (h : Sim K fm Hs vs σ H []) {p : Addr} (hp : H p = none) (o : HO) : Sim K fm Hs vs σ (upd H p o) [p] := by
  obtain ⟨ft, s⟩ := h
  have hs : Hs p = none := Evl.fresh_back s.sub hp
  have hb : fm.B p = none := Evl.fresh_back s.base hp
  have ne : ∀ a, H a ≠ none → a ≠ p := fun a ha e => ha (by rw [e]; exact hp)
  refine ⟨ft, ⟨fun a u e => ?_, fun a u e => ?_, s.grow, s.new, s.len, fun i l e => ?_, s.nd, s.dj, fun i a ha => ?_, by simp, fun i a ha q => ?_, fun a ha => ?_, s.pins⟩⟩
  · rw [upd_ne (ne_of_none (s.sub a u e) hp)]; exact s.sub a u e
  · rw [upd_ne (ne_of_none (s.base a u e) hp)]; exact s.base a u e
  · obtain ⟨v, e1, r⟩ := s.ok i l e
    exact ⟨v, e1, r.mono (Ex.refl _) l fun a ha => upd_ne (ne a (s.sp i a ha).2.2)⟩
  · obtain ⟨h1, h2, h3⟩ := s.sp i a ha
    exact ⟨h1, h2, by rw [upd_ne (ne a h3)]; exact h3⟩
  · have : a = p := by simpa using q
    exact ne a (s.sp i a ha).2.2 this
  · have : a = p := by simpa using ha
    subst this
    exact ⟨hs, hb, by rw [upd_same]; simp⟩
theorem Sim.share1 {a : Addr} {o : HO} (h : Sim K fm Hs vs σ H [a]) (ha : H a = some o) : Sim K fm (upd Hs a o) vs σ H [] := by
  obtain ⟨ft, s⟩ := h
  obtain ⟨hs, hb, _⟩ := s.xsp a (by simp)
  have ne : ∀ i b, b ∈ ft i → b ≠ a := fun i b hb e => s.xdj i b hb (by simp [e])
  refine ⟨ft, ⟨fun b u e => ?_, s.base, fun b u e => ?_, fun b e => ?_, s.len, fun i l e => ?_, s.nd, s.dj, fun i b hb' => ?_, by simp, fun i b _ q => by simp at q, fun b q => by simp at q, s.pins⟩⟩
  · by_cases q : b = a
    · subst q; rw [upd_same] at e; cases e; exact ha
    · rw [upd_ne q] at e; exact s.sub b u e
  · rw [upd_ne (ne_of_none (s.grow b u e) hs)]; exact s.grow b u e
  · by_cases q : b = a
    · exact .inr (by rw [q]; exact hb)
    · rw [upd_ne q] at e; exact s.new b e
  · obtain ⟨v, e1, r⟩ := s.ok i l e
    exact ⟨v, e1, r.mono (Ex.new hs) l fun _ _ => rfl⟩
  · obtain ⟨h1, h2, h3⟩ := s.sp i b hb'
    exact ⟨by rw [upd_ne (ne i b hb')]; exact h1, h2, h3⟩
theorem Sim.set {v : V} {l : L} (h : Sim K fm Hs vs σ H xf) (r : LOk K Hs H v l xf) {i : Nat} (hi : i < σ.length) (hp : i ∉ fm.pin.map (·.1)) : Sim K fm Hs (vs.set i (some l)) (σ.set i (some v)) H [] := by
  obtain ⟨ft, s⟩ := h
  refine ⟨fun j => if j = i then xf else ft j, ⟨s.sub, s.base, s.grow, s.new, by simp [s.len], fun j m e => ?_, fun j => ?_, fun j k a h1 h2 => ?_, fun j a ha => ?_, by simp, fun _ _ _ q => by simp at q, fun _ q => by simp at q, fun p hp' => ?_⟩⟩
  · by_cases q : j = i
    · subst q
      rw [List.getElem?_set_self (by rw [s.len]; exact hi)] at e
      cases e
      rw [List.getElem?_set_self hi, if_pos rfl]
      exact ⟨v, rfl, r⟩
    · rw [List.getElem?_set_ne (Ne.symm q)] at e
      rw [List.getElem?_set_ne (Ne.symm q), if_neg q]
      exact s.ok j m e
  · show List.Nodup (if _ then _ else _)
    split
    · exact s.xnd
    · exact s.nd j
  · try dsimp only at h1 h2
    split at h1 <;> split at h2
    · rename_i a b; rw [a, b]
    · exact absurd h1 (s.xdj k a h2)
    · exact absurd h2 (s.xdj j a h1)
    · exact s.dj j k a h1 h2
  · try dsimp only at ha
    split at ha
    · exact s.xsp a ha
    · exact s.sp j a ha
  · rw [List.getElem?_set_ne]
    · exact s.pins p hp'
    · intro e
      exact hp (by rw [e]; exact List.mem_map_of_mem hp')
theorem Sim.drop (h : Sim K fm Hs vs σ H xf) (i : Nat) : Sim K fm Hs (vs.set i none) σ H xf := by
  obtain ⟨ft, s⟩ := h
  refine ⟨ft, ⟨s.sub, s.base, s.grow, s.new, by simp [s.len], fun j m e => ?_, s.nd, s.dj, s.sp, s.xnd, s.xdj, s.xsp, s.pins⟩⟩
  by_cases q : j = i
  · subst q
    by_cases hj : j < vs.length
    · rw [List.getElem?_set_self hj] at e; cases e
    · rw [List.getElem?_eq_none (by simpa using hj)] at e; cases e
  · rw [List.getElem?_set_ne (Ne.symm q)] at e
    exact s.ok j m e
theorem Sim.write (h : Sim K fm Hs vs σ H xf) {i : Nat} {l' : L} {a : Addr} {o : HO} {l : L} (e : vs[i]? = some (some l)) (ev : σ[i]? = some (some (.ref a)))
    (hl : ∀ f, LOk K Hs H (.ref a) l f → f = [a] ∧ LOk K Hs (upd H a o) (.ref a) l' [a]) : Sim K fm Hs (vs.set i (some l')) σ (upd H a o) xf := by
  obtain ⟨ft, s⟩ := h
  obtain ⟨v, e1, r⟩ := s.ok i l e
  rw [ev] at e1
  cases e1
  obtain ⟨hf, r'⟩ := hl _ r
  have ha : a ∈ ft i := by rw [hf]; simp
  obtain ⟨hs, hb, hh⟩ := s.sp i a ha
  have hne : ∀ b u, Hs b = some u → b ≠ a := fun b u q z => by rw [z, hs] at q; cases q
  refine ⟨ft, ⟨fun b u q => by rw [upd_ne (hne b u q)]; exact s.sub b u q, fun b u q => ?_, s.grow, s.new, by simp [s.len], fun j m ej => ?_, s.nd, s.dj, fun j b hb' => ?_, s.xnd, s.xdj, fun b hb' => ?_, s.pins⟩⟩
  · have : b ≠ a := fun z => by rw [z, hb] at q; cases q
    rw [upd_ne this]; exact s.base b u q
  · by_cases q : j = i
    · subst q
      rw [List.getElem?_set_self (List.getElem?_eq_some_iff.mp e).1] at ej
      cases ej
      exact ⟨_, ev, by rw [hf]; exact r'⟩
    · rw [List.getElem?_set_ne (Ne.symm q)] at ej
      obtain ⟨v, e1, r1⟩ := s.ok j m ej
      refine ⟨v, e1, r1.mono (Ex.refl _) m fun b hb' => upd_ne fun z => q ?_⟩
      exact s.dj j i a (by rw [← z]; exact hb') ha
  · obtain ⟨h1, h2, h3⟩ := s.sp j b hb'
    refine ⟨h1, h2, ?_⟩
    unfold upd
    split
    · simp
    · exact h3
  · obtain ⟨h1, h2, h3⟩ := s.xsp b hb'
    refine ⟨h1, h2, ?_⟩
    unfold upd
    split
    · simp
    · exact h3
end
end Ev
namespace Ev
open PySem PySem.Spec PyProof.Rows L2
open Evl (Ex)

abbrev M (α : Type) := VS → Option (Except Xn α × VS)
def rt {α : Type} (a : α) : M α := fun s => some (.ok a, s)
def bd {α β : Type} (F : M α) (g : α → M β) : M β := fun s => match F s with
  | none => none
  | some (.error x, s1) => some (.error x, s1)
  | some (.ok a, s1) => g a s1
theorem bd_ok {α β : Type} {F : M α} {g : α → M β} {s s1 : VS} {a : α} (h : F s = some (.ok a, s1)) : bd F g s = g a s1 := by unfold bd; rw [h]
theorem bd_cases {α β : Type} {F : M α} {g : α → M β} {s : VS} {r : Except Xn β × VS} (h : bd F g s = some r) :
    (∃ a s1, F s = some (.ok a, s1) ∧ g a s1 = some r) ∨ ∃ x s1, F s = some (.error x, s1) ∧ r = (.error x, s1) := by
  unfold bd at h
  split at h
  · cases h
  · rename_i x s1 e; exact .inr ⟨x, s1, e, (Option.some.inj h).symm⟩
  · rename_i a s1 e; exact .inl ⟨a, s1, e, h⟩

structure Pin where
  ix : List Nat
  ex : Option (Nat × Addr × Option Addr × Xn)
def PnOk (K : PySem.W.Frag) (fm : Fm) (P : Pin) : Prop := fm.pin.map (·.1) = P.ix ∧ ∀ i a dd x, P.ex = some (i, a, dd, x) → (i, V.ref a) ∈ fm.pin ∧ ∀ fs ds, x.fs = some (fs, ds) → ∃ d kvs, dd = some d ∧ fm.B d = some (.xd kvs) ∧ kvs.map (·.1) = fs ∧ RepL K fm.S (kvs.map (·.2)) ds
theorem PnOk.of {K : PySem.W.Frag} {fm : Fm} {io : List Nat} (h : fm.pin.map (·.1) = io) : PnOk K fm ⟨io, none⟩ := ⟨h, fun _ _ _ _ e => by cases e⟩
def tF (K : PySem.W.Frag) (W : WX) (P : Pin) {α β : Type} (R : Hp → Hp → L2.St → β → α → List Addr → Prop) (F : M α) : L2.St → Hp → (β → Hp → Prop) → Prop := fun σ H Q =>
  ∃ fm Hs vs r vs', F vs = some (r, vs') ∧ PnOk K fm P ∧ Sim K fm Hs vs σ H [] ∧
    (∀ a b H' Hs' xf, r = .ok a → Sim K fm Hs' vs' σ H' xf → Ex Hs Hs' → R Hs' H' σ b a xf → Q b H') ∧
    (∀ x c dd H' Hs', r = .error x → Sim K fm Hs' vs' σ H' [] → Ex Hs Hs' → XOk K Hs' H' c dd x → W c dd σ H')
theorem go {K : PySem.W.Frag} {W : WX} {P : Pin} {α β γ : Type} {R : Hp → Hp → L2.St → β → α → List Addr → Prop} {F : M α} {g : α → M γ} {fm : Fm} {Hs : Hp} {vs vs' : VS} {r : Except Xn γ} {σ : L2.St} {H : Hp} {Q : β → Hp → Prop}
    (hF : bd F g vs = some (r, vs')) (hP : PnOk K fm P) (hS : Sim K fm Hs vs σ H [])
    (hE : ∀ x c dd H' Hs', r = .error x → Sim K fm Hs' vs' σ H' [] → Ex Hs Hs' → XOk K Hs' H' c dd x → W c dd σ H')
    (hk : ∀ a vs1 b H1 Hs1 xf, g a vs1 = some (r, vs') → Sim K fm Hs1 vs1 σ H1 xf → Ex Hs Hs1 → R Hs1 H1 σ b a xf → Q b H1) : tF K W P R F σ H Q := by
  rcases bd_cases hF with ⟨a, s1, e, h⟩ | ⟨x, s1, e, h⟩
  · exact ⟨fm, Hs, vs, _, s1, e, hP, hS, fun a' b H' Hs' xf q S' X' r' => (by cases q; exact hk a s1 b H' Hs' xf h S' X' r'), fun x c dd H' Hs' q => (by cases q)⟩
  · obtain ⟨rfl, rfl⟩ := Prod.mk.inj h
    exact ⟨fm, Hs, vs, _, vs', e, hP, hS, fun a' b H' Hs' xf q => (by cases q), fun x' c dd H' Hs' q S' X' o => (by cases q; exact hE _ c dd H' Hs' rfl S' X' o)⟩
theorem PE_weak {X : Cx} {e : Expr} {t t' : TE} (h : PE X e t) (hw : ∀ σ H Q, t' σ H Q → t σ H Q) : PE X e t' := ⟨fun pins s σ H Q I q => h.run pins s σ H Q I (hw σ H Q q)⟩
theorem PT_weak {X : Cx} {e : Expr} {t t' : TT} (h : PT X e t) (hw : ∀ σ H Q, t' σ H Q → t σ H Q) : PT X e t' := ⟨fun pins s σ H Q I q => h.run pins s σ H Q I (hw σ H Q q)⟩
theorem PW_weak {X : Cx} {e : Expr} {t t' : TT} (h : PW X e t) (hw : ∀ σ H Q, t' σ H Q → t σ H Q) : PW X e t' := ⟨fun wh pins s σ H Q I q => h.run wh pins s σ H Q I (hw σ H Q q)⟩
theorem PA_weak {X : Cx} {e : List Expr} {t t' : TA} (h : PA X e t) (hw : ∀ σ H Q, t' σ H Q → t σ H Q) : PA X e t' := ⟨fun pos pins s σ H Q I q => h.run pos pins s σ H Q I (hw σ H Q q)⟩

inductive Pk where
  | dat (d : D)
  | sl (i : Nat)
mutual
def L.view : L → D
  | .d x => x
  | .own xs => .lst xs
  | .odi ks ds => .dic ks ds
  | .obj C fs ls => .ins C fs (L.views ls)
  | .oll ls => .lst (L.views ls)
  | .odl ks ls => .dic ks (L.views ls)
  | .otp ls => .tup (L.views ls)
  | .hole => .non
def L.views : List L → List D
  | [] => []
  | l :: ls => L.view l :: L.views ls
end
inductive Rep1 (K : PySem.W.Frag) (Hs H : Hp) : V → D → Prop
  | top {v : V} {d : D} : Rep K Hs v d → Rep1 K Hs H v d
  | lst {a : Addr} {vs : List V} {ds : List D} : H a = some (.lst vs) → RepL K Hs vs ds → Rep1 K Hs H (.ref a) (.lst ds)
  | dic {a : Addr} {kvs : List (Key × V)} {ks : List Key} {ds : List D} : H a = some (.dK kvs) → kvs.map (·.1) = ks → RepL K Hs (kvs.map (·.2)) ds → Rep1 K Hs H (.ref a) (.dic ks ds)
def PkOk (K : PySem.W.Frag) (Hs : Hp) (σ : L2.St) (v : V) : Pk → Prop
  | .dat d => Rep K Hs v d
  | .sl i => σ[i]? = some (some v)
def res (s : VS) : Pk → Option D
  | .dat d => some d
  | .sl i => match s[i]? with
    | some (some (.d x)) => some x
    | some (some (.own xs)) => some (.lst xs)
    | some (some (.odi ks ds)) => some (.dic ks ds)
    | _ => none
theorem Rep1.full {K : PySem.W.Frag} {Hs H : Hp} {v : V} {d : D} (e : Ex Hs H) (h : Rep1 K Hs H v d) : Rep K H v d := by
  cases h with
  | top h => exact h.mono e
  | lst h1 h2 => exact .lst h1 (h2.mono e)
  | dic h1 h2 h3 => exact .dic h1 h2 (h3.mono e)
theorem Sim.res {K : PySem.W.Frag} {fm : Fm} {Hs Hs' : Hp} {vs : VS} {σ : L2.St} {H : Hp} {xf : List Addr} {v : V} {d : D} {pk : Pk} (h : Sim K fm Hs vs σ H xf) (hk : PkOk K Hs' σ v pk) (e : Ex Hs' Hs) (hr : res vs pk = some d) : Rep1 K Hs H v d := by
  cases pk with
  | dat x =>
    cases hr
    exact .top (Rep.mono e _ hk)
  | sl i =>
    unfold Ev.res at hr
    have hk : σ[i]? = some (some v) := hk
    dsimp only at hr
    split at hr
    · rename_i x e1
      cases hr
      obtain ⟨v', e2, r⟩ := h.slotD e1
      rw [hk] at e2; cases e2
      exact .top r
    · rename_i xs e1
      cases hr
      obtain ⟨v', f, e2, r⟩ := h.slot e1
      rw [hk] at e2; cases e2
      cases r with | own h1 h2 => exact .lst h1 h2
    · rename_i ks ds e1
      cases hr
      obtain ⟨v', f, e2, r⟩ := h.slot e1
      rw [hk] at e2; cases e2
      cases r with | odi h1 h2 h3 => exact .dic h1 h2 h3
    · cases hr

abbrev tE (K : PySem.W.Frag) (W : WX) (P : Pin) (F : M D) : TE := tF K W P (fun Hs _ _ v d xf => Rep K Hs v d ∧ xf = []) F
abbrev tL (K : PySem.W.Frag) (W : WX) (P : Pin) (F : M L) : TE := tF K W P (fun Hs H _ v l xf => LOk K Hs H v l xf) F
abbrev tK (K : PySem.W.Frag) (W : WX) (P : Pin) (F : M Pk) : TE := tF K W P (fun Hs _ σ v k xf => PkOk K Hs σ v k ∧ xf = []) F
abbrev tB (K : PySem.W.Frag) (W : WX) (P : Pin) (F : M Bool) : TT := tF K W P (fun _ _ _ b a xf => b = a ∧ xf = []) F
abbrev tAs (K : PySem.W.Frag) (W : WX) (P : Pin) (F : M (List D)) : TA := tF K W P (fun Hs _ _ vs ds xf => RepL K Hs vs ds ∧ xf = []) F
abbrev tKs (K : PySem.W.Frag) (W : WX) (P : Pin) (F : M (List Pk)) : TA := tF K W P (fun Hs _ σ vs ks xf => Paired (PkOk K Hs σ) vs ks ∧ xf = []) F

section
variable {X : Cx} {W : WX} {P : Pin} {e a b c : Expr} {pos : Pos}
def fK (F : M D) : M Pk := bd F fun d => rt (.dat d)
theorem de_K {F : M D} (h : PE X e (tE X.K W P F)) : PE X e (tK X.K W P (fK F)) := PE_weak h fun σ H Q ⟨fm, Hs, vs, r, vs', hF, hP, hS, hk, hE⟩ => by
  refine go hF hP hS hE fun d vs1 v H1 Hs1 xf hg S1 X1 ⟨rv, rx⟩ => ?_
  obtain ⟨rfl, rfl⟩ := Prod.mk.inj (Option.some.inj hg)
  subst rx
  exact hk _ v H1 Hs1 [] rfl S1 X1 ⟨rv, rfl⟩
def fD (F : M D) : M L := bd F fun d => rt (.d d)
theorem de_L {F : M D} (h : PE X e (tE X.K W P F)) : PE X e (tL X.K W P (fD F)) := PE_weak h fun σ H Q ⟨fm, Hs, vs, r, vs', hF, hP, hS, hk, hE⟩ => by
  refine go hF hP hS hE fun d vs1 v H1 Hs1 xf hg S1 X1 ⟨rv, rx⟩ => ?_
  obtain ⟨rfl, rfl⟩ := Prod.mk.inj (Option.some.inj hg)
  subst rx
  exact hk _ v H1 Hs1 [] rfl S1 X1 (.d rv)
def allD : List L → Bool
  | [] => true
  | .d _ :: r => allD r
  | _ :: _ => false
def L.data : L → Option D
  | .d x => some x
  | .own xs => some (.lst xs)
  | .odi ks ds => some (.dic ks ds)
  | .obj C fs ls => if allD ls = true then some (.ins C fs (L.views ls)) else none
  | _ => none
def fS (F : M L) : M D := bd F fun l s => match l.data with
  | some d => some (.ok d, s)
  | none => none
theorem lokl_data {K : PySem.W.Frag} {Hs H : Hp} : ∀ {ls : List L} {vs : List V} {f : List Addr}, LOkL K Hs H vs ls f → allD ls = true → f = [] ∧ RepL K Hs vs (L.views ls)
  | [], _, _, h, _ => by cases h; exact ⟨rfl, .nil⟩
  | l :: ls, _, _, h, q => by
    cases h with
    | cons h1 h2 =>
      cases l with
      | d x =>
        obtain ⟨e, r⟩ := lokl_data h2 q
        subst e
        cases h1 with | d h1 => exact ⟨rfl, .cons h1 r⟩
      | own xs => cases q
      | odi ks ds => cases q
      | obj C fs ls => cases q
      | oll ls => cases q
      | odl ks ls => cases q
      | otp ls => cases q
      | hole => cases q
theorem Sim.xhd {K : PySem.W.Frag} {fm : Fm} {Hs : Hp} {vs : VS} {σ : L2.St} {H : Hp} {a : Addr} {r : List Addr} (S : Sim K fm Hs vs σ H (a :: r)) : Hs a = none := by
  obtain ⟨ft, s⟩ := S
  exact (s.xsp a (by simp)).1
theorem share {K : PySem.W.Frag} {fm : Fm} {Hs : Hp} {vs : VS} {σ : L2.St} {H : Hp} {xf : List Addr} {l : L} {v : V} {d : D} (S : Sim K fm Hs vs σ H xf) (h : LOk K Hs H v l xf) (e : l.data = some d) :
    ∃ Hs', Sim K fm Hs' vs σ H [] ∧ Ex Hs Hs' ∧ Rep K Hs' v d := by
  cases h with
  | d h => cases e; exact ⟨Hs, S, Ex.refl _, h⟩
  | own h1 h2 =>
    cases e
    have hn := S.xhd
    exact ⟨_, S.share1 h1, Ex.new hn, .lst upd_same (h2.mono (Ex.new hn))⟩
  | odi h1 h2 h3 =>
    cases e
    have hn := S.xhd
    exact ⟨_, S.share1 h1, Ex.new hn, .dic upd_same h2 (h3.mono (Ex.new hn))⟩
  | obj h1 h2 h3 =>
    have e : (if allD _ = true then some (D.ins _ _ (L.views _)) else none) = some d := e
    split at e
    · rename_i q
      obtain ⟨e', r'⟩ := lokl_data h3 q
      subst e'
      cases e
      have hn := S.xhd
      exact ⟨_, S.share1 h1, Ex.new hn, .ins upd_same h2 (r'.mono (Ex.new hn))⟩
    · cases e
  | oll _ _ => cases e
  | odl _ _ _ => cases e
  | otp _ _ => cases e
  | hole => cases e
theorem de_S {F : M L} (h : PE X e (tL X.K W P F)) : PE X e (tE X.K W P (fS F)) := PE_weak h fun σ H Q ⟨fm, Hs, vs, r, vs', hF, hP, hS, hk, hE⟩ => by
  refine go hF hP hS hE fun l vs1 v H1 Hs1 xf hg S1 X1 r1 => ?_
  split at hg
  · rename_i d hd
    cases hg
    obtain ⟨Hs2, S2, X2, r2⟩ := share S1 r1 hd
    exact hk d v H1 Hs2 [] rfl S2 (X1.trans X2) ⟨r2, rfl⟩
  · cases hg

def vLook (i : Nat) : M Pk := fun s => match s[i]? with
  | some (some (.d x)) => some (.ok (.dat x), s)
  | some (some _) => some (.ok (.sl i), s)
  | _ => none
theorem dk_var {i : Nat} {x : Str} (h : PE X (.Name x pos) (tVar i)) : PE X (.Name x pos) (tK X.K W P (vLook i)) := PE_weak h fun σ H Q ⟨fm, Hs, vs, r, vs', hF, hP, hS, hk, hE⟩ => by
  unfold vLook at hF
  split at hF
  · rename_i y e
    cases hF
    obtain ⟨v, e1, rv⟩ := hS.slotD e
    exact ⟨v, e1, hk _ v H Hs [] rfl hS (Ex.refl _) ⟨rv, rfl⟩⟩
  · rename_i l hn e
    cases hF
    obtain ⟨v, f, e1, rv⟩ := hS.slot e
    exact ⟨v, e1, hk _ v H Hs [] rfl hS (Ex.refl _) ⟨e1, rfl⟩⟩
  · cases hF
def vGet (i : Nat) : M D := fun s => match s[i]? with
  | some (some (.d x)) => some (.ok x, s)
  | some (some (.own xs)) => some (.ok (.lst xs), s.set i (some (.d (.lst xs))))
  | some (some (.odi ks ds)) => some (.ok (.dic ks ds), s.set i (some (.d (.dic ks ds))))
  | some (some (.obj C fs ls)) => if allD ls = true then some (.ok (.ins C fs (L.views ls)), s.set i (some (.d (.ins C fs (L.views ls))))) else none
  | _ => none
theorem Sim.freeze {K : PySem.W.Frag} {fm : Fm} {Hs : Hp} {vs : VS} {σ : L2.St} {H : Hp} {i : Nat} {l : L} {d : D} {a : Addr} {o : HO} (S : Sim K fm Hs vs σ H []) (e : vs[i]? = some (some l)) (ev : σ[i]? = some (some (.ref a))) (ha : H a = some o)
    (hl : ∀ f, LOk K Hs H (.ref a) l f → f = [a] ∧ (Hs a = none → Rep K (upd Hs a o) (.ref a) d)) : Hs a = none ∧ Sim K fm (upd Hs a o) (vs.set i (some (.d d))) σ H [] ∧ Rep K (upd Hs a o) (.ref a) d := by
  obtain ⟨ft, s⟩ := S
  obtain ⟨v, e1, r⟩ := s.ok i l e
  rw [ev] at e1
  cases e1
  obtain ⟨hf, r'⟩ := hl _ r
  have hm : a ∈ ft i := by rw [hf]; simp
  obtain ⟨hs, hb, hh⟩ := s.sp i a hm
  have r2 := r' hs
  refine ⟨hs, ⟨fun j => if j = i then [] else ft j, ⟨fun b u q => ?_, s.base, fun b u q => ?_, fun b q => ?_, by simp [s.len], fun j m ej => ?_, fun j => ?_, fun j k b h1 h2 => ?_, fun j b hb' => ?_, by simp, fun _ _ _ q => by simp at q, fun _ q => by simp at q, s.pins⟩⟩, r2⟩
  · by_cases z : b = a
    · subst z; rw [upd_same] at q; cases q; exact ha
    · rw [upd_ne z] at q; exact s.sub b u q
  · rw [upd_ne (ne_of_none (s.grow b u q) hs)]; exact s.grow b u q
  · by_cases z : b = a
    · exact .inr (by rw [z]; exact hb)
    · rw [upd_ne z] at q; exact s.new b q
  · by_cases z : j = i
    · subst z
      rw [List.getElem?_set_self (List.getElem?_eq_some_iff.mp e).1] at ej
      cases ej
      rw [if_pos rfl]
      exact ⟨_, ev, .d r2⟩
    · rw [List.getElem?_set_ne (Ne.symm z)] at ej
      rw [if_neg z]
      obtain ⟨v, e1, r1⟩ := s.ok j m ej
      exact ⟨v, e1, r1.mono (Ex.new hs) m fun _ _ => rfl⟩
  · show List.Nodup (if _ then _ else _)
    split
    · simp
    · exact s.nd j
  · try dsimp only at h1 h2
    split at h1
    · simp at h1
    · split at h2
      · simp at h2
      · exact s.dj j k b h1 h2
  · try dsimp only at hb'
    split at hb'
    · simp at hb'
    · rename_i z
      obtain ⟨h1, h2, h3⟩ := s.sp j b hb'
      refine ⟨?_, h2, h3⟩
      rw [upd_ne]
      · exact h1
      · intro q; exact z (s.dj j i a (by rw [← q]; exact hb') hm)
theorem de_var {i : Nat} {x : Str} (h : PE X (.Name x pos) (tVar i)) : PE X (.Name x pos) (tE X.K W P (vGet i)) := PE_weak h fun σ H Q ⟨fm, Hs, vs, r, vs', hF, hP, hS, hk, hE⟩ => by
  unfold vGet at hF
  split at hF
  · rename_i y e
    cases hF
    obtain ⟨v, e1, rv⟩ := hS.slotD e
    exact ⟨v, e1, hk _ v H Hs [] rfl hS (Ex.refl _) ⟨rv, rfl⟩⟩
  · rename_i xs e
    cases hF
    obtain ⟨v, f, e1, rv⟩ := hS.slot e
    cases rv with
    | own h1 h2 =>
      obtain ⟨hn, S', r'⟩ := hS.freeze (d := .lst xs) e e1 h1 fun f q => by
        cases q with
        | own q1 q2 => rw [h1] at q1; cases q1; exact ⟨rfl, fun hn => .lst upd_same (q2.mono (Ex.new hn))⟩
      exact ⟨_, e1, hk _ _ H _ [] rfl S' (Ex.new hn) ⟨r', rfl⟩⟩
  · rename_i ks ds e
    cases hF
    obtain ⟨v, f, e1, rv⟩ := hS.slot e
    cases rv with
    | odi h1 h2 h3 =>
      obtain ⟨hn, S', r'⟩ := hS.freeze (d := .dic ks ds) e e1 h1 fun f q => by
        cases q with
        | odi q1 q2 q3 => rw [h1] at q1; cases q1; exact ⟨rfl, fun hn => .dic upd_same q2 (q3.mono (Ex.new hn))⟩
      exact ⟨_, e1, hk _ _ H _ [] rfl S' (Ex.new hn) ⟨r', rfl⟩⟩
  · rename_i C fs ls e
    split at hF
    · rename_i hq
      cases hF
      obtain ⟨v, f, e1, rv⟩ := hS.slot e
      cases rv with
      | obj h1 h2 h3 =>
        obtain ⟨hn, S', r'⟩ := hS.freeze (d := .ins C fs (L.views ls)) e e1 h1 fun f q => by
          cases q with
          | obj q1 q2 q3 =>
            rw [h1] at q1; cases q1
            obtain ⟨e', r'⟩ := lokl_data q3 hq
            subst e'
            exact ⟨rfl, fun hn => .ins upd_same q2 (r'.mono (Ex.new hn))⟩
        exact ⟨_, e1, hk _ _ H _ [] rfl S' (Ex.new hn) ⟨r', rfl⟩⟩
    · cases hF
  · cases hF
def vMove (i : Nat) : M L := fun s => match s[i]? with
  | some (some l) => some (.ok l, s.set i none)
  | _ => none
theorem dl_move {i : Nat} {x : Str} (h : PE X (.Name x pos) (tVar i)) : PE X (.Name x pos) (tL X.K W P (vMove i)) := PE_weak h fun σ H Q ⟨fm, Hs, vs, r, vs', hF, hP, hS, hk, hE⟩ => by
  unfold vMove at hF
  split at hF
  · rename_i l e
    cases hF
    obtain ⟨ft, s⟩ := hS
    obtain ⟨v, e1, rv⟩ := s.ok i l e
    refine ⟨v, e1, hk _ v H Hs (ft i) rfl ⟨fun j => if j = i then [] else ft j, ⟨s.sub, s.base, s.grow, s.new, by simp [s.len], fun j m ej => ?_, fun j => ?_, fun j k b h1 h2 => ?_, fun j b hb' => ?_, s.nd i, fun j b hb' q => ?_, fun b q => s.sp i b q, s.pins⟩⟩ (Ex.refl _) rv⟩
    · by_cases z : j = i
      · subst z
        rw [List.getElem?_set_self (List.getElem?_eq_some_iff.mp e).1] at ej
        cases ej
      · rw [List.getElem?_set_ne (Ne.symm z)] at ej
        rw [if_neg z]
        exact s.ok j m ej
    · show List.Nodup (if _ then _ else _)
      split
      · simp
      · exact s.nd j
    · try dsimp only at h1 h2
      split at h1
      · simp at h1
      · split at h2
        · simp at h2
        · exact s.dj j k b h1 h2
    · try dsimp only at hb'
      split at hb'
      · simp at hb'
      · exact s.sp j b hb'
    · try dsimp only at hb'
      split at hb'
      · simp at hb'
      · rename_i z; exact z (s.dj j i b hb' q)
  · cases hF
theorem tC_flat {K : PySem.W.Frag} {v : V} {d : D} (hv : ∀ Hs, Rep K Hs v d) : ∀ σ H Q, tE K W P (rt d) σ H Q → tC v σ H Q := fun σ H Q ⟨fm, Hs, vs, r, vs', hF, hP, hS, hk, hE⟩ => by
  cases hF
  exact hk _ v H Hs [] rfl hS (Ex.refl _) ⟨hv Hs, rfl⟩
theorem de_const {v : V} {d : D} (h : PE X e (tC v)) (hv : ∀ Hs, Rep X.K Hs v d) : PE X e (tE X.K W P (rt d)) := PE_weak h (tC_flat hv)
theorem de_int {i j pos} : PE X (.Constant (.int i) j pos) (tE X.K W P (rt (.int i))) := de_const pe_int fun _ => .int i
theorem de_str {x j pos} : PE X (.Constant (.str x) j pos) (tE X.K W P (rt (.str x))) := de_const pe_str fun _ => .str x
theorem de_bl {b j pos} : PE X (.Constant (.bool b) j pos) (tE X.K W P (rt (.bl b))) := de_const pe_bl fun _ => .bl b
theorem de_non {j pos} : PE X (.Constant .none j pos) (tE X.K W P (rt .non)) := de_const pe_non fun _ => .non
end
end Ev
namespace Ev
open PySem PySem.Spec PyProof.Rows L2
open Evl (Ex)

def Res (K : PySem.W.Frag) (Hs H : Hp) (Q : VK) : L → Prop
  | .own zs => ∀ p vs, H p = none → RepL K Hs vs zs → Q (.ref p) (upd H p (.lst vs))
  | .odi ks ds => ∀ p kvs, H p = none → kvs.map (·.1) = ks → RepL K Hs (kvs.map (·.2)) ds → Q (.ref p) (upd H p (.dK kvs))
  | .d z => (∀ v, Rep K Hs v z → Q v H) ∧ ∀ zs p vs, z = .tup zs → H p = none → RepL K Hs vs zs → Q (.ref p) (upd H p (.tup vs))
  | .obj _ _ _ => True
  | .oll _ => True
  | .odl _ _ => True
  | .otp _ => True
  | .hole => True
theorem res_of {K : PySem.W.Frag} {fm : Fm} {Hs : Hp} {vs : VS} {σ : L2.St} {H : Hp} {Q : VK} {l : L} (S : Sim K fm Hs vs σ H []) (hk : ∀ v H' Hs' xf, Sim K fm Hs' vs σ H' xf → Ex Hs Hs' → LOk K Hs' H' v l xf → Q v H') : Res K Hs H Q l := by
  cases l with
  | d z =>
    refine ⟨fun v r => hk v H Hs [] S (Ex.refl _) (.d r), fun zs p us e hp r => ?_⟩
    subst e
    have hn : Hs p = none := Evl.fresh_back S.sub hp
    exact hk _ _ _ [] (S.alloc hp _) (Ex.new hn) (.d (.tup upd_same (r.mono (Ex.new hn))))
  | own zs => exact fun p us hp r => hk _ _ Hs [p] (S.allocX hp _) (Ex.refl _) (.own upd_same r)
  | odi ks ds => exact fun p us hp e r => hk _ _ Hs [p] (S.allocX hp _) (Ex.refl _) (.odi upd_same e r)
  | obj C fs ls => trivial
  | oll ls => trivial
  | odl ks ls => trivial
  | otp ls => trivial
  | hole => trivial
def Op2 (K : PySem.W.Frag) (r : R2) (f : D → D → Option L) : Prop :=
  ∀ Hs H x y dx dy l Q, Ex Hs H → Rep1 K Hs H x dx → Rep1 K Hs H y dy → f dx dy = some l → Res K Hs H Q l → r x y H Q
def Cm2 (K : PySem.W.Frag) (r : R2) (f : D → D → Option Bool) : Prop :=
  ∀ Hs H x y dx dy k (Q : VK), Ex Hs H → Rep1 K Hs H x dx → Rep1 K Hs H y dy → f dx dy = some k → Q (.bl k) H → r x y H Q
def OpN (K : PySem.W.Frag) (r : List V → Hp → VK → Prop) (f : List D → Option L) : Prop :=
  ∀ Hs H xs ds l Q, Ex Hs H → Paired (Rep1 K Hs H) xs ds → f ds = some l → Res K Hs H Q l → r xs H Q
def f2 (f : D → D → Option L) (Fa Fb : M Pk) : M L := bd Fa fun a => bd Fb fun b => fun s => match res s a, res s b with
  | some x, some y => (match f x y with
    | some l => some (.ok l, s)
    | none => none)
  | _, _ => none
def c2 (f : D → D → Option Bool) (Fa Fb : M Pk) : M Bool := bd Fa fun a => bd Fb fun b => fun s => match res s a, res s b with
  | some x, some y => (match f x y with
    | some l => some (.ok l, s)
    | none => none)
  | _, _ => none
def resAll (s : VS) : List Pk → Option (List D)
  | [] => some []
  | k :: ks => match res s k, resAll s ks with
    | some d, some ds => some (d :: ds)
    | _, _ => none
def fN (f : List D → Option L) (F : M (List Pk)) : M L := bd F fun ks s => match resAll s ks with
  | some ds => (match f ds with
    | some l => some (.ok l, s)
    | none => none)
  | none => none
theorem PkOk.mono {K : PySem.W.Frag} {Hs Hs' : Hp} {σ : L2.St} {v : V} {k : Pk} (e : Ex Hs Hs') (h : PkOk K Hs σ v k) : PkOk K Hs' σ v k := by
  cases k with
  | dat d => exact Rep.mono e _ h
  | sl i => exact h
theorem Sim.resAll {K : PySem.W.Frag} {fm : Fm} {Hs : Hp} {vs : VS} {σ : L2.St} {H : Hp} {xf : List Addr} (S : Sim K fm Hs vs σ H xf) : ∀ {ks : List Pk} {us : List V} {ds : List D}, Paired (PkOk K Hs σ) us ks → resAll vs ks = some ds → Paired (Rep1 K Hs H) us ds
  | [], _, _, .nil, e => by cases e; exact .nil
  | k :: ks, _, _, .cons r t, e => by
    unfold Ev.resAll at e
    split at e
    · rename_i d ds e1 e2
      cases e
      exact .cons (S.res r (Ex.refl _) e1) (S.resAll t e2)
    · cases e
section
variable {X : Cx} {W : WX} {P : Pin} {e a b c : Expr} {pos : Pos} {Fa Fb Fc : M Pk}
theorem re_f2 {r : R2} {f : D → D → Option L} {ta tb : TE} (hr : Op2 X.K r f) (ha : ∀ σ H Q, tK X.K W P Fa σ H Q → ta σ H Q) (hb : ∀ σ H Q, tK X.K W P Fb σ H Q → tb σ H Q) : ∀ σ H Q, tL X.K W P (f2 f Fa Fb) σ H Q → tOp r ta tb σ H Q := fun σ H Q ⟨fm, Hs, vs, r', vs', hF, hP, hS, hk, hE⟩ => by
  refine ha _ _ _ (go hF hP hS hE fun ka vs1 x H1 Hs1 xf hg S1 X1 ⟨rx, ex⟩ => ?_)
  subst ex
  refine hb _ _ _ (go hg hP S1 (fun x c dd H' Hs' q S' X' o => hE x c dd H' Hs' q S' (X1.trans X') o) fun kb vs2 y H2 Hs2 xf hg S2 X2 ⟨ry, ex⟩ => ?_)
  subst ex
  split at hg
  · rename_i dx dy e1 e2
    split at hg
    · rename_i l el
      cases hg
      refine hr Hs2 H2 x y dx dy l Q S2.sub (S2.res rx X2 e1) (S2.res ry (Ex.refl _) e2) el (res_of S2 fun v H' Hs' xf S' X' r' => ?_)
      exact hk l v H' Hs' xf rfl S' ((X1.trans X2).trans X') r'
    · cases hg
  · cases hg
theorem dl_op {op : Operator} {r : R2} {f : D → D → Option L} (ho : OpR X (binaryOp op) r) (hr : Op2 X.K r f) (ha : PE X a (tK X.K W P Fa)) (hb : PE X b (tK X.K W P Fb)) : PE X (.BinOp a op b pos) (tL X.K W P (f2 f Fa Fb)) :=
  PE_weak (pe_op ho ha hb) (re_f2 hr (fun _ _ _ h => h) fun _ _ _ h => h)
theorem dl_ix {r : R2} {f : D → D → Option L} (ho : IxR X r) (hr : Op2 X.K r f) (ha : PE X a (tK X.K W P Fa)) (hb : PE X b (tK X.K W P Fb)) (hs : PlainIx b) : PE X (.Subscript a b pos) (tL X.K W P (f2 f Fa Fb)) :=
  PE_weak (pe_ix ho ha hb hs) (re_f2 hr (fun _ _ _ h => h) fun _ _ _ h => h)
def fBl (F : M Bool) : M D := bd F fun k => rt (.bl k)
theorem re_c2 {r : R2} {f : D → D → Option Bool} (hr : Cm2 X.K r f) {γ : Type} {g : Bool → M γ} {fm : Fm} {Hs : Hp} {vs vs' : VS} {r' : Except Xn γ} {σ : L2.St} {H : Hp} {Q : VK}
    (hF : bd (c2 f Fa Fb) g vs = some (r', vs')) (hP : PnOk X.K fm P) (hS : Sim X.K fm Hs vs σ H [])
    (hE : ∀ x c dd H' Hs', r' = .error x → Sim X.K fm Hs' vs' σ H' [] → Ex Hs Hs' → XOk X.K Hs' H' c dd x → W c dd σ H')
    (hk : ∀ k vs1 H1 Hs1, g k vs1 = some (r', vs') → Sim X.K fm Hs1 vs1 σ H1 [] → Ex Hs Hs1 → Q (.bl k) H1) : tOp r (tK X.K W P Fa) (tK X.K W P Fb) σ H Q := by
  have hF2 : bd Fa (fun a => bd Fb fun b => bd (fun s => match res s a, res s b with
    | some x, some y => (match f x y with
      | some l => some (.ok l, s)
      | none => none)
    | _, _ => none) g) vs = some (r', vs') := by
    rw [← hF]
    unfold c2 bd
    dsimp only
    cases Fa vs with
    | none => rfl
    | some q =>
      obtain ⟨q1, q2⟩ := q
      cases q1 with
      | error x => rfl
      | ok a =>
        dsimp only
        cases Fb q2 with
        | none => rfl
        | some q =>
          obtain ⟨q1, q2⟩ := q
          cases q1 with
          | error x => rfl
          | ok a => rfl
  try dsimp only [tOp, tChain, tUn, tCons, tCB, tLst, tTup, tAnd, tOr, tNot, L2.tB, tAndV, tOrV, tNotV, tIf, tTest]
  refine go hF2 hP hS hE fun ka vs1 x H1 Hs1 xf hg S1 X1 ⟨rx, ex⟩ => ?_
  subst ex
  try dsimp only [tOp, tChain, tUn, tCons, tCB, tLst, tTup, tAnd, tOr, tNot, L2.tB, tAndV, tOrV, tNotV, tIf, tTest]
  refine go hg hP S1 (fun x c dd H' Hs' q S' X' o => hE x c dd H' Hs' q S' (X1.trans X') o) fun kb vs2 y H2 Hs2 xf hg S2 X2 ⟨ry, ex⟩ => ?_
  subst ex
  rcases bd_cases hg with ⟨k, s1, e, h⟩ | ⟨z, s1, e, h⟩
  · split at e
    · rename_i dx dy e1 e2
      split at e
      · rename_i el
        cases e
        exact hr Hs2 H2 x y dx dy _ Q S2.sub (S2.res rx X2 e1) (S2.res ry (Ex.refl _) e2) el (hk _ vs2 H2 Hs2 h S2 (X1.trans X2))
      · cases e
    · cases e
  · split at e
    · split at e <;> cases e
    · cases e
theorem bd_rt {α : Type} (F : M α) : bd F rt = F := by
  funext s
  unfold bd rt
  cases F s with
  | none => rfl
  | some q =>
    obtain ⟨q1, q2⟩ := q
    cases q1 <;> rfl
theorem dt_cmp {op : CmpOp} {r : R2} {f : D → D → Option Bool} (ho : OpR X (compareOp op) r) (hr : Cm2 X.K r f) (ha : PE X a (tK X.K W P Fa)) (hb : PE X b (tK X.K W P Fb)) (hm : behindInMarks op b = false) : PT X (.Compare a [op] [b] pos) (tB X.K W P (c2 f Fa Fb)) :=
  PT_weak (pt_cmpR ho ha hb hm) fun σ H Q ⟨fm, Hs, vs, r', vs', hF, hP, hS, hk, hE⟩ => re_c2 hr (g := rt) (by rw [bd_rt]; exact hF) hP hS hE fun k vs1 H1 Hs1 hg S1 X1 => by
    obtain ⟨rfl, rfl⟩ := Prod.mk.inj (Option.some.inj hg)
    exact ⟨k, rfl, hk k k H1 Hs1 [] rfl S1 X1 ⟨rfl, rfl⟩⟩
theorem de_cmp {op : CmpOp} {r : R2} {f : D → D → Option Bool} (ho : OpR X (compareOp op) r) (hr : Cm2 X.K r f) (ha : PE X a (tK X.K W P Fa)) (hb : PE X b (tK X.K W P Fb)) (hm : behindInMarks op b = false) : PE X (.Compare a [op] [b] pos) (tE X.K W P (fBl (c2 f Fa Fb))) :=
  PE_weak (pe_cmpR ho ha hb hm) fun σ H Q ⟨fm, Hs, vs, r', vs', hF, hP, hS, hk, hE⟩ => re_c2 hr (g := fun k => rt (D.bl k)) hF hP hS hE fun k vs1 H1 Hs1 hg S1 X1 => by
    obtain ⟨rfl, rfl⟩ := Prod.mk.inj (Option.some.inj hg)
    exact hk _ _ H1 Hs1 [] rfl S1 X1 ⟨.bl k, rfl⟩
def c3 (f f' : D → D → Option Bool) (Fa Fb Fc : M Pk) : M Bool := bd Fa fun a => bd Fb fun b => fun s => match res s a, res s b with
  | some x, some y => (match f x y with
    | some true => bd Fc (fun c s => match res s b, res s c with
      | some y, some z => (match f' y z with
        | some l => some (.ok l, s)
        | none => none)
      | _, _ => none) s
    | some false => some (.ok false, s)
    | none => none)
  | _, _ => none
theorem re_c3 {r r2 : R2} {f f' : D → D → Option Bool} (hr : Cm2 X.K r f) (hr' : Cm2 X.K r2 f') {fm : Fm} {Hs : Hp} {vs vs' : VS} {r' : Except Xn Bool} {σ : L2.St} {H : Hp} {Q : VK}
    (hF : c3 f f' Fa Fb Fc vs = some (r', vs')) (hP : PnOk X.K fm P) (hS : Sim X.K fm Hs vs σ H [])
    (hE : ∀ x c dd H' Hs', r' = .error x → Sim X.K fm Hs' vs' σ H' [] → Ex Hs Hs' → XOk X.K Hs' H' c dd x → W c dd σ H')
    (hk : ∀ k H1 Hs1, r' = .ok k → Sim X.K fm Hs1 vs' σ H1 [] → Ex Hs Hs1 → Q (.bl k) H1) : tChain r r2 (tK X.K W P Fa) (tK X.K W P Fb) (tK X.K W P Fc) σ H Q := by
  try dsimp only [tOp, tChain, tUn, tCons, tCB, tLst, tTup, tAnd, tOr, tNot, L2.tB, tAndV, tOrV, tNotV, tIf, tTest]
  refine go hF hP hS hE fun ka vs1 x H1 Hs1 xf hg S1 X1 ⟨rx, ex⟩ => ?_
  subst ex
  try dsimp only [tOp, tChain, tUn, tCons, tCB, tLst, tTup, tAnd, tOr, tNot, L2.tB, tAndV, tOrV, tNotV, tIf, tTest]
  refine go hg hP S1 (fun x c dd H' Hs' q S' X' o => hE x c dd H' Hs' q S' (X1.trans X') o) fun kb vs2 y H2 Hs2 xf hg S2 X2 ⟨ry, ex⟩ => ?_
  subst ex
  split at hg
  · rename_i dx dy e1 e2
    split at hg
    · rename_i el
      refine hr Hs2 H2 x y dx dy true _ S2.sub (S2.res rx X2 e1) (S2.res ry (Ex.refl _) e2) el ⟨true, rfl, ?_⟩
      rw [if_pos rfl]
      try dsimp only [tOp, tChain, tUn, tCons, tCB, tLst, tTup, tAnd, tOr, tNot, L2.tB, tAndV, tOrV, tNotV, tIf, tTest]
      refine go hg hP S2 (fun x c dd H' Hs' q S' X' o => hE x c dd H' Hs' q S' ((X1.trans X2).trans X') o) fun kc vs3 z H3 Hs3 xf hg S3 X3 ⟨rz, ex⟩ => ?_
      subst ex
      split at hg
      · rename_i dy' dz e3 e4
        split at hg
        · rename_i k' el'
          cases hg
          exact hr' Hs3 H3 y z dy' dz k' Q S3.sub (S3.res ry X3 e3) (S3.res rz (Ex.refl _) e4) el' (hk k' H3 Hs3 rfl S3 ((X1.trans X2).trans X3))
        · cases hg
      · cases hg
    · rename_i el
      cases hg
      refine hr Hs2 H2 x y dx dy false _ S2.sub (S2.res rx X2 e1) (S2.res ry (Ex.refl _) e2) el ⟨false, rfl, ?_⟩
      rw [if_neg Bool.false_ne_true]
      exact hk false H2 Hs2 rfl S2 (X1.trans X2)
    · cases hg
  · cases hg
theorem dt_chain {op op' : CmpOp} {r r' : R2} {f f' : D → D → Option Bool} (ho : OpR X (compareOp op) r) (ho' : OpR X (compareOp op') r') (hr : Cm2 X.K r f) (hr' : Cm2 X.K r' f') (ha : PE X a (tK X.K W P Fa)) (hb : PE X b (tK X.K W P Fb)) (hc : PE X c (tK X.K W P Fc))
    (hm : lastMarks [op, op'] [b, c] = false) : PT X (.Compare a [op, op'] [b, c] pos) (tB X.K W P (c3 f f' Fa Fb Fc)) :=
  PT_weak (pt_chain ho ho' ha hb hc hm) fun σ H Q ⟨fm, Hs, vs, r', vs', hF, hP, hS, hk, hE⟩ => re_c3 hr hr' hF hP hS hE fun k H1 Hs1 e S1 X1 => ⟨k, rfl, hk k k H1 Hs1 [] e S1 X1 ⟨rfl, rfl⟩⟩
theorem de_chain {op op' : CmpOp} {r r' : R2} {f f' : D → D → Option Bool} (ho : OpR X (compareOp op) r) (ho' : OpR X (compareOp op') r') (hr : Cm2 X.K r f) (hr' : Cm2 X.K r' f') (ha : PE X a (tK X.K W P Fa)) (hb : PE X b (tK X.K W P Fb)) (hc : PE X c (tK X.K W P Fc))
    (hm : lastMarks [op, op'] [b, c] = false) : PE X (.Compare a [op, op'] [b, c] pos) (tE X.K W P (fBl (c3 f f' Fa Fb Fc))) :=
  PE_weak (pe_chain ho ho' ha hb hc hm) fun σ H Q ⟨fm, Hs, vs, r', vs', hF, hP, hS, hk, hE⟩ => by
    rcases bd_cases hF with ⟨k, s1, e, h⟩ | ⟨z, s1, e, h⟩
    · obtain ⟨rfl, rfl⟩ := Prod.mk.inj (Option.some.inj h)
      exact re_c3 hr hr' e hP hS (fun _ _ _ _ _ q => (by cases q)) fun k' H1 Hs1 e S1 X1 => by cases e; exact hk _ _ H1 Hs1 [] rfl S1 X1 ⟨.bl _, rfl⟩
    · obtain ⟨rfl, rfl⟩ := Prod.mk.inj h
      exact re_c3 hr hr' e hP hS (fun x c dd H' Hs' q => hE x c dd H' Hs' (by cases q; rfl)) fun k' H1 Hs1 e => by cases e
def f1 (f : D → Option L) (Fa : M Pk) : M L := bd Fa fun a s => match res s a with
  | some x => (match f x with
    | some l => some (.ok l, s)
    | none => none)
  | none => none
def Op1 (K : PySem.W.Frag) (r : V → Hp → VK → Prop) (f : D → Option L) : Prop :=
  ∀ Hs H x dx l Q, Ex Hs H → Rep1 K Hs H x dx → f dx = some l → Res K Hs H Q l → r x H Q
theorem dl_un {op : UnaryOp} {r : V → Hp → VK → Prop} {f : D → Option L} (ho : UnR X (unaryOp op) r) (hr : Op1 X.K r f) (ha : PE X a (tK X.K W P Fa)) : PE X (.UnaryOp op a pos) (tL X.K W P (f1 f Fa)) :=
  PE_weak (pe_un ho ha) fun σ H Q ⟨fm, Hs, vs, r', vs', hF, hP, hS, hk, hE⟩ => by
    try dsimp only [tOp, tChain, tUn, tCons, tCB, tLst, tTup, tAnd, tOr, tNot, L2.tB, tAndV, tOrV, tNotV, tIf, tTest]
    refine go hF hP hS hE fun ka vs1 x H1 Hs1 xf hg S1 X1 ⟨rx, ex⟩ => ?_
    subst ex
    split at hg
    · rename_i dx e1
      split at hg
      · rename_i l el
        cases hg
        exact hr Hs1 H1 x dx l Q S1.sub (S1.res rx (Ex.refl _) e1) el (res_of S1 fun v H' Hs' xf S' X' r' => hk l v H' Hs' xf rfl S' (X1.trans X') r')
      · cases hg
    · cases hg
def kNil : M (List Pk) := rt []
def kCons (Fa : M Pk) (Fr : M (List Pk)) : M (List Pk) := bd Fa fun a => bd Fr fun r => rt (a :: r)
theorem dks_nil : PA X [] (tKs X.K W P kNil) := PA_weak pa_nil fun σ H Q ⟨fm, Hs, vs, r', vs', hF, hP, hS, hk, hE⟩ => by
  cases hF
  exact hk _ [] H Hs [] rfl hS (Ex.refl _) ⟨.nil, rfl⟩
theorem Paired_imp {α β : Type} {R S : α → β → Prop} : ∀ {l : List α} {m : List β}, Paired R l m → (∀ a b, R a b → S a b) → Paired S l m
  | _, _, .nil, _ => .nil
  | _, _, .cons r t, f => .cons (f _ _ r) (Paired_imp t f)
theorem dks_cons {es : List Expr} {Fr : M (List Pk)} (ha : PE X a (tK X.K W P Fa)) (hr : PA X es (tKs X.K W P Fr)) (hs : starEach (a :: es) X.env = (false, eval a X.env) :: starEach es X.env) : PA X (a :: es) (tKs X.K W P (kCons Fa Fr)) :=
  PA_weak (pa_cons ha hr hs) fun σ H Q ⟨fm, Hs, vs, r', vs', hF, hP, hS, hk, hE⟩ => by
    try dsimp only [tOp, tChain, tUn, tCons, tCB, tLst, tTup, tAnd, tOr, tNot, L2.tB, tAndV, tOrV, tNotV, tIf, tTest]
    refine go hF hP hS hE fun ka vs1 x H1 Hs1 xf hg S1 X1 ⟨rx, ex⟩ => ?_
    subst ex
    try dsimp only [tOp, tChain, tUn, tCons, tCB, tLst, tTup, tAnd, tOr, tNot, L2.tB, tAndV, tOrV, tNotV, tIf, tTest]
    refine go hg hP S1 (fun x c dd H' Hs' q S' X' o => hE x c dd H' Hs' q S' (X1.trans X') o) fun kr vs2 y H2 Hs2 xf hg S2 X2 ⟨ry, ex⟩ => ?_
    subst ex
    cases hg
    exact hk _ _ H2 Hs2 [] rfl S2 (X1.trans X2) ⟨.cons (rx.mono X2) ry, rfl⟩
theorem re_fN {r : List V → Hp → VK → Prop} {f : List D → Option L} {Fr : M (List Pk)} (hr : OpN X.K r f) : ∀ σ H Q, tL X.K W P (fN f Fr) σ H Q → tCB r (tKs X.K W P Fr) σ H Q := fun σ H Q ⟨fm, Hs, vs, r', vs', hF, hP, hS, hk, hE⟩ => by
  try dsimp only [tOp, tChain, tUn, tCons, tCB, tLst, tTup, tAnd, tOr, tNot, L2.tB, tAndV, tOrV, tNotV, tIf, tTest]
  refine go hF hP hS hE fun ka vs1 x H1 Hs1 xf hg S1 X1 ⟨rx, ex⟩ => ?_
  subst ex
  split at hg
  · rename_i ds e1
    split at hg
    · rename_i l el
      cases hg
      exact hr Hs1 H1 x ds l Q S1.sub (S1.resAll rx e1) el (res_of S1 fun v H' Hs' xf S' X' r' => hk l v H' Hs' xf rfl S' (X1.trans X') r')
    · cases hg
  · cases hg
def aNil : M (List D) := rt []
def aCons (Fa : M D) (Fr : M (List D)) : M (List D) := bd Fa fun a => bd Fr fun r => rt (a :: r)
theorem das_nil : PA X [] (tAs X.K W P aNil) := PA_weak pa_nil fun σ H Q ⟨fm, Hs, vs, r', vs', hF, hP, hS, hk, hE⟩ => by
  cases hF
  exact hk _ [] H Hs [] rfl hS (Ex.refl _) ⟨.nil, rfl⟩
theorem das_cons {es : List Expr} {Fa : M D} {Fr : M (List D)} (ha : PE X a (tE X.K W P Fa)) (hr : PA X es (tAs X.K W P Fr)) (hs : starEach (a :: es) X.env = (false, eval a X.env) :: starEach es X.env) : PA X (a :: es) (tAs X.K W P (aCons Fa Fr)) :=
  PA_weak (pa_cons ha hr hs) fun σ H Q ⟨fm, Hs, vs, r', vs', hF, hP, hS, hk, hE⟩ => by
    try dsimp only [tOp, tChain, tUn, tCons, tCB, tLst, tTup, tAnd, tOr, tNot, L2.tB, tAndV, tOrV, tNotV, tIf, tTest]
    refine go hF hP hS hE fun ka vs1 x H1 Hs1 xf hg S1 X1 ⟨rx, ex⟩ => ?_
    subst ex
    try dsimp only [tOp, tChain, tUn, tCons, tCB, tLst, tTup, tAnd, tOr, tNot, L2.tB, tAndV, tOrV, tNotV, tIf, tTest]
    refine go hg hP S1 (fun x c dd H' Hs' q S' X' o => hE x c dd H' Hs' q S' (X1.trans X') o) fun kr vs2 y H2 Hs2 xf hg S2 X2 ⟨ry, ex⟩ => ?_
    subst ex
    cases hg
    exact hk _ _ H2 Hs2 [] rfl S2 (X1.trans X2) ⟨.cons (rx.mono X2) ry, rfl⟩
def fLst (Fr : M (List D)) : M L := bd Fr fun ds s => if ds.length ≤ 100000 then some (.ok (.own ds), s) else none
def fTup (Fr : M (List D)) : M D := bd Fr fun ds s => if ds.length ≤ 100000 then some (.ok (.tup ds), s) else none
theorem dl_lst {es : List Expr} {Fr : M (List D)} (h : PA X es (tAs X.K W P Fr)) : PE X (.List es pos) (tL X.K W P (fLst Fr)) :=
  PE_weak (pe_lst h) fun σ H Q ⟨fm, Hs, vs, r', vs', hF, hP, hS, hk, hE⟩ => by
    try dsimp only [tOp, tChain, tUn, tCons, tCB, tLst, tTup, tAnd, tOr, tNot, L2.tB, tAndV, tOrV, tNotV, tIf, tTest]
    refine go hF hP hS hE fun ds vs1 us H1 Hs1 xf hg S1 X1 ⟨rx, ex⟩ => ?_
    subst ex
    split at hg
    · rename_i hl
      cases hg
      refine ⟨by rw [rx.length]; exact Evl.sz_of hl, fun p hp => ?_⟩
      exact hk _ _ _ Hs1 [p] rfl (S1.allocX hp _) X1 (.own upd_same rx)
    · cases hg
theorem de_tup {es : List Expr} {k : Nat} {Fr : M (List D)} (h : PA X es (tAs X.K W P Fr)) : PE X (.Tuple es k pos) (tE X.K W P (fTup Fr)) :=
  PE_weak (pe_tup h) fun σ H Q ⟨fm, Hs, vs, r', vs', hF, hP, hS, hk, hE⟩ => by
    try dsimp only [tOp, tChain, tUn, tCons, tCB, tLst, tTup, tAnd, tOr, tNot, L2.tB, tAndV, tOrV, tNotV, tIf, tTest]
    refine go hF hP hS hE fun ds vs1 us H1 Hs1 xf hg S1 X1 ⟨rx, ex⟩ => ?_
    subst ex
    split at hg
    · rename_i hl
      cases hg
      refine ⟨by rw [rx.length]; exact Evl.sz_of hl, fun p hp => ?_⟩
      have hn : Hs1 p = none := Evl.fresh_back S1.sub hp
      exact hk _ _ _ _ [] rfl (S1.alloc hp _) (X1.trans (Ex.new hn)) ⟨.tup upd_same (rx.mono (Ex.new hn)), rfl⟩
    · cases hg
def bAnd (A B : M Bool) : M Bool := bd A fun k => if k = true then B else rt false
def bOr (A B : M Bool) : M Bool := bd A fun k => if k = true then rt true else B
def bNot (A : M Bool) : M Bool := bd A fun k => rt (!k)
variable {FA FB : M Bool} {rest : List Expr}
theorem dw_and (ha : PT X a (tB X.K W P FA)) (hb : PW X (.BoolOp .And (b :: rest) pos) (tB X.K W P FB)) : PW X (.BoolOp .And (a :: b :: rest) pos) (tB X.K W P (bAnd FA FB)) :=
  PW_weak (pw_and ha hb) fun σ H Q ⟨fm, Hs, vs, r', vs', hF, hP, hS, hk, hE⟩ => by
    try dsimp only [tOp, tChain, tUn, tCons, tCB, tLst, tTup, tAnd, tOr, tNot, L2.tB, tAndV, tOrV, tNotV, tIf, tTest]
    refine go hF hP hS hE fun k vs1 k' H1 Hs1 xf hg S1 X1 ⟨rx, ex⟩ => ?_
    subst ex; subst rx
    cases k' with
    | true =>
      rw [if_pos rfl] at hg ⊢
      exact ⟨fm, Hs1, vs1, r', vs', hg, hP, S1, fun a b H' Hs' xf q S' X' => hk a b H' Hs' xf q S' (X1.trans X'), fun x c dd H' Hs' q S' X' => hE x c dd H' Hs' q S' (X1.trans X')⟩
    | false =>
      rw [if_neg Bool.false_ne_true] at hg ⊢
      cases hg
      exact hk _ _ H1 Hs1 [] rfl S1 X1 ⟨rfl, rfl⟩
theorem dw_or (ha : PT X a (tB X.K W P FA)) (hb : PW X (.BoolOp .Or (b :: rest) pos) (tB X.K W P FB)) : PW X (.BoolOp .Or (a :: b :: rest) pos) (tB X.K W P (bOr FA FB)) :=
  PW_weak (pw_or ha hb) fun σ H Q ⟨fm, Hs, vs, r', vs', hF, hP, hS, hk, hE⟩ => by
    try dsimp only [tOp, tChain, tUn, tCons, tCB, tLst, tTup, tAnd, tOr, tNot, L2.tB, tAndV, tOrV, tNotV, tIf, tTest]
    refine go hF hP hS hE fun k vs1 k' H1 Hs1 xf hg S1 X1 ⟨rx, ex⟩ => ?_
    subst ex; subst rx
    cases k' with
    | false =>
      rw [if_neg Bool.false_ne_true] at hg ⊢
      exact ⟨fm, Hs1, vs1, r', vs', hg, hP, S1, fun a b H' Hs' xf q S' X' => hk a b H' Hs' xf q S' (X1.trans X'), fun x c dd H' Hs' q S' X' => hE x c dd H' Hs' q S' (X1.trans X')⟩
    | true =>
      rw [if_pos rfl] at hg ⊢
      cases hg
      exact hk _ _ H1 Hs1 [] rfl S1 X1 ⟨rfl, rfl⟩
theorem dt_not (ha : PT X a (tB X.K W P FA)) : PT X (.UnaryOp .Not a pos) (tB X.K W P (bNot FA)) :=
  PT_weak (pt_not ha) fun σ H Q ⟨fm, Hs, vs, r', vs', hF, hP, hS, hk, hE⟩ => by
    try dsimp only [tOp, tChain, tUn, tCons, tCB, tLst, tTup, tAnd, tOr, tNot, L2.tB, tAndV, tOrV, tNotV, tIf, tTest]
    refine go hF hP hS hE fun k vs1 k' H1 Hs1 xf hg S1 X1 ⟨rx, ex⟩ => ?_
    subst ex; subst rx
    cases hg
    exact hk _ _ H1 Hs1 [] rfl S1 X1 ⟨rfl, rfl⟩
def fTest (F : M D) : M Bool := bd F fun d s => match d with
  | .bl k => some (.ok k, s)
  | _ => none
theorem dt_val {F : M D} (h : PE X e (tE X.K W P F)) (he : ∀ whole, isTrue e X.env whole = (do let v ← whole; standAt e.pos; holding [v] (truthy v))) : PT X e (tB X.K W P (fTest F)) :=
  PT_weak (pt_val h he) fun σ H Q ⟨fm, Hs, vs, r', vs', hF, hP, hS, hk, hE⟩ => by
    try dsimp only [tOp, tChain, tUn, tCons, tCB, tLst, tTup, tAnd, tOr, tNot, L2.tB, tAndV, tOrV, tNotV, tIf, tTest]
    refine go hF hP hS hE fun d vs1 v H1 Hs1 xf hg S1 X1 ⟨rx, ex⟩ => ?_
    subst ex
    split at hg
    · cases hg
      cases rx
      exact ⟨_, rfl, hk _ _ H1 Hs1 [] rfl S1 X1 ⟨rfl, rfl⟩⟩
    · cases hg
def vAnd (A B : M D) : M D := bd A fun d s => match d with
  | .bl true => B s
  | .bl false => some (.ok (.bl false), s)
  | _ => none
def vOr (A B : M D) : M D := bd A fun d s => match d with
  | .bl true => some (.ok (.bl true), s)
  | .bl false => B s
  | _ => none
def vNot (A : M D) : M D := bd A fun d s => match d with
  | .bl k => some (.ok (.bl (!k)), s)
  | _ => none
variable {F G : M D}
theorem de_and (ha : PE X a (tE X.K W P F)) (hb : PE X (.BoolOp .And (b :: rest) pos) (tE X.K W P G)) : PE X (.BoolOp .And (a :: b :: rest) pos) (tE X.K W P (vAnd F G)) :=
  PE_weak (pe_and ha hb) fun σ H Q ⟨fm, Hs, vs, r', vs', hF, hP, hS, hk, hE⟩ => by
    try dsimp only [tOp, tChain, tUn, tCons, tCB, tLst, tTup, tAnd, tOr, tNot, L2.tB, tAndV, tOrV, tNotV, tIf, tTest]
    refine go hF hP hS hE fun d vs1 v H1 Hs1 xf hg S1 X1 ⟨rx, ex⟩ => ?_
    subst ex
    split at hg
    · cases rx
      refine ⟨true, rfl, ?_⟩
      rw [if_pos rfl]
      exact ⟨fm, Hs1, vs1, r', vs', hg, hP, S1, fun a b H' Hs' xf q S' X' => hk a b H' Hs' xf q S' (X1.trans X'), fun x c dd H' Hs' q S' X' => hE x c dd H' Hs' q S' (X1.trans X')⟩
    · cases hg; cases rx
      refine ⟨false, rfl, ?_⟩
      rw [if_neg Bool.false_ne_true]
      exact hk _ _ H1 Hs1 [] rfl S1 X1 ⟨.bl _, rfl⟩
    · cases hg
theorem de_or (ha : PE X a (tE X.K W P F)) (hb : PE X (.BoolOp .Or (b :: rest) pos) (tE X.K W P G)) : PE X (.BoolOp .Or (a :: b :: rest) pos) (tE X.K W P (vOr F G)) :=
  PE_weak (pe_or ha hb) fun σ H Q ⟨fm, Hs, vs, r', vs', hF, hP, hS, hk, hE⟩ => by
    try dsimp only [tOp, tChain, tUn, tCons, tCB, tLst, tTup, tAnd, tOr, tNot, L2.tB, tAndV, tOrV, tNotV, tIf, tTest]
    refine go hF hP hS hE fun d vs1 v H1 Hs1 xf hg S1 X1 ⟨rx, ex⟩ => ?_
    subst ex
    split at hg
    · cases hg; cases rx
      refine ⟨true, rfl, ?_⟩
      rw [if_pos rfl]
      exact hk _ _ H1 Hs1 [] rfl S1 X1 ⟨.bl _, rfl⟩
    · cases rx
      refine ⟨false, rfl, ?_⟩
      rw [if_neg Bool.false_ne_true]
      exact ⟨fm, Hs1, vs1, r', vs', hg, hP, S1, fun a b H' Hs' xf q S' X' => hk a b H' Hs' xf q S' (X1.trans X'), fun x c dd H' Hs' q S' X' => hE x c dd H' Hs' q S' (X1.trans X')⟩
    · cases hg
theorem de_not (ha : PE X a (tE X.K W P F)) : PE X (.UnaryOp .Not a pos) (tE X.K W P (vNot F)) :=
  PE_weak (pe_not ha) fun σ H Q ⟨fm, Hs, vs, r', vs', hF, hP, hS, hk, hE⟩ => by
    try dsimp only [tOp, tChain, tUn, tCons, tCB, tLst, tTup, tAnd, tOr, tNot, L2.tB, tAndV, tOrV, tNotV, tIf, tTest]
    refine go hF hP hS hE fun d vs1 v H1 Hs1 xf hg S1 X1 ⟨rx, ex⟩ => ?_
    subst ex
    split at hg
    · cases hg; cases rx
      exact ⟨_, rfl, hk _ _ H1 Hs1 [] rfl S1 X1 ⟨.bl _, rfl⟩⟩
    · cases hg
def fIf {α : Type} (C : M Bool) (A B : M α) : M α := bd C fun k => if k = true then A else B
theorem dg_if {α : Type} {R : Hp → Hp → L2.St → V → α → List Addr → Prop} {A B : M α} {Cb : M Bool} (hc : PT X c (tB X.K W P Cb)) (ha : PE X a (tF X.K W P R A)) (hb : PE X b (tF X.K W P R B)) : PE X (.IfExp c a b pos) (tF X.K W P R (fIf Cb A B)) :=
  PE_weak (pe_ifExp hc ha hb) fun σ H Q ⟨fm, Hs, vs, r', vs', hF, hP, hS, hk, hE⟩ => by
    try dsimp only [tOp, tChain, tUn, tCons, tCB, tLst, tTup, tAnd, tOr, tNot, L2.tB, tAndV, tOrV, tNotV, tIf, tTest]
    refine go hF hP hS hE fun k vs1 k' H1 Hs1 xf hg S1 X1 ⟨rx, ex⟩ => ?_
    subst ex; subst rx
    cases k' with
    | true =>
      rw [if_pos rfl] at hg ⊢
      exact ⟨fm, Hs1, vs1, r', vs', hg, hP, S1, fun a b H' Hs' xf q S' X' => hk a b H' Hs' xf q S' (X1.trans X'), fun x c dd H' Hs' q S' X' => hE x c dd H' Hs' q S' (X1.trans X')⟩
    | false =>
      rw [if_neg Bool.false_ne_true] at hg ⊢
      exact ⟨fm, Hs1, vs1, r', vs', hg, hP, S1, fun a b H' Hs' xf q S' X' => hk a b H' Hs' xf q S' (X1.trans X'), fun x c dd H' Hs' q S' X' => hE x c dd H' Hs' q S' (X1.trans X')⟩
end
end Ev
namespace Ev
open PySem PySem.Spec PyProof.Rows L2
open Evl (Ex)
section
variable {K : PySem.W.Frag} {Hs H : Hp} {v : V}
theorem Rep1.isInt {i : Int} (h : Rep1 K Hs H v (.int i)) : v = .int i := by cases h with | top h => cases h; rfl
theorem Rep1.isStr {i : Str} (h : Rep1 K Hs H v (.str i)) : v = .str i := by cases h with | top h => cases h; rfl
theorem Rep1.isBl {i : Bool} (h : Rep1 K Hs H v (.bl i)) : v = .bl i := by cases h with | top h => cases h; rfl
theorem Rep1.isNon (h : Rep1 K Hs H v .non) : v = .non := by cases h with | top h => cases h; rfl
theorem Rep1.isLst {ds : List D} (e : Ex Hs H) (h : Rep1 K Hs H v (.lst ds)) : ∃ a vs, v = .ref a ∧ H a = some (.lst vs) ∧ RepL K Hs vs ds := by
  cases h with
  | top h => cases h with | lst h1 h2 => exact ⟨_, _, rfl, e _ _ h1, h2⟩
  | lst h1 h2 => exact ⟨_, _, rfl, h1, h2⟩
theorem Rep1.isTup {ds : List D} (e : Ex Hs H) (h : Rep1 K Hs H v (.tup ds)) : ∃ a vs, v = .ref a ∧ H a = some (.tup vs) ∧ RepL K Hs vs ds := by
  cases h with
  | top h => cases h with | tup h1 h2 => exact ⟨_, _, rfl, e _ _ h1, h2⟩
theorem Rep1.isScr {ns : List Int} (e : Ex Hs H) (h : Rep1 K Hs H v (.scr ns)) : ∃ a, v = .ref a ∧ SqL K H a (ns.map V.int) := by
  cases h with
  | top h => cases h with | scr h1 => exact ⟨_, rfl, Evl.ex_l e h1⟩
theorem Rep1.isDic {ks : List Key} {ds : List D} (e : Ex Hs H) (h : Rep1 K Hs H v (.dic ks ds)) : ∃ a kvs, v = .ref a ∧ H a = some (.dK kvs) ∧ kvs.map (·.1) = ks ∧ RepL K Hs (kvs.map (·.2)) ds := by
  cases h with
  | top h => cases h with | dic h1 h2 h3 => exact ⟨_, _, rfl, e _ _ h1, h2, h3⟩
  | dic h1 h2 h3 => exact ⟨_, _, rfl, h1, h2, h3⟩
end
theorem szl {n : Nat} (h : n ≤ 100000) : n ≤ sizeLine := Evl.sz_of h
def dAdd : D → D → Option L
  | .int i, .int j => some (.d (.int (i + j)))
  | .str a, .str b => if a.length + b.length ≤ 100000 then some (.d (.str (a ++ b))) else none
  | .lst a, .lst b => if a.length + b.length ≤ 100000 then some (.own (a ++ b)) else none
  | .tup a, .tup b => if a.length + b.length ≤ 100000 ∧ a.length ≠ 0 ∧ b.length ≠ 0 then some (.d (.tup (a ++ b))) else none
  | _, _ => none
def rAddA (K : PySem.W.Frag) : R2 := fun x y H Q => rI0 (fun i j => .int (i + j)) x y H Q ∨ (∃ i j, x = .str i ∧ y = .str j ∧ i.length + j.length ≤ sizeLine ∧ Q (.str (i ++ j)) H) ∨ rCat x y H Q ∨ rCatT K x y H Q
theorem op_addA {X : Cx} : OpR X (binaryOp .Add) (rAddA X.K) := op_add.or (op_add_str.or (op_cat.or op_catT))
theorem ok_add {K : PySem.W.Frag} : Op2 K (rAddA K) dAdd := fun Hs H x y dx dy l Q e h1 h2 hf hR => by
  unfold dAdd at hf
  split at hf
  · cases hf
    rw [h1.isInt, h2.isInt]
    exact .inl ⟨_, _, rfl, rfl, hR.1 _ (.int _)⟩
  · split at hf
    · rename_i hl
      cases hf
      rw [h1.isStr, h2.isStr]
      exact .inr (.inl ⟨_, _, rfl, rfl, szl hl, hR.1 _ (.str _)⟩)
    · cases hf
  · split at hf
    · rename_i hl
      cases hf
      obtain ⟨a, vs, rfl, ha, ra⟩ := h1.isLst e
      obtain ⟨b, us, rfl, hb, rb⟩ := h2.isLst e
      refine .inr (.inr (.inl ⟨a, b, vs, us, rfl, rfl, ha, hb, ?_, fun p hp => hR p _ hp (ra.append rb)⟩))
      rw [ra.length, rb.length]; exact szl hl
    · cases hf
  · split at hf
    · rename_i hl
      cases hf
      obtain ⟨a, vs, rfl, ha, ra⟩ := h1.isTup e
      obtain ⟨b, us, rfl, hb, rb⟩ := h2.isTup e
      have z1 : vs ≠ [] := fun q => by have := ra.length; rw [q] at this; exact hl.2.1 this.symm
      have z2 : us ≠ [] := fun q => by have := rb.length; rw [q] at this; exact hl.2.2 this.symm
      refine .inr (.inr (.inr ⟨a, b, vs, us, rfl, rfl, SqT.of ha, SqT.of hb, z1, ?_, fun q => absurd q z2, fun _ p hp => hR.2 _ p _ rfl hp (ra.append rb)⟩))
      rw [ra.length, rb.length]; exact szl hl.1
    · cases hf
  · cases hf
def dSub : D → D → Option L
  | .int i, .int j => some (.d (.int (i - j)))
  | _, _ => none
theorem ok_sub {K : PySem.W.Frag} : Op2 K (rI0 fun i j => .int (i - j)) dSub := fun Hs H x y dx dy l Q e h1 h2 hf hR => by
  unfold dSub at hf
  split at hf
  · cases hf
    rw [h1.isInt, h2.isInt]
    exact ⟨_, _, rfl, rfl, hR.1 _ (.int _)⟩
  · cases hf
def repS (z : Str) (k : Nat) : Str := ⟨(List.replicate k z.cps).foldl (· ++ ·) #[]⟩
theorem foldl_app (a : Array Nat) : ∀ (l : List (Array Nat)), l.foldl (· ++ ·) a = a ++ l.foldl (· ++ ·) #[]
  | [] => by simp
  | x :: l => by
    rw [List.foldl_cons, List.foldl_cons, foldl_app (a ++ x) l, foldl_app (#[] ++ x) l]
    simp
theorem repS_one (z : Str) : repS z 1 = z := by
  unfold repS
  simp [List.replicate]
theorem repS_empty (z : Str) (h : z.length = 0) : ∀ k, repS z k = ⟨#[]⟩
  | 0 => rfl
  | k + 1 => by
    have hz : z.cps = #[] := Array.eq_empty_of_size_eq_zero h
    have ih := repS_empty z h k
    unfold repS at ih ⊢
    rw [List.replicate_succ, List.foldl_cons]
    rw [hz] at ih ⊢
    exact ih
theorem repS_length (z : Str) : ∀ k, (repS z k).length = k * z.length
  | 0 => by simp [repS, Str.length]
  | k + 1 => by
    have ih := repS_length z k
    unfold repS Str.length at ih ⊢
    rw [List.replicate_succ, List.foldl_cons, foldl_app]
    simp only [Array.size_append, ih, Nat.add_mul]
    simp [Nat.add_comm]
def rRepS : R2 := fun x y H Q => ∃ z n, x = .str z ∧ y = .int n ∧ 1 ≤ n ∧ n ≤ 1000 ∧ z.length ≤ 1000 ∧ Q (.str (repS z n.toNat)) H
theorem op_repS {X : Cx} : OpR X (binaryOp .Mult) rRepS := by
  intro pins s σ H x y v u Q I r1 r2 h
  obtain ⟨z, n, e1, e2, h1, h2, h3, q⟩ := h
  subst e1; subst e2
  obtain ⟨t, rfl⟩ := r1
  obtain ⟨t', rfl⟩ := r2
  have hnn : (n.toNat : Int) = n := Int.toNat_of_nonneg (by omega)
  have hn : n.toNat ≤ 1000 := by omega
  refine PySem.P.mul_str ?_ (fun _ _ hgt => ?_) (fun _ _ => ?_) ?_
  · rw [decide_eq_false (by omega), decide_eq_false (by omega)]; rfl
  · have h5 : (1000 : Int) ≤ (2 ^ 63 - 1) / n := by
      rw [Int.le_ediv_iff_mul_le (by omega)]
      omega
    omega
  · have : z.length * n.toNat ≤ 1000 * 1000 := Nat.mul_le_mul h3 hn
    unfold Builtin.Str.tooLong
    rw [sizeLine_eq]
    apply decide_eq_false
    omega
  · rw [if_neg (by omega)]
    split
    · rename_i hc
      have e : repS z n.toNat = z := by
        rw [Bool.or_eq_true, beq_iff_eq, beq_iff_eq] at hc
        rcases hc with hc | hc
        · rw [hc]; exact repS_one z
        · rw [repS_empty z hc]
          have hz : z.cps = #[] := Array.eq_empty_of_size_eq_zero hc
          cases z; cases hz; rfl
      rw [e] at q
      exact ⟨.str z, H, I, ⟨_, rfl⟩, q⟩
    · refine ⟨?_, ⟨.str _, H, I.tok _, ⟨_, rfl⟩, q⟩⟩
      have : (repS z n.toNat).length ≤ 1000 * 1000 := by
        rw [repS_length]
        exact Nat.mul_le_mul hn h3
      rw [sizeLine_eq]
      exact Nat.le_trans this (by decide)
def rMulA : R2 := fun x y H Q => rI CMul (fun i j => .int (i * j)) x y H Q ∨ rRep x y H Q ∨ rRepS x y H Q
theorem op_mulA {X : Cx} : OpR X (binaryOp .Mult) rMulA := op_mul.or (op_rep.or op_repS)
def dMul : D → D → Option L
  | .int i, .int j => if (-(2 ^ 64) < i ∧ i < 2 ^ 64) ∨ (-(2 ^ 64) < j ∧ j < 2 ^ 64) then some (.d (.int (i * j))) else none
  | .lst a, .int k => if k ≤ 100000 ∧ -100000 ≤ k ∧ a.length * k.toNat ≤ 100000 then some (.own (List.replicate k.toNat a).flatten) else none
  | .str z, .int n => if 1 ≤ n ∧ n ≤ 1000 ∧ z.length ≤ 1000 then some (.d (.str (repS z n.toNat))) else none
  | _, _ => none
theorem ok_mul {K : PySem.W.Frag} : Op2 K rMulA dMul := fun Hs H x y dx dy l Q e h1 h2 hf hR => by
  unfold dMul at hf
  split at hf
  · split at hf
    · rename_i hc
      cases hf
      rw [h1.isInt, h2.isInt]
      exact .inl ⟨_, _, rfl, rfl, hc, hR.1 _ (.int _)⟩
    · cases hf
  · split at hf
    · rename_i hc
      cases hf
      obtain ⟨a, vs, rfl, ha, ra⟩ := h1.isLst e
      rw [h2.isInt]
      refine .inr (.inl ⟨a, _, vs, rfl, rfl, ha, by omega, by omega, ?_, fun p hp => hR p _ hp (ra.rep _)⟩)
      rw [ra.length]; exact szl hc.2.2
    · cases hf
  · split at hf
    · rename_i hc
      cases hf
      rw [h1.isStr, h2.isInt]
      exact .inr (.inr ⟨_, _, rfl, rfl, hc.1, hc.2.1, hc.2.2, hR.1 _ (.str _)⟩)
    · cases hf
  · cases hf
def dDiv : D → D → Option L
  | .int i, .int j => if 0 < j ∧ j < 1073741824 then some (.d (.int (i / j))) else none
  | _, _ => none
theorem ok_div {K : PySem.W.Frag} : Op2 K (rI CDiv fun i j => .int (i / j)) dDiv := fun Hs H x y dx dy l Q e h1 h2 hf hR => by
  unfold dDiv at hf
  split at hf
  · split at hf
    · rename_i hc
      cases hf
      rw [h1.isInt, h2.isInt]
      exact ⟨_, _, rfl, rfl, hc, hR.1 _ (.int _)⟩
    · cases hf
  · cases hf
def dMod : D → D → Option L
  | .int i, .int j => if 0 < j then some (.d (.int (i % j))) else none
  | _, _ => none
theorem ok_mod {K : PySem.W.Frag} : Op2 K (rI (fun _ j => 0 < j) fun i j => .int (i % j)) dMod := fun Hs H x y dx dy l Q e h1 h2 hf hR => by
  unfold dMod at hf
  split at hf
  · split at hf
    · rename_i hc
      cases hf
      rw [h1.isInt, h2.isInt]
      exact ⟨_, _, rfl, rfl, hc, hR.1 _ (.int _)⟩
    · cases hf
  · cases hf
def dPow : D → D → Option L
  | .int i, .int j => if 0 ≤ j ∧ j ≤ 1000 ∧ i.natAbs < 2 ^ 64 then some (.d (.int (i ^ j.toNat))) else none
  | _, _ => none
theorem ok_pow {K : PySem.W.Frag} : Op2 K (rI CPow fun i j => .int (i ^ j.toNat)) dPow := fun Hs H x y dx dy l Q e h1 h2 hf hR => by
  unfold dPow at hf
  split at hf
  · split at hf
    · rename_i hc
      cases hf
      rw [h1.isInt, h2.isInt]
      exact ⟨_, _, rfl, rfl, ⟨hc.1, by omega, hc.2.2⟩, hR.1 _ (.int _)⟩
    · cases hf
  · cases hf
def dNeg : D → Option L
  | .int i => some (.d (.int (-i)))
  | _ => none
theorem ok_neg {K : PySem.W.Frag} : Op1 K (rU fun i => .int (-i)) dNeg := fun Hs H x dx l Q e h1 hf hR => by
  unfold dNeg at hf
  split at hf
  · cases hf
    rw [h1.isInt]
    exact ⟨_, rfl, hR.1 _ (.int _)⟩
  · cases hf
theorem RepL.atI {K : PySem.W.Frag} {H : Hp} {ds : List D} {vs : List V} {i : Int} {d : D} (h : RepL K H vs ds) (e : atI ds i = some d) : ∃ v, L2.atI vs i = some v ∧ Rep K H v d := by
  unfold L2.atI at e ⊢
  rw [h.length]
  cases q : ixN ds.length i with
  | none => rw [q] at e; cases e
  | some j =>
    rw [q] at e
    exact h.get e
def dIx : D → D → Option L
  | .lst xs, .int i => (atI xs i).map L.d
  | .tup xs, .int i => (atI xs i).map L.d
  | .str z, .int i => if z.length ≤ 100000 then (atI z.cps.toList i).map fun c => .d (.str ⟨#[c]⟩) else none
  | _, _ => none
theorem ok_ix {K : PySem.W.Frag} : Op2 K (rIx K) dIx := fun Hs H x y dx dy l Q e h1 h2 hf hR => by
  unfold dIx at hf
  split at hf
  · rename_i xs i
    cases q : atI xs i with
    | none => rw [q] at hf; cases hf
    | some d =>
      rw [q] at hf; cases hf
      obtain ⟨a, vs, rfl, ha, ra⟩ := h1.isLst e
      obtain ⟨v, ev, rv⟩ := ra.atI q
      rw [h2.isInt]
      exact .inl ⟨a, vs, i, v, rfl, rfl, SqL.of ha, ev, hR.1 _ rv⟩
  · rename_i xs i
    cases q : atI xs i with
    | none => rw [q] at hf; cases hf
    | some d =>
      rw [q] at hf; cases hf
      obtain ⟨a, vs, rfl, ha, ra⟩ := h1.isTup e
      obtain ⟨v, ev, rv⟩ := ra.atI q
      rw [h2.isInt]
      exact .inr (.inl ⟨a, vs, i, v, rfl, rfl, SqT.of ha, ev, hR.1 _ rv⟩)
  · rename_i z i
    split at hf
    · rename_i hl
      cases q : atI z.cps.toList i with
      | none => rw [q] at hf; cases hf
      | some c =>
        rw [q] at hf; cases hf
        rw [h1.isStr, h2.isInt]
        exact .inr (.inr ⟨z, i, c, rfl, rfl, szl hl, q, hR.1 _ (.str _)⟩)
    · cases hf
  · cases hf
def dCmp (p : Int → Int → Bool) : D → D → Option Bool
  | .int i, .int j => some (p i j)
  | _, _ => none
theorem ok_cmp {K : PySem.W.Frag} (p : Int → Int → Bool) : Cm2 K (rI0 fun i j => .bl (p i j)) (dCmp p) := fun Hs H x y dx dy k Q e h1 h2 hf q => by
  unfold dCmp at hf
  split at hf
  · cases hf
    rw [h1.isInt, h2.isInt]
    exact ⟨_, _, rfl, rfl, q⟩
  · cases hf
abbrev dLt := dCmp fun i j => decide (i < j)
abbrev dLe := dCmp fun i j => decide (i ≤ j)
abbrev dGt := dCmp fun i j => decide (j < i)
abbrev dGe := dCmp fun i j => decide (j ≤ i)
mutual
def toPy : D → Option PyData
  | .non => some .none
  | .bl b => some (.bool b)
  | .int i => some (.int i)
  | .str x => some (.str x)
  | .tup xs => (toPys xs).map PyData.tuple
  | .lst xs => (toPys xs).map PyData.list
  | .scr _ => none
  | .ins _ _ _ => none
  | .dic _ _ => none
def toPys : List D → Option (List PyData)
  | [] => some []
  | d :: ds => match toPy d, toPys ds with
    | some p, some ps => some (p :: ps)
    | _, _ => none
end
mutual
theorem toPy_ok {K : PySem.W.Frag} {H : Hp} : ∀ (d : D) {v : V} {p : PyData}, Rep K H v d → toPy d = some p → Dp K H v p
  | .non, _, _, h, e => by cases h; cases e; exact .non
  | .bl b, _, _, h, e => by cases h; cases e; exact .bl b
  | .int i, _, _, h, e => by cases h; cases e; exact .int i
  | .str x, _, _, h, e => by cases h; cases e; exact .str x
  | .tup xs, _, p, h, e => by
    cases h with
    | tup h1 h2 =>
      unfold toPy at e
      cases q : toPys xs with
      | none => rw [q] at e; cases e
      | some ps => rw [q] at e; cases e; exact .tup (SqT.of h1) (toPys_ok xs h2 q)
  | .lst xs, _, p, h, e => by
    cases h with
    | lst h1 h2 =>
      unfold toPy at e
      cases q : toPys xs with
      | none => rw [q] at e; cases e
      | some ps => rw [q] at e; cases e; exact .lst (SqL.of h1) (toPys_ok xs h2 q)
  | .scr _, _, _, h, e => by unfold toPy at e; cases e
  | .ins _ _ _, _, _, h, e => by unfold toPy at e; cases e
  | .dic _ _, _, _, h, e => by unfold toPy at e; cases e
theorem toPys_ok {K : PySem.W.Frag} {H : Hp} : ∀ (ds : List D) {vs : List V} {ps : List PyData}, RepL K H vs ds → toPys ds = some ps → DpAll K H vs ps
  | [], _, _, h, e => by cases h; cases e; exact .nil
  | d :: ds, _, ps, h, e => by
    cases h with
    | cons h1 h2 =>
      unfold toPys at e
      split at e
      · rename_i p ps e1 e2
        cases e
        exact .cons (toPy_ok d h1 e1) (toPys_ok ds h2 e2)
      · cases e
end
def eqFl : D → D → Option Bool
  | .int i, .int j => some (decide (i = j))
  | .str a, .str b => some (decide (a = b))
  | .bl a, .bl b => some (decide (a = b))
  | .non, .non => some true
  | .non, .int _ => some false
  | .int _, .non => some false
  | .non, .str _ => some false
  | .str _, .non => some false
  | .non, .bl _ => some false
  | .bl _, .non => some false
  | .int _, .str _ => some false
  | .str _, .int _ => some false
  | _, _ => none
def eqDp (x y : D) : Option Bool := match toPy x, toPy y with
  | some p, some q => if (SeqAt.shaped p && SeqAt.shaped q) = true then some (PyData.eqv p q) else none
  | _, _ => none
def dEq (x y : D) : Option Bool := match eqFl x y with
  | some k => some k
  | none => eqDp x y
def dNe (x y : D) : Option Bool := (dEq x y).map (! ·)
theorem eqFl_ok {K : PySem.W.Frag} {Hs H : Hp} {x y : V} {dx dy : D} {k : Bool} (h1 : Rep1 K Hs H x dx) (h2 : Rep1 K Hs H y dy) (hf : eqFl dx dy = some k) : scal x y = true ∧ decide (x = y) = k := by
  unfold eqFl at hf
  split at hf <;> first
    | (cases hf; rw [h1.isInt, h2.isInt]; exact ⟨rfl, by simp⟩)
    | (cases hf; rw [h1.isStr, h2.isStr]; exact ⟨rfl, by simp⟩)
    | (cases hf; rw [h1.isBl, h2.isBl]; exact ⟨rfl, by simp⟩)
    | (cases hf; rw [h1.isNon, h2.isNon]; exact ⟨rfl, by simp⟩)
    | (cases hf; rw [h1.isNon, h2.isInt]; exact ⟨rfl, by simp⟩)
    | (cases hf; rw [h1.isInt, h2.isNon]; exact ⟨rfl, by simp⟩)
    | (cases hf; rw [h1.isNon, h2.isStr]; exact ⟨rfl, by simp⟩)
    | (cases hf; rw [h1.isStr, h2.isNon]; exact ⟨rfl, by simp⟩)
    | (cases hf; rw [h1.isNon, h2.isBl]; exact ⟨rfl, by simp⟩)
    | (cases hf; rw [h1.isBl, h2.isNon]; exact ⟨rfl, by simp⟩)
    | (cases hf; rw [h1.isInt, h2.isStr]; exact ⟨rfl, by simp⟩)
    | (cases hf; rw [h1.isStr, h2.isInt]; exact ⟨rfl, by simp⟩)
    | cases hf
theorem eqDp_ok {K : PySem.W.Frag} {Hs H : Hp} {x y : V} {dx dy : D} {k : Bool} (e : Ex Hs H) (h1 : Rep1 K Hs H x dx) (h2 : Rep1 K Hs H y dy) (hf : eqDp dx dy = some k) : ∃ p q, Dp K H x p ∧ Dp K H y q ∧ SeqAt.shaped p = true ∧ SeqAt.shaped q = true ∧ PyData.eqv p q = k := by
  unfold eqDp at hf
  split at hf
  · rename_i p q e1 e2
    split at hf
    · rename_i hs
      cases hf
      rw [Bool.and_eq_true] at hs
      exact ⟨p, q, toPy_ok _ (h1.full e) e1, toPy_ok _ (h2.full e) e2, hs.1, hs.2, rfl⟩
    · cases hf
  · cases hf
def rEqA (K : PySem.W.Frag) : R2 := fun x y H Q => rEq x y H Q ∨ rEqD K x y H Q
def rNeA (K : PySem.W.Frag) : R2 := fun x y H Q => rNe x y H Q ∨ rNeD K x y H Q
theorem op_eqA {X : Cx} (hu : X.A.units + 64 < cLine) : OpR X (compareOp .Eq) (rEqA X.K) := op_eq.or (op_eqD hu)
theorem op_neA {X : Cx} (hu : X.A.units + 64 < cLine) : OpR X (compareOp .NotEq) (rNeA X.K) := op_ne.or (op_neD hu)
theorem ok_eq {K : PySem.W.Frag} : Cm2 K (rEqA K) dEq := fun Hs H x y dx dy k Q e h1 h2 hf q => by
  unfold dEq at hf
  split at hf
  · rename_i k' hk
    cases hf
    obtain ⟨a, b⟩ := eqFl_ok h1 h2 hk
    exact .inl ⟨a, by rw [b]; exact q⟩
  · obtain ⟨p, p', a, b, c, d, z⟩ := eqDp_ok e h1 h2 hf
    exact .inr ⟨p, p', a, b, c, d, by rw [z]; exact q⟩
theorem ok_ne {K : PySem.W.Frag} : Cm2 K (rNeA K) dNe := fun Hs H x y dx dy k Q e h1 h2 hf q => by
  unfold dNe dEq at hf
  split at hf
  · rename_i k' hk
    cases hf
    obtain ⟨a, b⟩ := eqFl_ok h1 h2 hk
    exact .inl ⟨a, by rw [b]; exact q⟩
  · cases hk : eqDp dx dy with
    | none => rw [hk] at hf; cases hf
    | some k' =>
      rw [hk] at hf
      cases hf
      obtain ⟨p, p', a, b, c, d, z⟩ := eqDp_ok e h1 h2 hk
      exact .inr ⟨p, p', a, b, c, d, by rw [z]; exact q⟩
def flD : D → Bool
  | .non | .bl _ | .int _ | .str _ => true
  | _ => false
def eqF : D → D → Bool
  | .non, .non => true
  | .bl a, .bl b => a == b
  | .bl a, .int b => (if a then 1 else 0) == b
  | .int a, .bl b => a == (if b then 1 else 0)
  | .int a, .int b => a == b
  | .str a, .str b => a == b
  | _, _ => false
theorem flD_ok {K : PySem.W.Frag} {H : Hp} {v : V} {d : D} (h : Rep K H v d) (hf : flD d = true) : flatV v = true ∧ ∀ {u : V} {x : D}, Rep K H u x → flD x = true → eqV v u = eqF d x := by
  cases h with
  | non => exact ⟨rfl, fun h hx => by cases h <;> first | rfl | cases hx⟩
  | bl b => exact ⟨rfl, fun h hx => by cases h <;> first | rfl | cases hx⟩
  | int b => exact ⟨rfl, fun h hx => by cases h <;> first | rfl | cases hx⟩
  | str b => exact ⟨rfl, fun h hx => by cases h <;> first | rfl | cases hx⟩
  | tup _ _ => cases hf
  | lst _ _ => cases hf
  | scr _ => cases hf
  | ins _ _ _ => cases hf
  | dic _ _ _ => cases hf
theorem flAll {K : PySem.W.Frag} {H : Hp} {u : V} {x : D} (hu : Rep K H u x) (hx : flD x = true) : ∀ {ds : List D} {vs : List V}, RepL K H vs ds → ds.all flD = true → vs.all flatV = true ∧ inV u vs = ds.any fun y => eqF y x
  | [], _, h, _ => by cases h; exact ⟨rfl, rfl⟩
  | d :: ds, _, h, q => by
    cases h with
    | cons h1 h2 =>
      rw [List.all_cons, Bool.and_eq_true] at q
      obtain ⟨a, b⟩ := flAll hu hx h2 q.2
      obtain ⟨c, e⟩ := flD_ok h1 q.1
      refine ⟨by rw [List.all_cons, c, a]; rfl, ?_⟩
      unfold inV at b ⊢
      rw [List.any_cons, List.any_cons, b, e hu hx]
def dIn : D → D → Option Bool
  | x, .lst ys => if (flD x && ys.all flD) = true then some (ys.any fun y => eqF y x) else none
  | x, .tup ys => if (flD x && ys.all flD) = true then some (ys.any fun y => eqF y x) else none
  | .str ⟨⟨[c]⟩⟩, .str z => some (decide (c ∈ z.cps.toList))
  | _, _ => none
def dNotIn (x y : D) : Option Bool := (dIn x y).map (! ·)
def rInA (K : PySem.W.Frag) : R2 := fun x y H Q => rIn K false x y H Q ∨ ∃ (c : Nat) (z : Str), x = .str ⟨#[c]⟩ ∧ y = .str z ∧ Q (.bl (decide (c ∈ z.cps.toList))) H
def rNotInA (K : PySem.W.Frag) : R2 := fun x y H Q => rIn K true x y H Q ∨ ∃ (c : Nat) (z : Str), x = .str ⟨#[c]⟩ ∧ y = .str z ∧ Q (.bl (!decide (c ∈ z.cps.toList))) H
theorem op_inA {X : Cx} : OpR X (compareOp .In) (rInA X.K) := op_in_seq.or op_in_sign
theorem op_notInA {X : Cx} : OpR X (compareOp .NotIn) (rNotInA X.K) := op_notIn_seq.or op_notIn_sign
theorem rep1_flat {K : PySem.W.Frag} {Hs H : Hp} {v : V} {d : D} (h : Rep1 K Hs H v d) (hf : flD d = true) : Rep K Hs v d := by
  cases h with
  | top h => exact h
  | lst _ _ => cases hf
  | dic _ _ _ => cases hf
theorem dIn_ok {K : PySem.W.Frag} {Hs H : Hp} {x y : V} {dx dy : D} {k : Bool} (e : Ex Hs H) (h1 : Rep1 K Hs H x dx) (h2 : Rep1 K Hs H y dy) (hf : dIn dx dy = some k) :
    (∃ p xs, y = .ref p ∧ (SqL K H p xs ∨ SqT K H p xs) ∧ flatV x = true ∧ xs.all flatV = true ∧ inV x xs = k) ∨ ∃ (c : Nat) (z : Str), x = .str ⟨#[c]⟩ ∧ y = .str z ∧ decide (c ∈ z.cps.toList) = k := by
  unfold dIn at hf
  split at hf
  · split at hf
    · rename_i hq
      cases hf
      rw [Bool.and_eq_true] at hq
      obtain ⟨a, vs, rfl, ha, ra⟩ := h2.isLst e
      have rx := rep1_flat h1 hq.1
      obtain ⟨q1, q2⟩ := flAll rx hq.1 ra hq.2
      exact .inl ⟨a, vs, rfl, .inl (SqL.of ha), (flD_ok rx hq.1).1, q1, q2⟩
    · cases hf
  · split at hf
    · rename_i hq
      cases hf
      rw [Bool.and_eq_true] at hq
      obtain ⟨a, vs, rfl, ha, ra⟩ := h2.isTup e
      have rx := rep1_flat h1 hq.1
      obtain ⟨q1, q2⟩ := flAll rx hq.1 ra hq.2
      exact .inl ⟨a, vs, rfl, .inr (SqT.of ha), (flD_ok rx hq.1).1, q1, q2⟩
    · cases hf
  · cases hf
    rw [h1.isStr, h2.isStr]
    exact .inr ⟨_, _, rfl, rfl, rfl⟩
  · cases hf
theorem ok_in {K : PySem.W.Frag} : Cm2 K (rInA K) dIn := fun Hs H x y dx dy k Q e h1 h2 hf q => by
  rcases dIn_ok e h1 h2 hf with ⟨p, xs, e1, e2, e3, e4, e5⟩ | ⟨c, z, e1, e2, e3⟩
  · exact .inl ⟨p, xs, e1, e2, e3, e4, by rw [if_neg Bool.false_ne_true, e5]; exact q⟩
  · exact .inr ⟨c, z, e1, e2, by rw [e3]; exact q⟩
theorem ok_notIn {K : PySem.W.Frag} : Cm2 K (rNotInA K) dNotIn := fun Hs H x y dx dy k Q e h1 h2 hf q => by
  unfold dNotIn at hf
  cases hk : dIn dx dy with
  | none => rw [hk] at hf; cases hf
  | some k' =>
    rw [hk] at hf; cases hf
    rcases dIn_ok e h1 h2 hk with ⟨p, xs, e1, e2, e3, e4, e5⟩ | ⟨c, z, e1, e2, e3⟩
    · exact .inl ⟨p, xs, e1, e2, e3, e4, by rw [if_pos rfl, e5]; exact q⟩
    · exact .inr ⟨c, z, e1, e2, by rw [e3]; exact q⟩
def dIs : D → D → Option Bool
  | .bl a, .bl b => some (decide (a = b))
  | .non, .non => some true
  | .int _, .non => some false
  | .str _, .non => some false
  | .bl _, .non => some false
  | .lst _, .non => some false
  | .tup _, .non => some false
  | .ins _ _ _, .non => some false
  | .dic _ _, .non => some false
  | _, _ => none
def dIsNot (x y : D) : Option Bool := (dIs x y).map (! ·)
def rIsA : R2 := fun x y H Q => (y = .non ∧ Q (.bl (decide (x = .non))) H) ∨ rIsB x y H Q
def rIsNotA : R2 := fun x y H Q => (y = .non ∧ Q (.bl (!decide (x = .non))) H) ∨ rNotB x y H Q
theorem op_isA {X : Cx} : OpR X (compareOp .Is) rIsA := op_isN.or op_isBl
theorem op_isNotA {X : Cx} : OpR X (compareOp .IsNot) rIsNotA := op_notN.or op_notBl
theorem dIs_ok {K : PySem.W.Frag} {Hs H : Hp} {x y : V} {dx dy : D} {k : Bool} (e : Ex Hs H) (h1 : Rep1 K Hs H x dx) (h2 : Rep1 K Hs H y dy) (hf : dIs dx dy = some k) :
    (y = .non ∧ decide (x = .non) = k) ∨ ∃ a b, x = .bl a ∧ y = .bl b ∧ decide (a = b) = k := by
  unfold dIs at hf
  split at hf
  · cases hf
    rw [h1.isBl, h2.isBl]
    exact .inr ⟨_, _, rfl, rfl, rfl⟩
  · cases hf; rw [h1.isNon, h2.isNon]; exact .inl ⟨rfl, rfl⟩
  · cases hf; rw [h1.isInt, h2.isNon]; exact .inl ⟨rfl, rfl⟩
  · cases hf; rw [h1.isStr, h2.isNon]; exact .inl ⟨rfl, rfl⟩
  · cases hf; rw [h1.isBl, h2.isNon]; exact .inl ⟨rfl, rfl⟩
  · cases hf; obtain ⟨a, vs, rfl, _, _⟩ := h1.isLst e; rw [h2.isNon]; exact .inl ⟨rfl, rfl⟩
  · cases hf; obtain ⟨a, vs, rfl, _, _⟩ := h1.isTup e; rw [h2.isNon]; exact .inl ⟨rfl, rfl⟩
  · cases hf
    rw [h2.isNon]
    cases h1 with | top h => cases h; exact .inl ⟨rfl, rfl⟩
  · cases hf; obtain ⟨a, kvs, rfl, _⟩ := h1.isDic e; rw [h2.isNon]; exact .inl ⟨rfl, rfl⟩
  · cases hf
theorem ok_is {K : PySem.W.Frag} : Cm2 K rIsA dIs := fun Hs H x y dx dy k Q e h1 h2 hf q => by
  rcases dIs_ok e h1 h2 hf with ⟨a, b⟩ | ⟨a, b, c, d, z⟩
  · exact .inl ⟨a, by rw [b]; exact q⟩
  · exact .inr ⟨a, b, c, d, by rw [z]; exact q⟩
theorem ok_isNot {K : PySem.W.Frag} : Cm2 K rIsNotA dIsNot := fun Hs H x y dx dy k Q e h1 h2 hf q => by
  unfold dIsNot at hf
  cases hk : dIs dx dy with
  | none => rw [hk] at hf; cases hf
  | some k' =>
    rw [hk] at hf; cases hf
    rcases dIs_ok e h1 h2 hk with ⟨a, b⟩ | ⟨a, b, c, d, z⟩
    · exact .inl ⟨a, by rw [b]; exact q⟩
    · exact .inr ⟨a, b, c, d, by rw [z]; exact q⟩
end Ev
namespace Ev
open PySem PySem.Spec PyProof.Rows L2
open Evl (Ex)
theorem pair1 {K : PySem.W.Frag} {Hs H : Hp} {xs : List V} {d : D} (h : Paired (Rep1 K Hs H) xs [d]) : ∃ x, xs = [x] ∧ Rep1 K Hs H x d := by
  cases h with | cons r t => cases t; exact ⟨_, rfl, r⟩
theorem pair2 {K : PySem.W.Frag} {Hs H : Hp} {xs : List V} {d e : D} (h : Paired (Rep1 K Hs H) xs [d, e]) : ∃ x y, xs = [x, y] ∧ Rep1 K Hs H x d ∧ Rep1 K Hs H y e := by
  cases h with | cons r t => cases t with | cons r2 t2 => cases t2; exact ⟨_, _, rfl, r, r2⟩
def dLen : List D → Option L
  | [.str z] => if z.length ≤ 100000 then some (.d (.int z.length)) else none
  | [.lst xs] => some (.d (.int xs.length))
  | [.tup xs] => some (.d (.int xs.length))
  | [.scr xs] => some (.d (.int xs.length))
  | [.dic ks ds] => some (.d (.int ds.length))
  | _ => none
def rLenA (K : PySem.W.Frag) : List V → Hp → VK → Prop := fun xs H Q => (∃ x n, xs = [x] ∧ LenV K x H n ∧ Q (.int n) H) ∨ ∃ a kvs, xs = [V.ref a] ∧ H a = some (.dK kvs) ∧ Q (.int kvs.length) H
theorem cr_lenA {X : Cx} : CallR X (.builtin "len") (rLenA X.K) := call_len.or call_lenD
theorem ok_len {K : PySem.W.Frag} : OpN K (rLenA K) dLen := fun Hs H xs ds l Q e hp hf hR => by
  unfold dLen at hf
  split at hf
  · split at hf
    · rename_i hl
      cases hf
      obtain ⟨x, rfl, r⟩ := pair1 hp
      rw [r.isStr]
      exact .inl ⟨_, _, rfl, ⟨szl hl, rfl⟩, hR.1 _ (.int _)⟩
    · cases hf
  · cases hf
    obtain ⟨x, rfl, r⟩ := pair1 hp
    obtain ⟨a, vs, rfl, ha, ra⟩ := r.isLst e
    exact .inl ⟨_, _, rfl, .inl ⟨vs, SqL.of ha, rfl⟩, by rw [ra.length]; exact hR.1 _ (.int _)⟩
  · cases hf
    obtain ⟨x, rfl, r⟩ := pair1 hp
    obtain ⟨a, vs, rfl, ha, ra⟩ := r.isTup e
    exact .inl ⟨_, _, rfl, .inr ⟨vs, SqT.of ha, rfl⟩, by rw [ra.length]; exact hR.1 _ (.int _)⟩
  · cases hf
    obtain ⟨x, rfl, r⟩ := pair1 hp
    obtain ⟨a, rfl, ha⟩ := r.isScr e
    exact .inl ⟨_, _, rfl, .inl ⟨_, ha, rfl⟩, by rw [List.length_map]; exact hR.1 _ (.int _)⟩
  · cases hf
    obtain ⟨x, rfl, r⟩ := pair1 hp
    obtain ⟨a, kvs, rfl, ha, ek, ra⟩ := r.isDic e
    have := ra.length
    rw [List.length_map] at this
    exact .inr ⟨a, kvs, rfl, ha, by rw [this]; exact hR.1 _ (.int _)⟩
  · cases hf
def dAbs : List D → Option L
  | [.int i] => some (.d (.int (if i < 0 then -i else i)))
  | _ => none
theorem ok_abs {K : PySem.W.Frag} : OpN K (fun xs H Q => ∃ i, xs = [.int i] ∧ Q (.int (if i < 0 then -i else i)) H) dAbs := fun Hs H xs ds l Q e hp hf hR => by
  unfold dAbs at hf
  split at hf
  · cases hf
    obtain ⟨x, rfl, r⟩ := pair1 hp
    rw [r.isInt]
    exact ⟨_, rfl, hR.1 _ (.int _)⟩
  · cases hf
def dInt : List D → Option L
  | [.int i] => some (.d (.int i))
  | [.bl k] => some (.d (.int (if k then 1 else 0)))
  | _ => none
theorem ok_int {K : PySem.W.Frag} : OpN K (fun xs H Q => (∃ i, xs = [.int i] ∧ Q (.int i) H) ∨ ∃ k, xs = [.bl k] ∧ Q (.int (if k then 1 else 0)) H) dInt := fun Hs H xs ds l Q e hp hf hR => by
  unfold dInt at hf
  split at hf
  · cases hf
    obtain ⟨x, rfl, r⟩ := pair1 hp
    rw [r.isInt]
    exact .inl ⟨_, rfl, hR.1 _ (.int _)⟩
  · cases hf
    obtain ⟨x, rfl, r⟩ := pair1 hp
    rw [r.isBl]
    exact .inr ⟨_, rfl, hR.1 _ (.int _)⟩
  · cases hf
def intsOf : List D → Option (List Int)
  | [] => some []
  | .int i :: r => (intsOf r).map (i :: ·)
  | _ :: _ => none
theorem intsOf_eq : ∀ {ds : List D} {ns : List Int}, intsOf ds = some ns → ds = ns.map D.int
  | [], _, h => by cases h; rfl
  | .int i :: r, ns, h => by
    unfold intsOf at h
    cases q : intsOf r with
    | none => rw [q] at h; cases h
    | some ms => rw [q] at h; cases h; rw [intsOf_eq q]; rfl
  | .non :: _, _, h => by cases h
  | .bl _ :: _, _, h => by cases h
  | .str _ :: _, _, h => by cases h
  | .tup _ :: _, _, h => by cases h
  | .lst _ :: _, _, h => by cases h
  | .scr _ :: _, _, h => by cases h
  | .ins _ _ _ :: _, _, h => by cases h
  | .dic _ _ :: _, _, h => by cases h
@[simp] theorem intsOf_map : ∀ ns : List Int, intsOf (ns.map D.int) = some ns
  | [] => rfl
  | n :: ns => by rw [List.map_cons, intsOf, intsOf_map ns]; rfl
def dSum : List D → Option L
  | [.lst xs] => (intsOf xs).map fun ns => .d (.int ns.sum)
  | _ => none
theorem ok_sum {K : PySem.W.Frag} : OpN K (rSum K) dSum := fun Hs H xs ds l Q e hp hf hR => by
  unfold dSum at hf
  split at hf
  · rename_i ys
    cases q : intsOf ys with
    | none => rw [q] at hf; cases hf
    | some ns =>
      rw [q] at hf; cases hf
      obtain ⟨x, rfl, r⟩ := pair1 hp
      obtain ⟨a, vs, rfl, ha, ra⟩ := r.isLst e
      rw [intsOf_eq q] at ra
      rw [ra.ints] at ha
      exact ⟨a, ns, rfl, SqL.of ha, hR.1 _ (.int _)⟩
  · cases hf
def maxL : Int → List Int → Int
  | m, [] => m
  | m, n :: r => maxL (if n > m then n else m) r
def minL : Int → List Int → Int
  | m, [] => m
  | m, n :: r => minL (if n < m then n else m) r
theorem maxL_ok : ∀ (m : Int) (ns : List Int), maxL m ns ∈ m :: ns ∧ ∀ y ∈ m :: ns, y ≤ maxL m ns
  | m, [] => ⟨by simp [maxL], by simp [maxL]⟩
  | m, n :: r => by
    obtain ⟨h1, h2⟩ := maxL_ok (if n > m then n else m) r
    rw [maxL]
    have h3 := h2 _ (List.mem_cons_self)
    refine ⟨?_, fun y hy => ?_⟩
    · rcases List.mem_cons.mp h1 with e | e
      · rw [e]; split <;> simp
      · exact List.mem_cons_of_mem _ (List.mem_cons_of_mem _ e)
    · have k1 : m ≤ (if n > m then n else m) := by split <;> omega
      have k2 : n ≤ (if n > m then n else m) := by split <;> omega
      rcases List.mem_cons.mp hy with e | e
      · subst e; exact Int.le_trans k1 h3
      · rcases List.mem_cons.mp e with e | e
        · subst e; exact Int.le_trans k2 h3
        · exact h2 y (List.mem_cons_of_mem _ e)
theorem minL_ok : ∀ (m : Int) (ns : List Int), minL m ns ∈ m :: ns ∧ ∀ y ∈ m :: ns, minL m ns ≤ y
  | m, [] => ⟨by simp [minL], by simp [minL]⟩
  | m, n :: r => by
    obtain ⟨h1, h2⟩ := minL_ok (if n < m then n else m) r
    rw [minL]
    have h3 := h2 _ (List.mem_cons_self)
    refine ⟨?_, fun y hy => ?_⟩
    · rcases List.mem_cons.mp h1 with e | e
      · rw [e]; split <;> simp
      · exact List.mem_cons_of_mem _ (List.mem_cons_of_mem _ e)
    · have k1 : (if n < m then n else m) ≤ m := by split <;> omega
      have k2 : (if n < m then n else m) ≤ n := by split <;> omega
      rcases List.mem_cons.mp hy with e | e
      · subst e; exact Int.le_trans h3 k1
      · rcases List.mem_cons.mp e with e | e
        · subst e; exact Int.le_trans h3 k2
        · exact h2 y (List.mem_cons_of_mem _ e)
def dMax : List D → Option L
  | [.lst xs] => (match intsOf xs with
    | some (n :: ns) => some (.d (.int (maxL n ns)))
    | _ => none)
  | [.int i, .int j] => some (.d (.int (if j > i then j else i)))
  | _ => none
def dMin : List D → Option L
  | [.lst xs] => (match intsOf xs with
    | some (n :: ns) => some (.d (.int (minL n ns)))
    | _ => none)
  | [.int i, .int j] => some (.d (.int (if j < i then j else i)))
  | _ => none
def rMaxA (K : PySem.W.Frag) : List V → Hp → VK → Prop := fun xs H Q => rMax K xs H Q ∨ ∃ i j, xs = [.int i, .int j] ∧ Q (.int (if j > i then j else i)) H
def rMinA (K : PySem.W.Frag) : List V → Hp → VK → Prop := fun xs H Q => rMin K xs H Q ∨ ∃ i j, xs = [.int i, .int j] ∧ Q (.int (if j < i then j else i)) H
theorem cr_maxA {X : Cx} (hc : X.calm = true) : CallR X (.builtin "max") (rMaxA X.K) := (cr_max hc).or (call_max2 hc)
theorem cr_minA {X : Cx} (hc : X.calm = true) : CallR X (.builtin "min") (rMinA X.K) := (cr_min hc).or (call_min2 hc)
theorem ok_max {K : PySem.W.Frag} : OpN K (rMaxA K) dMax := fun Hs H xs ds l Q e hp hf hR => by
  unfold dMax at hf
  split at hf
  · rename_i ys
    split at hf
    · rename_i n ns q
      cases hf
      obtain ⟨x, rfl, r⟩ := pair1 hp
      obtain ⟨a, vs, rfl, ha, ra⟩ := r.isLst e
      rw [intsOf_eq q] at ra
      rw [ra.ints] at ha
      refine .inl ⟨a, n :: ns, rfl, SqL.of ha, by simp, fun m hm hall => ?_⟩
      obtain ⟨h1, h2⟩ := maxL_ok n ns
      have : m = maxL n ns := Int.le_antisymm (h2 m hm) (hall _ h1)
      rw [this]
      exact hR.1 _ (.int _)
    · cases hf
  · cases hf
    obtain ⟨x, y, rfl, r, r2⟩ := pair2 hp
    rw [r.isInt, r2.isInt]
    exact .inr ⟨_, _, rfl, hR.1 _ (.int _)⟩
  · cases hf
theorem ok_min {K : PySem.W.Frag} : OpN K (rMinA K) dMin := fun Hs H xs ds l Q e hp hf hR => by
  unfold dMin at hf
  split at hf
  · rename_i ys
    split at hf
    · rename_i n ns q
      cases hf
      obtain ⟨x, rfl, r⟩ := pair1 hp
      obtain ⟨a, vs, rfl, ha, ra⟩ := r.isLst e
      rw [intsOf_eq q] at ra
      rw [ra.ints] at ha
      refine .inl ⟨a, n :: ns, rfl, SqL.of ha, by simp, fun m hm hall => ?_⟩
      obtain ⟨h1, h2⟩ := minL_ok n ns
      have : m = minL n ns := Int.le_antisymm (hall _ h1) (h2 m hm)
      rw [this]
      exact hR.1 _ (.int _)
    · cases hf
  · cases hf
    obtain ⟨x, y, rfl, r, r2⟩ := pair2 hp
    rw [r.isInt, r2.isInt]
    exact .inr ⟨_, _, rfl, hR.1 _ (.int _)⟩
  · cases hf
def dList : List D → Option L
  | [.lst xs] => some (.own xs)
  | [.tup xs] => some (.own xs)
  | _ => none
theorem ok_list {K : PySem.W.Frag} : OpN K (fun xs H Q => ∃ p ys, xs = [.ref p] ∧ (SqL K H p ys ∨ SqT K H p ys) ∧ ∀ l, H l = none → Q (.ref l) (upd H l (.lst ys))) dList := fun Hs H xs ds l Q e hp hf hR => by
  unfold dList at hf
  split at hf
  · cases hf
    obtain ⟨x, rfl, r⟩ := pair1 hp
    obtain ⟨a, vs, rfl, ha, ra⟩ := r.isLst e
    exact ⟨a, vs, rfl, .inl (SqL.of ha), fun p hp => hR p vs hp ra⟩
  · cases hf
    obtain ⟨x, rfl, r⟩ := pair1 hp
    obtain ⟨a, vs, rfl, ha, ra⟩ := r.isTup e
    exact ⟨a, vs, rfl, .inr (SqT.of ha), fun p hp => hR p vs hp ra⟩
  · cases hf
def dTuple : List D → Option L
  | [.lst xs] => some (.d (.tup xs))
  | _ => none
theorem ok_tuple {K : PySem.W.Frag} : OpN K (fun xs H Q => ∃ p ys, xs = [.ref p] ∧ ((SqL K H p ys ∧ ∀ l, H l = none → Q (.ref l) (upd H l (.tup ys))) ∨ (SqT K H p ys ∧ Q (.ref p) H))) dTuple := fun Hs H xs ds l Q e hp hf hR => by
  unfold dTuple at hf
  split at hf
  · cases hf
    obtain ⟨x, rfl, r⟩ := pair1 hp
    obtain ⟨a, vs, rfl, ha, ra⟩ := r.isLst e
    exact ⟨a, vs, rfl, .inl ⟨SqL.of ha, fun p hp => hR.2 _ p vs rfl hp ra⟩⟩
  · cases hf
def blsOf : List D → Option (List Bool)
  | [] => some []
  | .bl i :: r => (blsOf r).map (i :: ·)
  | _ :: _ => none
theorem blsOf_eq : ∀ {ds : List D} {ns : List Bool}, blsOf ds = some ns → ds = ns.map D.bl
  | [], _, h => by cases h; rfl
  | .bl i :: r, ns, h => by
    unfold blsOf at h
    cases q : blsOf r with
    | none => rw [q] at h; cases h
    | some ms => rw [q] at h; cases h; rw [blsOf_eq q]; rfl
  | .non :: _, _, h => by cases h
  | .int _ :: _, _, h => by cases h
  | .str _ :: _, _, h => by cases h
  | .tup _ :: _, _, h => by cases h
  | .lst _ :: _, _, h => by cases h
  | .scr _ :: _, _, h => by cases h
  | .ins _ _ _ :: _, _, h => by cases h
  | .dic _ _ :: _, _, h => by cases h
@[simp] theorem blsOf_map : ∀ ns : List Bool, blsOf (ns.map D.bl) = some ns
  | [] => rfl
  | n :: ns => by rw [List.map_cons, blsOf, blsOf_map ns]; rfl
def dAll : List D → Option L
  | [.lst xs] => (blsOf xs).map fun bs => .d (.bl (bs.all id))
  | _ => none
theorem ok_all {K : PySem.W.Frag} : OpN K (rAll K) dAll := fun Hs H xs ds l Q e hp hf hR => by
  unfold dAll at hf
  split at hf
  · rename_i ys
    cases q : blsOf ys with
    | none => rw [q] at hf; cases hf
    | some ns =>
      rw [q] at hf; cases hf
      obtain ⟨x, rfl, r⟩ := pair1 hp
      obtain ⟨a, vs, rfl, ha, ra⟩ := r.isLst e
      rw [blsOf_eq q] at ra
      rw [ra.bls] at ha
      exact ⟨a, ns, rfl, SqL.of ha, hR.1 _ (.bl _)⟩
  · cases hf
def dStr : List D → Option L
  | [.int i] => if i.natAbs.log2 < 1920 then some (.d (.str (toString i))) else none
  | _ => none
theorem ok_str {K : PySem.W.Frag} : OpN K (fun xs H Q => ∃ i, xs = [.int i] ∧ i.natAbs.log2 < 1920 ∧ Q (.str (toString i)) H) dStr := fun Hs H xs ds l Q e hp hf hR => by
  unfold dStr at hf
  split at hf
  · split at hf
    · rename_i hl
      cases hf
      obtain ⟨x, rfl, r⟩ := pair1 hp
      rw [r.isInt]
      exact ⟨_, rfl, hl, hR.1 _ (.str _)⟩
    · cases hf
  · cases hf
abbrev tO (K : PySem.W.Frag) (W : WX) (P : Pin) (F : M (Option Int)) : TO := tF K W P (fun _ _ _ o a xf => o = a ∧ xf = []) F
theorem PO_weak {X : Cx} {e : Option Expr} {t t' : TO} (h : PO X e t) (hw : ∀ σ H Q, t' σ H Q → t σ H Q) : PO X e t' := ⟨fun pins s σ H Q I q => h.run pins s σ H Q I (hw σ H Q q)⟩
section
variable {X : Cx} {W : WX} {P : Pin} {e a b c : Expr} {pos : Pos} {Fa : M Pk} {F : M D}
def oNone : M (Option Int) := rt none
def oSome (F : M D) : M (Option Int) := bd F fun d s => match d with
  | .int i => some (.ok (some i), s)
  | _ => none
theorem do_none : PO X none (tO X.K W P oNone) := PO_weak po_none fun σ H Q ⟨fm, Hs, vs, r', vs', hF, hP, hS, hk, hE⟩ => by
  cases hF
  exact hk _ _ H Hs [] rfl hS (Ex.refl _) ⟨rfl, rfl⟩
theorem do_some (h : PE X e (tE X.K W P F)) : PO X (some e) (tO X.K W P (oSome F)) := PO_weak (po_some h) fun σ H Q ⟨fm, Hs, vs, r', vs', hF, hP, hS, hk, hE⟩ => by
  dsimp only [tPart]
  refine go hF hP hS hE fun d vs1 v H1 Hs1 xf hg S1 X1 ⟨rx, ex⟩ => ?_
  subst ex
  split at hg
  · cases hg; cases rx
    exact ⟨_, rfl, hk _ _ H1 Hs1 [] rfl S1 X1 ⟨rfl, rfl⟩⟩
  · cases hg
def cutL {α : Type} (xs : List α) (lo hi : Option Int) : List α := (xs.drop (HT.sIx xs.length 0 lo)).take (HT.sIx xs.length xs.length hi - HT.sIx xs.length 0 lo)
def dSl : D → Option Int → Option Int → Option L
  | .lst xs, lo, hi => some (.own (cutL xs lo hi))
  | .tup xs, lo, hi => if HT.sIx xs.length 0 lo = 0 ∧ HT.sIx xs.length xs.length hi = xs.length then none else some (.d (.tup (cutL xs lo hi)))
  | .str z, lo, hi => if z.length ≤ 100000 then some (.d (.str (cutS z lo hi))) else none
  | _, _, _ => none
def rSlA (K : PySem.W.Frag) : V → Option Int → Option Int → Hp → VK → Prop := fun x lo hi H Q => rSlL K x lo hi H Q ∨ rSlT K x lo hi H Q ∨ rSlS x lo hi H Q
theorem sl_all : SlR X (rSlA X.K) := sl_list.or (sl_tup.or sl_str)
theorem RepL.cut {K : PySem.W.Frag} {H : Hp} {ds : List D} {vs : List V} (h : RepL K H vs ds) (lo hi : Option Int) : RepL K H (cutV vs lo hi) (cutL ds lo hi) := by
  unfold cutV cutL
  rw [h.length]
  exact (h.drop _).take _
theorem ok_sl {K : PySem.W.Frag} {Hs H : Hp} {x : V} {dx : D} {lo hi : Option Int} {l : L} {Q : VK} (e : Ex Hs H) (h1 : Rep1 K Hs H x dx) (hf : dSl dx lo hi = some l) (hR : Res K Hs H Q l) : rSlA K x lo hi H Q := by
  unfold dSl at hf
  split at hf
  · cases hf
    obtain ⟨a, vs, rfl, ha, ra⟩ := h1.isLst e
    exact .inl ⟨a, vs, rfl, SqL.of ha, fun p hp => hR p _ hp (ra.cut _ _)⟩
  · split at hf
    · cases hf
    · rename_i hw
      cases hf
      obtain ⟨a, vs, rfl, ha, ra⟩ := h1.isTup e
      exact .inr (.inl ⟨a, vs, rfl, SqT.of ha, by rw [ra.length]; exact hw, fun p hp => hR.2 _ p _ rfl hp (ra.cut _ _)⟩)
  · split at hf
    · rename_i hl
      cases hf
      rw [h1.isStr]
      exact .inr (.inr ⟨_, rfl, szl hl, hR.1 _ (.str _)⟩)
    · cases hf
  · cases hf
def fSl (Fa : M Pk) (Fl Fh : M (Option Int)) : M L := bd Fa fun a => bd Fl fun lo => bd Fh fun hi s => match res s a with
  | some x => (match dSl x lo hi with
    | some l => some (.ok l, s)
    | none => none)
  | none => none
theorem dl_slice {lo hi : Option Expr} {Fl Fh : M (Option Int)} {p2 : Pos} (ha : PE X a (tK X.K W P Fa)) (hl : PO X lo (tO X.K W P Fl)) (hh : PO X hi (tO X.K W P Fh)) : PE X (.Subscript a (.Slice lo hi none p2) pos) (tL X.K W P (fSl Fa Fl Fh)) :=
  PE_weak (pe_slice sl_all ha hl hh) fun σ H Q ⟨fm, Hs, vs, r', vs', hF, hP, hS, hk, hE⟩ => by
    dsimp only [tSl]
    refine go hF hP hS hE fun ka vs1 x H1 Hs1 xf hg S1 X1 ⟨rx, ex⟩ => ?_
    subst ex
    refine go hg hP S1 (fun x c dd H' Hs' q S' X' o => hE x c dd H' Hs' q S' (X1.trans X') o) fun lo' vs2 y H2 Hs2 xf hg S2 X2 ⟨ry, ex⟩ => ?_
    subst ex; subst ry
    refine go hg hP S2 (fun x c dd H' Hs' q S' X' o => hE x c dd H' Hs' q S' ((X1.trans X2).trans X') o) fun hi' vs3 y H3 Hs3 xf hg S3 X3 ⟨ry, ex⟩ => ?_
    subst ex; subst ry
    split at hg
    · rename_i dx e1
      split at hg
      · rename_i l el
        cases hg
        exact ok_sl S3.sub (S3.res rx (X2.trans X3) e1) el (res_of S3 fun v H' Hs' xf S' X' r' => hk l v H' Hs' xf rfl S' (((X1.trans X2).trans X3).trans X') r')
      · cases hg
    · cases hg
theorem dl_callB {x : Str} {id : String} {p : Pos} {es : List Expr} {Fr : M (List Pk)} {r : List V → Hp → VK → Prop} {f : List D → Option L} (hc : CallR X (.builtin id) r) (hr : OpN X.K r f) (hg : Gl X x) (hm : X.mg x = none) (hv : bootBuiltins x = some (.builtin id))
    (ha : PA X (e :: es) (tKs X.K W P Fr)) (hn : x ≠ "__name__") (hdb : (x == ("__debug__" : Str)) = false) (he : starEach (e :: es) X.env = (false, eval e X.env) :: starEach es X.env) (hpl : (backTo pos (starEach es X.env)).any (·.1) = false) :
    PE X (.Call (.Name x p) (e :: es) [] pos) (tL X.K W P (fN f Fr)) := PE_weak (pe_callB hc hg hm hv ha hn hdb he hpl) (re_fN hr)
theorem dl_callT {x : Str} {T : String} {p : Pos} {es : List Expr} {Fr : M (List Pk)} {r : List V → Hp → VK → Prop} {f : List D → Option L} (hc : CallR X (.type T) r) (hr : OpN X.K r f) (hg : Gl X x) (hm : X.mg x = none) (hv : bootBuiltins x = some (.type T))
    (ha : PA X (e :: es) (tKs X.K W P Fr)) (hn : x ≠ "__name__") (hdb : (x == ("__debug__" : Str)) = false) (he : starEach (e :: es) X.env = (false, eval e X.env) :: starEach es X.env) (hpl : (backTo pos (starEach es X.env)).any (·.1) = false) :
    PE X (.Call (.Name x p) (e :: es) [] pos) (tL X.K W P (fN f Fr)) := PE_weak (pe_callTy hc hg hm hv ha hn hdb he hpl) (re_fN hr)
def rgD (a : Int) (n : Nat) : List D := (List.range n).map fun i => D.int (a + (i : Nat))
def fLRg (F : M D) : M L := bd F fun d s => match d with
  | .int n => if 0 ≤ n ∧ n ≤ 100000 then some (.ok (.own (rgD 0 n.toNat)), s) else none
  | _ => none
theorem RepL_rg {K : PySem.W.Frag} {H : Hp} (a : Int) : ∀ (l : List Nat), RepL K H (l.map fun (i : Nat) => V.int (a + (i : Nat))) (l.map fun (i : Nat) => D.int (a + (i : Nat)))
  | [] => .nil
  | x :: l => .cons (.int _) (RepL_rg a l)
theorem dl_listRg {p p2 pos2 : Pos} (hc : X.calm = true) (hg : Gl X "list") (hm : X.mg "list" = none) (hg2 : Gl X "range") (hm2 : X.mg "range" = none) (ha : PE X a (tE X.K W P F)) (na : starEach [a] X.env = (false, eval a X.env) :: starEach [] X.env) :
    PE X (.Call (.Name "list" p) [.Call (.Name "range" p2) [a] [] pos2] [] pos) (tL X.K W P (fLRg F)) :=
  PE_weak (pe_listRg hc hg hm (prg_1 hg2 hm2 ha na)) fun σ H Q ⟨fm, Hs, vs, r', vs', hF, hP, hS, hk, hE⟩ => by
    dsimp only [tLstRg, tRg1]
    refine go hF hP hS hE fun d vs1 v H1 Hs1 xf hg S1 X1 ⟨rx, ex⟩ => ?_
    subst ex
    split at hg
    · split at hg
      · rename_i hl
        cases hg; cases rx
        refine ⟨_, rfl, ⟨by omega, by omega, by omega, by omega, by omega⟩, fun p hp => ?_⟩
        refine hk _ _ _ Hs1 [p] rfl (S1.allocX hp _) X1 (.own upd_same ?_)
        unfold rgV rgD
        rw [Int.sub_zero]
        exact RepL_rg 0 _
      · cases hg
    · cases hg
def isT (T : String) : D → Bool
  | .lst _ => T == "list"
  | .str _ => T == "str"
  | .dic _ _ => T == "dict"
  | _ => false
theorem isT_ok {K : PySem.W.Frag} {Hs H : Hp} {v : V} {d : D} {T : String} (e : Ex Hs H) (h : Rep1 K Hs H v d) (ht : isT T d = true) : tyV K T v H := by
  cases d with
  | lst xs =>
    obtain ⟨a, vs, rfl, ha, _⟩ := h.isLst e
    exact .inl ⟨beq_iff_eq.mp ht, vs, SqL.of ha⟩
  | str z => rw [h.isStr]; exact beq_iff_eq.mp ht
  | dic ks ds =>
    obtain ⟨a, kvs, rfl, ha, _⟩ := h.isDic e
    exact .inr (.inr (.inl ⟨beq_iff_eq.mp ht, .inl ⟨kvs, ha⟩⟩))
  | non => cases ht
  | bl _ => cases ht
  | int _ => cases ht
  | tup _ => cases ht
  | scr _ => cases ht
  | ins _ _ _ => cases ht
def OpM (K : PySem.W.Frag) (r : V → List V → Hp → VK → Prop) (f : D → List D → Option L) : Prop :=
  ∀ Hs H x xs dx ds l Q, Ex Hs H → Rep1 K Hs H x dx → Paired (Rep1 K Hs H) xs ds → f dx ds = some l → Res K Hs H Q l → r x xs H Q
def fM (T : String) (f : D → List D → Option L) (Fo : M Pk) (Fr : M (List Pk)) : M L := bd Fo fun o s1 => match res s1 o with
  | some d1 => if isT T d1 = true then bd Fr (fun ks s2 => match res s2 o, resAll s2 ks with
    | some d, some ds => (match f d ds with
      | some l => some (.ok l, s2)
      | none => none)
    | _, _ => none) s1 else none
  | none => none
theorem re_fM {T : String} {r : V → List V → Hp → VK → Prop} {f : D → List D → Option L} {Fr : M (List Pk)} (hr : OpM X.K r f) : ∀ σ H Q, tL X.K W P (fM T f Fa Fr) σ H Q → tBM X.K T r (tK X.K W P Fa) (tKs X.K W P Fr) σ H Q := fun σ H Q ⟨fm, Hs, vs, r', vs', hF, hP, hS, hk, hE⟩ => by
  dsimp only [tBM]
  refine go hF hP hS hE fun ka vs1 x H1 Hs1 xf hg S1 X1 ⟨rx, ex⟩ => ?_
  subst ex
  split at hg
  · rename_i d1 e1
    split at hg
    · rename_i ht
      refine ⟨isT_ok S1.sub (S1.res rx (Ex.refl _) e1) ht, ?_⟩
      refine go hg hP S1 (fun x c dd H' Hs' q S' X' o => hE x c dd H' Hs' q S' (X1.trans X') o) fun kr vs2 y H2 Hs2 xf hg S2 X2 ⟨ry, ex⟩ => ?_
      subst ex
      split at hg
      · rename_i d ds e2 e3
        split at hg
        · rename_i l el
          cases hg
          exact hr Hs2 H2 x y d ds l Q S2.sub (S2.res rx X2 e2) (S2.resAll ry e3) el (res_of S2 fun v H' Hs' xf S' X' r' => hk l v H' Hs' xf rfl S' ((X1.trans X2).trans X') r')
        · cases hg
      · cases hg
    · cases hg
  · cases hg
def idxF (y : D) : List D → Option Nat
  | [] => none
  | x :: xs => if eqF x y = true then some 0 else (idxF y xs).map (· + 1)
def dIndex : D → List D → Option L
  | .lst xs, [y] => if (flD y && xs.all flD) = true then (idxF y xs).map fun (j : Nat) => .d (.int (j : Int)) else none
  | _, _ => none
theorem idxF_ok {y : D} : ∀ {xs : List D} {j : Nat}, idxF y xs = some j → (∃ z, xs[j]? = some z ∧ eqF z y = true) ∧ ∀ m z', m < j → xs[m]? = some z' → eqF z' y = false
  | [], _, h => by cases h
  | x :: xs, j, h => by
    unfold idxF at h
    split at h
    · rename_i q
      cases h
      exact ⟨⟨x, rfl, q⟩, fun m z' hm => absurd hm (Nat.not_lt_zero m)⟩
    · rename_i q
      cases e : idxF y xs with
      | none => rw [e] at h; cases h
      | some k =>
        rw [e] at h; cases h
        obtain ⟨⟨z, h1, h2⟩, h3⟩ := idxF_ok e
        refine ⟨⟨z, by simpa using h1, h2⟩, fun m z' hm hz => ?_⟩
        cases m with
        | zero =>
          have : x = z' := by simpa using hz
          subst this
          simpa using q
        | succ m => exact h3 m z' (Nat.lt_of_succ_lt_succ hm) (by simpa using hz)
theorem ok_index {K : PySem.W.Frag} : OpM K (rIndex K) dIndex := fun Hs H x xs dx ds l Q e h1 hp hf hR => by
  unfold dIndex at hf
  split at hf
  · rename_i zs y
    split at hf
    · rename_i hq
      rw [Bool.and_eq_true] at hq
      cases q : idxF y zs with
      | none => rw [q] at hf; cases hf
      | some j =>
        rw [q] at hf; cases hf
        obtain ⟨a, vs, rfl, ha, ra⟩ := h1.isLst e
        obtain ⟨u, rfl, ru⟩ := pair1 hp
        have ru := rep1_flat ru hq.1
        obtain ⟨⟨z, i1, i2⟩, i3⟩ := idxF_ok q
        obtain ⟨v, e1, rv⟩ := ra.get i1
        have fl : ∀ z ∈ zs, flD z = true := fun z hz => List.all_eq_true.mp hq.2 z hz
        refine ⟨a, vs, u, j, v, rfl, rfl, SqL.of ha, (flD_ok ru hq.1).1, (flAll ru hq.1 ra hq.2).1, e1, ?_, fun m z' hm hz => ?_, hR.1 _ (.int _)⟩
        · rw [(flD_ok rv (fl z (List.mem_of_getElem? i1))).2 ru hq.1]; exact i2
        · obtain ⟨d', e2, rd⟩ := ra.getv hz
          rw [(flD_ok rd (fl d' (List.mem_of_getElem? e2))).2 ru hq.1]
          exact i3 m d' hm e2
    · cases hf
  · cases hf
end
end Ev
namespace Ev
open PySem PySem.Spec PyProof.Rows L2
open Evl (Ex)
def OpW (K : PySem.W.Frag) (r : V → List V → Hp → VK → Prop) (g : List D → List D → Option (D × List D)) : Prop :=
  ∀ Hs H a us xs vs ds z xs' Q, H a = some (.lst us) → RepL K Hs us xs → RepL K Hs vs ds → g xs ds = some (z, xs') → (∀ v us', Rep K Hs v z → RepL K Hs us' xs' → Q v (upd H a (.lst us'))) → r (.ref a) vs H Q
def fW (i : Nat) (g : List D → List D → Option (D × List D)) (Fr : M (List D)) : M D := fun s0 => match s0[i]? with
  | some (some (.own _)) => bd Fr (fun ds s => match s[i]? with
    | some (some (.own xs)) => (match g xs ds with
      | some (z, xs') => some (.ok z, s.set i (some (.own xs')))
      | none => none)
    | _ => none) s0
  | _ => none
def gAppend : List D → List D → Option (D × List D)
  | xs, [d] => if xs.length < 100000 then some (.non, xs ++ [d]) else none
  | _, _ => none
theorem ow_append {K : PySem.W.Frag} : OpW K rAppend gAppend := fun Hs H a us xs vs ds z xs' Q ha ru rv hg hk => by
  unfold gAppend at hg
  split at hg
  · split at hg
    · rename_i hl
      cases hg
      cases rv with
      | cons r t =>
        cases t
        refine ⟨a, us, _, rfl, rfl, ha, ?_, hk _ _ .non (ru.append (.one r))⟩
        rw [ru.length]; exact Evl.sz_lt hl
    · cases hg
  · cases hg
def gPop : List D → List D → Option (D × List D)
  | xs, [] => (xs[xs.length - 1]?).map fun y => (y, xs.dropLast)
  | xs, [.int i] => if xs.length ≤ 100000 then (ixN xs.length i).bind fun k => (xs[k]?).map fun y => (y, xs.eraseIdx k) else none
  | _, _ => none
theorem ow_pop {K : PySem.W.Frag} : OpW K (fun x vs H Q => rPop x vs H Q ∨ rPopAt x vs H Q) gPop := fun Hs H a us xs vs ds z xs' Q ha ru rv hg hk => by
  unfold gPop at hg
  split at hg
  · cases rv
    cases e : xs[xs.length - 1]? with
    | none => rw [e] at hg; cases hg
    | some y =>
      rw [e] at hg; cases hg
      obtain ⟨v, e1, r1⟩ := ru.get e
      exact .inl ⟨a, us, v, rfl, rfl, ha, by rw [ru.length]; exact e1, hk v _ r1 ru.dropLast⟩
  · rename_i i
    split at hg
    · rename_i hl
      cases rv with
      | cons r t =>
        cases t; cases r
        cases e : ixN xs.length i with
        | none => rw [e] at hg; cases hg
        | some k =>
          rw [e] at hg
          have hg : (xs[k]?).map (fun y => (y, xs.eraseIdx k)) = some (z, xs') := hg
          cases e2 : xs[k]? with
          | none => rw [e2] at hg; cases hg
          | some y =>
            rw [e2] at hg; cases hg
            obtain ⟨v, e1, r1⟩ := ru.get e2
            obtain ⟨q1, q2, q3, q4⟩ := ixN_seq e
            exact .inr ⟨a, us, i, k, v, rfl, rfl, ha, by omega, by omega, by rw [ru.length]; exact q1, e1, hk v _ r1 (ru.erase k)⟩
    · cases hg
  · cases hg
def gInsert : List D → List D → Option (D × List D)
  | xs, [.int i, y] => if 0 ≤ i ∧ i ≤ 100000 ∧ xs.length < 100000 then some (.non, xs.take i.toNat ++ [y] ++ xs.drop i.toNat) else none
  | _, _ => none
theorem ow_insert {K : PySem.W.Frag} : OpW K (fun x vs H Q => ∃ (l : Addr) (xs : List V) (i : Int) (y : V), x = .ref l ∧ vs = [.int i, y] ∧ H l = some (.lst xs) ∧ xs.length < sizeLine ∧ 0 ≤ i ∧ i < 2 ^ 63 ∧
    Q .non (upd H l (.lst (xs.take i.toNat ++ [y] ++ xs.drop i.toNat)))) gInsert := fun Hs H a us xs vs ds z xs' Q ha ru rv hg hk => by
  unfold gInsert at hg
  split at hg
  · split at hg
    · rename_i hl
      cases hg
      cases rv with
      | cons r t =>
        cases t with
        | cons r2 t2 =>
          cases t2; cases r
          refine ⟨a, us, _, _, rfl, rfl, ha, ?_, hl.1, by omega, hk _ _ .non (((ru.take _).append (.one r2)).append (ru.drop _))⟩
          rw [ru.length]; exact Evl.sz_lt hl.2.2
    · cases hg
  · cases hg
def gClear : List D → List D → Option (D × List D)
  | _, [] => some (.non, [])
  | _, _ => none
theorem ow_clear {K : PySem.W.Frag} : OpW K rClear gClear := fun Hs H a us xs vs ds z xs' Q ha ru rv hg hk => by
  unfold gClear at hg
  split at hg
  · cases hg; cases rv
    exact ⟨a, us, rfl, rfl, ha, hk _ _ .non .nil⟩
  · cases hg
section
variable {X : Cx} {W : WX} {P : Pin} {e a b c : Expr} {pos : Pos}
theorem own_write {K : PySem.W.Frag} {fm : Fm} {Hs : Hp} {vs : VS} {σ : L2.St} {H : Hp} {xf : List Addr} {i : Nat} {xs xs' : List D} {a : Addr} {us' : List V} (S : Sim K fm Hs vs σ H xf) (e : vs[i]? = some (some (.own xs))) (ev : σ[i]? = some (some (.ref a))) (r : RepL K Hs us' xs') :
    Sim K fm Hs (vs.set i (some (.own xs'))) σ (upd H a (.lst us')) xf := S.write e ev fun f h => by
  cases h with
  | own h1 h2 => exact ⟨rfl, .own upd_same r⟩
theorem re_fW {i : Nat} {T : V → List V → Hp → VK → Prop} {g : List D → List D → Option (D × List D)} {Fr : M (List D)} (hr : OpW X.K T g) : ∀ σ H Q, tE X.K W P (fW i g Fr) σ H Q → tBM X.K "list" T (tVar i) (tAs X.K W P Fr) σ H Q := fun σ H Q ⟨fm, Hs, vs, r', vs', hF, hP, hS, hk, hE⟩ => by
  unfold fW at hF
  split at hF
  · rename_i xs0 e0
    obtain ⟨v, f, e1, rv⟩ := hS.slot e0
    cases rv with
    | own h1 h2 =>
      refine ⟨_, e1, .inl ⟨rfl, _, SqL.of h1⟩, ?_⟩
      refine go hF hP hS hE fun ds vs1 us H1 Hs1 xf hg S1 X1 ⟨rx, ex⟩ => ?_
      subst ex
      split at hg
      · rename_i xs e2
        split at hg
        · rename_i z xs' eg
          cases hg
          obtain ⟨v', f', e3, rv'⟩ := S1.slot e2
          rw [e1] at e3; cases e3
          cases rv' with
          | own k1 k2 =>
            refine hr Hs1 H1 _ _ xs us ds z xs' Q k1 k2 rx eg fun v us' hv hus => ?_
            exact hk z v _ Hs1 [] rfl (own_write S1 e2 e1 hus) X1 ⟨hv, rfl⟩
        · cases hg
      · cases hg
  · cases hF
theorem re_fW0 {i : Nat} {T : V → List V → Hp → VK → Prop} {g : List D → List D → Option (D × List D)} (hr : OpW X.K T g) : ∀ σ H Q, tE X.K W P (fW i g aNil) σ H Q → tBM0 X.K "list" T (tVar i) σ H Q := fun σ H Q ⟨fm, Hs, vs, r', vs', hF, hP, hS, hk, hE⟩ => by
  unfold fW at hF
  split at hF
  · rename_i xs0 e0
    obtain ⟨v, f, e1, rv⟩ := hS.slot e0
    cases rv with
    | own h1 h2 =>
      refine ⟨_, e1, .inl ⟨rfl, _, SqL.of h1⟩, ?_⟩
      have hF : (match vs[i]? with
        | some (some (.own xs)) => (match g xs [] with
          | some (z, xs') => some (Except.ok z, vs.set i (some (.own xs')))
          | none => none)
        | _ => none) = some (r', vs') := hF
      rw [e0] at hF
      dsimp only at hF
      split at hF
      · rename_i z xs' eg
        cases hF
        exact hr Hs H _ _ xs0 [] [] z xs' Q h1 h2 .nil eg fun v us' hv hus => hk z v _ Hs [] rfl (own_write hS e0 e1 hus) (Ex.refl _) ⟨hv, rfl⟩
      · cases hF
  · cases hF
end
inductive Fl where
  | nx | bk | ct | rt (l : L)
structure Kt (K : PySem.W.Frag) (W : WX) (fm : Fm) (Hs : Hp) (r : Except Xn Fl) (vs' : VS) (E : Ends) : Prop where
  nx : ∀ σ' H' Hs', r = .ok .nx → Sim K fm Hs' vs' σ' H' [] → Ex Hs Hs' → E.nx σ' H'
  bk : ∀ σ' H' Hs', r = .ok .bk → Sim K fm Hs' vs' σ' H' [] → Ex Hs Hs' → E.bk σ' H'
  ct : ∀ σ' H' Hs', r = .ok .ct → Sim K fm Hs' vs' σ' H' [] → Ex Hs Hs' → E.ct σ' H'
  rt : ∀ l v σ' H' Hs' xf, r = .ok (.rt l) → Sim K fm Hs' vs' σ' H' xf → Ex Hs Hs' → LOk K Hs' H' v l xf → E.rt v H'
  er : ∀ x c dd σ' H' Hs', r = .error x → Sim K fm Hs' vs' σ' H' [] → Ex Hs Hs' → XOk K Hs' H' c dd x → W c dd σ' H'
theorem Kt.mono {K : PySem.W.Frag} {W : WX} {fm : Fm} {Hs Hs1 : Hp} {r : Except Xn Fl} {vs' : VS} {E : Ends} (k : Kt K W fm Hs r vs' E) (e : Ex Hs Hs1) : Kt K W fm Hs1 r vs' E :=
  ⟨fun a b c d f g => k.nx a b c d f (e.trans g), fun a b c d f g => k.bk a b c d f (e.trans g), fun a b c d f g => k.ct a b c d f (e.trans g), fun l v a b c x d f g => k.rt l v a b c x d f (e.trans g), fun x c dd a b h d f g => k.er x c dd a b h d f (e.trans g)⟩
def tS (K : PySem.W.Frag) (W : WX) (P : Pin) (F : M Fl) : TS := fun E σ H =>
  ∃ fm Hs vs r vs', F vs = some (r, vs') ∧ PnOk K fm P ∧ Sim K fm Hs vs σ H [] ∧ Kt K W fm Hs r vs' E
theorem goS {K : PySem.W.Frag} {W : WX} {P : Pin} {α β : Type} {R : Hp → Hp → L2.St → β → α → List Addr → Prop} {F : M α} {g : α → M Fl} {fm : Fm} {Hs : Hp} {vs vs' : VS} {r : Except Xn Fl} {σ : L2.St} {H : Hp} {Q : β → Hp → Prop} {E : Ends}
    (hF : bd F g vs = some (r, vs')) (hP : PnOk K fm P) (hS : Sim K fm Hs vs σ H []) (hE : Kt K W fm Hs r vs' E)
    (hk : ∀ a vs1 b H1 Hs1 xf, g a vs1 = some (r, vs') → Sim K fm Hs1 vs1 σ H1 xf → Ex Hs Hs1 → R Hs1 H1 σ b a xf → Q b H1) : tF K W P R F σ H Q :=
  go hF hP hS (fun x c dd H' Hs' q S' X' o => hE.er x c dd σ H' Hs' q S' X' o) hk
theorem PS_weak {X : Cx} {e : Stmt} {t t' : TS} (h : PS X e t) (hw : ∀ E σ H, t' E σ H → t E σ H) : PS X e t' := ⟨fun pins s σ H E I q => h.run pins s σ H E I (hw E σ H q)⟩
theorem PSs_weak {X : Cx} {e : List Stmt} {t t' : TS} (h : PSs X e t) (hw : ∀ E σ H, t' E σ H → t E σ H) : PSs X e t' := ⟨fun pins s σ H E I q => h.run pins s σ H E I (hw E σ H q)⟩
section
variable {X : Cx} {W : WX} {P : Pin} {e a b c : Expr} {pos : Pos} {st : Stmt} {sts : List Stmt} {F G : M Fl}
def sNil : M Fl := rt .nx
def sSeq (F G : M Fl) : M Fl := bd F fun f => match f with
  | .nx => G
  | .bk => rt .bk
  | .ct => rt .ct
  | .rt l => rt (.rt l)
theorem dss_nil : PSs X [] (tS X.K W P sNil) := PSs_weak pss_nil fun E σ H ⟨fm, Hs, vs, r, vs', hF, hP, hS, hk⟩ => by
  cases hF
  exact hk.nx σ H Hs rfl hS (Ex.refl _)
theorem dss_cons (h1 : PS X st (tS X.K W P F)) (h2 : PSs X sts (tS X.K W P G)) : PSs X (st :: sts) (tS X.K W P (sSeq F G)) := PSs_weak (pss_cons h1 h2) fun E σ H ⟨fm, Hs, vs, r, vs', hF, hP, hS, hk⟩ => by
  dsimp only [tSeq]
  rcases bd_cases hF with ⟨f, s1, e, h⟩ | ⟨x, s1, e, h⟩
  · cases f with
    | nx =>
      exact ⟨fm, Hs, vs, _, s1, e, hP, hS, ⟨fun σ' H' Hs' _ S' X' => ⟨fm, Hs', s1, r, vs', h, hP, S', hk.mono X'⟩, fun _ _ _ q => (by cases q), fun _ _ _ q => (by cases q), fun _ _ _ _ _ _ q => (by cases q), fun _ _ _ _ _ _ q => (by cases q)⟩⟩
    | bk =>
      obtain ⟨rfl, rfl⟩ := Prod.mk.inj (Option.some.inj h)
      exact ⟨fm, Hs, vs, _, s1, e, hP, hS, ⟨fun _ _ _ q => (by cases q), hk.bk, hk.ct, hk.rt, hk.er⟩⟩
    | ct =>
      obtain ⟨rfl, rfl⟩ := Prod.mk.inj (Option.some.inj h)
      exact ⟨fm, Hs, vs, _, s1, e, hP, hS, ⟨fun _ _ _ q => (by cases q), hk.bk, hk.ct, hk.rt, hk.er⟩⟩
    | rt l =>
      obtain ⟨rfl, rfl⟩ := Prod.mk.inj (Option.some.inj h)
      exact ⟨fm, Hs, vs, _, s1, e, hP, hS, ⟨fun _ _ _ q => (by cases q), hk.bk, hk.ct, hk.rt, hk.er⟩⟩
  · obtain ⟨rfl, rfl⟩ := Prod.mk.inj h
    exact ⟨fm, Hs, vs, _, _, e, hP, hS, ⟨fun _ _ _ q => (by cases q), fun _ _ _ q => (by cases q), fun _ _ _ q => (by cases q), fun _ _ _ _ _ _ q => (by cases q), fun x' c dd σ' H' Hs' q S' X' o => hk.er x' c dd σ' H' Hs' (by cases q; rfl) S' X' o⟩⟩
def sExpr (F : M D) : M Fl := bd F fun _ => rt .nx
theorem ds_expr {Fe : M D} (h : PE X e (tE X.K W P Fe)) (hs : swapsWith e none pos.line X.env = pure false) : PS X (.Expr e pos) (tS X.K W P (sExpr Fe)) := PS_weak (ps_expr h hs) fun E σ H ⟨fm, Hs, vs, r, vs', hF, hP, hS, hk⟩ => by
  dsimp only [tDrop]
  refine goS hF hP hS hk fun d vs1 v H1 Hs1 xf hg S1 X1 ⟨rx, ex⟩ => ?_
  subst ex
  cases hg
  exact hk.nx σ H1 Hs1 rfl S1 X1
def sRet (F : M L) : M Fl := bd F fun l => rt (.rt l)
theorem ds_ret {Fe : M L} (h : PE X e (tL X.K W P Fe)) : PS X (.Return (some e) pos) (tS X.K W P (sRet Fe)) := PS_weak (ps_ret h) fun E σ H ⟨fm, Hs, vs, r, vs', hF, hP, hS, hk⟩ => by
  dsimp only [tRet]
  refine goS hF hP hS hk fun d vs1 v H1 Hs1 xf hg S1 X1 rx => ?_
  cases hg
  exact hk.rt _ v σ H1 Hs1 xf rfl S1 X1 rx
def sRetN : M Fl := rt (.rt (.d .non))
theorem ds_retN : PS X (.Return none pos) (tS X.K W P sRetN) := PS_weak ps_retN fun E σ H ⟨fm, Hs, vs, r, vs', hF, hP, hS, hk⟩ => by
  cases hF
  exact hk.rt _ _ σ H Hs [] rfl hS (Ex.refl _) (.d .non)
theorem ds_pass : PS X (.Pass pos) (tS X.K W P sNil) := PS_weak ps_pass fun E σ H ⟨fm, Hs, vs, r, vs', hF, hP, hS, hk⟩ => by
  cases hF
  exact hk.nx σ H Hs rfl hS (Ex.refl _)
def sIf (C : M Bool) (A B : M Fl) : M Fl := bd C fun k => if k = true then A else B
theorem ds_if {C : M Bool} {sa sb : List Stmt} (hc : PT X c (tB X.K W P C)) (ha : PSs X sa (tS X.K W P F)) (hb : PSs X sb (tS X.K W P G)) : PS X (.If c sa sb pos) (tS X.K W P (sIf C F G)) := PS_weak (ps_if hc ha hb) fun E σ H ⟨fm, Hs, vs, r, vs', hF, hP, hS, hk⟩ => by
  dsimp only [tIfS]
  refine goS hF hP hS hk fun k vs1 k' H1 Hs1 xf hg S1 X1 ⟨rx, ex⟩ => ?_
  subst ex; subst rx
  cases k' with
  | true => rw [if_pos rfl] at hg ⊢; exact ⟨fm, Hs1, vs1, r, vs', hg, hP, S1, hk.mono X1⟩
  | false => rw [if_neg Bool.false_ne_true] at hg ⊢; exact ⟨fm, Hs1, vs1, r, vs', hg, hP, S1, hk.mono X1⟩
def sSet (i : Nat) (F : M L) : M Fl := bd F fun l s => if i < s.length then some (.ok .nx, s.set i (some l)) else none
theorem re_set {i : Nat} {Fe : M L} {te : TE} (hi : i ∉ P.ix) (h : ∀ σ H Q, tL X.K W P Fe σ H Q → te σ H Q) : ∀ E σ H, tS X.K W P (sSet i Fe) E σ H → tAsg te (gName i) E σ H := fun E σ H ⟨fm, Hs, vs, r, vs', hF, hP, hS, hk⟩ => by
  refine h _ _ _ (goS hF hP hS hk fun l vs1 v H1 Hs1 xf hg S1 X1 rx => ?_)
  split at hg
  · rename_i hl
    cases hg
    have hlen : vs1.length = σ.length := (let ⟨ft, s⟩ := S1; s.len)
    exact hk.nx _ H1 Hs1 rfl (S1.set rx (by rw [← hlen]; exact hl) (by rw [hP.1]; exact hi)) X1
  · cases hg
theorem ds_set {i : Nat} {x : Str} {pos' : Pos} {Fe : M L} (hp : i ∉ P.ix) (hN : X.N.Nodup) (hi : X.N[i]? = some x) (hx : Loc X.env.scope x) (he : PE X e (tL X.K W P Fe)) (hs : swapsWith e (some (.Name x pos')) pos.line X.env = pure false) (hf : X.fn x = true ∨ X.env.scope.names.lookup x = some .local) :
    PS X (.Assign [.Name x pos'] e pos) (tS X.K W P (sSet i Fe)) := PS_weak (ps_set hN hi hx he hs hf) (re_set hp fun _ _ _ h => h)
def dSetN (xs : List D) : D → Option Nat
  | .int j => ixN xs.length j
  | _ => none
def sSetI (i : Nat) (Fv Fi : M D) : M Fl := bd Fv fun v s1 => match s1[i]? with
  | some (some (.own _)) => bd Fi (fun k s => match s[i]? with
    | some (some (.own xs)) => (match dSetN xs k with
      | some n => some (.ok .nx, s.set i (some (.own (xs.set n v))))
      | none => none)
    | _ => none) s1
  | _ => none
theorem ds_setI {i : Nat} {x : Str} {pos1 pos' : Pos} {ie : Expr} {Fv Fi : M D} (ho : PE X (.Name x pos1) (tVar i)) (hi : PE X ie (tE X.K W P Fi)) (he : PE X e (tE X.K W P Fv)) (hs : swapsWithSole [.Subscript (.Name x pos1) ie pos'] e pos.line X.env = pure false) (hw : swappedStores [.Subscript (.Name x pos1) ie pos'] e X.env = pure none)
    (h1 : (assignEach [.Subscript (.Name x pos1) ie pos'] X.env).map (·.2) = [assign (.Subscript (.Name x pos1) ie pos') X.env])
    (ha : ∀ v, assign (.Subscript (.Name x pos1) ie pos') X.env v = (do
      let ov ← holding [v] (eval (.Name x pos1) X.env)
      let iv ← holding [v, ov] (eval ie X.env)
      standAt pos'
      holding [v, ov, iv] (setItem ov iv v)
      release [v, ov, iv] [])) :
    PS X (.Assign [.Subscript (.Name x pos1) ie pos'] e pos) (tS X.K W P (sSetI i Fv Fi)) := PS_weak (ps_asg he (pg_sub ho hi set_list ha) hs hw h1) fun E σ H ⟨fm, Hs, vs, r, vs', hF, hP, hS, hk⟩ => by
  dsimp only [tAsg, gSub]
  refine goS hF hP hS hk fun d vs1 v H1 Hs1 xf hg S1 X1 ⟨rx, ex⟩ => ?_
  subst ex
  split at hg
  · rename_i xs0 e0
    obtain ⟨u, f, e1, ru⟩ := S1.slot e0
    cases ru with
    | own k1 k2 =>
      refine ⟨_, e1, ?_⟩
      refine goS hg hP S1 (hk.mono X1) fun k vs2 y H2 Hs2 xf hg S2 X2 ⟨ry, ex⟩ => ?_
      subst ex
      split at hg
      · rename_i xs e2
        split at hg
        · rename_i n en
          cases hg
          obtain ⟨j, rfl, en⟩ : ∃ j, k = .int j ∧ ixN xs.length j = some n := by
            cases k with
            | int j => exact ⟨j, rfl, en⟩
            | _ => cases en
          cases ry
          obtain ⟨u', f', e3, ru'⟩ := S2.slot e2
          rw [e1] at e3; cases e3
          cases ru' with
          | own q1 q2 =>
            refine ⟨_, _, j, n, rfl, rfl, q1, by rw [q2.length]; exact en, ?_⟩
            exact hk.nx σ _ Hs2 rfl (own_write S2 e2 e1 (q2.set n (rx.mono X2))) (X1.trans X2)
        · cases hg
      · cases hg
  · cases hg
end
end Ev
namespace Ev
open PySem PySem.Spec PyProof.Rows L2
open Evl (Ex)
inductive Tg where
  | nm (i : Nat)
  | tp (ts : List Tg)
mutual
def asg : Tg → D → VS → Option VS
  | .nm i, d, s => if i < s.length then some (s.set i (some (.d d))) else none
  | .tp ts, d, s => match d with
    | .tup ds => asgs ts ds s
    | _ => none
def asgs : List Tg → List D → VS → Option VS
  | [], [], s => some s
  | t :: ts, d :: ds, s => match asg t d s with
    | some s1 => asgs ts ds s1
    | none => none
  | _, _, _ => none
end
mutual
def Tg.ix : Tg → List Nat
  | .nm i => [i]
  | .tp ts => Tg.ixs ts
def Tg.ixs : List Tg → List Nat
  | [] => []
  | t :: ts => Tg.ix t ++ Tg.ixs ts
end
def Same1 (I : List Nat) (σ σ' : L2.St) : Prop := σ'.length = σ.length ∧ ∀ j, j ∉ I → σ'[j]? = σ[j]?
def tG (K : PySem.W.Frag) (P : Pin) (tg : Tg) : TG := fun v σ H Q =>
  ∃ fm Hs vs vs' d, asg tg d vs = some vs' ∧ PnOk K fm P ∧ Sim K fm Hs vs σ H [] ∧ Rep K Hs v d ∧ ∀ σ', Sim K fm Hs vs' σ' H [] → Same1 tg.ix σ σ' → Q σ' H
def tGs (K : PySem.W.Frag) (P : Pin) (ts : List Tg) : TGs := fun us σ H Q =>
  ∃ fm Hs vs vs' ds, asgs ts ds vs = some vs' ∧ PnOk K fm P ∧ Sim K fm Hs vs σ H [] ∧ RepL K Hs us ds ∧ ∀ σ', Sim K fm Hs vs' σ' H [] → Same1 (Tg.ixs ts) σ σ' → Q σ' H
theorem PG_weak {X : Cx} {e : Expr} {t t' : TG} (h : PG X e t) (hw : ∀ v σ H Q, t' v σ H Q → t v σ H Q) : PG X e t' := ⟨fun pins s σ H v u Q I r q => h.run pins s σ H v u Q I r (hw v σ H Q q)⟩
theorem PGs_weak {X : Cx} {e : List Expr} {t t' : TGs} (h : PGs X e t) (hw : ∀ v σ H Q, t' v σ H Q → t v σ H Q) : PGs X e t' := ⟨fun pins s σ H v u Q I r q => h.run pins s σ H v u Q I r (hw v σ H Q q)⟩
section
variable {X : Cx} {W : WX} {P : Pin} {e a b c : Expr} {pos : Pos}
theorem Sim.leneq {K : PySem.W.Frag} {fm : Fm} {Hs : Hp} {vs : VS} {σ : L2.St} {H : Hp} {xf : List Addr} (S : Sim K fm Hs vs σ H xf) : vs.length = σ.length := let ⟨ft, s⟩ := S; s.len
theorem dg_name {i : Nat} {x : Str} (hp : i ∉ P.ix) (hN : X.N.Nodup) (hi : X.N[i]? = some x) (hx : Loc X.env.scope x) (hf : X.fn x = true ∨ X.env.scope.names.lookup x = some .local) : PG X (.Name x pos) (tG X.K P (.nm i)) := PG_weak (pg_name hN hi hx hf) fun v σ H Q ⟨fm, Hs, vs, vs', d, hF, hP, hS, r, hk⟩ => by
  unfold asg at hF
  split at hF
  · rename_i hl
    cases hF
    refine hk _ (hS.set (.d r) (by rw [← hS.leneq]; exact hl) (by rw [hP.1]; exact hp)) ⟨by simp, fun j hj => ?_⟩
    rw [List.getElem?_set_ne]
    intro q
    exact hj (by rw [← q]; simp [Tg.ix])
  · cases hF
theorem dgs_nil : PGs X [] (tGs X.K P []) := PGs_weak pgs_nil fun us σ H Q ⟨fm, Hs, vs, vs', ds, hF, hP, hS, r, hk⟩ => by
  cases r with
  | nil =>
    cases hF
    exact ⟨rfl, hk σ hS ⟨rfl, fun _ _ => rfl⟩⟩
  | cons _ _ => cases hF
theorem dgs_cons {es : List Expr} {t : Tg} {ts : List Tg} (h1 : PG X e (tG X.K P t)) (h2 : PGs X es (tGs X.K P ts)) (hs : (assignEach (e :: es) X.env).map (·.2) = assign e X.env :: (assignEach es X.env).map (·.2)) : PGs X (e :: es) (tGs X.K P (t :: ts)) :=
  PGs_weak (pgs_cons h1 h2 hs) fun us σ H Q ⟨fm, Hs, vs, vs', ds, hF, hP, hS, r, hk⟩ => by
    cases r with
    | nil => cases hF
    | cons r1 r2 =>
      unfold asgs at hF
      split at hF
      · rename_i s1 e1
        refine ⟨_, _, rfl, fm, Hs, vs, s1, _, e1, hP, hS, r1, fun σ1 S1 q1 => ?_⟩
        refine ⟨fm, Hs, s1, vs', _, hF, hP, S1, r2, fun σ2 S2 q2 => hk σ2 S2 ⟨q2.1.trans q1.1, fun j hj => ?_⟩⟩
        rw [q2.2 j fun z => hj (by unfold Tg.ixs; exact List.mem_append_right _ z), q1.2 j fun z => hj (by unfold Tg.ixs; exact List.mem_append_left _ z)]
      · cases hF
theorem asgs_len : ∀ {ts : List Tg} {ds : List D} {s s' : VS}, asgs ts ds s = some s' → ts.length = ds.length
  | [], [], _, _, _ => rfl
  | t :: ts, d :: ds, s, s', h => by
    unfold asgs at h
    split at h
    · rw [List.length_cons, List.length_cons, asgs_len h]
    · cases h
  | [], _ :: _, _, _, h => by cases h
  | _ :: _, [], _, _, h => by cases h
theorem dg_tup {es : List Expr} {k n : Nat} {ts : List Tg} (hc : X.calm = true) (h : PGs X es (tGs X.K P ts)) (hl : ts.length = n) (hn : (assignEach es X.env).length = n) (hst : (assignEach es X.env).findIdx? (·.1) = none) : PG X (.Tuple es k pos) (tG X.K P (.tp ts)) :=
  PG_weak (pg_tup hc h hn hst) fun v σ H Q ⟨fm, Hs, vs, vs', d, hF, hP, hS, r, hk⟩ => by
    unfold asg at hF
    split at hF
    · rename_i ds
      cases r with
      | tup h1 h2 =>
        exact ⟨_, _, rfl, SqT.of (hS.sub _ _ h1), by rw [h2.length, ← asgs_len hF]; exact hl, fm, Hs, vs, vs', ds, hF, hP, hS, h2, fun σ' S' q => hk σ' S' (by unfold Tg.ix; exact q)⟩
    · cases hF
def sSetT (tg : Tg) (F : M D) : M Fl := bd F fun d s => match asg tg d s with
  | some s1 => some (.ok .nx, s1)
  | none => none
theorem ds_setT {tg : Expr} {t : Tg} {Fe : M D} (hg : PG X tg (tG X.K P t)) (he : PE X e (tE X.K W P Fe)) (hs : swapsWithSole [tg] e pos.line X.env = pure false) (hw : swappedStores [tg] e X.env = pure none) (h1 : (assignEach [tg] X.env).map (·.2) = [assign tg X.env]) :
    PS X (.Assign [tg] e pos) (tS X.K W P (sSetT t Fe)) := PS_weak (ps_asg he hg hs hw h1) fun E σ H ⟨fm, Hs, vs, r, vs', hF, hP, hS, hk⟩ => by
  dsimp only [tAsg]
  refine goS hF hP hS hk fun d vs1 v H1 Hs1 xf hg S1 X1 ⟨rx, ex⟩ => ?_
  subst ex
  split at hg
  · rename_i s1 e1
    cases hg
    exact ⟨fm, Hs1, vs1, vs', d, e1, hP, S1, rx, fun σ' S' _ => hk.nx σ' H1 Hs1 rfl S' X1⟩
  · cases hg
end
def ItOk (K : PySem.W.Frag) (Hs : Hp) (J : It) (ds : List D) : Prop :=
  (∀ i H, Ex Hs H → ds.length ≤ i → J.stop i H) ∧
  ∀ i d H, Ex Hs H → ds[i]? = some d → J.go i H ∧ ∀ x H', J.yld i H x H' → (H' = H ∧ Rep K Hs x d) ∨ ∃ T vs es, H T = none ∧ x = .ref T ∧ H' = upd H T (.tup vs) ∧ d = .tup es ∧ RepL K Hs vs es
theorem ItOk.mono {K : PySem.W.Frag} {Hs Hs' : Hp} {J : It} {ds : List D} (h : ItOk K Hs J ds) (e : Ex Hs Hs') : ItOk K Hs' J ds :=
  ⟨fun i H x => h.1 i H (e.trans x), fun i d H x q => by
    obtain ⟨g, y⟩ := h.2 i d H (e.trans x) q
    refine ⟨g, fun v H' hy => ?_⟩
    rcases y v H' hy with ⟨a, b⟩ | ⟨T, vs, es, a, b, c, d, f⟩
    · exact .inl ⟨a, b.mono e⟩
    · exact .inr ⟨T, vs, es, a, b, c, d, f.mono e⟩⟩
abbrev tI (K : PySem.W.Frag) (W : WX) (P : Pin) (F : M (List D)) : TI := tF K W P (fun Hs _ _ J ds xf => ItOk K Hs J ds ∧ xf = []) F
theorem PI_weak {X : Cx} {tg e : Expr} {t t' : TI} (h : PI X tg e t) (hw : ∀ σ H R, t' σ H R → t σ H R) : PI X tg e t' := ⟨fun pins s σ H R I q => h.run pins s σ H R I (hw σ H R q)⟩
theorem PI_or {X : Cx} {tg e : Expr} {t t' : TI} (h : PI X tg e t) (h' : PI X tg e t') : PI X tg e (fun σ H R => t σ H R ∨ t' σ H R) := ⟨fun pins s σ H R I q => by
  rcases q with q | q
  · exact h.run pins s σ H R I q
  · exact h'.run pins s σ H R I q⟩
theorem itok_list {K : PySem.W.Frag} {Hs : Hp} {a : Addr} {us : List V} {ds : List D} (h1 : ∀ H, Ex Hs H → SqL K H a us) (inj : ∀ H xs, Ex Hs H → SqL K H a xs → True) (h2 : RepL K Hs us ds) : ItOk K Hs (Itl K a) ds := by
  refine ⟨fun i H e hi => ⟨us, h1 H e, by rw [h2.length]; exact hi⟩, fun i d H e hd => ?_⟩
  obtain ⟨v, ev, rv⟩ := h2.get hd
  refine ⟨⟨us, v, h1 H e, ev⟩, fun x H' hy => ?_⟩
  obtain ⟨q1, q2⟩ := hy
  have := q2 us (h1 H e)
  rw [ev] at this
  cases this
  exact .inl ⟨q1, rv⟩
theorem itok_tup {K : PySem.W.Frag} {Hs : Hp} {a : Addr} {us : List V} {ds : List D} (h1 : ∀ H, Ex Hs H → SqT K H a us) (h2 : RepL K Hs us ds) : ItOk K Hs (Itt K a) ds := by
  refine ⟨fun i H e hi => ⟨us, h1 H e, by rw [h2.length]; exact hi⟩, fun i d H e hd => ?_⟩
  obtain ⟨v, ev, rv⟩ := h2.get hd
  refine ⟨⟨us, v, h1 H e, ev⟩, fun x H' hy => ?_⟩
  obtain ⟨q1, q2⟩ := hy
  have := q2 us (h1 H e)
  rw [ev] at this
  cases this
  exact .inl ⟨q1, rv⟩
def signs (z : Str) : List D := z.cps.toList.map fun c => D.str ⟨#[c]⟩
def iSeq (F : M D) : M (List D) := bd F fun d s => match d with
  | .lst xs => some (.ok xs, s)
  | .tup xs => some (.ok xs, s)
  | .scr ns => some (.ok (ns.map D.int), s)
  | .str z => some (.ok (signs z), s)
  | _ => none
section
variable {X : Cx} {W : WX} {P : Pin} {e a b c tg : Expr} {pos : Pos} {F : M D}
theorem di_seq (h : PE X e (tE X.K W P F)) : PI X tg e (tI X.K W P (iSeq F)) := PI_weak (PI_or (pi_list h) (PI_or (pi_tup h) (pi_str h))) fun σ H R ⟨fm, Hs, vs, r', vs', hF, hP, hS, hk, hE⟩ => by
  rcases bd_cases hF with ⟨d, s1, e1, h1⟩ | ⟨x, s1, e1, h1⟩
  · split at h1
    · rename_i xs
      cases h1
      refine .inl ?_
      show tE X.K W P F σ H _
      refine ⟨fm, Hs, vs, _, vs', e1, hP, hS, fun a v H' Hs' xf q S' X' ⟨r1, r2⟩ => ?_, fun x c dd H' Hs' q => (by cases q)⟩
      cases q
      subst r2
      cases r1 with
      | lst k1 k2 => exact ⟨_, rfl, ⟨_, SqL.of (S'.sub _ _ k1)⟩, hk _ _ H' Hs' [] rfl S' X' ⟨itok_list (fun H e => SqL.of (e _ _ k1)) (fun _ _ _ _ => trivial) k2, rfl⟩⟩
    · rename_i xs
      cases h1
      refine .inr (.inl ?_)
      show tE X.K W P F σ H _
      refine ⟨fm, Hs, vs, _, vs', e1, hP, hS, fun a v H' Hs' xf q S' X' ⟨r1, r2⟩ => ?_, fun x c dd H' Hs' q => (by cases q)⟩
      cases q
      subst r2
      cases r1 with
      | tup k1 k2 => exact ⟨_, rfl, ⟨_, SqT.of (S'.sub _ _ k1)⟩, hk _ _ H' Hs' [] rfl S' X' ⟨itok_tup (fun H e => SqT.of (e _ _ k1)) k2, rfl⟩⟩
    · rename_i ns
      cases h1
      refine .inl ?_
      show tE X.K W P F σ H _
      refine ⟨fm, Hs, vs, _, vs', e1, hP, hS, fun a v H' Hs' xf q S' X' ⟨r1, r2⟩ => ?_, fun x c dd H' Hs' q => (by cases q)⟩
      cases q
      subst r2
      cases r1 with
      | scr k1 => exact ⟨_, rfl, ⟨_, Evl.ex_l S'.sub k1⟩, hk _ _ H' Hs' [] rfl S' X' ⟨itok_list (fun H e => Evl.ex_l e k1) (fun _ _ _ _ => trivial) (RepL.of_ints _), rfl⟩⟩
    · rename_i z
      cases h1
      refine .inr (.inr ?_)
      show tE X.K W P F σ H _
      refine ⟨fm, Hs, vs, _, vs', e1, hP, hS, fun a v H' Hs' xf q S' X' ⟨r1, r2⟩ => ?_, fun x c dd H' Hs' q => (by cases q)⟩
      cases q
      subst r2
      cases r1
      refine ⟨z, rfl, hk _ _ H' Hs' [] rfl S' X' ⟨⟨fun i H e hi => ?_, fun i d H e hd => ?_⟩, rfl⟩⟩
      · show z.cps.size ≤ i
        unfold signs at hi
        rw [List.length_map, Array.length_toList] at hi
        exact hi
      · unfold signs at hd
        rw [List.getElem?_map] at hd
        cases q : z.cps.toList[i]? with
        | none => rw [q] at hd; cases hd
        | some c =>
          rw [q] at hd; cases hd
          rw [Array.getElem?_toList] at q
          refine ⟨(Array.getElem?_eq_some_iff.mp q).1, fun x H' hy => ?_⟩
          obtain ⟨q1, c', q2, q3⟩ := hy
          rw [q] at q2; cases q2
          subst q3
          exact .inl ⟨q1, .str _⟩
    · cases h1
  · obtain ⟨rfl, rfl⟩ := Prod.mk.inj h1
    refine .inl ?_
    show tE X.K W P F σ H _
    exact ⟨fm, Hs, vs, _, _, e1, hP, hS, fun _ _ _ _ _ q => (by cases q), fun x' c dd H' Hs' q => hE x' c dd H' Hs' (by cases q; rfl)⟩
theorem itok_rng {K : PySem.W.Frag} {Hs : Hp} (lo : Int) (n : Nat) : ItOk K Hs (Itr lo n) (rgD lo n) := by
  refine ⟨fun i H _ hi => ?_, fun i d H _ hd => ?_⟩
  · unfold rgD at hi
    rw [List.length_map, List.length_range] at hi
    exact hi
  · unfold rgD at hd
    rw [List.getElem?_map] at hd
    cases q : (List.range n)[i]? with
    | none => rw [q] at hd; cases hd
    | some j =>
      rw [q] at hd; cases hd
      have hi : i < n := by
        have := (List.getElem?_eq_some_iff.mp q).1
        rw [List.length_range] at this
        exact this
      rw [List.getElem?_range hi] at q
      cases q
      refine ⟨hi, fun x H' hy => .inl ⟨hy.1, ?_⟩⟩
      rw [hy.2]
      exact .int _
def iRng1F (F : M D) : M (List D) := bd F fun d s => match d with
  | .int n => if -100000 ≤ n ∧ n ≤ 100000 then some (.ok (rgD 0 n.toNat), s) else none
  | _ => none
theorem di_rng1 {p : Pos} (hg : Gl X "range") (hm : X.mg "range" = none) (h : PE X a (tE X.K W P F)) (hs : starEach [a] X.env = [(false, eval a X.env)]) : PI X tg (.Call (.Name "range" p) [a] [] pos) (tI X.K W P (iRng1F F)) :=
  PI_weak (pi_range1 hg hm (pa_cons h pa_nil (by rw [hs]; rfl)) hs) fun σ H R ⟨fm, Hs, vs, r', vs', hF, hP, hS, hk, hE⟩ => by
    dsimp only [iRng1, tCons, tNil]
    refine go hF hP hS hE fun d vs1 v H1 Hs1 xf hg S1 X1 ⟨rx, ex⟩ => ?_
    subst ex
    split at hg
    · split at hg
      · rename_i hl
        cases hg; cases rx
        exact ⟨_, rfl, by omega, by omega, hk _ _ H1 Hs1 [] rfl S1 X1 ⟨itok_rng 0 _, rfl⟩⟩
      · cases hg
    · cases hg
def dRng2 : D → D → Option (List D)
  | .int i, .int j => if (-100000 ≤ i ∧ i ≤ 100000) ∧ (-100000 ≤ j ∧ j ≤ 100000) then some (rgD i (j - i).toNat) else none
  | _, _ => none
def iRng2F (F G : M D) : M (List D) := bd F fun d => bd G fun d2 s => match dRng2 d d2 with
  | some l => some (.ok l, s)
  | none => none
theorem di_rng2 {G : M D} {p : Pos} (hg : Gl X "range") (hm : X.mg "range" = none) (h : PE X a (tE X.K W P F)) (h2 : PE X b (tE X.K W P G)) (hs : starEach [a, b] X.env = [(false, eval a X.env), (false, eval b X.env)]) (hs2 : starEach [b] X.env = [(false, eval b X.env)]) : PI X tg (.Call (.Name "range" p) [a, b] [] pos) (tI X.K W P (iRng2F F G)) :=
  PI_weak (pi_range2 hg hm (pa_cons h (pa_cons h2 pa_nil (by rw [hs2]; rfl)) (by rw [hs, hs2])) hs hs2) fun σ H R ⟨fm, Hs, vs, r', vs', hF, hP, hS, hk, hE⟩ => by
    dsimp only [iRng2, tCons, tNil]
    refine go hF hP hS hE fun d vs1 v H1 Hs1 xf hg S1 X1 ⟨rx, ex⟩ => ?_
    subst ex
    refine go hg hP S1 (fun x c dd H' Hs' q S' X' o => hE x c dd H' Hs' q S' (X1.trans X') o) fun d2 vs2 y H2 Hs2 xf hg S2 X2 ⟨ry, ex⟩ => ?_
    subst ex
    split at hg
    · rename_i l el
      cases hg
      unfold dRng2 at el
      split at el
      · split at el
        · rename_i hl
          cases el; cases rx; cases ry
          exact ⟨_, _, rfl, ⟨by omega, by omega, by omega, by omega⟩, hk _ _ H2 Hs2 [] rfl S2 (X1.trans X2) ⟨itok_rng _ _, rfl⟩⟩
        · cases el
      · cases el
    · cases hg
end
def loopF (tg : Tg) (B : M Fl) : List D → M Fl
  | [] => rt .nx
  | d :: r => fun s => match asg tg d s with
    | none => none
    | some s1 => bd B (fun f => match f with
      | .nx => loopF tg B r
      | .ct => loopF tg B r
      | .bk => rt .nx
      | .rt l => rt (.rt l)) s1
def sFor (Fi : M (List D)) (tg : Tg) (B : M Fl) : M Fl := bd Fi fun ds => loopF tg B ds
section
variable {X : Cx} {W : WX} {P : Pin} {e a b c tg : Expr} {pos : Pos} {F : M D}
theorem yld_ok {K : PySem.W.Frag} {fm : Fm} {Hs : Hp} {vs : VS} {σ : L2.St} {H H' : Hp} {x : V} {d : D} {xf : List Addr} (S : Sim K fm Hs vs σ H xf) (h : (H' = H ∧ Rep K Hs x d) ∨ ∃ T vs es, H T = none ∧ x = .ref T ∧ H' = upd H T (.tup vs) ∧ d = .tup es ∧ RepL K Hs vs es) :
    ∃ Hs', Sim K fm Hs' vs σ H' xf ∧ Ex Hs Hs' ∧ Rep K Hs' x d := by
  rcases h with ⟨rfl, r⟩ | ⟨T, us, es, hT, rfl, rfl, rfl, r⟩
  · exact ⟨Hs, S, Ex.refl _, r⟩
  · have hn : Hs T = none := Evl.fresh_back S.sub hT
    exact ⟨_, S.alloc hT _, Ex.new hn, .tup upd_same (r.mono (Ex.new hn))⟩
theorem ds_for {iter : Expr} {body : List Stmt} {Fi : M (List D)} {t : Tg} {B : M Fl} (hp : PassesOwn (model X.prog X.w) X.A X.env X.xe) (hc : X.calm = true) (hi : PI X tg iter (tI X.K W P Fi)) (hg : PG X tg (tG X.K P t)) (hb : PSs X body (tS X.K W P B)) (hs : ∀ x, foldedSetIterable iter X.env x = pure x) :
    PS X (.For tg iter body [] pos) (tS X.K W P (sFor Fi t B)) := PS_weak (ps_for hp hc hi hg hb hs) fun E σ H ⟨fm, Hs, vs, r, vs', hF, hP, hS, hk⟩ => by
  dsimp only [tFor]
  refine goS hF hP hS hk fun ds vs1 J H1 Hs1 xf hg S1 X1 ⟨ok, ex⟩ => ?_
  subst ex
  refine ⟨fun i m σ H => m = ds.length - i ∧ ∃ s Hs2, loopF t B (ds.drop i) s = some (r, vs') ∧ Sim X.K fm Hs2 s σ H [] ∧ Ex Hs1 Hs2, ⟨_, rfl, vs1, Hs1, by rw [List.drop_zero]; exact hg, S1, Ex.refl _⟩, ?_⟩
  rintro i m σ2 H2 ⟨rfl, s, Hs2, hl, S2, X2⟩
  cases hd : ds[i]? with
  | none =>
    have hle : ds.length ≤ i := List.getElem?_eq_none_iff.mp hd
    rw [List.drop_eq_nil_of_le hle] at hl
    cases hl
    exact .inl ⟨ok.1 i H2 (X2.trans S2.sub) hle, hk.nx σ2 H2 Hs2 rfl S2 (X1.trans X2)⟩
  | some d =>
    have hlt : i < ds.length := (List.getElem?_eq_some_iff.mp hd).1
    have hdr : ds.drop i = d :: ds.drop (i + 1) := by
      rw [List.drop_eq_getElem_cons hlt]
      have := (List.getElem?_eq_some_iff.mp hd).2
      rw [this]
    rw [hdr] at hl
    unfold loopF at hl
    split at hl
    · cases hl
    · rename_i s1 e1
      obtain ⟨g1, y1⟩ := ok.2 i d H2 (X2.trans S2.sub) hd
      refine .inr ⟨g1, fun σ' H' => ∃ s' Hs', loopF t B (ds.drop (i + 1)) s' = some (r, vs') ∧ Sim X.K fm Hs' s' σ' H' [] ∧ Ex Hs1 Hs', ?_, fun x H' hy => ?_⟩
      · rintro σ' H' ⟨s', Hs', q1, q2, q3⟩
        exact ⟨_, by omega, rfl, s', Hs', q1, q2, q3⟩
      · have hyy := y1 x H' hy
        have hyy : (H' = H2 ∧ Rep X.K Hs2 x d) ∨ ∃ T vs es, H2 T = none ∧ x = .ref T ∧ H' = upd H2 T (.tup vs) ∧ d = .tup es ∧ RepL X.K Hs2 vs es := by
          rcases hyy with ⟨a, b⟩ | ⟨T, vs, es, a, b, c, d, f⟩
          · exact .inl ⟨a, b.mono X2⟩
          · exact .inr ⟨T, vs, es, a, b, c, d, f.mono X2⟩
        obtain ⟨Hs3, S3, X3, r3⟩ := yld_ok S2 hyy
        refine ⟨fm, Hs3, s, s1, d, e1, hP, S3, r3, fun σ3 S4 _ => ?_⟩
        rcases bd_cases hl with ⟨f, s5, e5, h5⟩ | ⟨z, s5, e5, h5⟩
        · refine ⟨fm, Hs3, s1, _, s5, e5, hP, S4, ⟨fun σ' H' Hs' q S' X' => ?_, fun σ' H' Hs' q S' X' => ?_, fun σ' H' Hs' q S' X' => ?_, fun l v σ' H' Hs' xf q S' X' o => ?_, fun x c dd σ' H' Hs' q => (by cases q)⟩⟩
          · cases q
            exact ⟨s5, Hs', h5, S', (X2.trans X3).trans X'⟩
          · cases q
            cases h5
            exact hk.nx σ' H' Hs' rfl S' (((X1.trans X2).trans X3).trans X')
          · cases q
            exact ⟨s5, Hs', h5, S', (X2.trans X3).trans X'⟩
          · cases q
            cases h5
            exact hk.rt l v σ' H' Hs' xf rfl S' (((X1.trans X2).trans X3).trans X') o
        · obtain ⟨rfl, rfl⟩ := Prod.mk.inj h5
          exact ⟨fm, Hs3, s1, _, _, e5, hP, S4, ⟨fun σ' H' Hs' q => (by cases q), fun σ' H' Hs' q => (by cases q), fun σ' H' Hs' q => (by cases q), fun l v σ' H' Hs' xf q => (by cases q), fun x c dd σ' H' Hs' q S' X' o => hk.er x c dd σ' H' Hs' (by cases q; rfl) S' (((X1.trans X2).trans X3).trans X') o⟩⟩
def sWhile (C : M Bool) (B : M Fl) : Nat → M Fl
  | 0 => fun _ => none
  | n + 1 => bd C fun k => if k = true then bd B (fun f => match f with
      | .nx => sWhile C B n
      | .ct => sWhile C B n
      | .bk => rt .nx
      | .rt l => rt (.rt l)) else rt .nx
theorem ds_while {C : M Bool} {B : M Fl} {body : List Stmt} (n : Nat) (hp : PassesOwn (model X.prog X.w) X.A X.env X.xe) (hc : PT X c (tB X.K W P C)) (hb : PSs X body (tS X.K W P B)) : PS X (.While c body [] pos) (tS X.K W P (sWhile C B n)) := PS_weak (ps_while hp hc hb) fun E σ H ⟨fm, Hs, vs, r, vs', hF, hP, hS, hk⟩ => by
  refine ⟨fun m σ H => ∃ s Hs2, sWhile C B m s = some (r, vs') ∧ Sim X.K fm Hs2 s σ H [] ∧ Ex Hs Hs2, ⟨n, vs, Hs, hF, hS, Ex.refl _⟩, ?_⟩
  rintro m σ2 H2 ⟨s, Hs2, hl, S2, X2⟩
  cases m with
  | zero => cases hl
  | succ m =>
    unfold sWhile at hl
    refine goS hl hP S2 (hk.mono X2) fun k vs1 k' H1 Hs1 xf hg S1 X1 ⟨rx, ex⟩ => ?_
    subst ex; subst rx
    cases k' with
    | false =>
      rw [if_neg Bool.false_ne_true] at hg ⊢
      cases hg
      exact hk.nx σ2 H1 Hs1 rfl S1 (X2.trans X1)
    | true =>
      rw [if_pos rfl] at hg ⊢
      refine ⟨fun σ' H' => ∃ s' Hs', sWhile C B m s' = some (r, vs') ∧ Sim X.K fm Hs' s' σ' H' [] ∧ Ex Hs Hs', fun σ' H' q => ⟨m, Nat.lt_succ_self m, q⟩, ?_⟩
      rcases bd_cases hg with ⟨f, s5, e5, h5⟩ | ⟨z, s5, e5, h5⟩
      · refine ⟨fm, Hs1, vs1, _, s5, e5, hP, S1, ⟨fun σ' H' Hs' q S' X' => ?_, fun σ' H' Hs' q S' X' => ?_, fun σ' H' Hs' q S' X' => ?_, fun l v σ' H' Hs' xf q S' X' o => ?_, fun x c dd σ' H' Hs' q => (by cases q)⟩⟩
        · cases q
          exact ⟨s5, Hs', h5, S', (X2.trans X1).trans X'⟩
        · cases q
          cases h5
          exact hk.nx σ' H' Hs' rfl S' ((X2.trans X1).trans X')
        · cases q
          exact ⟨s5, Hs', h5, S', (X2.trans X1).trans X'⟩
        · cases q
          cases h5
          exact hk.rt l v σ' H' Hs' xf rfl S' ((X2.trans X1).trans X') o
      · obtain ⟨rfl, rfl⟩ := Prod.mk.inj h5
        exact ⟨fm, Hs1, vs1, _, _, e5, hP, S1, ⟨fun σ' H' Hs' q => (by cases q), fun σ' H' Hs' q => (by cases q), fun σ' H' Hs' q => (by cases q), fun l v σ' H' Hs' xf q => (by cases q), fun x c dd σ' H' Hs' q S' X' o => hk.er x c dd σ' H' Hs' (by cases q; rfl) S' ((X2.trans X1).trans X') o⟩⟩
end
end Ev
namespace Ev
open PySem PySem.Spec PyProof.Rows L2
open Evl (Ex)
def Fm.park (fm : Fm) (a : Addr) (o : HO) : Fm := { fm with B := upd fm.B a o }
section
variable {K : PySem.W.Frag} {fm : Fm} {Hs : Hp} {vs : VS} {σ : L2.St} {H : Hp} {a : Addr} {o : HO}
theorem PnOk.park {P : Pin} (h : PnOk K fm P) (hB : fm.B a = none) : PnOk K (fm.park a o) P := ⟨h.1, fun i b dd x e => ⟨(h.2 i b dd x e).1, fun fs ds ef => by
  obtain ⟨d, kvs, e1, e2, e3, e4⟩ := (h.2 i b dd x e).2 fs ds ef
  refine ⟨d, kvs, e1, ?_, e3, e4⟩
  show upd fm.B a o d = _
  rw [upd_ne fun z => by rw [z, hB] at e2; cases e2]
  exact e2⟩⟩
theorem Sim.park (S : Sim K fm Hs vs σ H [a]) (ha : H a = some o) : Sim K (fm.park a o) Hs vs σ H [] := by
  obtain ⟨ft, s⟩ := S
  obtain ⟨hs, hb, hh⟩ := s.xsp a (by simp)
  refine ⟨ft, ⟨s.sub, fun b u e => ?_, s.grow, fun b e => ?_, s.len, s.ok, s.nd, s.dj, fun i b hb' => ?_, by simp, fun _ _ _ q => by simp at q, fun _ q => by simp at q, s.pins⟩⟩
  · have e : upd fm.B a o b = some u := e
    by_cases q : b = a
    · subst q; rw [upd_same] at e; cases e; exact ha
    · rw [upd_ne q] at e; exact s.base b u e
  · rcases s.new b e with h | h
    · exact .inl h
    · refine .inr ?_
      show upd fm.B a o b = none
      rw [upd_ne]
      · exact h
      · intro q; rw [q] at e; exact e hs
  · obtain ⟨h1, h2, h3⟩ := s.sp i b hb'
    refine ⟨h1, ?_, h3⟩
    show upd fm.B a o b = none
    rw [upd_ne]
    · exact h2
    · intro q; exact s.xdj i b hb' (by simp [q])
theorem Sim.unpark (S : Sim K (fm.park a o) Hs vs σ H []) (hB : fm.B a = none) (hS : fm.S a = none) : H a = some o ∧ Sim K fm Hs vs σ H [a] := by
  obtain ⟨ft, s⟩ := S
  have hb : (fm.park a o).B a = some o := upd_same
  have ha : H a = some o := s.base a o hb
  have hs : Hs a = none := by
    cases q : Hs a with
    | none => rfl
    | some u =>
      rcases s.new a (by rw [q]; simp) with h | h
      · exact absurd hS h
      · rw [hb] at h; cases h
  refine ⟨ha, ft, ⟨s.sub, fun b u e => ?_, s.grow, fun b e => ?_, s.len, s.ok, s.nd, s.dj, fun i b hb' => ?_, by simp, fun i b hb' q => ?_, fun b q => ?_, s.pins⟩⟩
  · have : b ≠ a := fun z => by rw [z, hB] at e; cases e
    exact s.base b u (show upd fm.B a o b = some u by rw [upd_ne this]; exact e)
  · rcases s.new b e with h | h
    · exact .inl h
    · have h : upd fm.B a o b = none := h
      have : b ≠ a := fun z => by rw [z, upd_same] at h; cases h
      rw [upd_ne this] at h
      exact .inr h
  · obtain ⟨h1, h2, h3⟩ := s.sp i b hb'
    have h2 : upd fm.B a o b = none := h2
    have : b ≠ a := fun z => by rw [z, upd_same] at h2; cases h2
    rw [upd_ne this] at h2
    exact ⟨h1, h2, h3⟩
  · have q : b = a := by simpa using q
    obtain ⟨h1, h2, h3⟩ := s.sp i b hb'
    rw [q, hb] at h2; cases h2
  · have q : b = a := by simpa using q
    subst q
    exact ⟨hs, hB, by rw [ha]; simp⟩
theorem Sim.writeX {u : HO} (S : Sim K fm Hs vs σ H [a]) : Sim K fm Hs vs σ (upd H a u) [a] := by
  obtain ⟨ft, s⟩ := S
  obtain ⟨hs, hb, hh⟩ := s.xsp a (by simp)
  have up : ∀ b, H b ≠ none → upd H a u b ≠ none := fun b h => by
    unfold upd; split
    · simp
    · exact h
  refine ⟨ft, ⟨fun b x e => ?_, fun b x e => ?_, s.grow, s.new, s.len, fun i l e => ?_, s.nd, s.dj, fun i b hb' => ?_, s.xnd, s.xdj, fun b q => ?_, s.pins⟩⟩
  · rw [upd_ne fun z => by rw [z, hs] at e; cases e]; exact s.sub b x e
  · rw [upd_ne fun z => by rw [z, hb] at e; cases e]; exact s.base b x e
  · obtain ⟨v, e1, r⟩ := s.ok i l e
    exact ⟨v, e1, r.mono (Ex.refl _) l fun b hb' => upd_ne fun z => s.xdj i b hb' (by simp [z])⟩
  · obtain ⟨h1, h2, h3⟩ := s.sp i b hb'
    exact ⟨h1, h2, up b h3⟩
  · obtain ⟨h1, h2, h3⟩ := s.xsp b q
    exact ⟨h1, h2, up b h3⟩
end
def wipeV (s : VS) : List Nat → VS
  | [] => s
  | i :: is => (wipeV s is).set i none
def keepD (o : Option (Option L)) : Option L := match o with
  | some (some (.d x)) => some (.d x)
  | _ => none
def restV (s0 s : VS) : List Nat → VS
  | [] => s
  | i :: is => (restV s0 s is).set i (keepD s0[i]?)
theorem wipeV_get {s : VS} {j : Nat} {l : L} : ∀ {is : List Nat}, (wipeV s is)[j]? = some (some l) → s[j]? = some (some l) ∧ j ∉ is
  | [], h => ⟨h, by simp⟩
  | i :: is, h => by
    unfold wipeV at h
    by_cases q : i = j
    · subst q
      by_cases hl : i < (wipeV s is).length
      · rw [List.getElem?_set_self hl] at h; cases h
      · rw [List.getElem?_eq_none (by simpa using hl)] at h; cases h
    · rw [List.getElem?_set_ne q] at h
      obtain ⟨h1, h2⟩ := wipeV_get h
      exact ⟨h1, by simp only [List.mem_cons, not_or]; exact ⟨fun z => q z.symm, h2⟩⟩
theorem wipeV_len (s : VS) : ∀ is : List Nat, (wipeV s is).length = s.length
  | [] => rfl
  | i :: is => by unfold wipeV; rw [List.length_set, wipeV_len s is]
theorem restV_len (s0 s : VS) : ∀ is : List Nat, (restV s0 s is).length = s.length
  | [] => rfl
  | i :: is => by unfold restV; rw [List.length_set, restV_len s0 s is]
theorem wipe_out {σ : L2.St} {j : Nat} : ∀ {is : List Nat}, j ∉ is → (wipe σ is)[j]? = σ[j]?
  | [], _ => rfl
  | i :: is, h => by
    simp only [List.mem_cons, not_or] at h
    unfold wipe
    rw [List.getElem?_set_ne fun z => h.1 z.symm, wipe_out h.2]
theorem restV_get {s0 s : VS} {j : Nat} {l : L} : ∀ {is : List Nat}, (restV s0 s is)[j]? = some (some l) → (j ∉ is ∧ s[j]? = some (some l)) ∨ (j ∈ is ∧ ∃ x, l = .d x ∧ s0[j]? = some (some (.d x)))
  | [], h => .inl ⟨by simp, h⟩
  | i :: is, h => by
    unfold restV at h
    by_cases q : i = j
    · subst q
      by_cases hl : i < (restV s0 s is).length
      · rw [List.getElem?_set_self hl] at h
        have h : keepD s0[i]? = some l := Option.some.inj h
        unfold keepD at h
        split at h
        · rename_i x e
          cases h
          exact .inr ⟨by simp, x, rfl, e⟩
        · cases h
      · rw [List.getElem?_eq_none (by simpa using hl)] at h; cases h
    · rw [List.getElem?_set_ne q] at h
      rcases restV_get h with ⟨h1, h2⟩ | ⟨h1, h2⟩
      · exact .inl ⟨by simp only [List.mem_cons, not_or]; exact ⟨fun z => q z.symm, h1⟩, h2⟩
      · exact .inr ⟨List.mem_cons_of_mem _ h1, h2⟩
theorem wipe_eq {σ σ' : L2.St} {I : List Nat} : ∀ {is : List Nat}, Same1 I σ σ' → (∀ j ∈ I, j ∈ is) → wipe σ' is = wipe σ is := fun {is} q hI => by
  apply List.ext_getElem?
  intro j
  by_cases hj : j ∈ is
  · have none_at : ∀ (τ : L2.St) (is : List Nat), j ∈ is → (wipe τ is)[j]? = if j < τ.length then some none else none := by
      intro τ is
      induction is with
      | nil => intro h; simp at h
      | cons i is ih =>
        intro h
        unfold wipe
        by_cases z : i = j
        · subst z
          by_cases hl : i < τ.length
          · rw [List.getElem?_set_self (by rw [wipe_length]; exact hl), if_pos hl]
          · rw [List.getElem?_eq_none (by rw [List.length_set, wipe_length]; omega), if_neg hl]
        · rw [List.getElem?_set_ne z]
          exact ih ((List.mem_cons.mp h).resolve_left fun y => z y.symm)
    rw [none_at σ' is hj, none_at σ is hj, q.1]
  · rw [wipe_out hj, wipe_out hj]
    exact q.2 j fun z => hj (hI j z)
section
variable {K : PySem.W.Frag} {fm : Fm} {Hs : Hp} {vs : VS} {σ : L2.St} {H : Hp} {xf : List Addr}
theorem Sim.wipe (S : Sim K fm Hs vs σ H xf) (is : List Nat) (hp : ∀ i ∈ is, i ∉ fm.pin.map (·.1)) : Sim K fm Hs (wipeV vs is) (L2.wipe σ is) H xf := by
  obtain ⟨ft, s⟩ := S
  refine ⟨ft, ⟨s.sub, s.base, s.grow, s.new, by rw [wipeV_len, wipe_length]; exact s.len, fun j l e => ?_, s.nd, s.dj, s.sp, s.xnd, s.xdj, s.xsp, fun p hp' => ?_⟩⟩
  · obtain ⟨h1, h2⟩ := wipeV_get e
    obtain ⟨v, e1, r⟩ := s.ok j l h1
    exact ⟨v, by rw [wipe_out h2]; exact e1, r⟩
  · rw [wipe_out fun z => hp p.1 z (List.mem_map_of_mem hp')]
    exact s.pins p hp'
theorem Sim.rest {Hs0 : Hp} {s0 : VS} {H0 : Hp} {is : List Nat} {xf0 : List Addr} (S0 : Sim K fm Hs0 s0 σ H0 xf0) (e : Ex Hs0 Hs) (S : Sim K fm Hs vs (L2.wipe σ is) H xf) (hw : ∀ i ∈ is, ∀ l, vs[i]? ≠ some (some l)) : Sim K fm Hs (restV s0 vs is) σ H xf := by
  obtain ⟨ft, s⟩ := S
  refine ⟨fun j => if j ∈ is then [] else ft j, ⟨s.sub, s.base, s.grow, s.new, by rw [restV_len, s.len, wipe_length], fun j l ej => ?_, fun j => ?_, fun j k a h1 h2 => ?_, fun j a ha => ?_, s.xnd, fun j a ha => ?_, s.xsp, fun p hp' => ?_⟩⟩
  · rcases restV_get ej with ⟨h1, h2⟩ | ⟨h1, x, rfl, h3⟩
    · rw [if_neg h1]
      obtain ⟨v, e1, r⟩ := s.ok j l h2
      rw [wipe_out h1] at e1
      exact ⟨v, e1, r⟩
    · rw [if_pos h1]
      obtain ⟨v, e1, r⟩ := S0.slotD h3
      exact ⟨v, e1, .d (r.mono e)⟩
  · show List.Nodup (if _ then _ else _)
    split
    · simp
    · exact s.nd j
  · try dsimp only at h1 h2
    split at h1
    · simp at h1
    · split at h2
      · simp at h2
      · exact s.dj j k a h1 h2
  · try dsimp only at ha
    split at ha
    · simp at ha
    · exact s.sp j a ha
  · try dsimp only at ha
    split at ha
    · simp at ha
    · exact s.xdj j a ha
  · obtain ⟨ft0, s0'⟩ := S0
    exact s0'.pins p hp'
end
def lcF (tg : Tg) (own : List Nat) (C : M Bool) (Fe : M D) : List D → List D → VS → Option (List D × VS)
  | [], acc, s => some (acc, s)
  | d :: r, acc, s => match asg tg d s with
    | none => none
    | some s1 => match C s1 with
      | some (.ok true, s2) => (match Fe s2 with
        | some (.ok y, s3) => if acc.length < 100000 then lcF tg own C Fe r (acc ++ [y]) (wipeV s3 own) else none
        | _ => none)
      | some (.ok false, s2) => lcF tg own C Fe r acc (wipeV s2 own)
      | _ => none
def fComp (own : List Nat) (Fi : M (List D)) (tg : Tg) (C : M Bool) (Fe : M D) : M L := bd Fi fun ds s => match lcF tg own C Fe ds [] (wipeV s own) with
  | some (acc, s2) => some (.ok (.own acc), restV s s2 own)
  | none => none
theorem PTs_weak {X : Cx} {e : List Expr} {t t' : TT} (h : PTs X e t) (hw : ∀ σ H Q, t' σ H Q → t σ H Q) : PTs X e t' := ⟨fun pins s σ H Q I q => h.run pins s σ H Q I (hw σ H Q q)⟩
def bYes : M Bool := rt true
abbrev W0 : WX := fun _ _ _ _ => False
section
variable {X : Cx} {W : WX} {P : Pin} {e a b c tg : Expr} {pos : Pos} {F : M D}
theorem dts_nil : PTs X [] (tB X.K W P bYes) := PTs_weak pts_nil fun σ H Q ⟨fm, Hs, vs, r', vs', hF, hP, hS, hk, hE⟩ => by
  cases hF
  exact hk _ _ H Hs [] rfl hS (Ex.refl _) ⟨rfl, rfl⟩
theorem asg_own {tg : Tg} {own : List Nat} (h : ∀ j ∈ tg.ix, j ∈ own) : ∀ j, j ∈ tg.ix → j ∈ own := h
theorem wiped_none (s : VS) (own : List Nat) : ∀ i ∈ own, ∀ l, (wipeV s own)[i]? ≠ some (some l) := fun i hi l e => (wipeV_get e).2 hi
theorem lcF_end {tg : Tg} {own : List Nat} {C : M Bool} {Fe : M D} : ∀ {ds acc : List D} {s : VS} {r : List D × VS}, (∀ i ∈ own, ∀ l, s[i]? ≠ some (some l)) → lcF tg own C Fe ds acc s = some r → ∀ i ∈ own, ∀ l, r.2[i]? ≠ some (some l)
  | [], _, _, _, h0, h => by cases h; exact h0
  | d :: r, acc, s, _, h0, h => by
    unfold lcF at h
    split at h
    · cases h
    · split at h
      · split at h
        · split at h
          · exact lcF_end (wiped_none _ _) h
          · cases h
        · cases h
      · exact lcF_end (wiped_none _ _) h
      · cases h
theorem re_comp {own : List Nat} {Fi : M (List D)} {t : Tg} {C : M Bool} {Fe : M D} (hown : ∀ j ∈ t.ix, j ∈ own) (hpo : ∀ i ∈ own, i ∉ P.ix) : ∀ σ H Q, tL X.K W P (fComp own Fi t C Fe) σ H Q → tLc (tI X.K W P Fi) (tG X.K P t) (tB X.K W0 P C) (tE X.K W0 P Fe) own σ H Q := fun σ H Q ⟨fm, Hs, vs, r', vs', hF, hP, hS, hk, hE⟩ => by
  dsimp only [tLc]
  refine go hF hP hS hE fun ds vs1 J H1 Hs1 xf hg S1 X1 ⟨ok, ex⟩ => ?_
  subst ex
  split at hg
  · rename_i acc s2 hl
    cases hg
    intro Da hD
    have hBn : fm.B Da = none := Evl.fresh_back (let ⟨_, s⟩ := S1; s.base) hD
    have hsn : Hs1 Da = none := Evl.fresh_back S1.sub hD
    have hSn : fm.S Da = none := Evl.fresh_back (let ⟨_, s⟩ := S1; s.grow) hsn
    have hpin : ∀ i ∈ own, i ∉ fm.pin.map (·.1) := fun i hi => by rw [hP.1]; exact hpo i hi
    refine ⟨fun i m H => m = ds.length - i ∧ ∃ s ac us Hs2, lcF t own C Fe (ds.drop i) ac s = some (acc, s2) ∧ H Da = some (.lst us) ∧ RepL X.K Hs2 us ac ∧ Sim X.K fm Hs2 s (L2.wipe σ own) H [Da] ∧ Ex Hs1 Hs2,
      ⟨_, rfl, wipeV vs1 own, [], [], Hs1, by rw [List.drop_zero]; exact hl, upd_same, .nil, (S1.wipe own hpin).allocX hD _, Ex.refl _⟩, ?_⟩
    rintro i m H2 ⟨rfl, s, ac, us, Hs2, hl2, hDa, rus, S2, X2⟩
    cases hd : ds[i]? with
    | none =>
      have hle : ds.length ≤ i := List.getElem?_eq_none_iff.mp hd
      rw [List.drop_eq_nil_of_le hle] at hl2
      cases hl2
      refine .inl ⟨ok.1 i H2 (X2.trans S2.sub) hle, ?_⟩
      exact hk _ _ H2 Hs2 [Da] rfl (Sim.rest S1 X2 S2 (lcF_end (wiped_none _ _) hl)) (X1.trans X2) (.own hDa rus)
    | some d =>
      have hlt : i < ds.length := (List.getElem?_eq_some_iff.mp hd).1
      have hdr : ds.drop i = d :: ds.drop (i + 1) := by
        rw [List.drop_eq_getElem_cons hlt]
        have := (List.getElem?_eq_some_iff.mp hd).2
        rw [this]
      rw [hdr] at hl2
      unfold lcF at hl2
      split at hl2
      · cases hl2
      · rename_i s1 e1
        obtain ⟨g1, y1⟩ := ok.2 i d H2 (X2.trans S2.sub) hd
        refine .inr ⟨g1, fun H' => ∃ s ac us Hs2, lcF t own C Fe (ds.drop (i + 1)) ac s = some (acc, s2) ∧ H' Da = some (.lst us) ∧ RepL X.K Hs2 us ac ∧ Sim X.K fm Hs2 s (L2.wipe σ own) H' [Da] ∧ Ex Hs1 Hs2, ?_, fun x H' hy => ?_⟩
        · rintro H' q
          exact ⟨_, by omega, rfl, q⟩
        · have hyy : (H' = H2 ∧ Rep X.K Hs2 x d) ∨ ∃ T vs es, H2 T = none ∧ x = .ref T ∧ H' = upd H2 T (.tup vs) ∧ d = .tup es ∧ RepL X.K Hs2 vs es := by
            rcases y1 x H' hy with ⟨a, b⟩ | ⟨T, vs, es, a, b, c, d, f⟩
            · exact .inl ⟨a, b.mono X2⟩
            · exact .inr ⟨T, vs, es, a, b, c, d, f.mono X2⟩
          obtain ⟨Hs3, S3, X3, r3⟩ := yld_ok S2 hyy
          have hDa3 : H' Da = some (.lst us) := by
            rcases hyy with ⟨rfl, _⟩ | ⟨T, vs, es, hT, rfl, rfl, rfl, _⟩
            · exact hDa
            · rw [upd_ne (ne_of_none hDa hT)]; exact hDa
          have S3p := S3.park hDa3
          refine ⟨fm.park Da (.lst us), Hs3, s, s1, d, e1, hP.park hBn, S3p, r3, fun σ4 S4 same => ?_⟩
          refine ⟨wipe_wipe same hown, ?_⟩
          split at hl2
          · rename_i s5 e5
            refine ⟨fm.park Da (.lst us), Hs3, s1, _, s5, e5, hP.park hBn, S4, fun k k' H5 Hs5 xf q S5 X5 ⟨q1, q2⟩ => ?_, fun _ _ _ _ _ q => (by cases q)⟩
            cases q; subst q1; subst q2
            rw [if_pos rfl]
            split at hl2
            · rename_i y s6 e6
              refine ⟨fm.park Da (.lst us), Hs5, s5, _, s6, e6, hP.park hBn, S5, fun y' v H6 Hs6 xf q S6 X6 ⟨q1, q2⟩ => ?_, fun _ _ _ _ _ q => (by cases q)⟩
              cases q; subst q2
              split at hl2
              · rename_i hlen
                obtain ⟨hDa6, S6u⟩ := S6.unpark hBn hSn
                refine ⟨us, hDa6, by rw [rus.length]; exact Evl.sz_lt hlen, ?_⟩
                have Xa : Ex Hs2 Hs6 := (X3.trans X5).trans X6
                refine ⟨_, _, us ++ [v], Hs6, hl2, upd_same, (rus.mono Xa).append (.one q1), ?_, X2.trans Xa⟩
                have S7 := (S6u.wipe own hpin).writeX (u := .lst (us ++ [v]))
                rw [wipe_wipe same hown] at S7
                exact S7
              · cases hl2
            · cases hl2
          · rename_i s5 e5
            refine ⟨fm.park Da (.lst us), Hs3, s1, _, s5, e5, hP.park hBn, S4, fun k k' H5 Hs5 xf q S5 X5 ⟨q1, q2⟩ => ?_, fun _ _ _ _ _ q => (by cases q)⟩
            cases q; subst q1; subst q2
            rw [if_neg Bool.false_ne_true]
            obtain ⟨hDa5, S5u⟩ := S5.unpark hBn hSn
            have Xa : Ex Hs2 Hs5 := X3.trans X5
            have S7 := S5u.wipe own hpin
            rw [wipe_wipe same hown] at S7
            exact ⟨_, _, us, Hs5, hl2, hDa5, rus.mono Xa, S7, X2.trans Xa⟩
          · cases hl2
  · cases hg
where
  wipe_wipe {σ σ4 : L2.St} {t : Tg} {own : List Nat} (same : Same1 t.ix (L2.wipe σ own) σ4) (hown : ∀ j ∈ t.ix, j ∈ own) : L2.wipe σ4 own = L2.wipe σ own := by
    rw [wipe_eq same hown]
    apply List.ext_getElem?
    intro j
    by_cases hj : j ∈ own
    · have h : ∀ (τ : L2.St) (is : List Nat), j ∈ is → (L2.wipe τ is)[j]? = if j < τ.length then some none else none := by
        intro τ is
        induction is with
        | nil => intro h; simp at h
        | cons i is ih =>
          intro h
          unfold L2.wipe
          by_cases z : i = j
          · subst z
            by_cases hl : i < τ.length
            · rw [List.getElem?_set_self (by rw [wipe_length]; exact hl), if_pos hl]
            · rw [List.getElem?_eq_none (by rw [List.length_set, wipe_length]; omega), if_neg hl]
          · rw [List.getElem?_set_ne z]
            exact ih ((List.mem_cons.mp h).resolve_left fun y => z y.symm)
      rw [h _ _ hj, h _ _ hj, wipe_length]
    · rw [wipe_out hj]
end
end Ev
namespace Ev
open PySem PySem.Spec PyProof.Rows L2
open Evl (Ex)
section
variable {X : Cx} {W : WX} {P : Pin} {e a b c tg : Expr} {pos : Pos} {F : M D}
theorem dl_comp {elt iter : Expr} {ifs : List Expr} {scope : Scope} {own : List (Str × Nat)} {Fi : M (List D)} {t : Tg} {C : M Bool} {Fe : M D} (hown : ∀ j ∈ t.ix, j ∈ own.map (·.2)) (hpo : ∀ i ∈ own.map (·.2), i ∉ P.ix) (hc : X.calm = true) (hN : X.N.Nodup) (hi : PI X tg iter (tI X.K W P Fi)) (ok : BlkOk X.N X.env.scope scope own)
    (hg : ∀ (s : Shared) (H : Hp) (C : Addr) (cl : List (Str × Addr)) (fp : List Addr), PG (X.blk s H scope (compEnvC scope cl C X.env) fp) tg (tG X.K P t)) (ht : ∀ (s : Shared) (H : Hp) (C1 : Addr) (cl : List (Str × Addr)) (fp : List Addr), PTs (X.blk s H scope (compEnvC scope cl C1 X.env) fp) ifs (tB X.K W0 P C))
    (he : ∀ (s : Shared) (H : Hp) (C : Addr) (cl : List (Str × Addr)) (fp : List Addr), PE (X.blk s H scope (compEnvC scope cl C X.env) fp) elt (tE X.K W0 P Fe)) (hs : ∀ x, foldedSetIterable iter X.env x = pure x) :
    PE X (.ListComp elt [⟨tg, iter, ifs, 0⟩] scope pos) (tL X.K W P (fComp (own.map (·.2)) Fi t C Fe)) := PE_weak (pe_lc hc hN hi ok hg ht he hs) (re_comp hown hpo)
theorem ds_setLc {elt iter : Expr} {ifs : List Expr} {scope : Scope} {own : List (Str × Nat)} {Fi : M (List D)} {t : Tg} {C : M Bool} {Fe : M D} {i : Nat} {y : Str} {py spos : Pos} (hp : i ∉ P.ix) (hy : X.N[i]? = some y) (hyl : X.env.scope.names.lookup y = some .local)
    (hsw : swapsWith (.ListComp elt [⟨tg, iter, ifs, 0⟩] scope pos) (some (.Name y py)) spos.line X.env = pure true) (hown : ∀ j ∈ t.ix, j ∈ own.map (·.2)) (hpo : ∀ i ∈ own.map (·.2), i ∉ P.ix) (hc : X.calm = true) (hN : X.N.Nodup) (hi : PI X tg iter (tI X.K W P Fi)) (ok : BlkOk X.N X.env.scope scope own)
    (hg : ∀ (s : Shared) (H : Hp) (C : Addr) (cl : List (Str × Addr)) (fp : List Addr), PG (X.blk s H scope (compEnvC scope cl C X.env) fp) tg (tG X.K P t)) (ht : ∀ (s : Shared) (H : Hp) (C1 : Addr) (cl : List (Str × Addr)) (fp : List Addr), PTs (X.blk s H scope (compEnvC scope cl C1 X.env) fp) ifs (tB X.K W0 P C))
    (he : ∀ (s : Shared) (H : Hp) (C : Addr) (cl : List (Str × Addr)) (fp : List Addr), PE (X.blk s H scope (compEnvC scope cl C X.env) fp) elt (tE X.K W0 P Fe)) (hs : ∀ x, foldedSetIterable iter X.env x = pure x) :
    PS X (.Assign [.Name y py] (.ListComp elt [⟨tg, iter, ifs, 0⟩] scope pos) spos) (tS X.K W P (sSet i (fComp (own.map (·.2)) Fi t C Fe))) :=
  PS_weak (ps_setLc hc hN hy hyl hsw hi ok hg ht he hs) (re_set hp (re_comp hown hpo))
end
structure Fn where
  n : Nat
  io : List Nat
  run : M L
def SpF (K : PySem.W.Frag) (fn : Fn) : Sp := fun us H Q E => us.length = fn.n ∧ ∃ B Hs ps r ps', fn.run ps = some (r, ps') ∧ Sim K ⟨B, Hs, []⟩ Hs ps (us.map some) H [] ∧
  (∀ l v H' Hs' xf, r = .ok l → ps'.length = us.length → Sim K ⟨B, Hs, []⟩ Hs' ps' (us.map some) H' xf → LOk K Hs' H' v l xf → Q v H') ∧
  (∀ x c dd H' Hs', r = .error x → ps'.length = us.length → Sim K ⟨B, Hs, []⟩ Hs' ps' (us.map some) H' [] → XOk K Hs' H' c dd x → E c dd H')
def outs (n : Nat) (io : List Nat) (s : VS) : VS := (List.range n).map fun i => if i ∈ io then (s[i]?).getD none else none
def mkRun (n nn : Nat) (io : List Nat) (F : M Fl) : M L := fun ps => match F (ps ++ List.replicate (nn - n) none) with
  | some (.ok (.rt l), s') => some (.ok l, outs n io s')
  | some (.ok .nx, s') => some (.ok (.d .non), outs n io s')
  | some (.error x, s') => some (.error x, outs n io s')
  | _ => none
theorem outs_get {n : Nat} {io : List Nat} {s : VS} {i : Nat} {l : L} (h : (outs n io s)[i]? = some (some l)) : i < n ∧ i ∈ io ∧ s[i]? = some (some l) := by
  unfold outs at h
  rw [List.getElem?_map] at h
  cases q : (List.range n)[i]? with
  | none => rw [q] at h; cases h
  | some j =>
    rw [q] at h
    have hi : i < n := by
      have := (List.getElem?_eq_some_iff.mp q).1
      rw [List.length_range] at this
      exact this
    rw [List.getElem?_range hi] at q
    cases q
    have h : (if i ∈ io then (s[i]?).getD none else none) = some l := Option.some.inj h
    split at h
    · rename_i hio
      refine ⟨hi, hio, ?_⟩
      cases q : s[i]? with
      | none => rw [q] at h; cases h
      | some o => rw [q] at h; exact congrArg some h
    · cases h
section
variable {K : PySem.W.Frag}
theorem sim_enter {B Hs H : Hp} {ps : VS} {us : List V} {io : List Nat} (k : Nat) (S : Sim K ⟨B, Hs, []⟩ Hs ps (us.map some) H []) (hio : ∀ i ∈ io, i < us.length) :
    Sim K ⟨B, Hs, io.map fun i => (i, us.getD i .non)⟩ Hs (ps ++ List.replicate k none) (us.map some ++ List.replicate k none) H [] := by
  obtain ⟨ft, s⟩ := S
  refine ⟨ft, ⟨s.sub, s.base, s.grow, s.new, ?_, fun i l e => ?_, s.nd, s.dj, s.sp, s.xnd, s.xdj, s.xsp, fun p hp => ?_⟩⟩
  · rw [List.length_append, List.length_append, s.len]
    simp
  · have hl := s.len
    by_cases hi : i < ps.length
    · rw [List.getElem?_append_left hi] at e
      rw [List.getElem?_append_left (by omega)]
      exact s.ok i l e
    · rw [List.getElem?_append_right (by omega)] at e
      have := List.mem_of_getElem? e
      have := List.eq_of_mem_replicate this
      cases this
  · obtain ⟨i, hi, rfl⟩ := List.mem_map.mp hp
    have hl := hio i hi
    rw [List.getElem?_append_left (by simpa using hl), List.getElem?_map]
    simp [List.getD, List.getElem?_eq_getElem hl]
theorem sim_leave {B Hs Hs' H' : Hp} {s' : VS} {σ' : L2.St} {us : List V} {io : List Nat} {xf : List Addr} (S : Sim K ⟨B, Hs, io.map fun i => (i, us.getD i .non)⟩ Hs' s' σ' H' xf) (hio : ∀ i ∈ io, i < us.length) : Sim K ⟨B, Hs, []⟩ Hs' (outs us.length io s') (us.map some) H' xf := by
  obtain ⟨ft, s⟩ := S
  refine ⟨ft, ⟨s.sub, s.base, s.grow, s.new, by unfold outs; simp, fun i l e => ?_, s.nd, s.dj, s.sp, s.xnd, s.xdj, s.xsp, fun p hp => by cases hp⟩⟩
  obtain ⟨h1, h2, h3⟩ := outs_get e
  obtain ⟨v, e1, r⟩ := s.ok i l h3
  have q := s.pins (i, us.getD i .non) (List.mem_map_of_mem h2)
  have q : σ'[i]? = some (some (us.getD i .non)) := q
  rw [e1] at q
  cases q
  refine ⟨_, ?_, r⟩
  rw [List.getElem?_map, List.getElem?_eq_getElem h1]
  simp [List.getD, List.getElem?_eq_getElem h1]
end
theorem pin_fst (us : List V) : ∀ io : List Nat, ((io.map fun i => (i, us.getD i V.non)).map (·.1)) = io
  | [] => rfl
  | i :: r => by rw [List.map_cons, List.map_cons, pin_fst us r]
theorem okN {P : Program} {w : World} {K : PySem.W.Frag} {mg : Str → Option Value} {base : Heap} {x qual : Str} {st : Stmt} {f : Addr} {fd : FuncData} {N ps : List Str} {k : Nat} {sp : Sp} (Fu : Fun K x qual st f fd) (S : FnScope N ps (defScope st)) (len : ∀ vs H Q E, sp vs H Q E → vs.length = ps.length)
    (hB : ∀ (cdv : Value) (A : Around) (outer : List Env) (s : Shared) (H : Hp) (vs : List V) (Q : VK) (E : XK), Room k (A.deeper (envOfC qual (defScope st) s.heap.objs.size f cdv)) → sp vs H Q E →
      ∃ t, PSs (cxOf (L2N.CX P w) P w K mg base N qual (defScope st) f cdv A outer s H E) (defBody st) t ∧ t { nx := fun _ H' => Q .non H', rt := Q } (L2.start N vs) H) : FnOk P w K mg base (L2N.CX P w) (k + 1) f fd ps sp := by
  obtain ⟨_, _, _, _, _, _, cdv, _, _, rfl, lk, hcd⟩ := Fu.ex
  exact fn_of lk hcd S len fun A outer s H vs Q E hr hsp => hB cdv A outer s H vs Q E hr hsp
theorem takesN {X : Cx} : L2N.Takes X (fun _ _ _ _ => False) := fun u s' h => by
  obtain ⟨_, _, _, _, _, _, _, _, _, _, _, _, _, _, _, _, z⟩ := h
  exact z.elim
theorem fn_ok {P : Program} {w : World} {K : PySem.W.Frag} {mg : Str → Option Value} {base : Heap} {x qual : Str} {st : Stmt} {f : Addr} {fd : FuncData} {N ps : List Str} {k : Nat} {io : List Nat} {F : M Fl} (Fu : Fun K x qual st f fd) (S : FnScope N ps (defScope st)) (hio : ∀ i ∈ io, i < ps.length)
    (hB : ∀ (cdv : Value) (A : Around) (outer : List Env) (s : Shared) (H : Hp) (E : XK), Room k (A.deeper (envOfC qual (defScope st) s.heap.objs.size f cdv)) →
      PSs (cxOf (L2N.CX P w) P w K mg base N qual (defScope st) f cdv A outer s H E) (defBody st) (tS K (fun c dd _ H => E c dd H) ⟨io, none⟩ F)) :
    FnOk P w K mg base (L2N.CX P w) (k + 1) f fd ps (SpF K ⟨ps.length, io, mkRun ps.length N.length io F⟩) := by
  refine okN Fu S (fun vs H Q E h => h.1) (fun cdv A outer s H us Q E hr h => ?_)
  obtain ⟨hl, B, Hs, qs, r, qs', hF, hS, hk, hE⟩ := h
  have hl : us.length = ps.length := hl
  refine ⟨_, hB cdv A outer s H E hr, ?_⟩
  have hio' : ∀ i ∈ io, i < us.length := fun i hi => by rw [hl]; exact hio i hi
  have S1 := sim_enter (N.length - ps.length) hS hio'
  have hst : L2.start N us = us.map some ++ List.replicate (N.length - ps.length) none := by unfold L2.start; rw [hl]
  rw [hst]
  have hF : mkRun ps.length N.length io F qs = some (r, qs') := hF
  unfold mkRun at hF
  have hol : ∀ s : VS, (outs ps.length io s).length = us.length := fun s => by unfold outs; simp [hl]
  split at hF
  · rename_i l s' e
    cases hF
    refine ⟨_, Hs, _, _, s', e, PnOk.of (pin_fst us io), S1, ⟨fun _ _ _ q => (by cases q), fun _ _ _ q => (by cases q), fun _ _ _ q => (by cases q), fun l' v σ' H' Hs' xf q S' X' o => ?_, fun _ _ _ _ _ _ q => (by cases q)⟩⟩
    cases q
    have S2 := sim_leave S' hio'
    rw [hl] at S2
    exact hk _ v H' Hs' xf rfl (hol _) S2 o
  · rename_i s' e
    cases hF
    refine ⟨_, Hs, _, _, s', e, PnOk.of (pin_fst us io), S1, ⟨fun σ' H' Hs' q S' X' => ?_, fun _ _ _ q => (by cases q), fun _ _ _ q => (by cases q), fun _ _ _ _ _ _ q => (by cases q), fun _ _ _ _ _ _ q => (by cases q)⟩⟩
    have S2 := sim_leave S' hio'
    rw [hl] at S2
    exact hk _ .non H' Hs' [] rfl (hol _) S2 (.d .non)
  · rename_i x s' e
    cases hF
    refine ⟨_, Hs, _, _, s', e, PnOk.of (pin_fst us io), S1, ⟨fun _ _ _ q => (by cases q), fun _ _ _ q => (by cases q), fun _ _ _ q => (by cases q), fun _ _ _ _ _ _ q => (by cases q), fun x' c dd σ' H' Hs' q S' X' o => ?_⟩⟩
    cases q
    have S2 := sim_leave S' hio'
    rw [hl] at S2
    exact hE _ c dd H' Hs' rfl (hol _) S2 o
  · cases hF
def argsOf (s : VS) : List Pk → Option VS
  | [] => some []
  | .dat d :: ks => (argsOf s ks).map (some (.d d) :: ·)
  | .sl j :: ks => match s[j]? with
    | some (some l) => (argsOf s ks).map (some l :: ·)
    | _ => none
def hasSl (j : Nat) : List Pk → Bool
  | [] => false
  | .sl i :: ks => decide (i = j) || hasSl j ks
  | .dat _ :: ks => hasSl j ks
def slND : List Pk → Bool
  | [] => true
  | .sl j :: ks => !hasSl j ks && slND ks
  | .dat _ :: ks => slND ks
def setO : VS → List Pk → VS → VS
  | s, .sl j :: ks, o :: os => (setO s ks os).set j o
  | s, .dat _ :: ks, _ :: os => setO s ks os
  | s, _, _ => s
theorem hasSl_of {j : Nat} : ∀ {ks : List Pk} {i : Nat}, ks[i]? = some (.sl j) → hasSl j ks = true
  | [], _, h => by cases h
  | .sl a :: ks, 0, h => by
    have : Pk.sl a = Pk.sl j := by simpa using h
    cases this
    simp [hasSl]
  | .sl a :: ks, i + 1, h => by
    have := hasSl_of (ks := ks) (i := i) (by simpa using h)
    simp [hasSl, this]
  | .dat d :: ks, 0, h => by simp at h
  | .dat d :: ks, i + 1, h => by
    have := hasSl_of (ks := ks) (i := i) (by simpa using h)
    simp [hasSl, this]
theorem slND_uniq {j : Nat} : ∀ {ks : List Pk} {i i' : Nat}, slND ks = true → ks[i]? = some (.sl j) → ks[i']? = some (.sl j) → i = i'
  | [], _, _, _, h, _ => by cases h
  | .sl a :: ks, 0, 0, _, _, _ => rfl
  | .sl a :: ks, 0, i' + 1, nd, h, h' => by
    have e : Pk.sl a = Pk.sl j := by simpa using h
    cases e
    have q := hasSl_of (ks := ks) (i := i') (j := j) (by simpa using h')
    simp [slND, q] at nd
  | .sl a :: ks, i + 1, 0, nd, h, h' => by
    have e : Pk.sl a = Pk.sl j := by simpa using h'
    cases e
    have q := hasSl_of (ks := ks) (i := i) (j := j) (by simpa using h)
    simp [slND, q] at nd
  | .sl a :: ks, i + 1, i' + 1, nd, h, h' => by
    have nd : slND ks = true := by simp [slND] at nd; exact nd.2
    rw [slND_uniq (ks := ks) (i := i) (i' := i') nd (by simpa using h) (by simpa using h')]
  | .dat d :: ks, 0, _, _, h, _ => by simp at h
  | .dat d :: ks, _, 0, _, _, h => by simp at h
  | .dat d :: ks, i + 1, i' + 1, nd, h, h' => by
    have nd : slND ks = true := nd
    rw [slND_uniq (ks := ks) (i := i) (i' := i') nd (by simpa using h) (by simpa using h')]
theorem setO_len (s : VS) : ∀ (ks : List Pk) (os : VS), (setO s ks os).length = s.length
  | [], _ => by unfold setO; rfl
  | .sl j :: ks, [] => by unfold setO; rfl
  | .dat d :: ks, [] => by unfold setO; rfl
  | .sl j :: ks, o :: os => by unfold setO; rw [List.length_set, setO_len s ks os]
  | .dat d :: ks, o :: os => by unfold setO; rw [setO_len s ks os]
theorem setO_get {s : VS} {j : Nat} {l : L} : ∀ {ks : List Pk} {os : VS}, os.length = ks.length → (setO s ks os)[j]? = some (some l) → (∃ i : Nat, ks[i]? = some (Pk.sl j) ∧ os[i]? = some (some l)) ∨ ((∀ i : Nat, ks[i]? ≠ some (Pk.sl j)) ∧ s[j]? = some (some l))
  | [], [], _, h => .inr ⟨fun i => by simp, h⟩
  | .sl a :: ks, o :: os, hl, h => by
    unfold setO at h
    by_cases q : a = j
    · subst q
      by_cases hj : a < (setO s ks os).length
      · rw [List.getElem?_set_self hj] at h
        exact .inl ⟨0, rfl, by simpa using h⟩
      · rw [List.getElem?_eq_none (by simpa using hj)] at h; cases h
    · rw [List.getElem?_set_ne q] at h
      rcases setO_get (ks := ks) (os := os) (by simpa using hl) h with ⟨i, h1, h2⟩ | ⟨h1, h2⟩
      · exact .inl ⟨i + 1, by simpa using h1, by simpa using h2⟩
      · refine .inr ⟨fun i => ?_, h2⟩
        cases i with
        | zero =>
          intro z
          have : Pk.sl a = Pk.sl j := by simpa using z
          cases this; exact q rfl
        | succ i => simpa using h1 i
  | .dat d :: ks, o :: os, hl, h => by
    unfold setO at h
    rcases setO_get (ks := ks) (os := os) (by simpa using hl) h with ⟨i, h1, h2⟩ | ⟨h1, h2⟩
    · exact .inl ⟨i + 1, by simpa using h1, by simpa using h2⟩
    · refine .inr ⟨fun i => ?_, h2⟩
      cases i with
      | zero => simp
      | succ i => simpa using h1 i
  | [], _ :: _, hl, _ => by cases hl
  | _ :: _, [], hl, _ => by cases hl
theorem argsOf_get {s : VS} : ∀ {ks : List Pk} {ls : VS}, argsOf s ks = some ls → ls.length = ks.length ∧ ∀ (i : Nat) (o : Option L), ls[i]? = some o → ∃ l, o = some l ∧ ∃ k, ks[i]? = some k ∧ ((∃ d, k = Pk.dat d ∧ l = L.d d) ∨ ∃ j : Nat, k = Pk.sl j ∧ s[j]? = some (some l))
  | [], ls, h => by cases h; exact ⟨rfl, fun i o e => by simp at e⟩
  | .dat d :: ks, ls, h => by
    unfold argsOf at h
    cases q : argsOf s ks with
    | none => rw [q] at h; cases h
    | some r =>
      rw [q] at h; cases h
      obtain ⟨h1, h2⟩ := argsOf_get q
      refine ⟨by simp [h1], fun i o e => ?_⟩
      cases i with
      | zero =>
        have : some (L.d d) = o := by simpa using e
        subst this
        exact ⟨_, rfl, _, rfl, .inl ⟨d, rfl, rfl⟩⟩
      | succ i => obtain ⟨l, a, k, b, c⟩ := h2 i o (by simpa using e); exact ⟨l, a, k, by simpa using b, c⟩
  | .sl j :: ks, ls, h => by
    unfold argsOf at h
    split at h
    · rename_i l0 e0
      cases q : argsOf s ks with
      | none => rw [q] at h; cases h
      | some r =>
        rw [q] at h; cases h
        obtain ⟨h1, h2⟩ := argsOf_get q
        refine ⟨by simp [h1], fun i o e => ?_⟩
        cases i with
        | zero =>
          have : some l0 = o := by simpa using e
          subst this
          exact ⟨_, rfl, _, rfl, .inr ⟨j, rfl, e0⟩⟩
        | succ i => obtain ⟨l, a, k, b, c⟩ := h2 i o (by simpa using e); exact ⟨l, a, k, by simpa using b, c⟩
    · cases h
theorem Paired_get {α β : Type} {R : α → β → Prop} : ∀ {l : List α} {m : List β} {i : Nat} {b : β}, Paired R l m → m[i]? = some b → ∃ a, l[i]? = some a ∧ R a b
  | _, _, i, b, .nil, h => by simp at h
  | _, _, 0, b, .cons r t, h => by simp at h; subst h; exact ⟨_, rfl, r⟩
  | _, _, i + 1, b, .cons r t, h => by
    obtain ⟨a, h1, h2⟩ := Paired_get (i := i) t (by simpa using h)
    exact ⟨a, by simpa using h1, h2⟩
theorem Paired_len {α β : Type} {R : α → β → Prop} : ∀ {l : List α} {m : List β}, Paired R l m → l.length = m.length
  | _, _, .nil => rfl
  | _, _, .cons r t => by rw [List.length_cons, List.length_cons, Paired_len t]
open Classical in
theorem call_sim {K : PySem.W.Frag} {fm : Fm} {Hs : Hp} {vs : VS} {σ : L2.St} {H : Hp} {ks : List Pk} {us : List V} {ls : VS} (S : Sim K fm Hs vs σ H []) (hk : Paired (PkOk K Hs σ) us ks) (ha : argsOf vs ks = some ls) (nd : slND ks = true) :
    ∃ B, Sim K ⟨B, Hs, []⟩ Hs ls (us.map some) H [] ∧ ∀ Hs' H' os xf, os.length = us.length → Sim K ⟨B, Hs, []⟩ Hs' os (us.map some) H' xf → Sim K fm Hs' (setO vs ks os) σ H' xf ∧ Ex Hs Hs' := by
  obtain ⟨ft, s⟩ := S
  obtain ⟨hlen, hget⟩ := argsOf_get ha
  have hul := Paired_len hk
  let fc : Nat → List Addr := fun i => match ks[i]? with
    | some (.sl j) => ft j
    | _ => []
  have fc_sl : ∀ i j, ks[i]? = some (.sl j) → fc i = ft j := fun i j e => by
    show (match ks[i]? with | some (.sl j) => ft j | _ => []) = ft j
    rw [e]
  have fc_mem : ∀ i b, b ∈ fc i → ∃ j, ks[i]? = some (.sl j) ∧ b ∈ ft j := fun i b hb => by
    have hb : b ∈ (match ks[i]? with | some (.sl j) => ft j | _ => []) := hb
    split at hb
    · rename_i j e; exact ⟨j, e, hb⟩
    · simp at hb
  let B : Hp := fun b => if ∃ i, b ∈ fc i then none else H b
  have B_in : ∀ i b, b ∈ fc i → B b = none := fun i b hb => if_pos ⟨i, hb⟩
  have B_out : ∀ b, (∀ i, b ∉ fc i) → B b = H b := fun b hb => if_neg fun ⟨i, h⟩ => hb i h
  have B_ex : Ex B H := fun b u e => by
    have e : (if ∃ i, b ∈ fc i then none else H b) = some u := e
    split at e
    · cases e
    · exact e
  refine ⟨B, ⟨fc, ⟨s.sub, B_ex, Ex.refl _, fun b hb => .inl hb, ?_, fun i l e => ?_, fun i => ?_, fun i j b h1 h2 => ?_, fun i b hb => ?_, by simp, fun _ _ _ q => by simp at q, fun _ q => by simp at q, fun p hp => by cases hp⟩⟩, fun Hs' H' os xf hol S' => ?_⟩
  · rw [hlen, List.length_map, hul]
  · obtain ⟨l', el, k, ek, hkk⟩ := hget i _ e
    cases el
    obtain ⟨u, eu, pk⟩ := Paired_get hk ek
    refine ⟨u, by rw [List.getElem?_map, eu]; rfl, ?_⟩
    rcases hkk with ⟨d, rfl, rfl⟩ | ⟨j, rfl, ej⟩
    · have : fc i = [] := by
        show (match ks[i]? with | some (.sl j) => ft j | _ => []) = []
        rw [ek]
      rw [this]
      exact .d pk
    · rw [fc_sl i j ek]
      obtain ⟨v, e1, r⟩ := s.ok j l ej
      have pk : σ[j]? = some (some u) := pk
      rw [pk] at e1
      cases e1
      exact r
  · show List.Nodup (match ks[i]? with | some (.sl j) => ft j | _ => [])
    split
    · exact s.nd _
    · simp
  · obtain ⟨j1, e1, m1⟩ := fc_mem i b h1
    obtain ⟨j2, e2, m2⟩ := fc_mem j b h2
    have := s.dj j1 j2 b m1 m2
    subst this
    exact slND_uniq nd e1 e2
  · obtain ⟨j1, e1, m1⟩ := fc_mem i b hb
    obtain ⟨h1, h2, h3⟩ := s.sp j1 b m1
    exact ⟨h1, B_in i b hb, h3⟩
  · obtain ⟨fo, t⟩ := S'
    have grow : Ex Hs Hs' := t.grow
    have notin : ∀ j b, b ∈ ft j → (∀ i : Nat, ks[i]? ≠ some (Pk.sl j)) → ∀ i, b ∉ fc i := fun j b hb hn i hi => by
      obtain ⟨j', e', m'⟩ := fc_mem i b hi
      have := s.dj j j' b hb m'
      subst this
      exact hn i e'
    have Bsome : ∀ j b, b ∈ ft j → (∀ i : Nat, ks[i]? ≠ some (Pk.sl j)) → B b ≠ none := fun j b hb hn => by
      rw [B_out b (notin j b hb hn)]
      exact (s.sp j b hb).2.2
    have keepH : ∀ j b, b ∈ ft j → (∀ i : Nat, ks[i]? ≠ some (Pk.sl j)) → H' b = H b := fun j b hb hn => by
      have q := B_out b (notin j b hb hn)
      cases e : H b with
      | none => exact absurd e (s.sp j b hb).2.2
      | some o => exact t.base b o (by show B b = some o; rw [q]; exact e)
    let fn : Nat → List Addr := fun j => match ks.findIdx? (fun k => match k with | .sl i => decide (i = j) | _ => false) with
      | some i => fo i
      | none => ft j
    have idx : ∀ j, (∃ i : Nat, ks[i]? = some (Pk.sl j) ∧ fn j = fo i) ∨ ((∀ i : Nat, ks[i]? ≠ some (Pk.sl j)) ∧ fn j = ft j) := fun j => by
      show (∃ i : Nat, ks[i]? = some (Pk.sl j) ∧ (match ks.findIdx? (fun k => match k with | .sl i => decide (i = j) | _ => false) with | some i => fo i | none => ft j) = fo i) ∨ _
      cases q : ks.findIdx? (fun k => match k with | .sl i => decide (i = j) | _ => false) with
      | some i =>
        refine .inl ⟨i, ?_, rfl⟩
        obtain ⟨hi, hp, _⟩ := List.findIdx?_eq_some_iff_getElem.mp q
        rw [List.getElem?_eq_getElem hi]
        revert hp
        cases ks[i] with
        | dat d => intro hp; cases hp
        | sl a => intro hp; rw [of_decide_eq_true hp]
      | none =>
        refine .inr ⟨fun i e => ?_, ?_⟩
        · have hm := List.findIdx?_eq_none_iff.mp q (.sl j) (List.mem_of_getElem? e)
          simp at hm
        · show (match ks.findIdx? (fun k => match k with | .sl i => decide (i = j) | _ => false) with | some i => fo i | none => ft j) = ft j
          rw [q]
    refine ⟨⟨fn, ⟨t.sub, fun b u e => ?_, fun b u e => grow b u (s.grow b u e), fun b hb => ?_, ?_, fun j l e => ?_, fun j => ?_, fun j k b h1 h2 => ?_, fun j b hb => ?_, t.xnd, fun j b hb => ?_, fun b hb => ?_, s.pins⟩⟩, grow⟩
    · refine t.base b u ?_
      show B b = some u
      rw [B_out b fun i hi => ?_]
      · exact s.base b u e
      · obtain ⟨j, _, m⟩ := fc_mem i b hi
        rw [(s.sp j b m).2.1] at e; cases e
    · rcases t.new b hb with h | h
      · exact s.new b h
      · have h : B b = none := h
        refine .inr ?_
        by_cases hx : ∃ i, b ∈ fc i
        · obtain ⟨i, hi⟩ := hx
          obtain ⟨j, _, m⟩ := fc_mem i b hi
          exact (s.sp j b m).2.1
        · rw [B_out b fun i hi => hx ⟨i, hi⟩] at h
          exact Evl.fresh_back s.base h
    · rw [setO_len]; exact s.len
    · rcases setO_get (by rw [hol, hul]) e with ⟨i, h1, h2⟩ | ⟨h1, h2⟩
      · obtain ⟨v, e1, r⟩ := t.ok i l h2
        obtain ⟨u, eu, pk⟩ := Paired_get hk h1
        rw [List.getElem?_map, eu] at e1
        cases e1
        refine ⟨_, pk, ?_⟩
        rcases idx j with ⟨i', h3, h4⟩ | ⟨h3, _⟩
        · have := slND_uniq nd h1 h3
          subst this
          rw [h4]; exact r
        · exact absurd h1 (h3 i)
      · obtain ⟨v, e1, r⟩ := s.ok j l h2
        refine ⟨v, e1, ?_⟩
        rcases idx j with ⟨i', h3, h4⟩ | ⟨h3, h4⟩
        · exact absurd h3 (h1 i')
        · rw [h4]
          exact r.mono grow l fun b hb => keepH j b hb h3
    · rcases idx j with ⟨i', h3, h4⟩ | ⟨h3, h4⟩
      · rw [h4]; exact t.nd i'
      · rw [h4]; exact s.nd j
    · rcases idx j with ⟨i, h3, h4⟩ | ⟨h3, h4⟩ <;> rcases idx k with ⟨i', h5, h6⟩ | ⟨h5, h6⟩ <;> rw [h4] at h1 <;> rw [h6] at h2
      · have := t.dj i i' b h1 h2
        subst this
        rw [h3] at h5; cases h5; rfl
      · exact absurd (t.sp i b h1).2.1 (Bsome k b h2 h5)
      · exact absurd (t.sp i' b h2).2.1 (Bsome j b h1 h3)
      · exact s.dj j k b h1 h2
    · rcases idx j with ⟨i, h3, h4⟩ | ⟨h3, h4⟩ <;> rw [h4] at hb
      · obtain ⟨q1, q2, q3⟩ := t.sp i b hb
        have q2 : B b = none := q2
        refine ⟨q1, ?_, q3⟩
        by_cases hx : ∃ i, b ∈ fc i
        · obtain ⟨i, hi⟩ := hx
          obtain ⟨j, _, m⟩ := fc_mem i b hi
          exact (s.sp j b m).2.1
        · rw [B_out b fun i hi => hx ⟨i, hi⟩] at q2
          exact Evl.fresh_back s.base q2
      · obtain ⟨q1, q2, q3⟩ := s.sp j b hb
        refine ⟨?_, q2, ?_⟩
        · cases q : Hs' b with
          | none => rfl
          | some o =>
            rcases t.new b (by rw [q]; simp) with h | h
            · exact absurd q1 h
            · exact absurd h (Bsome j b hb h3)
        · rw [keepH j b hb h3]; exact q3
    · rcases idx j with ⟨i, h3, h4⟩ | ⟨h3, h4⟩ <;> rw [h4] at hb
      · exact t.xdj i b hb
      · intro hx
        exact absurd (t.xsp b hx).2.1 (Bsome j b hb h3)
    · obtain ⟨q1, q2, q3⟩ := t.xsp b hb
      have q2 : B b = none := q2
      refine ⟨q1, ?_, q3⟩
      by_cases hx : ∃ i, b ∈ fc i
      · obtain ⟨i, hi⟩ := hx
        obtain ⟨j, _, m⟩ := fc_mem i b hi
        exact (s.sp j b m).2.1
      · rw [B_out b fun i hi => hx ⟨i, hi⟩] at q2
        exact Evl.fresh_back s.base q2
end Ev
namespace Ev
open PySem PySem.Spec PyProof.Rows L2
open Evl (Ex)
structure FnAt (P : Program) (w : World) (K : PySem.W.Frag) (mg : Str → Option Value) (base : Heap) (k : Nat) (x : Str) (fn : Fn) : Prop where
  ex : ∃ f fd ps, mg x = some (.ref f) ∧ PySem.W.keepIn K (.ref f) = true ∧ Binds K fd ps [] ∧ FnOk P w K mg base (L2N.CX P w) k f fd ps (SpF K fn)
structure MtAt (P : Program) (w : World) (K : PySem.W.Frag) (mg : Str → Option Value) (base : Heap) (k : Nat) (C : Addr) (m : Str) (fn : Fn) : Prop where
  cls : Cls K C
  ex : ∃ f fd ps, Meth K C m f ∧ Binds K fd ps [] ∧ FnOk P w K mg base (L2N.CX P w) k f fd ps (SpF K fn)
structure MkAt (P : Program) (w : World) (K : PySem.W.Frag) (mg : Str → Option Value) (base : Heap) (k : Nat) (x : Str) (C : Addr) (fn : Fn) : Prop where
  ex : ∃ f fd ps, mg x = some (.ref C) ∧ Mk K C f ∧ Binds K fd ps [] ∧ FnOk P w K mg base (L2N.CX P w) k f fd ps (SpF K fn)
@[irreducible] def callF (fn : Fn) (ks : List Pk) : M L := fun s => match argsOf s ks with
  | some ls => if slND ks = true ∧ ks.length = fn.n then (match fn.run ls with
    | some (r, os) => some (r, setO s ks os)
    | none => none) else none
  | none => none
def fCall (fn : Fn) (Fr : M (List Pk)) : M L := bd Fr fun ks => callF fn ks
theorem callF_sp {K : PySem.W.Frag} {fn : Fn} {fm : Fm} {Hs : Hp} {vs vs' : VS} {σ : L2.St} {H : Hp} {ks : List Pk} {us : List V} {r : Except Xn L} {Q : VK} {E : XK} (S : Sim K fm Hs vs σ H []) (hk : Paired (PkOk K Hs σ) us ks) (hF : callF fn ks vs = some (r, vs'))
    (hQ : ∀ l v H' Hs' xf, r = .ok l → Sim K fm Hs' vs' σ H' xf → Ex Hs Hs' → LOk K Hs' H' v l xf → Q v H')
    (hE : ∀ x c dd H' Hs', r = .error x → Sim K fm Hs' vs' σ H' [] → Ex Hs Hs' → XOk K Hs' H' c dd x → E c dd H') : SpF K fn us H Q E := by
  unfold callF at hF
  split at hF
  · rename_i ls ea
    split at hF
    · rename_i hc
      split at hF
      · rename_i r' os er
        cases hF
        obtain ⟨B, S1, back⟩ := call_sim S hk ea hc.1
        refine ⟨by rw [Paired_len hk]; exact hc.2, B, Hs, ls, r, os, er, S1, fun l v H' Hs' xf q hl S' o => ?_, fun x c dd H' Hs' q hl S' o => ?_⟩
        · obtain ⟨S2, X2⟩ := back Hs' H' os xf hl S'
          exact hQ l v H' Hs' xf q S2 X2 o
        · obtain ⟨S2, X2⟩ := back Hs' H' os [] hl S'
          exact hE x c dd H' Hs' q S2 X2 o
      · cases hF
    · cases hF
  · cases hF
section
variable {X : Cx} {W : WX} {P : Pin} {e a b c o : Expr} {es : List Expr} {pos apos p : Pos} {k : Nat} {x m : Str} {fn : Fn} {Fr : M (List Pk)} {Fo : M Pk} {C : Addr}
theorem dl_call (Fk : FnAt X.prog X.w X.K X.mg X.base k x fn) (hr : Room k X.A) (hg : Gl X x) (tk : L2N.Takes X W) (ha : PA X (e :: es) (tKs X.K W P Fr)) (hdb : (x == ("__debug__" : Str)) = false) (he : starEach (e :: es) X.env = (false, eval e X.env) :: starEach es X.env) (hpl : (backTo pos (starEach es X.env)).any (·.1) = false) :
    PE X (.Call (.Name x p) (e :: es) [] pos) (tL X.K W P (fCall fn Fr)) := by
  obtain ⟨f, fd, ps, hm, hk, hb, F⟩ := Fk.ex
  refine PE_weak (pe_callS F hr hg hm hk hb (fun σ => L2N.passAt tk σ) ha hdb he hpl) fun σ H Q ⟨fm, Hs, vs, r', vs', hF, hP, hS, hk, hE⟩ => ?_
  dsimp only [tCallS]
  refine go hF hP hS hE fun ks vs1 us H1 Hs1 xf hg S1 X1 ⟨rx, ex⟩ => ?_
  subst ex
  exact callF_sp S1 rx hg (fun l v H' Hs' xf q S' X' o => hk l v H' Hs' xf q S' (X1.trans X') o) fun x c dd H' Hs' q S' X' o => hE x c dd H' Hs' q S' (X1.trans X') o
def tMethS (C : Addr) (m : Str) (sp : Sp) (E : L2.St → XK) (ta : TE) (t : TA) : TE := fun σ H Q => ta σ H fun x H1 => ∃ a dx fs, x = .ref a ∧ H1 a = some (.ins C dx fs) ∧ fs.lookup m = none ∧ t σ H1 fun vs H2 => sp (x :: vs) H2 Q (E σ)
theorem pe_methP {CX : CXT} {f : Addr} {fd : FuncData} {ps : List Str} {sp : Sp} {E : L2.St → XK} {ta : TE} {t : TA} {pl : Sem Bool} (he : PE X o ta) (c : Cls X.K C) (hm : Meth X.K C m f) (F : FnOk X.prog X.w X.K X.mg X.base CX k f fd ps sp) (hr : Room k X.A) (hb : Binds X.K fd ps []) (hx : ∀ σ, PassesAt CX X σ (E σ)) (ha : PA X (e :: es) t)
    (hst : starEach (e :: es) X.env = (false, eval e X.env) :: starEach es X.env) (hpl : (backTo pos (starEach es X.env)).any (·.1) = false)
    (ht : eval (.Call (.Attribute o m apos) (e :: es) [] pos) X.env = (do
      let ov ← eval o X.env
      standAt apos.atName
      let (f, first) ← holding [ov] (getMethod ov m pl)
      callWith pos f first (backTo pos (starEach (e :: es) X.env)) (backToKw pos (keywordEach [] X.env)))) :
    PE X (.Call (.Attribute o m apos) (e :: es) [] pos) (tMethS C m sp E ta t) := by
  refine ⟨fun pins s σ H Q I h => ?_⟩
  refine PySem.W.methodCall_KW (pl := pl) (thn (he.run pins s σ H _ I h) fun u s1 ⟨x, H1, I1, rx, a, dx, fs, ex, ea, l, q⟩ => ?_) ht
  subst ex
  obtain rfl : u = Value.ref a := rx
  refine getmeth_ok I1 ea c hm l ?_
  refine PySem.W.callWith_K (first := [.ref a]) (h₀ := X.base) I.ok.mod.kin hm.kp (thn (ha.run pos pins s1 σ H1 _ I1 q) fun us s2 ⟨vs, H2, I2, r, q2⟩ => ⟨I2.kIn, ?_⟩) hst hpl
  exact run_fnS (us := .ref a :: us) (vs := .ref a :: vs) F hr hb (hx σ) I2 (.cons rfl r) q2
theorem pe_methP0 {CX : CXT} {f : Addr} {fd : FuncData} {ps : List Str} {sp : Sp} {E : L2.St → XK} {ta : TE} {pl : Sem Bool} (he : PE X o ta) (c : Cls X.K C) (hm : Meth X.K C m f) (F : FnOk X.prog X.w X.K X.mg X.base CX k f fd ps sp) (hr : Room k X.A) (hb : Binds X.K fd ps []) (hx : ∀ σ, PassesAt CX X σ (E σ))
    (ht : eval (.Call (.Attribute o m apos) [] [] pos) X.env = (do
      let ov ← eval o X.env
      standAt apos.atName
      let (f, first) ← holding [ov] (getMethod ov m pl)
      callWith pos f first (backTo pos (starEach [] X.env)) (backToKw pos (keywordEach [] X.env)))) :
    PE X (.Call (.Attribute o m apos) [] [] pos) (tMethS C m sp E ta tNil) := by
  refine ⟨fun pins s σ H Q I h => ?_⟩
  refine PySem.W.methodCall_KW (pl := pl) (thn (he.run pins s σ H _ I h) fun u s1 ⟨x, H1, I1, rx, a, dx, fs, ex, ea, l, q⟩ => ?_) ht
  subst ex
  obtain rfl : u = Value.ref a := rx
  refine getmeth_ok I1 ea c hm l ?_
  exact PySem.W.callWith_K0 (first := [.ref a]) I1.kIn hm.kp (run_fnS (us := [.ref a]) (vs := [.ref a]) F hr hb (hx σ) I1 (.cons rfl .nil) q)
def clsOf (s : VS) : Pk → Option (Addr × List Str)
  | .dat (.ins C fs _) => some (C, fs)
  | .dat _ => none
  | .sl j => match s[j]? with
    | some (some (.obj C fs _)) => some (C, fs)
    | some (some (.d (.ins C fs _))) => some (C, fs)
    | _ => none
theorem lookup_none {β : Type} {m : Str} : ∀ {kvs : List (Str × β)}, m ∉ kvs.map (·.1) → kvs.lookup m = none
  | [], _ => rfl
  | (k, v) :: r, h => by
    simp only [List.map_cons, List.mem_cons, not_or] at h
    have : (m == k) = false := by simpa using h.1
    rw [List.lookup_cons, this]
    exact lookup_none h.2
theorem Sim.cls {K : PySem.W.Frag} {fm : Fm} {Hs : Hp} {vs : VS} {σ : L2.St} {H : Hp} {xf : List Addr} {v : V} {k : Pk} {C : Addr} {fs : List Str} (S : Sim K fm Hs vs σ H xf) (hk : PkOk K Hs σ v k) (hc : clsOf vs k = some (C, fs)) : ∃ a dx kvs, v = .ref a ∧ H a = some (.ins C dx kvs) ∧ kvs.map (·.1) = fs := by
  unfold clsOf at hc
  split at hc
  · cases hc
    cases hk with
    | ins h1 h2 h3 => exact ⟨_, _, _, rfl, S.sub _ _ h1, h2⟩
  · cases hc
  · have hk : σ[_]? = some (some v) := hk
    split at hc
    · rename_i e
      cases hc
      obtain ⟨v', f, e1, r⟩ := S.slot e
      rw [hk] at e1; cases e1
      cases r with
      | obj h1 h2 h3 => exact ⟨_, _, _, rfl, h1, h2⟩
    · rename_i e
      cases hc
      obtain ⟨v', e1, r⟩ := S.slotD e
      rw [hk] at e1; cases e1
      cases r with
      | ins h1 h2 h3 => exact ⟨_, _, _, rfl, S.sub _ _ h1, h2⟩
    · cases hc
def fMeth (C : Addr) (m : Str) (fn : Fn) (Fo : M Pk) (Fr : M (List Pk)) : M L := bd Fo fun o s1 => match clsOf s1 o with
  | some (C', fs) => if C' = C ∧ m ∉ fs then bd Fr (fun ks => callF fn (o :: ks)) s1 else none
  | none => none
theorem re_meth {ta : TE} {t : TA} (h1 : ∀ σ H Q, tK X.K W P Fo σ H Q → ta σ H Q) (h2 : ∀ σ H Q, tKs X.K W P Fr σ H Q → t σ H Q) : ∀ σ H Q, tL X.K W P (fMeth C m fn Fo Fr) σ H Q → tMethS C m (SpF X.K fn) (WE W) ta t σ H Q := fun σ H Q ⟨fm, Hs, vs, r', vs', hF, hP, hS, hk, hE⟩ => by
  refine h1 _ _ _ (go hF hP hS hE fun ko vs1 v H1 Hs1 xf hg S1 X1 ⟨rx, ex⟩ => ?_)
  subst ex
  split at hg
  · rename_i C' fs ec
    split at hg
    · rename_i hc
      obtain ⟨rfl, hm⟩ := hc
      obtain ⟨a, dx, kvs, rfl, ha, ek⟩ := S1.cls rx ec
      refine ⟨a, dx, kvs, rfl, ha, lookup_none (by rw [ek]; exact hm), h2 _ _ _ (go hg hP S1 (fun x c dd H' Hs' q S' X' o => hE x c dd H' Hs' q S' (X1.trans X') o) fun ks vs2 us H2 Hs2 xf hg S2 X2 ⟨ry, ex⟩ => ?_)⟩
      subst ex
      exact callF_sp S2 (.cons (rx.mono X2) ry) hg (fun l v H' Hs' xf q S' X' o => hk l v H' Hs' xf q S' ((X1.trans X2).trans X') o) fun x c dd H' Hs' q S' X' o => hE x c dd H' Hs' q S' ((X1.trans X2).trans X') o
    · cases hg
  · cases hg
theorem mtree {env : Env} {args : List Expr} (hbase : attributeBase o m env (eval o env) = eval o env) (hf : methodCallForm args.length (backTo pos (starEach args env)) (backToKw pos (keywordEach [] env)) = true) (hl : (apos.endLine == pos.line) = true) :
    eval (.Call (.Attribute o m apos) args [] pos) env = (do
      let ov ← eval o env
      standAt apos.atName
      let (f, first) ← holding [ov] (getMethod ov m (plainOf o env))
      callWith pos f first (backTo pos (starEach args env)) (backToKw pos (keywordEach [] env))) := by
  have e : eval (.Call (.Attribute o m apos) args [] pos) env = (do
    let ov ← attributeBase o m env (eval o env)
    standAt apos.atName
    methodCall o m apos pos env ov (args.length + ([] : List Keyword).length) (backTo pos (starEach args env)) (backToKw pos (keywordEach [] env))) := by rfl
  rw [e, hbase]
  congr 1
  funext ov
  congr 1
  funext _
  exact mcall_line hf hl
theorem dl_meth (Mk : MtAt X.prog X.w X.K X.mg X.base k C m fn) (hr : Room k X.A) (tk : L2N.Takes X W) (ho : PE X o (tK X.K W P Fo)) (ha : PA X (e :: es) (tKs X.K W P Fr)) (he : starEach (e :: es) X.env = (false, eval e X.env) :: starEach es X.env) (hpl : (backTo pos (starEach es X.env)).any (·.1) = false)
    (hbase : attributeBase o m X.env (eval o X.env) = eval o X.env) (hf : methodCallForm (e :: es).length (backTo pos (starEach (e :: es) X.env)) (backToKw pos (keywordEach [] X.env)) = true) (hl : (apos.endLine == pos.line) = true) :
    PE X (.Call (.Attribute o m apos) (e :: es) [] pos) (tL X.K W P (fMeth C m fn Fo Fr)) := by
  obtain ⟨f, fd, ps, hm, hb, F⟩ := Mk.ex
  exact PE_weak (pe_methP ho Mk.cls hm F hr hb (fun σ => L2N.passAt tk σ) ha he hpl (mtree hbase hf hl)) (re_meth (fun _ _ _ h => h) fun _ _ _ h => h)
theorem tnil_ok : ∀ σ H Q, tKs X.K W P kNil σ H Q → tNil σ H Q := fun σ H Q ⟨fm, Hs, vs, r', vs', hF, hP, hS, hk, hE⟩ => by
  cases hF
  exact hk _ [] H Hs [] rfl hS (Ex.refl _) ⟨.nil, rfl⟩
theorem dl_meth0 (Mk : MtAt X.prog X.w X.K X.mg X.base k C m fn) (hr : Room k X.A) (tk : L2N.Takes X W) (ho : PE X o (tK X.K W P Fo))
    (hbase : attributeBase o m X.env (eval o X.env) = eval o X.env) (hf : methodCallForm ([] : List Expr).length (backTo pos (starEach [] X.env)) (backToKw pos (keywordEach [] X.env)) = true) (hl : (apos.endLine == pos.line) = true) :
    PE X (.Call (.Attribute o m apos) [] [] pos) (tL X.K W P (fMeth C m fn Fo kNil)) := by
  obtain ⟨f, fd, ps, hm, hb, F⟩ := Mk.ex
  exact PE_weak (pe_methP0 ho Mk.cls hm F hr hb (fun σ => L2N.passAt tk σ) (mtree hbase hf hl)) (re_meth (fun _ _ _ h => h) tnil_ok)
def look {α : Type} (f : Str) : List Str → List α → Option α
  | k :: ks, d :: ds => if k = f then some d else look f ks ds
  | _, _ => none
theorem look_rep {K : PySem.W.Frag} {H : Hp} {f : Str} : ∀ {kvs : List (Str × V)} {ds : List D} {d : D}, RepL K H (kvs.map (·.2)) ds → look f (kvs.map (·.1)) ds = some d → ∃ v, kvs.lookup f = some v ∧ Rep K H v d
  | [], ds, d, h, e => by cases ds <;> cases e
  | (k, v) :: r, [], d, h, e => by cases h
  | (k, v) :: r, x :: ds, d, h, e => by
    cases h with
    | cons h1 h2 =>
      have e : (if k = f then some x else look f (r.map (·.1)) ds) = some d := e
      by_cases q : k = f
      · rw [if_pos q] at e; cases e
        subst q
        exact ⟨v, by rw [List.lookup_cons, beq_self_eq_true], h1⟩
      · rw [if_neg q] at e
        obtain ⟨u, e1, r1⟩ := look_rep h2 e
        have : (f == k) = false := by simpa using fun z => q z.symm
        exact ⟨u, by rw [List.lookup_cons, this]; exact e1, r1⟩
theorem look_lok {K : PySem.W.Frag} {Hs H : Hp} {f : Str} : ∀ {kvs : List (Str × V)} {ls : List L} {d : D} {g : List Addr}, LOkL K Hs H (kvs.map (·.2)) ls g → look f (kvs.map (·.1)) ls = some (.d d) → ∃ v, kvs.lookup f = some v ∧ Rep K Hs v d
  | [], ls, d, g, h, e => by cases ls <;> cases e
  | (k, v) :: r, [], d, g, h, e => by cases h
  | (k, v) :: r, x :: ls, d, g, h, e => by
    cases h with
    | cons h1 h2 =>
      have e : (if k = f then some x else look f (r.map (·.1)) ls) = some (.d d) := e
      by_cases q : k = f
      · rw [if_pos q] at e; cases e
        subst q
        cases h1 with
        | d h1 => exact ⟨v, by rw [List.lookup_cons, beq_self_eq_true], h1⟩
      · rw [if_neg q] at e
        obtain ⟨u, e1, r1⟩ := look_lok h2 e
        have : (f == k) = false := by simpa using fun z => q z.symm
        exact ⟨u, by rw [List.lookup_cons, this]; exact e1, r1⟩
def fldOf (C : Addr) (f : Str) (s : VS) : Pk → Option D
  | .dat (.ins C' fs ds) => if C' = C then look f fs ds else none
  | .dat _ => none
  | .sl j => match s[j]? with
    | some (some (.obj C' fs ls)) => if C' = C then (match look f fs ls with
      | some (.d x) => some x
      | _ => none) else none
    | some (some (.d (.ins C' fs ds))) => if C' = C then look f fs ds else none
    | _ => none
def fFld (C : Addr) (f : Str) (Fo : M Pk) : M D := bd Fo fun o s => match fldOf C f s o with
  | some d => some (.ok d, s)
  | none => none
theorem de_fld {f : Str} (hC : Cls X.K C) (hn : NoAttr X.K C f) (ho : PE X o (tK X.K W P Fo)) (hb : attributeBase o f X.env (eval o X.env) = eval o X.env) : PE X (.Attribute o f pos) (tE X.K W P (fFld C f Fo)) :=
  PE_weak (pe_fld ho hb) fun σ H Q ⟨fm, Hs, vs, r', vs', hF, hP, hS, hk, hE⟩ => by
    dsimp only [tFld]
    refine go hF hP hS hE fun ko vs1 v H1 Hs1 xf hg S1 X1 ⟨rx, ex⟩ => ?_
    subst ex
    split at hg
    · rename_i d ed
      cases hg
      have fin : ∃ a dx kvs u, v = .ref a ∧ H1 a = some (.ins C dx kvs) ∧ kvs.lookup f = some u ∧ Rep X.K Hs1 u d := by
        unfold fldOf at ed
        split at ed
        · split at ed
          · rename_i hc
            subst hc
            cases rx with
            | ins h1 h2 h3 =>
              subst h2
              obtain ⟨u, e1, r1⟩ := look_rep h3 ed
              exact ⟨_, _, _, u, rfl, S1.sub _ _ h1, e1, r1⟩
          · cases ed
        · cases ed
        · have rx : σ[_]? = some (some v) := rx
          split at ed
          · rename_i e0
            split at ed
            · rename_i hc
              subst hc
              split at ed
              · rename_i x el
                cases ed
                obtain ⟨v', g, e1, r⟩ := S1.slot e0
                rw [rx] at e1; cases e1
                cases r with
                | obj h1 h2 h3 =>
                  subst h2
                  obtain ⟨u, e2, r2⟩ := look_lok h3 el
                  exact ⟨_, _, _, u, rfl, h1, e2, r2⟩
              · cases ed
            · cases ed
          · rename_i e0
            split at ed
            · rename_i hc
              subst hc
              obtain ⟨v', e1, r⟩ := S1.slotD e0
              rw [rx] at e1; cases e1
              cases r with
              | ins h1 h2 h3 =>
                subst h2
                obtain ⟨u, e2, r2⟩ := look_rep h3 ed
                exact ⟨_, _, _, u, rfl, S1.sub _ _ h1, e2, r2⟩
            · cases ed
          · cases ed
      obtain ⟨a, dx, kvs, u, e1, e2, e3, r⟩ := fin
      exact ⟨a, C, dx, kvs, u, e1, e2, hC, hn, e3, hk d u H1 Hs1 [] rfl S1 X1 ⟨r, rfl⟩⟩
    · cases hg
end
theorem putF_new {f : Str} {v : V} : ∀ {kvs : List (Str × V)}, f ∉ kvs.map (·.1) → putF f v kvs = kvs ++ [(f, v)]
  | [], _ => rfl
  | (k, x) :: r, h => by
    simp only [List.map_cons, List.mem_cons, not_or] at h
    show (if k = f then _ else (k, x) :: putF f v r) = _
    rw [if_neg fun z => h.1 z.symm, putF_new h.2]
    rfl
theorem LOkL.snoc {K : PySem.W.Frag} {Hs H : Hp} {v : V} {l : L} {g : List Addr} (h : LOk K Hs H v l g) : ∀ {ls : List L} {vs : List V} {f : List Addr}, LOkL K Hs H vs ls f → LOkL K Hs H (vs ++ [v]) (ls ++ [l]) (f ++ g)
  | [], _, _, k => by
    cases k
    have := LOkL.cons h (LOkL.nil (K := K) (Hs := Hs) (H := H))
    rw [List.append_nil] at this
    exact this
  | x :: ls, _, _, k => by
    cases k with
    | cons k1 k2 =>
      rw [List.append_assoc]
      exact .cons k1 (LOkL.snoc h k2)
def sFldSet (j : Nat) (C : Addr) (f : Str) (Fv : M L) : M Fl := bd Fv fun l s => match s[j]? with
  | some (some (.obj C' fs ls)) => if C' = C ∧ f ∉ fs ∧ fs.length < 900 then some (.ok .nx, s.set j (some (.obj C' (fs ++ [f]) (ls ++ [l])))) else none
  | _ => none
theorem fld_write {K : PySem.W.Frag} {fm : Fm} {Hs : Hp} {vs : VS} {σ : L2.St} {H : Hp} {xf : List Addr} {j : Nat} {C dx a : Addr} {fs : List Str} {ls : List L} {kvs : List (Str × V)} {v : V} {l : L} {f : Str} (S : Sim K fm Hs vs σ H xf) (r : LOk K Hs H v l xf) (e : vs[j]? = some (some (.obj C fs ls))) (ev : σ[j]? = some (some (.ref a))) (ha : H a = some (.ins C dx kvs)) (ek : kvs.map (·.1) = fs) :
    Sim K fm Hs (vs.set j (some (.obj C (fs ++ [f]) (ls ++ [l])))) σ (upd H a (.ins C dx (kvs ++ [(f, v)]))) [] := by
  obtain ⟨ft, s⟩ := S
  obtain ⟨v', e1, r1⟩ := s.ok j _ e
  rw [ev] at e1; cases e1
  cases h : ft j with
  | nil => rw [h] at r1; cases r1
  | cons a' g =>
    rw [h] at r1
    cases r1 with
    | obj h1 h2 h3 =>
      rw [ha] at h1; cases h1
      have ham : a ∈ ft j := by rw [h]; simp
      have hnd : (a :: g).Nodup := by rw [← h]; exact s.nd j
      obtain ⟨hs, hb, hh⟩ := s.sp j a ham
      have hne : ∀ b, Hs b ≠ none → b ≠ a := fun b q z => q (by rw [z]; exact hs)
      have up : ∀ b, H b ≠ none → upd H a (.ins C dx (kvs ++ [(f, v)])) b ≠ none := fun b h => by
        unfold upd; split
        · simp
        · exact h
      have gne : ∀ b ∈ g, b ≠ a := fun b hbg z => (List.nodup_cons.mp hnd).1 (by rw [← z]; exact hbg)
      have xne : ∀ b ∈ xf, b ≠ a := fun b hb z => s.xdj j a ham (by rw [← z]; exact hb)
      refine ⟨fun i => if i = j then a :: (g ++ xf) else ft i, ⟨fun b u q => ?_, fun b u q => ?_, s.grow, s.new, by simp [s.len], fun i m ei => ?_, fun i => ?_, fun i k b q1 q2 => ?_, fun i b q => ?_, by simp, fun _ _ _ q => by simp at q, fun _ q => by simp at q, s.pins⟩⟩
      · rw [upd_ne (hne b (by rw [q]; simp))]; exact s.sub b u q
      · rw [upd_ne fun z => by rw [z, hb] at q; cases q]; exact s.base b u q
      · by_cases q : i = j
        · subst q
          rw [List.getElem?_set_self (List.getElem?_eq_some_iff.mp e).1] at ei
          cases ei
          rw [if_pos rfl]
          refine ⟨_, ev, .obj upd_same (by rw [List.map_append, ek]; rfl) ?_⟩
          rw [List.map_append]
          refine LOkL.snoc (r.mono (Ex.refl _) l fun b hb => upd_ne (xne b hb)) (h3.mono (Ex.refl _) ls fun b hb => upd_ne (gne b hb))
        · rw [List.getElem?_set_ne (Ne.symm q)] at ei
          rw [if_neg q]
          obtain ⟨u, e2, r2⟩ := s.ok i m ei
          exact ⟨u, e2, r2.mono (Ex.refl _) m fun b hb => upd_ne fun z => q (s.dj i j a (by rw [← z]; exact hb) ham)⟩
      · show List.Nodup (if _ then _ else _)
        split
        · refine List.nodup_cons.mpr ⟨fun q => ?_, List.nodup_append.mpr ⟨(List.nodup_cons.mp hnd).2, s.xnd, fun b hb c hc z => ?_⟩⟩
          · rcases List.mem_append.mp q with q | q
            · exact gne a q rfl
            · exact xne a q rfl
          · subst z
            exact s.xdj j b (by rw [h]; exact List.mem_cons_of_mem _ hb) hc
        · exact s.nd i
      · try dsimp only at q1 q2
        have key : ∀ i b, b ∈ (if i = j then a :: (g ++ xf) else ft i) → b ∈ xf ∨ b ∈ ft i := fun i b q => by
          split at q
          · rename_i z
            subst z
            rcases List.mem_cons.mp q with q | q
            · exact .inr (by rw [q]; exact ham)
            · rcases List.mem_append.mp q with q | q
              · exact .inr (by rw [h]; exact List.mem_cons_of_mem _ q)
              · exact .inl q
          · exact .inr q
        by_cases z1 : i = j
        · by_cases z2 : k = j
          · rw [z1, z2]
          · rw [if_neg z2] at q2
            rcases key i b q1 with q | q
            · exact absurd q (s.xdj k b q2)
            · exact s.dj i k b q q2
        · rw [if_neg z1] at q1
          rcases key k b q2 with q | q
          · exact absurd q (s.xdj i b q1)
          · exact s.dj i k b q1 q
      · try dsimp only at q
        split at q
        · rename_i z
          subst z
          rcases List.mem_cons.mp q with q | q
          · rw [q]; exact ⟨hs, hb, up a hh⟩
          · rcases List.mem_append.mp q with q | q
            · obtain ⟨k1, k2, k3⟩ := s.sp i b (by rw [h]; exact List.mem_cons_of_mem _ q)
              exact ⟨k1, k2, up b k3⟩
            · obtain ⟨k1, k2, k3⟩ := s.xsp b q
              exact ⟨k1, k2, up b k3⟩
        · obtain ⟨k1, k2, k3⟩ := s.sp i b q
          exact ⟨k1, k2, up b k3⟩
section
variable {X : Cx} {W : WX} {P : Pin} {e : Expr} {pos pos' p1 : Pos} {C : Addr} {x f : Str} {j : Nat} {Fv : M L}
theorem ds_fld (hC : Cls X.K C) (hn : NoAttr X.K C f) (ho : PE X (.Name x p1) (tVar j)) (he : PE X e (tL X.K W P Fv)) (hs : swapsWith e (some (.Attribute (.Name x p1) f pos')) pos.line X.env = pure false) : PS X (.Assign [.Attribute (.Name x p1) f pos'] e pos) (tS X.K W P (sFldSet j C f Fv)) :=
  PS_weak (ps_fld ho he hs) fun E σ H ⟨fm, Hs, vs, r, vs', hF, hP, hS, hk⟩ => by
    dsimp only [sFld]
    refine goS hF hP hS hk fun l vs1 v H1 Hs1 xf hg S1 X1 rx => ?_
    split at hg
    · rename_i C' fs ls e0
      split at hg
      · rename_i hc
        obtain ⟨rfl, hf, hlen⟩ := hc
        cases hg
        obtain ⟨v', g, e1, r1⟩ := S1.slot e0
        cases r1 with
        | obj h1 h2 h3 =>
          refine ⟨_, e1, _, _, _, _, rfl, h1, hC, hn, ?_, ?_⟩
          · have := congrArg List.length h2
            rw [List.length_map] at this
            omega
          · rw [putF_new (by rw [h2]; exact hf)]
            exact hk.nx σ _ Hs1 rfl (fld_write S1 rx e0 e1 h1 h2) X1
      · cases hg
    · cases hg
end
end Ev
namespace Ev
open PySem PySem.Spec PyProof.Rows L2
open Evl (Ex)
section
variable {K : PySem.W.Frag} {fm : Fm} {Hs : Hp} {vs : VS} {σ : L2.St} {H : Hp} {xf : List Addr} {v : V} {l : L}
theorem Sim.push (S : Sim K fm Hs vs σ H xf) (r : LOk K Hs H v l xf) : Sim K fm Hs (vs ++ [some l]) (σ ++ [some v]) H [] := by
  obtain ⟨ft, s⟩ := S
  have hl := s.len
  refine ⟨fun i => if i = vs.length then xf else (if i < vs.length then ft i else []), ⟨s.sub, s.base, s.grow, s.new, by simp [s.len], fun i m e => ?_, fun i => ?_, fun i j b h1 h2 => ?_, fun i b h => ?_, by simp, fun _ _ _ q => by simp at q, fun _ q => by simp at q, fun p hp => ?_⟩⟩
  · by_cases q : i = vs.length
    · subst q
      rw [List.getElem?_append_right (Nat.le_refl _), Nat.sub_self] at e
      have e : some (some l) = some (some m) := e
      cases e
      rw [if_pos rfl]
      refine ⟨v, ?_, r⟩
      rw [hl, List.getElem?_append_right (Nat.le_refl _), Nat.sub_self]
      rfl
    · have hi : i < vs.length := by
        have := (List.getElem?_eq_some_iff.mp e).1
        rw [List.length_append] at this
        simp at this
        omega
      rw [List.getElem?_append_left hi] at e
      rw [if_neg q, if_pos hi, List.getElem?_append_left (by omega)]
      exact s.ok i m e
  · show List.Nodup (if _ then _ else _)
    split
    · exact s.xnd
    · split
      · exact s.nd i
      · simp
  · try dsimp only at h1 h2
    split at h1
    · rename_i z1
      split at h2
      · rename_i z2; rw [z1, z2]
      · split at h2
        · exact absurd h1 (s.xdj j b h2)
        · simp at h2
    · split at h1
      · split at h2
        · exact absurd h2 (s.xdj i b h1)
        · split at h2
          · exact s.dj i j b h1 h2
          · simp at h2
      · simp at h1
  · try dsimp only at h
    split at h
    · exact s.xsp b h
    · split at h
      · exact s.sp i b h
      · simp at h
  · have q := s.pins p hp
    rw [List.getElem?_append_left (List.getElem?_eq_some_iff.mp q).1]
    exact q
theorem Sim.pop (S : Sim K fm Hs (vs ++ [some l]) (σ ++ [some v]) H []) (hl : vs.length = σ.length) (hp : ∀ p ∈ fm.pin, σ[p.1]? = some (some p.2)) : ∃ xf, Sim K fm Hs vs σ H xf ∧ LOk K Hs H v l xf := by
  obtain ⟨ft, s⟩ := S
  have e0 : (vs ++ [some l])[vs.length]? = some (some l) := by rw [List.getElem?_append_right (Nat.le_refl _), Nat.sub_self]; rfl
  obtain ⟨v', e1, r⟩ := s.ok vs.length l e0
  rw [hl, List.getElem?_append_right (Nat.le_refl _), Nat.sub_self] at e1
  have e1 : some (some v) = some (some v') := e1
  cases e1
  refine ⟨ft vs.length, ⟨fun i => if i = vs.length then [] else ft i, ⟨s.sub, s.base, s.grow, s.new, hl, fun i m e => ?_, fun i => ?_, fun i j b h1 h2 => ?_, fun i b h => ?_, s.nd _, fun i b h q => ?_, fun b h => s.sp _ b h, hp⟩⟩, r⟩
  · have hi := (List.getElem?_eq_some_iff.mp e).1
    rw [if_neg (by omega)]
    obtain ⟨u, e2, r2⟩ := s.ok i m (by rw [List.getElem?_append_left hi]; exact e)
    rw [List.getElem?_append_left (by omega)] at e2
    exact ⟨u, e2, r2⟩
  · show List.Nodup (if _ then _ else _)
    split
    · simp
    · exact s.nd i
  · try dsimp only at h1 h2
    split at h1
    · simp at h1
    · split at h2
      · simp at h2
      · exact s.dj i j b h1 h2
  · try dsimp only at h
    split at h
    · simp at h
    · exact s.sp i b h
  · try dsimp only at h
    split at h
    · simp at h
    · rename_i z; exact z (s.dj i _ b h q)
theorem Sim.pop0 {o : Option L} (S : Sim K fm Hs (vs ++ [o]) (σ ++ [some v]) H []) (hl : vs.length = σ.length) (hp : ∀ p ∈ fm.pin, σ[p.1]? = some (some p.2)) : Sim K fm Hs vs σ H [] := by
  obtain ⟨ft, s⟩ := S
  refine ⟨ft, ⟨s.sub, s.base, s.grow, s.new, hl, fun i m e => ?_, s.nd, s.dj, s.sp, by simp, fun _ _ _ q => by simp at q, fun _ q => by simp at q, hp⟩⟩
  have hi := (List.getElem?_eq_some_iff.mp e).1
  obtain ⟨u, e2, r2⟩ := s.ok i m (by rw [List.getElem?_append_left hi]; exact e)
  rw [List.getElem?_append_left (by omega)] at e2
  exact ⟨u, e2, r2⟩
theorem Sim.other (S : Sim K fm Hs vs σ H xf) {p : Addr} (hp : H p = none) (o : HO) : Sim K fm Hs vs σ (upd H p o) xf := by
  obtain ⟨ft, s⟩ := S
  have ne : ∀ a, H a ≠ none → a ≠ p := fun a ha e => ha (by rw [e]; exact hp)
  refine ⟨ft, ⟨fun a u e => ?_, fun a u e => ?_, s.grow, s.new, s.len, fun i m e => ?_, s.nd, s.dj, fun i a ha => ?_, s.xnd, s.xdj, fun a ha => ?_, s.pins⟩⟩
  · rw [upd_ne (ne_of_none (s.sub a u e) hp)]; exact s.sub a u e
  · rw [upd_ne (ne_of_none (s.base a u e) hp)]; exact s.base a u e
  · obtain ⟨v, e1, r⟩ := s.ok i m e
    exact ⟨v, e1, r.mono (Ex.refl _) m fun a ha => upd_ne (ne a (s.sp i a ha).2.2)⟩
  · obtain ⟨h1, h2, h3⟩ := s.sp i a ha
    exact ⟨h1, h2, by rw [upd_ne (ne a h3)]; exact h3⟩
  · obtain ⟨h1, h2, h3⟩ := s.xsp a ha
    exact ⟨h1, h2, by rw [upd_ne (ne a h3)]; exact h3⟩
end
theorem argsOf_app {s : VS} {o : Option L} : ∀ {ks : List Pk} {ls : VS}, argsOf s ks = some ls → argsOf (s ++ [o]) ks = some ls ∧ hasSl s.length ks = false ∧ ∀ os, setO (s ++ [o]) ks os = setO s ks os ++ [o]
  | [], ls, h => ⟨h, rfl, fun os => by unfold setO; rfl⟩
  | .dat d :: ks, ls, h => by
    unfold argsOf at h ⊢
    cases q : argsOf s ks with
    | none => rw [q] at h; cases h
    | some r =>
      rw [q] at h
      obtain ⟨h1, h2, h3⟩ := argsOf_app (o := o) q
      refine ⟨by rw [h1]; exact h, h2, fun os => ?_⟩
      cases os with
      | nil => unfold setO; rfl
      | cons a os => unfold setO; exact h3 os
  | .sl j :: ks, ls, h => by
    unfold argsOf at h ⊢
    split at h
    · rename_i l e
      have hj := (List.getElem?_eq_some_iff.mp e).1
      cases q : argsOf s ks with
      | none => rw [q] at h; cases h
      | some r =>
        rw [q] at h
        obtain ⟨h1, h2, h3⟩ := argsOf_app (o := o) q
        refine ⟨?_, ?_, fun os => ?_⟩
        · rw [List.getElem?_append_left hj, e, h1]
          exact h
        · unfold hasSl
          rw [h2, decide_eq_false (by omega)]
          rfl
        · cases os with
          | nil => unfold setO; rfl
          | cons a os =>
            unfold setO
            rw [h3 os, List.set_append_left]
            rw [setO_len]; exact hj
    · cases h
def tMakeS (C : Addr) (sp : Sp) (E : L2.St → XK) (t : TA) : TE := fun σ H Q => t σ H fun vs H1 => ∀ x dx, H1 x = none → H1 dx = none → dx ≠ x →
  sp (.ref x :: vs) (upd (upd H1 dx (.own x)) x (.ins C dx [])) (fun v H2 => v = .non ∧ Q (.ref x) H2) (E σ)
section
variable {X : Cx} {W : WX} {P : Pin} {e : Expr} {es : List Expr} {pos p : Pos} {k : Nat} {x : Str} {fn : Fn} {Fr : M (List Pk)} {C : Addr}
theorem run_makeS {CX : CXT} {f : Addr} {fd : FuncData} {ps : List Str} {sp : Sp} {E : L2.St → XK} {pins : List (Addr × Obj)} {σ : L2.St} {H : Hp} {s : Shared} {Q : VK} {us : List Value} {vs : List V} (M : Mk X.K C f) (F : FnOk X.prog X.w X.K X.mg X.base CX k f fd ps sp) (hr : Room (k + 1) X.A) (hb : Binds X.K fd ps [])
    (hx : PassesAt CX X σ (E σ)) (I : Inv X pins σ H s) (r : Vals vs us)
    (h : ∀ x dx, H x = none → H dx = none → dx ≠ x → sp (.ref x :: vs) (upd (upd H dx (.own x)) x (.ins C dx [])) (fun v H2 => v = .non ∧ Q (.ref x) H2) (E σ)) :
    wpAny (model X.prog X.w) X.A (call (.ref C) us) (EP X pins σ Q) X.xe s := by
  have hq := h (s.heap.objs.size + 1) s.heap.objs.size (I.hok.fresh (Nat.le_succ _)) (I.hok.fresh (Nat.le_refl _)) (Nat.ne_of_lt (Nat.lt_succ_self _))
  have I2 := Inv.made (C := C) I
  have r2 : Vals (V.ref (s.heap.objs.size + 1) :: vs) (Value.ref (s.heap.objs.size + 1) :: us) := .cons rfl r
  have hl : (Value.ref (s.heap.objs.size + 1) :: us).length = ps.length := by
    have e := r2.length
    rw [F.len _ _ _ _ hq] at e
    exact e.symm
  have b := hb _ (Value.ref (s.heap.objs.size + 1) :: us) I2.kIn (by rw [List.append_nil]; exact hl)
  rw [List.append_nil] at b
  refine wpAny_call (make_map (f := f) I.kIn M.makes M.init (beq_iff_eq.mp M.fn) (codeAny_mono (F.run _ X.stack _ _ ⟨Value.ref (s.heap.objs.size + 1) :: us, []⟩ (Value.ref (s.heap.objs.size + 1) :: us) _ _ (E σ) (hr.make C us [])
    (I2.env0.make C us []) b r2 hq) fun r s' hq' => ?_))
  cases r with
  | error e => exact hx pins _ _ e s' I2 hq'
  | ok fl =>
    cases fl with
    | ret u =>
      obtain ⟨v, H', I3, rv, ev, q3⟩ := I2.after hq'
      subst ev
      exact ⟨rv, ⟨V.ref (s.heap.objs.size + 1), H', I3, rfl, q3⟩⟩
    | next => exact False.elim hq'
    | brk => exact False.elim hq'
    | cont => exact False.elim hq'
theorem pe_makeS {CX : CXT} {f : Addr} {fd : FuncData} {ps : List Str} {sp : Sp} {E : L2.St → XK} {t : TA} (M : Mk X.K C f) (F : FnOk X.prog X.w X.K X.mg X.base CX k f fd ps sp) (hr : Room (k + 1) X.A) (hg : Gl X x) (hm : X.mg x = some (.ref C)) (hb : Binds X.K fd ps []) (hx : ∀ σ, PassesAt CX X σ (E σ))
    (ha : PA X (e :: es) t) (hdb : (x == ("__debug__" : Str)) = false) (he : starEach (e :: es) X.env = (false, eval e X.env) :: starEach es X.env) (hpl : (backTo pos (starEach es X.env)).any (·.1) = false) :
    PE X (.Call (.Name x p) (e :: es) [] pos) (tMakeS C sp E t) := by
  refine ⟨fun pins s σ H Q I h => ?_⟩
  refine wpAny_Call_Name_kw (ld_glob I hg hm ?_ hdb)
  refine PySem.W.callWith_K (h₀ := X.base) I.ok.mod.kin M.kp (thn (ha.run pos pins s σ H _ I h) fun us s1 ⟨vs, H1, I1, r, q⟩ => ⟨I1.kIn, ?_⟩) he hpl
  exact run_makeS M F hr hb (hx σ) I1 r q
@[irreducible] def makeF (C : Addr) (fn : Fn) (ks : List Pk) : M L := fun s => match argsOf s ks with
  | some ls => if slND ks = true ∧ ks.length + 1 = fn.n then (match fn.run (some (.obj C [] []) :: ls) with
    | some (.ok (.d .non), some l :: os) => some (.ok l, setO s ks os)
    | some (.error x, _ :: os) => some (.error x, setO s ks os)
    | _ => none) else none
  | none => none
def fMake (C : Addr) (fn : Fn) (Fr : M (List Pk)) : M L := bd Fr fun ks => makeF C fn ks
theorem dl_make (Mk : MkAt X.prog X.w X.K X.mg X.base k x C fn) (hr : Room (k + 1) X.A) (hg : Gl X x) (tk : L2N.Takes X W) (ha : PA X (e :: es) (tKs X.K W P Fr)) (hdb : (x == ("__debug__" : Str)) = false) (he : starEach (e :: es) X.env = (false, eval e X.env) :: starEach es X.env) (hpl : (backTo pos (starEach es X.env)).any (·.1) = false) :
    PE X (.Call (.Name x p) (e :: es) [] pos) (tL X.K W P (fMake C fn Fr)) := by
  obtain ⟨f, fd, ps, hm, hk, hb, F⟩ := Mk.ex
  refine PE_weak (pe_makeS hk F hr hg hm hb (fun σ => L2N.passAt tk σ) ha hdb he hpl) fun σ H Q ⟨fm, Hs, vs, r', vs', hF, hP, hS, hk, hE⟩ => ?_
  dsimp only [tMakeS]
  refine go hF hP hS hE fun ks vs1 us H1 Hs1 xf hg S1 X1 ⟨rx, ex⟩ => ?_
  subst ex
  intro xa dx hx hdx hne
  have hxd : upd H1 dx (.own xa) xa = none := by rw [upd_ne hne.symm]; exact hx
  have hl1 : vs1.length = σ.length := S1.leneq
  have hpin : ∀ p ∈ fm.pin, σ[p.1]? = some (some p.2) := (let ⟨ft, s⟩ := S1; s.pins)
  have S2 := ((S1.other hdx (.own xa)).allocX hxd (.ins C dx [])).push (v := .ref xa) (l := .obj C [] []) (.obj upd_same rfl .nil)
  unfold makeF at hg
  split at hg
  · rename_i ls ea
    split at hg
    · rename_i hc
      obtain ⟨a1, a2, a3⟩ := argsOf_app (o := some (.obj C [] [])) ea
      have ea2 : argsOf (vs1 ++ [some (.obj C [] [])]) (.sl vs1.length :: ks) = some (some (.obj C [] []) :: ls) := by
        unfold argsOf
        rw [List.getElem?_append_right (Nat.le_refl _), Nat.sub_self]
        show (argsOf (vs1 ++ [some (.obj C [] [])]) ks).map _ = _
        rw [a1]; rfl
      have nd2 : slND (.sl vs1.length :: ks) = true := by
        unfold slND
        rw [a2, hc.1]; rfl
      have hk2 : Paired (PkOk X.K Hs1 (σ ++ [some (.ref xa)])) (.ref xa :: us) (.sl vs1.length :: ks) := by
        refine .cons ?_ (Paired_imp rx fun u k q => ?_)
        · show (σ ++ [some (V.ref xa)])[vs1.length]? = some (some (V.ref xa))
          rw [hl1, List.getElem?_append_right (Nat.le_refl _), Nat.sub_self]; rfl
        · cases k with
          | dat d => exact q
          | sl j =>
            have q : σ[j]? = some (some u) := q
            show (σ ++ [some (V.ref xa)])[j]? = some (some u)
            rw [List.getElem?_append_left (List.getElem?_eq_some_iff.mp q).1]; exact q
      obtain ⟨B, S3, back⟩ := call_sim S2 hk2 ea2 nd2
      have hlen : (V.ref xa :: us).length = fn.n := by rw [List.length_cons, Paired_len rx]; exact hc.2
      split at hg
      · rename_i l os er
        cases hg
        refine ⟨hlen, B, Hs1, _, _, _, er, S3, fun l' v H' Hs' xf q hl' S' o => ?_, fun _ _ _ _ _ q => (by cases q)⟩
        cases q
        cases o with
        | d o =>
          cases o
          refine ⟨rfl, ?_⟩
          obtain ⟨S4, X4⟩ := back Hs' H' _ [] hl' S'
          unfold setO at S4
          rw [a3 os, List.set_append_right _ _ (by rw [setO_len]; exact Nat.le_refl _), setO_len, Nat.sub_self] at S4
          obtain ⟨xf, S5, r5⟩ := Sim.pop (vs := setO vs1 ks os) (l := l) (v := .ref xa) S4 (by rw [setO_len]; exact hl1) hpin
          exact hk l _ H' Hs' xf rfl S5 (X1.trans X4) r5
      · rename_i z o os er
        cases hg
        refine ⟨hlen, B, Hs1, _, _, _, er, S3, fun _ _ _ _ _ q => (by cases q), fun x' c dd H' Hs' q hl' S' o' => ?_⟩
        cases q
        obtain ⟨S4, X4⟩ := back Hs' H' _ [] hl' S'
        unfold setO at S4
        rw [a3 os, List.set_append_right _ _ (by rw [setO_len]; exact Nat.le_refl _), setO_len, Nat.sub_self] at S4
        have S5 := Sim.pop0 (vs := setO vs1 ks os) (v := .ref xa) S4 (by rw [setO_len]; exact hl1) hpin
        exact hE _ c dd H' Hs' rfl S5 (X1.trans X4) o'
      · cases hg
    · cases hg
  · cases hg
end
end Ev
namespace Ev
open PySem PySem.Spec PyProof.Rows L2
open Evl (Ex)
section
variable {P : Program} {w : World} {K : PySem.W.Frag} {mg : Str → Option Value} {base : Heap} {j k : Nat} {x m : Str} {fn : Fn} {C : Addr}
theorem FnAt.mono (F : FnAt P w K mg base j x fn) (h : j ≤ k) : FnAt P w K mg base k x fn := let ⟨f, fd, ps, a, b, c, d⟩ := F.ex; ⟨⟨f, fd, ps, a, b, c, d.mono h⟩⟩
theorem MtAt.mono (F : MtAt P w K mg base j C m fn) (h : j ≤ k) : MtAt P w K mg base k C m fn := let ⟨f, fd, ps, a, b, c⟩ := F.ex; ⟨F.cls, ⟨f, fd, ps, a, b, c.mono h⟩⟩
theorem MkAt.mono (F : MkAt P w K mg base j x C fn) (h : j ≤ k) : MkAt P w K mg base k x C fn := let ⟨f, fd, ps, a, b, c, d⟩ := F.ex; ⟨⟨f, fd, ps, a, b, c, d.mono h⟩⟩
end
def GInt (mg : Str → Option Value) (x : Str) (i : Int) : Prop := ∃ t, mg x = some (.int i t)
def GStr (mg : Str → Option Value) (x : Str) (z : Str) : Prop := ∃ t, mg x = some (.str z t)
section
variable {X : Cx} {W : WX} {P : Pin} {e a b c o : Expr} {es : List Expr} {pos apos p : Pos} {k : Nat} {x m : Str} {fn : Fn} {C : Addr} {Fa Fb Fc Fo : M Pk} {F G : M D} {FL : M L} {Fr : M (List Pk)}
theorem de_gint {i : Int} (g : GInt X.mg x i) (hg : Gl X x := by rfl) (hd : (x == ("__debug__" : Str)) = false := by decide) : PE X (.Name x pos) (tE X.K W P (rt (.int i))) := by
  obtain ⟨t, h⟩ := g
  exact de_const (pe_glob (v := .int i) hg h ⟨_, rfl⟩ hd) fun _ => .int i
theorem de_gstr {z : Str} (g : GStr X.mg x z) (hg : Gl X x := by rfl) (hd : (x == ("__debug__" : Str)) = false := by decide) : PE X (.Name x pos) (tE X.K W P (rt (.str z))) := by
  obtain ⟨t, h⟩ := g
  exact de_const (pe_glob (v := .str z) hg h ⟨_, rfl⟩ hd) fun _ => .str z
def sNever : M Fl := fun _ => none
theorem ds_never {st : Stmt} : PS X st (tS X.K W P sNever) := PS_weak ps_never fun E σ H ⟨fm, Hs, vs, r, vs', hF, hP, hS, hk⟩ => by cases hF
def tyD : D → Option String
  | .non => some "NoneType"
  | .bl _ => some "bool"
  | .int _ => some "int"
  | .str _ => some "str"
  | .tup _ => some "tuple"
  | .lst _ => some "list"
  | .dic _ _ => some "dict"
  | _ => none
def kitD (a b : String) : Option Bool := match b with
  | "bool" => some (a == "bool")
  | "int" => some (a == "int" || a == "bool")
  | "str" => some (a == "str")
  | "dict" => some (a == "dict")
  | "tuple" => some (a == "tuple")
  | "list" => some (a == "list")
  | _ => none
theorem kitD_ok {d : D} {a b : String} {r : Bool} (h1 : tyD d = some a) (h : kitD a b = some r) : kitB a b = some r := by
  have ha : a ∈ ["NoneType", "bool", "int", "str", "tuple", "list", "dict"] := by
    unfold tyD at h1
    split at h1 <;> first | (cases h1; decide) | cases h1
  have hb : b ∈ ["bool", "int", "str", "dict", "tuple", "list"] := by
    unfold kitD at h
    split at h <;> first | decide | cases h
  have key : ∀ a ∈ ["NoneType", "bool", "int", "str", "tuple", "list", "dict"], ∀ b ∈ ["bool", "int", "str", "dict", "tuple", "list"], kitB a b = kitD a b := by decide +kernel
  rw [key a ha b hb]
  exact h
theorem tyD_ok {K : PySem.W.Frag} {Hs H : Hp} {v : V} {d : D} {a : String} (e : Ex Hs H) (h : Rep1 K Hs H v d) (ht : tyD d = some a) : TyX K H v (.type a) := by
  cases d with
  | non => cases ht; rw [h.isNon]; exact .base .non
  | bl b => cases ht; rw [h.isBl]; exact .base (.bl b)
  | int i => cases ht; rw [h.isInt]; exact .base (.int i)
  | str z => cases ht; rw [h.isStr]; exact .base (.str z)
  | tup xs => cases ht; obtain ⟨a, vs, rfl, ha, _⟩ := h.isTup e; exact .base (.tup ha)
  | lst xs => cases ht; obtain ⟨a, vs, rfl, ha, _⟩ := h.isLst e; exact .base (.lst ha)
  | dic ks ds => cases ht; obtain ⟨a, kvs, rfl, ha, _⟩ := h.isDic e; exact .base (.dK ha)
  | scr _ => cases ht
  | ins _ _ _ => cases ht
def dIsi (T : String) (d : D) : Option Bool := match tyD d with
  | some a => kitD a T
  | none => none
def fIsi (T : String) (Fa : M Pk) : M D := bd Fa fun k s => match res s k with
  | some d => (match dIsi T d with
    | some b => some (.ok (.bl b), s)
    | none => none)
  | none => none
theorem de_isi {T : String} {y : Str} {p2 : Pos} (hm : X.mg "isinstance" = none) (hy : X.mg y = none) (hv : bootBuiltins y = some (.type T)) (ha : PE X a (tK X.K W P Fa)) (hg : Gl X "isinstance" := by rfl) (hgy : Gl X y := by rfl) (hn : y ≠ "__name__" := by decide) (hdb : (y == ("__debug__" : Str)) = false := by decide)
    (h1 : starEach [a, .Name y p2] X.env = (false, eval a X.env) :: starEach [.Name y p2] X.env := by rfl) (h2 : (backTo pos (starEach [.Name y p2] X.env)).any (·.1) = false := by rfl) :
    PE X (.Call (.Name "isinstance" p) [a, .Name y p2] [] pos) (tE X.K W P (fIsi T Fa)) :=
  PE_weak (pe_callB call_isi hg hm boot_isinstance (pa_cons ha (pa_cons (pe_bltn hgy hy hv (v := .ty T) rfl hn hdb) pa_nil rfl) h1) (by decide) (by decide) h1 h2) fun σ H Q ⟨fm, Hs, vs, r', vs', hF, hP, hS, hk, hE⟩ => by
    dsimp only [tCB, tCons, tNil, tC]
    refine go hF hP hS hE fun ka vs1 v H1 Hs1 xf hg S1 X1 ⟨rx, ex⟩ => ?_
    subst ex
    split at hg
    · rename_i d ed
      split at hg
      · rename_i b eb
        cases hg
        unfold dIsi at eb
        split at eb
        · rename_i a' ea
          have r1 := S1.res rx (Ex.refl _) ed
          exact ⟨v, .ty T, .type a', .type T, b, rfl, .ty T, tyD_ok S1.sub r1 ea, kit_ty (kitD_ok ea eb), hk _ _ H1 Hs1 [] rfl S1 X1 ⟨.bl b, rfl⟩⟩
        · cases eb
      · cases hg
    · cases hg
structure Tab (K : PySem.W.Frag) (w : World) (mg : Str → Option Value) (x : Str) (t : List (Str × Int)) : Prop where
  ex : ∃ d es n, mg x = some (.ref d) ∧ KDict K w d es n ∧ ∀ z : Str, ∃ r, PySem.W.nsIn K d z = some r ∧ (match t.lookup z with
    | some i => ∃ tk, r = some (.int i tk)
    | none => r = none)
def dTab (t : List (Str × Int)) : D → D → Option D
  | .str z, d => some (match t.lookup z with
    | some i => .int i
    | none => d)
  | _, _ => none
def fTab (t : List (Str × Int)) (F G : M D) : M D := bd F fun z => bd G fun d s => match dTab t z d with
  | some r => some (.ok r, s)
  | none => none
theorem de_tab {t : List (Str × Int)} {f : Expr} (T : Tab X.K X.w X.mg x t) (he : PE X e (tE X.K W P F)) (hf : PE X f (tE X.K W P G)) (m : M2 X (.Name x p) "get" apos e f pos) (hg : Gl X x := by rfl) (hd : (x == ("__debug__" : Str)) = false := by decide) :
    PE X (.Call (.Attribute (.Name x p) "get" apos) [e, f] [] pos) (tE X.K W P (fTab t F G)) := by
  obtain ⟨d, es, n, hm, D, hz⟩ := T.ex
  refine ⟨fun pins s σ H Q I h => ?_⟩
  have hx : PE X (.Name x p) (tC (.ref d)) := pe_glob hg hm rfl hd
  refine wpAny_Call_method m.base m.few m.line PySem.F.plainAttrs_dict PySem.F.slot_dict_get PySem.F.type_dict_get (thn (hx.run pins s σ H (fun x H1 => x = .ref d ∧ H1 = H) I ⟨rfl, rfl⟩) fun u s1 ⟨y, H1, I1, ry, ey, eH⟩ => ?_)
  subst ey; subst eH
  obtain rfl : u = Value.ref d := ry
  refine ⟨kd_type D I1, fun b q => ?_, ?_⟩
  · cases q
    exact ⟨_, I1.kIn _ _ D.at_, rfl⟩
  rw [m.trees]
  obtain ⟨fm, Hs, vs, r', vs', hF, hP, hS, hk, hE⟩ := h
  have q1 : tE X.K W P F σ H1 (fun zv H2 => tE X.K W P G σ H2 fun dv H3 => ∃ z, zv = .str z ∧ Q (match t.lookup z with
    | some i => .int i
    | none => dv) H3) := by
    refine go hF hP hS hE fun zd vs1 v H2 Hs1 xf hg S1 X1 ⟨rx, ex⟩ => ?_
    subst ex
    refine go hg hP S1 (fun x c dd H' Hs' q S' X' o => hE x c dd H' Hs' q S' (X1.trans X') o) fun dd vs2 y H3 Hs2 xf hg S2 X2 ⟨ry, ex⟩ => ?_
    subst ex
    split at hg
    · rename_i r er
      cases hg
      unfold dTab at er
      split at er
      · cases rx
        cases er
        refine ⟨_, rfl, hk _ _ H3 Hs2 [] rfl S2 (X1.trans X2) ⟨?_, rfl⟩⟩
        split
        · exact .int _
        · exact ry
      · cases er
    · cases hg
  refine Calls.callWith_builtin rfl (Calls.evalArgs_plain (Calls.spliced_cons (thn (he.run pins s1 σ H1 _ I1 q1) fun iv s2 ⟨y, H2, I2, ry, q2⟩ =>
    Calls.spliced_cons (thn (hf.run pins s2 σ H2 _ I2 q2) fun fv s3 ⟨z, H3, I3, rz, zz, ez, q3⟩ => Calls.spliced_nil ?_))))
  subst ez
  obtain ⟨tk, rfl⟩ := ry
  obtain ⟨r, er, hr⟩ := hz zz
  refine call_meetsIn PySem.F.slot_dict_get (kd_type D I3) PySem.F.entry_dict_get (PySem.F.args_dict_get_3 _ _ _) (meets_dict_get_default (strKind X.prog X.w) d (PySem.strKind_is X.prog X.w zz tk) D.low fv) ⟨_, PySem.W.mapOf_K (prog := X.prog) I3.kIn D.at_ D.lit, ?_⟩
  rw [PySem.W.find_K D.at_ er]
  cases q : t.lookup zz with
  | none =>
    rw [q] at hr q3
    have hr : r = none := hr
    subst hr
    exact ⟨z, H3, I3.tok _, rz, q3⟩
  | some i =>
    rw [q] at hr q3
    obtain ⟨tk2, hr⟩ := (show ∃ tk, r = some (.int i tk) from hr)
    subst hr
    exact ⟨.int i, H3, I3.tok _, ⟨_, rfl⟩, q3⟩
theorem g_set {i : Nat} {pos' : Pos} (hp : i ∉ P.ix) (hN : X.N.Nodup) (he : PE X e (tL X.K W P FL)) (hi : X.N[i]? = some x := by rfl) (hx : Loc X.env.scope x := by first | exact .inl rfl | exact .inr rfl) (hs : swapsWith e (some (.Name x pos')) pos.line X.env = pure false := by rfl) (hf : X.fn x = true ∨ X.env.scope.names.lookup x = some .local := by first | exact .inl rfl | exact .inr rfl) :
    PS X (.Assign [.Name x pos'] e pos) (tS X.K W P (sSet i FL)) := ds_set hp hN hi hx he hs hf
theorem g_name {i : Nat} (hp : i ∉ P.ix) (hN : X.N.Nodup) (hi : X.N[i]? = some x := by rfl) (hx : Loc X.env.scope x := by first | exact .inl rfl | exact .inr rfl) (hf : X.fn x = true ∨ X.env.scope.names.lookup x = some .local := by first | exact .inl rfl | exact .inr rfl) : PG X (.Name x pos) (tG X.K P (.nm i)) := dg_name hp hN hi hx hf
theorem g_append {i : Nat} {Fd : M D} (ha : PE X e (tE X.K W P Fd)) (ho : PE X (.Name x p) (tVar i)) (hbase : attributeBase (.Name x p) "append" X.env (eval (.Name x p) X.env) = eval (.Name x p) X.env := by rfl)
    (hfew : ((backTo pos (starEach [e] X.env)).all (fun x => !x.1) && (backToKw pos (keywordEach [] X.env)).all (fun x => x.1.isSome) && decide (([e] : List Expr).length + ([] : List Keyword).length + (if ([] : List Keyword).isEmpty then 0 else 1) < 30)) = true := by rfl)
    (hline : (apos.endLine == pos.line) = true := by rfl) (hs : starEach [e] X.env = (false, eval e X.env) :: starEach [] X.env := by rfl) (hplain : (backTo pos (starEach [] X.env)).any (·.1) = false := by rfl) :
    PE X (.Call (.Attribute (.Name x p) "append" apos) [e] [] pos) (tE X.K W P (fW i gAppend (aCons Fd aNil))) :=
  PE_weak (pe_bm PySem.F.plainAttrs_list PySem.F.slot_list_append PySem.F.type_list_append mt_append ho (das_cons ha das_nil hs) hbase hfew hline hs hplain) (re_fW ow_append)
theorem g_pop1 {i : Nat} {Fd : M D} (ha : PE X e (tE X.K W P Fd)) (ho : PE X (.Name x p) (tVar i)) (hbase : attributeBase (.Name x p) "pop" X.env (eval (.Name x p) X.env) = eval (.Name x p) X.env := by rfl)
    (hfew : ((backTo pos (starEach [e] X.env)).all (fun x => !x.1) && (backToKw pos (keywordEach [] X.env)).all (fun x => x.1.isSome) && decide (([e] : List Expr).length + ([] : List Keyword).length + (if ([] : List Keyword).isEmpty then 0 else 1) < 30)) = true := by rfl)
    (hline : (apos.endLine == pos.line) = true := by rfl) (hs : starEach [e] X.env = (false, eval e X.env) :: starEach [] X.env := by rfl) (hplain : (backTo pos (starEach [] X.env)).any (·.1) = false := by rfl) :
    PE X (.Call (.Attribute (.Name x p) "pop" apos) [e] [] pos) (tE X.K W P (fW i gPop (aCons Fd aNil))) :=
  PE_weak (pe_bm PySem.F.plainAttrs_list PySem.F.slot_list_pop PySem.F.type_list_pop (MtR.or mt_pop mt_popAt) ho (das_cons ha das_nil hs) hbase hfew hline hs hplain) (re_fW ow_pop)
theorem g_pop0 {i : Nat} (ho : PE X (.Name x p) (tVar i)) (hbase : attributeBase (.Name x p) "pop" X.env (eval (.Name x p) X.env) = eval (.Name x p) X.env := by rfl) (hline : (apos.endLine == pos.line) = true := by rfl) :
    PE X (.Call (.Attribute (.Name x p) "pop" apos) [] [] pos) (tE X.K W P (fW i gPop aNil)) :=
  PE_weak (pe_bm0 PySem.F.plainAttrs_list PySem.F.slot_list_pop PySem.F.type_list_pop (MtR.or mt_pop mt_popAt) ho hbase hline) (re_fW0 ow_pop)
theorem g_clear {i : Nat} (ho : PE X (.Name x p) (tVar i)) (hbase : attributeBase (.Name x p) "clear" X.env (eval (.Name x p) X.env) = eval (.Name x p) X.env := by rfl) (hline : (apos.endLine == pos.line) = true := by rfl) :
    PE X (.Call (.Attribute (.Name x p) "clear" apos) [] [] pos) (tE X.K W P (fW i gClear aNil)) :=
  PE_weak (pe_bm0 PySem.F.plainAttrs_list PySem.F.slot_list_clear PySem.F.type_list_clear mt_clear ho hbase hline) (re_fW0 ow_clear)
theorem g_index (ho : PE X o (tK X.K W P Fo)) (ha : PA X [e] (tKs X.K W P Fr)) (hbase : attributeBase o "index" X.env (eval o X.env) = eval o X.env := by rfl)
    (hfew : ((backTo pos (starEach [e] X.env)).all (fun x => !x.1) && (backToKw pos (keywordEach [] X.env)).all (fun x => x.1.isSome) && decide (([e] : List Expr).length + ([] : List Keyword).length + (if ([] : List Keyword).isEmpty then 0 else 1) < 30)) = true := by rfl)
    (hline : (apos.endLine == pos.line) = true := by rfl) (hs : starEach [e] X.env = (false, eval e X.env) :: starEach [] X.env := by rfl) (hplain : (backTo pos (starEach [] X.env)).any (·.1) = false := by rfl) :
    PE X (.Call (.Attribute o "index" apos) [e] [] pos) (tL X.K W P (fM "list" dIndex Fo Fr)) :=
  PE_weak (pe_bm PySem.F.plainAttrs_list PySem.F.slot_list_index PySem.F.type_list_index mt_index ho ha hbase hfew hline hs hplain) (re_fM ok_index)
end
end Ev
namespace Ev
open PySem PySem.Spec PyProof.Rows L2
open Evl (Ex)
structure FunG (K : PySem.W.Frag) (mg : Str → Option Value) (x : Str) (ps : List Str) (st : Stmt) : Prop where
  ex : ∃ f fd, mg x = some (.ref f) ∧ PySem.W.keepIn K (.ref f) = true ∧ Binds K fd ps [] ∧ Fun K x x st f fd
structure FunM (K : PySem.W.Frag) (C : Addr) (m qual : Str) (ps : List Str) (st : Stmt) : Prop where
  ex : ∃ f fd, Meth K C m f ∧ Binds K fd ps [] ∧ Fun K m qual st f fd
structure FunI (K : PySem.W.Frag) (mg : Str → Option Value) (x : Str) (C : Addr) (qual : Str) (ps : List Str) (st : Stmt) : Prop where
  ex : ∃ f fd, mg x = some (.ref C) ∧ Mk K C f ∧ Binds K fd ps [] ∧ Fun K "__init__" qual st f fd
def mkFn (n nn : Nat) (io : List Nat) (F : M Fl) : Fn := ⟨n, io, mkRun n nn io F⟩
abbrev BodyOk (P : Program) (w : World) (K : PySem.W.Frag) (mg : Str → Option Value) (base : Heap) (N : List Str) (qual : Str) (st : Stmt) (k : Nat) (io : List Nat) (F : M Fl) : Prop :=
  ∀ (f : Addr) (cdv : Value) (A : Around) (outer : List Env) (s : Shared) (H : Hp) (E : XK), Room k (A.deeper (envOfC qual (defScope st) s.heap.objs.size f cdv)) →
      PSs (cxOf (L2N.CX P w) P w K mg base N qual (defScope st) f cdv A outer s H E) (defBody st) (tS K (fun c dd _ H => E c dd H) ⟨io, none⟩ F)
section
variable {P : Program} {w : World} {K : PySem.W.Frag} {mg : Str → Option Value} {base : Heap} {x qual m : Str} {st : Stmt} {N ps : List Str} {k : Nat} {io : List Nat} {F : M Fl} {C : Addr}
theorem fn_at (G : FunG K mg x ps st) (S : FnScope N ps (defScope st)) (hio : ∀ i ∈ io, i < ps.length) (hB : BodyOk P w K mg base N x st k io F) : FnAt P w K mg base (k + 1) x (mkFn ps.length N.length io F) := by
  obtain ⟨f, fd, h1, h2, h3, h4⟩ := G.ex
  exact ⟨⟨f, fd, ps, h1, h2, h3, fn_ok h4 S hio (hB f)⟩⟩
theorem mt_at (c : Cls K C) (G : FunM K C m qual ps st) (S : FnScope N ps (defScope st)) (hio : ∀ i ∈ io, i < ps.length) (hB : BodyOk P w K mg base N qual st k io F) : MtAt P w K mg base (k + 1) C m (mkFn ps.length N.length io F) := by
  obtain ⟨f, fd, h1, h3, h4⟩ := G.ex
  exact ⟨c, ⟨f, fd, ps, h1, h3, fn_ok h4 S hio (hB f)⟩⟩
theorem mk_at (G : FunI K mg x C qual ps st) (S : FnScope N ps (defScope st)) (hio : ∀ i ∈ io, i < ps.length) (hB : BodyOk P w K mg base N qual st k io F) : MkAt P w K mg base (k + 1) x C (mkFn ps.length N.length io F) := by
  obtain ⟨f, fd, h1, h2, h3, h4⟩ := G.ex
  exact ⟨⟨f, fd, ps, h1, h2, h3, fn_ok h4 S hio (hB f)⟩⟩
end
section
variable {X : Cx} {W : WX} {P : Pin} {e a b c o : Expr} {es : List Expr} {pos apos p : Pos} {k : Nat} {x m : Str} {fn : Fn} {C : Addr} {Fa Fb Fc Fo : M Pk} {F G : M D} {FL : M L} {Fr : M (List Pk)}
theorem dss_never {sts : List Stmt} : PSs X sts (tS X.K W P sNever) := ⟨fun pins s σ H E I ⟨fm, Hs, vs, r, vs', hF, hP, hS, hk⟩ => by cases hF⟩
theorem g_callB {id : String} {r : List V → Hp → VK → Prop} {f : List D → Option L} (hc : CallR X (.builtin id) r) (hr : OpN X.K r f) (hv : bootBuiltins x = some (.builtin id)) (hm : X.mg x = none) (ha : PA X (e :: es) (tKs X.K W P Fr)) (hg : Gl X x := by rfl)
    (hn : x ≠ "__name__" := by decide) (hdb : (x == ("__debug__" : Str)) = false := by decide) (he : starEach (e :: es) X.env = (false, eval e X.env) :: starEach es X.env := by rfl) (hpl : (backTo pos (starEach es X.env)).any (·.1) = false := by rfl) :
    PE X (.Call (.Name x p) (e :: es) [] pos) (tL X.K W P (fN f Fr)) := dl_callB hc hr hg hm hv ha hn hdb he hpl
theorem g_callT {T : String} {r : List V → Hp → VK → Prop} {f : List D → Option L} (hc : CallR X (.type T) r) (hr : OpN X.K r f) (hv : bootBuiltins x = some (.type T)) (hm : X.mg x = none) (ha : PA X (e :: es) (tKs X.K W P Fr)) (hg : Gl X x := by rfl)
    (hn : x ≠ "__name__" := by decide) (hdb : (x == ("__debug__" : Str)) = false := by decide) (he : starEach (e :: es) X.env = (false, eval e X.env) :: starEach es X.env := by rfl) (hpl : (backTo pos (starEach es X.env)).any (·.1) = false := by rfl) :
    PE X (.Call (.Name x p) (e :: es) [] pos) (tL X.K W P (fN f Fr)) := dl_callT hc hr hg hm hv ha hn hdb he hpl
theorem g_call (Fk : FnAt X.prog X.w X.K X.mg X.base k x fn) (hr : Room k X.A) (tk : L2N.Takes X W) (ha : PA X (e :: es) (tKs X.K W P Fr)) (hg : Gl X x := by rfl) (hdb : (x == ("__debug__" : Str)) = false := by decide) (he : starEach (e :: es) X.env = (false, eval e X.env) :: starEach es X.env := by rfl) (hpl : (backTo pos (starEach es X.env)).any (·.1) = false := by rfl) :
    PE X (.Call (.Name x p) (e :: es) [] pos) (tL X.K W P (fCall fn Fr)) := dl_call Fk hr hg tk ha hdb he hpl
theorem g_make (Mk : MkAt X.prog X.w X.K X.mg X.base k x C fn) (hr : Room (k + 1) X.A) (tk : L2N.Takes X W) (ha : PA X (e :: es) (tKs X.K W P Fr)) (hg : Gl X x := by rfl) (hdb : (x == ("__debug__" : Str)) = false := by decide) (he : starEach (e :: es) X.env = (false, eval e X.env) :: starEach es X.env := by rfl) (hpl : (backTo pos (starEach es X.env)).any (·.1) = false := by rfl) :
    PE X (.Call (.Name x p) (e :: es) [] pos) (tL X.K W P (fMake C fn Fr)) := dl_make Mk hr hg tk ha hdb he hpl
theorem g_meth (Mk : MtAt X.prog X.w X.K X.mg X.base k C m fn) (hr : Room k X.A) (tk : L2N.Takes X W) (ho : PE X o (tK X.K W P Fo)) (ha : PA X (e :: es) (tKs X.K W P Fr)) (he : starEach (e :: es) X.env = (false, eval e X.env) :: starEach es X.env := by rfl) (hpl : (backTo pos (starEach es X.env)).any (·.1) = false := by rfl)
    (hbase : attributeBase o m X.env (eval o X.env) = eval o X.env := by rfl) (hf : methodCallForm (e :: es).length (backTo pos (starEach (e :: es) X.env)) (backToKw pos (keywordEach [] X.env)) = true := by rfl) (hl : (apos.endLine == pos.line) = true := by rfl) :
    PE X (.Call (.Attribute o m apos) (e :: es) [] pos) (tL X.K W P (fMeth C m fn Fo Fr)) := dl_meth Mk hr tk ho ha he hpl hbase hf hl
theorem g_meth0 (Mk : MtAt X.prog X.w X.K X.mg X.base k C m fn) (hr : Room k X.A) (tk : L2N.Takes X W) (ho : PE X o (tK X.K W P Fo))
    (hbase : attributeBase o m X.env (eval o X.env) = eval o X.env := by rfl) (hf : methodCallForm ([] : List Expr).length (backTo pos (starEach [] X.env)) (backToKw pos (keywordEach [] X.env)) = true := by rfl) (hl : (apos.endLine == pos.line) = true := by rfl) :
    PE X (.Call (.Attribute o m apos) [] [] pos) (tL X.K W P (fMeth C m fn Fo kNil)) := dl_meth0 Mk hr tk ho hbase hf hl
theorem g_fld {f : Str} (hC : Cls X.K C) (hn : NoAttr X.K C f) (ho : PE X o (tK X.K W P Fo)) (hb : attributeBase o f X.env (eval o X.env) = eval o X.env := by rfl) : PE X (.Attribute o f pos) (tE X.K W P (fFld C f Fo)) := de_fld hC hn ho hb
theorem g_tab {t : List (Str × Int)} {f : Expr} (T : Tab X.K X.w X.mg x t) (he : PE X e (tE X.K W P F)) (hf : PE X f (tE X.K W P G)) (h1 : attributeBase (.Name x p) "get" X.env (eval (.Name x p) X.env) = eval (.Name x p) X.env := by rfl)
    (h2 : ((backTo pos (starEach [e, f] X.env)).all (fun x => !x.1) && (backToKw pos (keywordEach [] X.env)).all (fun x => x.1.isSome) && decide (([e, f] : List Expr).length + ([] : List Keyword).length + (if ([] : List Keyword).isEmpty then 0 else 1) < 30)) = true := by rfl)
    (h3 : (apos.endLine == pos.line) = true := by rfl) (h4 : backTo pos (starEach [e, f] X.env) = [(false, eval e X.env), (false, eval f X.env)] := by rfl) (hg : Gl X x := by rfl) (hd : (x == ("__debug__" : Str)) = false := by decide) :
    PE X (.Call (.Attribute (.Name x p) "get" apos) [e, f] [] pos) (tE X.K W P (fTab t F G)) := de_tab T he hf ⟨h1, h2, h3, h4⟩ hg hd
theorem g_ix {r : R2} {f : D → D → Option L} (ho : IxR X r) (hr : Op2 X.K r f) (ha : PE X a (tK X.K W P Fa)) (hb : PE X b (tK X.K W P Fb)) (hs : PlainIx b := by exact fun _ _ => rfl) : PE X (.Subscript a b pos) (tL X.K W P (f2 f Fa Fb)) := dl_ix ho hr ha hb hs
theorem gt_cmp {op : CmpOp} {r : R2} {f : D → D → Option Bool} (ho : OpR X (compareOp op) r) (hr : Cm2 X.K r f) (ha : PE X a (tK X.K W P Fa)) (hb : PE X b (tK X.K W P Fb)) (hm : behindInMarks op b = false := by rfl) : PT X (.Compare a [op] [b] pos) (tB X.K W P (c2 f Fa Fb)) := dt_cmp ho hr ha hb hm
theorem ge_cmp {op : CmpOp} {r : R2} {f : D → D → Option Bool} (ho : OpR X (compareOp op) r) (hr : Cm2 X.K r f) (ha : PE X a (tK X.K W P Fa)) (hb : PE X b (tK X.K W P Fb)) (hm : behindInMarks op b = false := by rfl) : PE X (.Compare a [op] [b] pos) (tE X.K W P (fBl (c2 f Fa Fb))) := de_cmp ho hr ha hb hm
theorem gt_chain {op op' : CmpOp} {r r' : R2} {f f' : D → D → Option Bool} (ho : OpR X (compareOp op) r) (ho' : OpR X (compareOp op') r') (hr : Cm2 X.K r f) (hr' : Cm2 X.K r' f') (ha : PE X a (tK X.K W P Fa)) (hb : PE X b (tK X.K W P Fb)) (hc : PE X c (tK X.K W P Fc)) (hm : lastMarks [op, op'] [b, c] = false := by rfl) :
    PT X (.Compare a [op, op'] [b, c] pos) (tB X.K W P (c3 f f' Fa Fb Fc)) := dt_chain ho ho' hr hr' ha hb hc hm
theorem ge_chain {op op' : CmpOp} {r r' : R2} {f f' : D → D → Option Bool} (ho : OpR X (compareOp op) r) (ho' : OpR X (compareOp op') r') (hr : Cm2 X.K r f) (hr' : Cm2 X.K r' f') (ha : PE X a (tK X.K W P Fa)) (hb : PE X b (tK X.K W P Fb)) (hc : PE X c (tK X.K W P Fc)) (hm : lastMarks [op, op'] [b, c] = false := by rfl) :
    PE X (.Compare a [op, op'] [b, c] pos) (tE X.K W P (fBl (c3 f f' Fa Fb Fc))) := de_chain ho ho' hr hr' ha hb hc hm
theorem gk_cons (ha : PE X a (tK X.K W P Fa)) (hr : PA X es (tKs X.K W P Fr)) (hs : starEach (a :: es) X.env = (false, eval a X.env) :: starEach es X.env := by rfl) : PA X (a :: es) (tKs X.K W P (kCons Fa Fr)) := dks_cons ha hr hs
theorem ga_cons {Fs : M (List D)} (ha : PE X a (tE X.K W P F)) (hr : PA X es (tAs X.K W P Fs)) (hs : starEach (a :: es) X.env = (false, eval a X.env) :: starEach es X.env := by rfl) : PA X (a :: es) (tAs X.K W P (aCons F Fs)) := das_cons ha hr hs
theorem gt_val (h : PE X e (tE X.K W P F)) (he : ∀ whole, isTrue e X.env whole = (do let v ← whole; standAt e.pos; holding [v] (truthy v)) := by intro _; rfl) : PT X e (tB X.K W P (fTest F)) := dt_val h he
theorem gi_rng1 {tg : Expr} (hm : X.mg "range" = none) (h : PE X a (tE X.K W P F)) (hg : Gl X "range" := by rfl) (hs : starEach [a] X.env = [(false, eval a X.env)] := by rfl) : PI X tg (.Call (.Name "range" p) [a] [] pos) (tI X.K W P (iRng1F F)) := di_rng1 hg hm h hs
theorem gi_rng2 {tg : Expr} (hm : X.mg "range" = none) (h : PE X a (tE X.K W P F)) (h2 : PE X b (tE X.K W P G)) (hg : Gl X "range" := by rfl) (hs : starEach [a, b] X.env = [(false, eval a X.env), (false, eval b X.env)] := by rfl) (hs2 : starEach [b] X.env = [(false, eval b X.env)] := by rfl) : PI X tg (.Call (.Name "range" p) [a, b] [] pos) (tI X.K W P (iRng2F F G)) := di_rng2 hg hm h h2 hs hs2
theorem g_listRg {p2 pos2 : Pos} (hm : X.mg "list" = none) (hm2 : X.mg "range" = none) (ha : PE X a (tE X.K W P F)) (hc : X.calm = true := by rfl) (hg : Gl X "list" := by rfl) (hg2 : Gl X "range" := by rfl) (na : starEach [a] X.env = (false, eval a X.env) :: starEach [] X.env := by rfl) :
    PE X (.Call (.Name "list" p) [.Call (.Name "range" p2) [a] [] pos2] [] pos) (tL X.K W P (fLRg F)) := dl_listRg hc hg hm hg2 hm2 ha na
theorem g_setT {tg : Expr} {t : Tg} (hg : PG X tg (tG X.K P t)) (he : PE X e (tE X.K W P F)) (hs : swapsWithSole [tg] e pos.line X.env = pure false := by rfl) (hw : swappedStores [tg] e X.env = pure none := by rfl) (h1 : (assignEach [tg] X.env).map (·.2) = [assign tg X.env] := by rfl) :
    PS X (.Assign [tg] e pos) (tS X.K W P (sSetT t F)) := ds_setT hg he hs hw h1
theorem gg_tup {k : Nat} {ts : List Tg} (h : PGs X es (tGs X.K P ts)) (hc : X.calm = true := by rfl) (hn : (assignEach es X.env).length = ts.length := by rfl) (hst : (assignEach es X.env).findIdx? (·.1) = none := by rfl) : PG X (.Tuple es k pos) (tG X.K P (.tp ts)) := dg_tup hc h rfl hn hst
theorem gg_cons {t : Tg} {ts : List Tg} (h1 : PG X e (tG X.K P t)) (h2 : PGs X es (tGs X.K P ts)) (hs : (assignEach (e :: es) X.env).map (·.2) = assign e X.env :: (assignEach es X.env).map (·.2) := by rfl) : PGs X (e :: es) (tGs X.K P (t :: ts)) := dgs_cons h1 h2 hs
theorem g_for {iter tg : Expr} {body : List Stmt} {Fi : M (List D)} {t : Tg} {B : M Fl} (hp : PassesOwn (model X.prog X.w) X.A X.env X.xe) (hi : PI X tg iter (tI X.K W P Fi)) (hg : PG X tg (tG X.K P t)) (hb : PSs X body (tS X.K W P B)) (hc : X.calm = true := by rfl) (hs : ∀ x, foldedSetIterable iter X.env x = pure x := by intro _; rfl) :
    PS X (.For tg iter body [] pos) (tS X.K W P (sFor Fi t B)) := ds_for hp hc hi hg hb hs
theorem g_expr (h : PE X e (tE X.K W P F)) (hs : swapsWith e none pos.line X.env = pure false := by rfl) : PS X (.Expr e pos) (tS X.K W P (sExpr F)) := ds_expr h hs
end
end Ev
namespace Ev
open PySem PySem.Spec PyProof.Rows L2
open Evl (Ex)
theorem Sim.base {K : PySem.W.Frag} {fm : Fm} {Hs : Hp} {vs : VS} {σ : L2.St} {H : Hp} {xf : List Addr} (S : Sim K fm Hs vs σ H xf) : Ex fm.B H := let ⟨_, s⟩ := S; s.base
section
variable {K : PySem.W.Frag} {fm : Fm} {Hs : Hp} {vs : VS} {σ : L2.St} {H : Hp} {xf : List Addr} {a : Addr} {us : List V} {xs : List D} {i : Nat}
theorem Sim.move {l : L} (hS : Sim K fm Hs vs σ H []) (e : vs[i]? = some (some l)) : ∃ v f, σ[i]? = some (some v) ∧ LOk K Hs H v l f ∧ Sim K fm Hs (vs.set i none) σ H f := by
  obtain ⟨ft, s⟩ := hS
  obtain ⟨v, e1, rv⟩ := s.ok i l e
  refine ⟨v, ft i, e1, rv, ⟨fun j => if j = i then [] else ft j, ⟨s.sub, s.base, s.grow, s.new, by simp [s.len], fun j m ej => ?_, fun j => ?_, fun j k b h1 h2 => ?_, fun j b hb' => ?_, s.nd i, fun j b hb' q => ?_, fun b q => s.sp i b q, s.pins⟩⟩⟩
  · by_cases z : j = i
    · subst z
      rw [List.getElem?_set_self (List.getElem?_eq_some_iff.mp e).1] at ej
      cases ej
    · rw [List.getElem?_set_ne (Ne.symm z)] at ej
      rw [if_neg z]
      exact s.ok j m ej
  · show List.Nodup (if _ then _ else _)
    split
    · simp
    · exact s.nd j
  · try dsimp only at h1 h2
    split at h1
    · simp at h1
    · split at h2
      · simp at h2
      · exact s.dj j k b h1 h2
  · try dsimp only at hb'
    split at hb'
    · simp at hb'
    · exact s.sp j b hb'
  · try dsimp only at hb'
    split at hb'
    · simp at hb'
    · rename_i z; exact z (s.dj j i b hb' q)
theorem Sim.lend (S : Sim K fm Hs vs σ H []) (e : vs[i]? = some (some (.own xs))) : ∃ a us, σ[i]? = some (some (.ref a)) ∧ H a = some (.lst us) ∧ RepL K Hs us xs ∧ fm.B a = none ∧ fm.S a = none ∧ Sim K (fm.park a (.lst us)) Hs (vs.set i none) σ H [] := by
  obtain ⟨v, f, e1, r, S1⟩ := S.move e
  cases r with
  | own h1 h2 =>
    have hs := S1.xhd
    have hb := (let ⟨_, s⟩ := S1; (s.xsp _ List.mem_cons_self).2.1)
    exact ⟨_, _, e1, h1, h2, hb, Evl.fresh_back (let ⟨_, s⟩ := S1; s.grow) hs, S1.park h1⟩
theorem Sim.back (S : Sim K (fm.park a (.lst us)) Hs vs σ H xf) (hB : fm.B a = none) (hS : fm.S a = none) (e : σ[i]? = some (some (.ref a))) (r : RepL K Hs us xs) : Sim K fm Hs (vs.set i (some (.own xs))) σ H xf := by
  obtain ⟨ft, s⟩ := S
  have hb : (fm.park a (.lst us)).B a = some (.lst us) := upd_same
  have ha : H a = some (.lst us) := s.base a _ hb
  have hs : Hs a = none := by
    cases q : Hs a with
    | none => rfl
    | some u =>
      rcases s.new a (by rw [q]; simp) with h | h
      · exact absurd hS h
      · rw [hb] at h; cases h
  have na : ∀ {b}, (fm.park a (.lst us)).B b = none → b ≠ a ∧ fm.B b = none := fun {b} h => by
    have h : upd fm.B a (.lst us) b = none := h
    have z : b ≠ a := fun z => by rw [z, upd_same] at h; cases h
    rw [upd_ne z] at h
    exact ⟨z, h⟩
  have hil : i < vs.length := by rw [s.len]; exact (List.getElem?_eq_some_iff.mp e).1
  refine ⟨fun j => if j = i then [a] else ft j, ⟨s.sub, fun b u e => ?_, s.grow, fun b e => ?_, by simp [s.len], fun j m ej => ?_, fun j => ?_, fun j k b h1 h2 => ?_, fun j b hb' => ?_, s.xnd, fun j b hb' q => ?_, fun b q => ?_, s.pins⟩⟩
  · have z : b ≠ a := fun z => by rw [z, hB] at e; cases e
    exact s.base b u (show upd fm.B a _ b = some u by rw [upd_ne z]; exact e)
  · rcases s.new b e with h | h
    · exact .inl h
    · exact .inr (na h).2
  · by_cases z : j = i
    · subst z
      rw [List.getElem?_set_self hil] at ej
      cases ej
      rw [if_pos rfl]
      exact ⟨_, e, .own ha r⟩
    · rw [List.getElem?_set_ne (Ne.symm z)] at ej
      rw [if_neg z]
      exact s.ok j m ej
  · show List.Nodup (if _ then _ else _)
    split
    · simp
    · exact s.nd j
  · try dsimp only at h1 h2
    split at h1
    · split at h2
      · simp_all
      · have h1 : b = a := by simpa using h1
        exact absurd h1 (na (s.sp k b h2).2.1).1
    · split at h2
      · have h2 : b = a := by simpa using h2
        exact absurd h2 (na (s.sp j b h1).2.1).1
      · exact s.dj j k b h1 h2
  · try dsimp only at hb'
    split at hb'
    · have hb' : b = a := by simpa using hb'
      subst hb'
      exact ⟨hs, hB, by rw [ha]; simp⟩
    · obtain ⟨h1, h2, h3⟩ := s.sp j b hb'
      exact ⟨h1, (na h2).2, h3⟩
  · try dsimp only at hb'
    split at hb'
    · have hb' : b = a := by simpa using hb'
      exact absurd hb' (na (s.xsp b q).2.1).1
    · exact s.xdj j b hb' q
  · obtain ⟨h1, h2, h3⟩ := s.xsp b q
    exact ⟨h1, (na h2).2, h3⟩
end
def ItOkB (K : PySem.W.Frag) (B Hs : Hp) (J : It) (ds : List D) : Prop :=
  (∀ i H, Ex B H → Ex Hs H → ds.length ≤ i → J.stop i H) ∧
  ∀ i d H, Ex B H → Ex Hs H → ds[i]? = some d → J.go i H ∧ ∀ x H', J.yld i H x H' → (H' = H ∧ Rep K Hs x d) ∨ ∃ T vs es, H T = none ∧ x = .ref T ∧ H' = upd H T (.tup vs) ∧ d = .tup es ∧ RepL K Hs vs es
theorem itokB_list {K : PySem.W.Frag} {B Hs : Hp} {a : Addr} {us : List V} {ds : List D} (h1 : B a = some (.lst us)) (h2 : RepL K Hs us ds) : ItOkB K B Hs (Itl K a) ds := by
  have sq : ∀ H, Ex B H → SqL K H a us := fun H e => SqL.of (e _ _ h1)
  refine ⟨fun i H e _ hi => ⟨us, sq H e, by rw [h2.length]; exact hi⟩, fun i d H e _ hd => ?_⟩
  obtain ⟨v, ev, rv⟩ := h2.get hd
  refine ⟨⟨us, v, sq H e, ev⟩, fun x H' hy => ?_⟩
  obtain ⟨q1, q2⟩ := hy
  have := q2 us (sq H e)
  rw [ev] at this
  cases this
  exact .inl ⟨q1, rv⟩
section
variable {X : Cx} {W : WX} {P : Pin} {e a b c tg : Expr} {pos : Pos} {F : M D}
theorem comp_core {own : List Nat} {t : Tg} {C : M Bool} {Fe : M D} {fm : Fm} {Hs1 : Hp} {vs1 s2 : VS} {σ : L2.St} {H1 : Hp} {J : It} {ds acc : List D} {Q : VK} (hown : ∀ j ∈ t.ix, j ∈ own) (hpo : ∀ i ∈ own, i ∉ P.ix) (hP : PnOk X.K fm P) (S1 : Sim X.K fm Hs1 vs1 σ H1 []) (ok : ItOkB X.K fm.B Hs1 J ds)
    (hl : lcF t own C Fe ds [] (wipeV vs1 own) = some (acc, s2)) (hk : ∀ v H' Hs' xf, Sim X.K fm Hs' (restV vs1 s2 own) σ H' xf → Ex Hs1 Hs' → LOk X.K Hs' H' v (.own acc) xf → Q v H') :
    ∀ D, H1 D = none → ∃ W : Nat → Nat → Hp → Prop, (∃ m, W 0 m (upd H1 D (.lst []))) ∧ ∀ i m H, W i m H →
  (J.stop i H ∧ Q (.ref D) H) ∨ (J.go i H ∧ ∃ Nx : Hp → Prop, (∀ H', Nx H' → ∃ m', m' < m ∧ W (i + 1) m' H') ∧ ∀ x H', J.yld i H x H' → (tG X.K P t) x (wipe σ own) H' fun σ2 H2 => wipe σ2 own = wipe σ own ∧ (tB X.K W0 P C) σ2 H2 fun b H3 =>
    if b = true then (tE X.K W0 P Fe) σ2 H3 fun y H4 => ∃ acc, H4 D = some (.lst acc) ∧ acc.length < sizeLine ∧ Nx (upd H4 D (.lst (acc ++ [y]))) else Nx H3) := by
  intro Da hD
  have hBn : fm.B Da = none := Evl.fresh_back (let ⟨_, s⟩ := S1; s.base) hD
  have hsn : Hs1 Da = none := Evl.fresh_back S1.sub hD
  have hSn : fm.S Da = none := Evl.fresh_back (let ⟨_, s⟩ := S1; s.grow) hsn
  have hpin : ∀ i ∈ own, i ∉ fm.pin.map (·.1) := fun i hi => by rw [hP.1]; exact hpo i hi
  refine ⟨fun i m H => m = ds.length - i ∧ ∃ s ac us Hs2, lcF t own C Fe (ds.drop i) ac s = some (acc, s2) ∧ H Da = some (.lst us) ∧ RepL X.K Hs2 us ac ∧ Sim X.K fm Hs2 s (L2.wipe σ own) H [Da] ∧ Ex Hs1 Hs2,
    ⟨_, rfl, wipeV vs1 own, [], [], Hs1, by rw [List.drop_zero]; exact hl, upd_same, .nil, (S1.wipe own hpin).allocX hD _, Ex.refl _⟩, ?_⟩
  rintro i m H2 ⟨rfl, s, ac, us, Hs2, hl2, hDa, rus, S2, X2⟩
  cases hd : ds[i]? with
  | none =>
    have hle : ds.length ≤ i := List.getElem?_eq_none_iff.mp hd
    rw [List.drop_eq_nil_of_le hle] at hl2
    cases hl2
    refine .inl ⟨ok.1 i H2 S2.base (X2.trans S2.sub) hle, ?_⟩
    exact hk _ H2 Hs2 [Da] (Sim.rest S1 X2 S2 (lcF_end (wiped_none _ _) hl)) X2 (.own hDa rus)
  | some d =>
    have hlt : i < ds.length := (List.getElem?_eq_some_iff.mp hd).1
    have hdr : ds.drop i = d :: ds.drop (i + 1) := by
      rw [List.drop_eq_getElem_cons hlt]
      have := (List.getElem?_eq_some_iff.mp hd).2
      rw [this]
    rw [hdr] at hl2
    unfold lcF at hl2
    split at hl2
    · cases hl2
    · rename_i s1 e1
      obtain ⟨g1, y1⟩ := ok.2 i d H2 S2.base (X2.trans S2.sub) hd
      refine .inr ⟨g1, fun H' => ∃ s ac us Hs2, lcF t own C Fe (ds.drop (i + 1)) ac s = some (acc, s2) ∧ H' Da = some (.lst us) ∧ RepL X.K Hs2 us ac ∧ Sim X.K fm Hs2 s (L2.wipe σ own) H' [Da] ∧ Ex Hs1 Hs2, ?_, fun x H' hy => ?_⟩
      · rintro H' q
        exact ⟨_, by omega, rfl, q⟩
      · have hyy : (H' = H2 ∧ Rep X.K Hs2 x d) ∨ ∃ T vs es, H2 T = none ∧ x = .ref T ∧ H' = upd H2 T (.tup vs) ∧ d = .tup es ∧ RepL X.K Hs2 vs es := by
          rcases y1 x H' hy with ⟨a, b⟩ | ⟨T, vs, es, a, b, c, d, f⟩
          · exact .inl ⟨a, b.mono X2⟩
          · exact .inr ⟨T, vs, es, a, b, c, d, f.mono X2⟩
        obtain ⟨Hs3, S3, X3, r3⟩ := yld_ok S2 hyy
        have hDa3 : H' Da = some (.lst us) := by
          rcases hyy with ⟨rfl, _⟩ | ⟨T, vs, es, hT, rfl, rfl, rfl, _⟩
          · exact hDa
          · rw [upd_ne (ne_of_none hDa hT)]; exact hDa
        have S3p := S3.park hDa3
        refine ⟨fm.park Da (.lst us), Hs3, s, s1, d, e1, hP.park hBn, S3p, r3, fun σ4 S4 same => ?_⟩
        refine ⟨wipe_wipe same hown, ?_⟩
        split at hl2
        · rename_i s5 e5
          refine ⟨fm.park Da (.lst us), Hs3, s1, _, s5, e5, hP.park hBn, S4, fun k k' H5 Hs5 xf q S5 X5 ⟨q1, q2⟩ => ?_, fun _ _ _ _ _ q => (by cases q)⟩
          cases q; subst q1; subst q2
          rw [if_pos rfl]
          split at hl2
          · rename_i y s6 e6
            refine ⟨fm.park Da (.lst us), Hs5, s5, _, s6, e6, hP.park hBn, S5, fun y' v H6 Hs6 xf q S6 X6 ⟨q1, q2⟩ => ?_, fun _ _ _ _ _ q => (by cases q)⟩
            cases q; subst q2
            split at hl2
            · rename_i hlen
              obtain ⟨hDa6, S6u⟩ := S6.unpark hBn hSn
              refine ⟨us, hDa6, by rw [rus.length]; exact Evl.sz_lt hlen, ?_⟩
              have Xa : Ex Hs2 Hs6 := (X3.trans X5).trans X6
              refine ⟨_, _, us ++ [v], Hs6, hl2, upd_same, (rus.mono Xa).append (.one q1), ?_, X2.trans Xa⟩
              have S7 := (S6u.wipe own hpin).writeX (u := .lst (us ++ [v]))
              rw [wipe_wipe same hown] at S7
              exact S7
            · cases hl2
          · cases hl2
        · rename_i s5 e5
          refine ⟨fm.park Da (.lst us), Hs3, s1, _, s5, e5, hP.park hBn, S4, fun k k' H5 Hs5 xf q S5 X5 ⟨q1, q2⟩ => ?_, fun _ _ _ _ _ q => (by cases q)⟩
          cases q; subst q1; subst q2
          rw [if_neg Bool.false_ne_true]
          obtain ⟨hDa5, S5u⟩ := S5.unpark hBn hSn
          have Xa : Ex Hs2 Hs5 := X3.trans X5
          have S7 := S5u.wipe own hpin
          rw [wipe_wipe same hown] at S7
          exact ⟨_, _, us, Hs5, hl2, hDa5, rus.mono Xa, S7, X2.trans Xa⟩
        · cases hl2
where
  wipe_wipe {σ σ4 : L2.St} {t : Tg} {own : List Nat} (same : Same1 t.ix (L2.wipe σ own) σ4) (hown : ∀ j ∈ t.ix, j ∈ own) : L2.wipe σ4 own = L2.wipe σ own := by
    rw [wipe_eq same hown]
    apply List.ext_getElem?
    intro j
    by_cases hj : j ∈ own
    · have h : ∀ (τ : L2.St) (is : List Nat), j ∈ is → (L2.wipe τ is)[j]? = if j < τ.length then some none else none := by
        intro τ is
        induction is with
        | nil => intro h; simp at h
        | cons i is ih =>
          intro h
          unfold L2.wipe
          by_cases z : i = j
          · subst z
            by_cases hl : i < τ.length
            · rw [List.getElem?_set_self (by rw [wipe_length]; exact hl), if_pos hl]
            · rw [List.getElem?_eq_none (by rw [List.length_set, wipe_length]; omega), if_neg hl]
          · rw [List.getElem?_set_ne z]
            exact ih ((List.mem_cons.mp h).resolve_left fun y => z y.symm)
      rw [h _ _ hj, h _ _ hj, wipe_length]
    · rw [wipe_out hj]
def fCompO (i : Nat) (own : List Nat) (tg : Tg) (C : M Bool) (Fe : M D) : M L := fun s => match s[i]? with
  | some (some (.own xs)) => (match lcF tg own C Fe xs [] (wipeV (s.set i none) own) with
    | some (acc, s2) => some (.ok (.own acc), (restV (s.set i none) s2 own).set i (some (.own xs)))
    | none => none)
  | _ => none
theorem re_compO {i : Nat} {own : List Nat} {t : Tg} {C : M Bool} {Fe : M D} (hown : ∀ j ∈ t.ix, j ∈ own) (hpo : ∀ i ∈ own, i ∉ P.ix) : ∀ σ H Q, tL X.K W P (fCompO i own t C Fe) σ H Q → tLc (iList X.K (tVar i)) (tG X.K P t) (tB X.K W0 P C) (tE X.K W0 P Fe) own σ H Q := fun σ H Q ⟨fm, Hs, vs, r', vs', hF, hP, hS, hk, hE⟩ => by
  unfold fCompO at hF
  split at hF
  · rename_i xs e0
    split at hF
    · rename_i acc s2 hl
      cases hF
      obtain ⟨a, us, e1, ha, ru, hB, hSn, S1⟩ := hS.lend e0
      refine ⟨_, e1, a, rfl, ⟨us, SqL.of ha⟩, comp_core (fm := fm.park a (.lst us)) hown hpo (hP.park hB) S1 (itokB_list upd_same ru) hl fun v H' Hs' xf S' X' r' => ?_⟩
      exact hk _ v H' Hs' xf rfl (S'.back hB hSn e1 (ru.mono X')) X' r'
    · cases hF
  · cases hF
theorem dl_compO {elt : Expr} {ifs : List Expr} {scope : Scope} {own : List (Str × Nat)} {i : Nat} {x : Str} {p : Pos} {t : Tg} {C : M Bool} {Fe : M D} (hown : ∀ j ∈ t.ix, j ∈ own.map (·.2)) (hpo : ∀ i ∈ own.map (·.2), i ∉ P.ix) (hc : X.calm = true) (hN : X.N.Nodup) (hi : PE X (.Name x p) (tVar i)) (ok : BlkOk X.N X.env.scope scope own)
    (hg : ∀ (s : Shared) (H : Hp) (C : Addr) (cl : List (Str × Addr)) (fp : List Addr), PG (X.blk s H scope (compEnvC scope cl C X.env) fp) tg (tG X.K P t)) (ht : ∀ (s : Shared) (H : Hp) (C1 : Addr) (cl : List (Str × Addr)) (fp : List Addr), PTs (X.blk s H scope (compEnvC scope cl C1 X.env) fp) ifs (tB X.K W0 P C))
    (he : ∀ (s : Shared) (H : Hp) (C : Addr) (cl : List (Str × Addr)) (fp : List Addr), PE (X.blk s H scope (compEnvC scope cl C X.env) fp) elt (tE X.K W0 P Fe)) (hs : ∀ y, foldedSetIterable (.Name x p) X.env y = pure y := by intro _; rfl) :
    PE X (.ListComp elt [⟨tg, .Name x p, ifs, 0⟩] scope pos) (tL X.K W P (fCompO i (own.map (·.2)) t C Fe)) := PE_weak (pe_lc hc hN (pi_list hi) ok hg ht he hs) (re_compO hown hpo)
end
end Ev
namespace Ev
open PySem PySem.Spec PyProof.Rows L2
open Evl (Ex)
def entOf (e : DictEntry) : Option (Str × Int) := match e.key, e.val with
  | .str x _, .int i _ => some (x, i)
  | _, _ => none
def entsW (K : PySem.W.Frag) (a : Addr) : Option (List (Option (Str × Int))) := match K.lookup a with
  | some ⟨_, _, .dict es _, _⟩ => some (es.toList.map entOf)
  | _ => none
abbrev TabU : Type := (PySem.W.Frag → Addr) × List (Str × Int)
def tabsT (ts : List TabU) : List He.Tab := ts.map fun t => (t.1, t.2.map (·.1))
abbrev AlU : Type := He.AlT × List (Option (List (Option (Str × Int))))
def obsU (fa : List He.Fa) (fn : List He.DefD) (ts : List TabU) (K : PySem.W.Frag) : AlU := (He.obsT fa fn (tabsT ts) K, ts.map fun t => entsW K (t.1 K))
def valU (fn : List He.DefD) (ts : List TabU) (w : World) : AlU := (He.valT fn (tabsT ts) w, ts.map fun t => some (t.2.map some))
def obsUG (n : Nat) (fa : List He.Fa) (fn : List He.DefD) (ts : List TabU) (g : Addr → Option Obj) : AlU := obsU fa fn ts (He.frG g (He.asD g n))
def SaysU (fa : List He.Fa) (fn : List He.DefD) (ts : List TabU) (w : World) (K : PySem.W.Frag) : Prop := obsU fa fn ts K = valU fn ts w
def hookU (n : Nat) (fa : List He.Fa) (fn : List He.DefD) (ts : List TabU) : PySem.W.Hook where
  α := AlU
  obs := fun s => obsUG n fa fn ts s.heap.get?
  val := fun w => valU fn ts w
  says := fun w h => ∃ K : PySem.W.Frag, K.In h ∧ SaysU fa fn ts w K
  of := fun _ _ e => ⟨_, He.frG_in, e⟩
  keeps := fun _ _ _ ⟨K, hK, c⟩ k => ⟨K, PySem.W.Frag.In.keeps hK k, c⟩
theorem obsUG_eq {n : Nat} {fa : List He.Fa} {fn : List He.DefD} {ts : List TabU} {g : Addr → Option Obj} {s : Shared} (h : ∀ a, g a = s.heap.get? a) : obsUG n fa fn ts g = (hookU n fa fn ts).obs s := by
  have e : g = s.heap.get? := funext h
  rw [e] <;> rfl
theorem isStr_eq {y z : Str} {t : Tok} : (Value.str y t).isStr z = (z == y) := by
  have e : (Value.str y t).isStr z = (y == z) := rfl
  rw [e, Bool.eq_iff_iff, beq_iff_eq, beq_iff_eq]
  exact eq_comm
theorem ents_find {z : Str} : ∀ {l : List DictEntry} {t : List (Str × Int)}, l.map entOf = t.map some → (match t.lookup z with
    | some i => ∃ e tk, l.find? (·.key.isStr z) = some e ∧ e.val = .int i tk
    | none => l.find? (·.key.isStr z) = none) ∧ l.any (·.refKey) = false
  | [], [], _ => ⟨rfl, rfl⟩
  | [], _ :: _, h => by cases h
  | _ :: _, [], h => by cases h
  | e :: l, (y, i) :: t, h => by
    have h1 : entOf e :: l.map entOf = some (y, i) :: t.map some := h
    injection h1 with h2 h3
    obtain ⟨ih1, ih2⟩ := ents_find (z := z) h3
    unfold entOf at h2
    split at h2
    · rename_i x tk j tk2 ek ev
      cases h2
      have er : e.refKey = false := by unfold DictEntry.refKey; rw [ek]
      refine ⟨?_, by rw [List.any_cons, er, ih2]; rfl⟩
      rw [List.lookup_cons]
      have ei : e.key.isStr z = (z == y) := by rw [ek, isStr_eq]
      cases q : (z == y) with
      | true =>
        refine ⟨e, tk2, ?_, ev⟩
        rw [List.find?_cons, ei, q]
      | false =>
        rw [q] at ei
        rw [List.find?_cons, ei]
        exact ih1
    · cases h2
section
variable {fa : List He.Fa} {fn : List He.DefD} {ts : List TabU} {w : World} {K : PySem.W.Frag} {h : Heap} {mg : Str → Option Value}
theorem SaysU.t (c : SaysU fa fn ts w K) : He.SaysT fa fn (tabsT ts) w K := congrArg (fun z : AlU => z.1) c
theorem SaysU.fact (c : SaysU fa fn ts w K) (i : Nat) {f : He.Fa} (h : fa[i]? = some f := by rfl) : f.ok K = true := c.t.d.fact i h
theorem SaysU.tab (c : SaysU fa fn ts w K) (i : Nat) {t : TabU} {x : Str} (hm : mg x = some (.ref (t.1 K))) (h : ts[i]? = some t := by rfl) : Tab K w mg x t.2 := by
  have hT : (tabsT ts)[i]? = some (t.1, t.2.map (·.1)) := by unfold tabsT; rw [List.getElem?_map, h]; rfl
  obtain ⟨es, n, D⟩ := c.t.tab i hT
  have e : ts.map (fun t => entsW K (t.1 K)) = ts.map fun t => some (t.2.map some) := congrArg (fun z : AlU => z.2) c
  have e2 : (ts.map fun t => entsW K (t.1 K))[i]? = (ts.map fun t => some (t.2.map some))[i]? := by rw [e]
  rw [List.getElem?_map, List.getElem?_map, h] at e2
  have e3 : entsW K (t.1 K) = some (t.2.map some) := Option.some.inj e2
  have D : KDict K w (t.1 K) es n := D
  unfold entsW at e3
  rw [D.at_] at e3
  have e4 : es.toList.map entOf = t.2.map some := Option.some.inj e3
  refine ⟨⟨_, es, n, hm, D, fun z => ?_⟩⟩
  obtain ⟨h1, h2⟩ := ents_find (z := z) e4
  unfold PySem.W.nsIn
  rw [D.at_]
  cases q : t.2.lookup z with
  | none =>
    rw [q] at h1
    have h1 : es.toList.find? (·.key.isStr z) = none := h1
    refine ⟨none, ?_, rfl⟩
    simp only [h1, h2]
    rfl
  | some i =>
    rw [q] at h1
    obtain ⟨en, tk, h1, h3⟩ := h1
    refine ⟨some (.int i tk), ?_, tk, rfl⟩
    simp only [h1, h3]
theorem FunD.fun_ {K : PySem.W.Frag} {x qual : Str} {st : Stmt} {f : Addr} {fd : FuncData} {dvs : List V} {kws : List (Str × V)} (F : L2.FunD K x qual (L2.defArgs st) (L2.defBody st) (L2.defScope st) dvs kws f fd) (hd : dvs = []) : L2.Fun K x qual st f fd := by
  subst hd
  exact He5.fun_of F
end
theorem FnOk.calm {P : Program} {w : World} {K : PySem.W.Frag} {mg : Str → Option Value} {base : Heap} {k : Nat} {f : Addr} {fd : FuncData} {ps : List Str} {sp : Sp} (F : FnOk P w K mg base (L2N.CX P w) k f fd ps sp) :
    FnOk P w K mg base L2.CX0 k f fd ps (fun vs H Q _ => sp vs H Q fun _ _ _ => False) :=
  ⟨fun vs H Q E h => F.len vs H Q _ h, fun A outer s H args us vs Q E hr he hb hv hs => codeAny_mono (F.run A outer s H args us vs Q _ hr he hb hv hs) fun r s' h => by
    cases r with
    | ok x =>
      cases x <;> exact h
    | error e =>
      obtain ⟨_, _, _, _, _, _, _, _, _, _, _, _, z⟩ := h
      exact z.elim⟩
theorem law_sp {K : PySem.W.Frag} {fn : Fn} {H : Hp} {a : Addr} {ns : List Int} {ps : VS} (hn : fn.n = 1) (h : fn.run [some (.d (.scr ns))] = some (.ok (.d (.bl true)), ps)) (hO : Only H) (hS : SqL K H a (ns.map V.int)) : SpF K fn [.ref a] H (fun v _ => v = .bl true) fun _ _ _ => False := by
  refine ⟨hn.symm, H, H, [some (.d (.scr ns))], _, ps, h, ?_, fun l v H' Hs' xf e _ _ r => ?_, fun x c dd H' Hs' e => (by cases e)⟩
  · refine ⟨fun _ => [], ⟨Ex.refl _, Ex.refl _, Ex.refl _, fun a h => .inl h, rfl, fun i l e => ?_, fun _ => List.nodup_nil, fun i j a h => by simp at h, fun i a h => by simp at h, List.nodup_nil, fun i a h => by simp at h, fun a h => by simp at h, fun p hp => by cases hp⟩⟩
    match i, e with
    | 0, e =>
      cases e
      exact ⟨_, rfl, .d (.scr hS)⟩
    | i + 1, e => simp at e
  · cases e
    cases r with | d r => cases r; rfl
end Ev
namespace Ev
open PySem PySem.Spec PyProof.Rows L2
def fin {α : Type} (o : Option (Except Xn α × VS)) (Q : α → VS → Prop) : Prop := match o with
  | some (.ok a, s) => Q a s
  | _ => False
def wp {α : Type} (F : M α) (s : VS) (Q : α → VS → Prop) : Prop := fin (F s) Q
section
variable {α β : Type} {s : VS}
@[simp] theorem fin_ok {a : α} {Q : α → VS → Prop} : fin (some (.ok a, s)) Q ↔ Q a s := Iff.rfl
@[simp] theorem fin_none {Q : α → VS → Prop} : fin none Q ↔ False := Iff.rfl
@[simp] theorem fin_er {x : Xn} {Q : α → VS → Prop} : fin (some (.error x, s)) Q ↔ False := Iff.rfl
theorem wp_out {F : M α} {Q : α → VS → Prop} (h : wp F s Q) : ∃ a s', F s = some (.ok a, s') ∧ Q a s' := by
  unfold wp fin at h
  split at h
  · rename_i a s' e; exact ⟨a, s', e, h⟩
  · exact h.elim
theorem wp_in {F : M α} {Q : α → VS → Prop} {a : α} {s' : VS} (e : F s = some (.ok a, s')) (q : Q a s') : wp F s Q := by unfold wp; rw [e]; exact q
theorem wp_mono {F : M α} {Q Q' : α → VS → Prop} (h : wp F s Q) (hq : ∀ a s', Q a s' → Q' a s') : wp F s Q' := let ⟨a, s', e, q⟩ := wp_out h; wp_in e (hq a s' q)
theorem wp_congr {F : M α} {Q Q' : α → VS → Prop} (h : ∀ a s', Q a s' ↔ Q' a s') : wp F s Q ↔ wp F s Q' := by
  have e : Q = Q' := funext fun a => funext fun s => propext (h a s)
  rw [e]
@[simp] theorem wp_rt {a : α} {Q : α → VS → Prop} : wp (rt a) s Q ↔ Q a s := Iff.rfl
@[simp] theorem wp_bd {F : M α} {g : α → M β} {Q : β → VS → Prop} : wp (bd F g) s Q ↔ wp F s fun a s' => wp (g a) s' Q := by
  unfold wp bd
  split <;> rename_i e <;> simp [e]
theorem wp_fun {F : M α} {G : VS → Option (Except Xn β × VS)} {Q : β → VS → Prop} : wp (fun s => G s) s Q ↔ wp G s Q := Iff.rfl
def to {α : Type} (o : Option α) (s : VS) (Q : α → VS → Prop) : Prop := match o with
  | some a => Q a s
  | none => False
@[simp] theorem to_some {a : α} {Q : α → VS → Prop} : to (some a) s Q ↔ Q a s := Iff.rfl
@[simp] theorem to_none {Q : α → VS → Prop} : to none s Q ↔ False := Iff.rfl
theorem to_out {o : Option α} {Q : α → VS → Prop} (h : to o s Q) : ∃ a, o = some a ∧ Q a s := by
  cases o with
  | none => exact h.elim
  | some a => exact ⟨a, rfl, h⟩
theorem to_in {o : Option α} {Q : α → VS → Prop} {a : α} (e : o = some a) (q : Q a s) : to o s Q := by rw [e]; exact q
@[simp] theorem to_map {f : α → β} {o : Option α} {Q : β → VS → Prop} : to (o.map f) s Q ↔ to o s fun a s' => Q (f a) s' := by cases o <;> rfl
@[simp] theorem to_ite {c : Prop} [Decidable c] {a b : Option α} {Q : α → VS → Prop} : to (if c then a else b) s Q ↔ if c then to a s Q else to b s Q := by split <;> rfl
theorem wp_opt {o : Option α} {Q : α → VS → Prop} : wp (fun s => match o with | some l => some (.ok l, s) | none => none) s Q ↔ to o s Q := by cases o <;> rfl
@[simp] theorem wp_fK {F : M D} {Q : Pk → VS → Prop} : wp (fK F) s Q ↔ wp F s fun d s' => Q (.dat d) s' := by unfold fK; simp
@[simp] theorem wp_fD {F : M D} {Q : L → VS → Prop} : wp (fD F) s Q ↔ wp F s fun d s' => Q (.d d) s' := by unfold fD; simp
@[simp] theorem wp_fS {F : M L} {Q : D → VS → Prop} : wp (fS F) s Q ↔ wp F s fun l s' => to l.data s' Q := by
  unfold fS; rw [wp_bd]; refine wp_congr fun l s => ?_
  unfold wp; dsimp only; cases l.data <;> simp
@[simp] theorem data_d {x : D} : (L.d x).data = some x := rfl
@[simp] theorem data_own {x : List D} : (L.own x).data = some (.lst x) := rfl
@[simp] theorem data_odi {ks : List Key} {x : List D} : (L.odi ks x).data = some (.dic ks x) := rfl
def pkOf (i : Nat) : L → Pk
  | .d x => .dat x
  | _ => .sl i
@[simp] theorem pkOf_d {i : Nat} {x : D} : pkOf i (.d x) = .dat x := rfl
@[simp] theorem pkOf_own {i : Nat} {x : List D} : pkOf i (.own x) = .sl i := rfl
@[simp] theorem pkOf_odi {i : Nat} {k : List Key} {x : List D} : pkOf i (.odi k x) = .sl i := rfl
@[simp] theorem pkOf_oll {i : Nat} {x : List L} : pkOf i (.oll x) = .sl i := rfl
@[simp] theorem pkOf_odl {i : Nat} {k : List Key} {x : List L} : pkOf i (.odl k x) = .sl i := rfl
@[simp] theorem pkOf_otp {i : Nat} {x : List L} : pkOf i (.otp x) = .sl i := rfl
@[simp] theorem pkOf_hole {i : Nat} : pkOf i .hole = .sl i := rfl
@[simp] theorem pkOf_obj {i : Nat} {C : Addr} {k : List Str} {x : List L} : pkOf i (.obj C k x) = .sl i := rfl
def at? (s : VS) (i : Nat) : Option L := match s[i]? with
  | some (some l) => some l
  | _ => none
@[simp] theorem at_zero {l : L} {s : VS} : at? (some l :: s) 0 = some l := rfl
@[simp] theorem at_succ {o : Option L} {s : VS} {i : Nat} : at? (o :: s) (i + 1) = at? s i := rfl
@[simp] theorem wp_vLook {i : Nat} {Q : Pk → VS → Prop} : wp (vLook i) s Q ↔ to (at? s i) s fun l s' => Q (pkOf i l) s' := by
  unfold wp vLook at? to
  cases h : s[i]? with
  | none => simp
  | some o =>
    cases o with
    | none => simp
    | some l => cases l <;> simp
@[simp] theorem wp_vGet {i : Nat} {Q : D → VS → Prop} : wp (vGet i) s Q ↔ to (at? s i) s fun l s' => to l.data s' fun d s' => Q d (s'.set i (some (.d d))) := by
  have hid : ∀ x, s[i]? = some (some (L.d x)) → s.set i (some (.d x)) = s := fun x e => by
    apply List.ext_getElem?
    intro j
    by_cases q : i = j
    · subst q
      rw [List.getElem?_set_self (List.getElem?_eq_some_iff.mp e).1, e]
    · rw [List.getElem?_set_ne q]
  unfold wp vGet at?
  cases h : s[i]? with
  | none => simp
  | some o =>
    cases o with
    | none => simp
    | some l =>
      cases l with
      | d x => simp [hid x h]
      | own x => simp
      | odi k x => simp
      | obj C fs ls =>
        simp only [to_some]
        unfold L.data
        split <;> simp_all
      | oll ls => simp [L.data]
      | odl ks ls => simp [L.data]
      | otp ls => simp [L.data]
      | hole => simp [L.data]
@[simp] theorem wp_vMove {i : Nat} {Q : L → VS → Prop} : wp (vMove i) s Q ↔ to (at? s i) s fun l s' => Q l (s'.set i none) := by
  unfold wp vMove at?
  cases h : s[i]? with
  | none => simp
  | some o => cases o <;> simp
def resL : L → Option D
  | .d x => some x
  | .own xs => some (.lst xs)
  | .odi ks ds => some (.dic ks ds)
  | _ => none
@[simp] theorem res_dat {d : D} : res s (.dat d) = some d := rfl
@[simp] theorem res_sl0 {o : L} : res (some o :: s) (.sl 0) = resL o := by cases o <;> rfl
@[simp] theorem res_slS {o : Option L} {i : Nat} : res (o :: s) (.sl (i + 1)) = res s (.sl i) := rfl
@[simp] theorem resL_d {x : D} : resL (.d x) = some x := rfl
@[simp] theorem resL_own {x : List D} : resL (.own x) = some (.lst x) := rfl
@[simp] theorem resL_odi {k : List Key} {x : List D} : resL (.odi k x) = some (.dic k x) := rfl
@[simp] theorem wp_f2 {f : D → D → Option L} {Fa Fb : M Pk} {Q : L → VS → Prop} : wp (f2 f Fa Fb) s Q ↔ wp Fa s fun a s => wp Fb s fun b s => to (res s a) s fun x s => to (res s b) s fun y s => to (f x y) s Q := by
  unfold f2; rw [wp_bd]; refine wp_congr fun a s => ?_; rw [wp_bd]; refine wp_congr fun b s => ?_
  unfold wp; dsimp only
  cases h1 : res s a with
  | none => simp
  | some x =>
    cases h2 : res s b with
    | none => simp [h2]
    | some y => cases h : f x y <;> simp [h2, h]
@[simp] theorem wp_c2 {f : D → D → Option Bool} {Fa Fb : M Pk} {Q : Bool → VS → Prop} : wp (c2 f Fa Fb) s Q ↔ wp Fa s fun a s => wp Fb s fun b s => to (res s a) s fun x s => to (res s b) s fun y s => to (f x y) s Q := by
  unfold c2; rw [wp_bd]; refine wp_congr fun a s => ?_; rw [wp_bd]; refine wp_congr fun b s => ?_
  unfold wp; dsimp only
  cases h1 : res s a with
  | none => simp
  | some x =>
    cases h2 : res s b with
    | none => simp [h2]
    | some y => cases h : f x y <;> simp [h2, h]
@[simp] theorem wp_f1 {f : D → Option L} {Fa : M Pk} {Q : L → VS → Prop} : wp (f1 f Fa) s Q ↔ wp Fa s fun a s => to (res s a) s fun x s => to (f x) s Q := by
  unfold f1; rw [wp_bd]; refine wp_congr fun a s => ?_
  unfold wp; dsimp only
  cases h1 : res s a with
  | none => simp
  | some x => cases h : f x <;> simp [h]
@[simp] theorem wp_fBl {F : M Bool} {Q : D → VS → Prop} : wp (fBl F) s Q ↔ wp F s fun b s => Q (.bl b) s := by unfold fBl; simp
@[simp] theorem wp_c3 {f f' : D → D → Option Bool} {Fa Fb Fc : M Pk} {Q : Bool → VS → Prop} : wp (c3 f f' Fa Fb Fc) s Q ↔ wp Fa s fun a s => wp Fb s fun b s => to (res s a) s fun x s => to (res s b) s fun y s => to (f x y) s fun k s =>
    if k = true then wp Fc s fun c s => to (res s b) s fun y s => to (res s c) s fun z s => to (f' y z) s Q else Q false s := by
  unfold c3; rw [wp_bd]; refine wp_congr fun a s => ?_; rw [wp_bd]; refine wp_congr fun b s => ?_
  have e1 : ∀ s, wp (bd Fc (fun c s => match res s b, res s c with
    | some y, some z => (match f' y z with
      | some l => some (.ok l, s)
      | none => none)
    | _, _ => none)) s Q ↔ wp Fc s fun c s => to (res s b) s fun y s => to (res s c) s fun z s => to (f' y z) s Q := fun s => by
    refine wp_bd.trans (wp_congr fun c s => ?_)
    unfold wp; dsimp only
    cases h1 : res s b with
    | none => simp
    | some y =>
      cases h2 : res s c with
      | none => simp [h2]
      | some z => cases h : f' y z <;> simp [h2, h]
  simp only [← e1]
  unfold wp; dsimp only
  cases h1 : res s a with
  | none => simp
  | some x =>
    cases h2 : res s b with
    | none => simp [h2]
    | some y =>
      cases h : f x y with
      | none => simp [h2, h]
      | some k =>
        cases k with
        | false => simp [h2, h]
        | true =>
          simp only [h2, h, to_some, if_true] <;> exact Iff.rfl
@[simp] theorem wp_kNil {Q : List Pk → VS → Prop} : wp kNil s Q ↔ Q [] s := by unfold kNil; simp
@[simp] theorem wp_kCons {Fa : M Pk} {Fr : M (List Pk)} {Q : List Pk → VS → Prop} : wp (kCons Fa Fr) s Q ↔ wp Fa s fun a s => wp Fr s fun r s => Q (a :: r) s := by unfold kCons; simp
@[simp] theorem wp_aNil {Q : List D → VS → Prop} : wp aNil s Q ↔ Q [] s := by unfold aNil; simp
@[simp] theorem wp_aCons {Fa : M D} {Fr : M (List D)} {Q : List D → VS → Prop} : wp (aCons Fa Fr) s Q ↔ wp Fa s fun a s => wp Fr s fun r s => Q (a :: r) s := by unfold aCons; simp
@[simp] theorem resAll_nil : resAll s [] = some [] := rfl
@[simp] theorem to_resAll {k : Pk} {ks : List Pk} {Q : List D → VS → Prop} : to (resAll s (k :: ks)) s Q ↔ to (res s k) s fun d s => to (resAll s ks) s fun ds s => Q (d :: ds) s := by
  rw [resAll]
  cases h : res s k with
  | none => simp
  | some d => cases h2 : resAll s ks <;> simp [h2]
@[simp] theorem wp_fN {f : List D → Option L} {Fr : M (List Pk)} {Q : L → VS → Prop} : wp (fN f Fr) s Q ↔ wp Fr s fun ks s => to (resAll s ks) s fun ds s => to (f ds) s Q := by
  unfold fN; rw [wp_bd]; refine wp_congr fun ks s => ?_
  unfold wp; dsimp only
  cases h1 : resAll s ks with
  | none => simp
  | some ds => cases h : f ds <;> simp [h]
theorem wp_ite {c : Prop} [Decidable c] {F G : M α} {Q : α → VS → Prop} : wp (if c then F else G) s Q ↔ if c then wp F s Q else wp G s Q := by split <;> rfl
@[simp] theorem wp_fLst {Fr : M (List D)} {Q : L → VS → Prop} : wp (fLst Fr) s Q ↔ wp Fr s fun ds s => ds.length ≤ 100000 ∧ Q (.own ds) s := by
  unfold fLst; rw [wp_bd]; refine wp_congr fun ds s => ?_
  unfold wp; dsimp only; split
  · rename_i h; simp [h]
  · rename_i h; simp [h]
@[simp] theorem wp_fTup {Fr : M (List D)} {Q : D → VS → Prop} : wp (fTup Fr) s Q ↔ wp Fr s fun ds s => ds.length ≤ 100000 ∧ Q (.tup ds) s := by
  unfold fTup; rw [wp_bd]; refine wp_congr fun ds s => ?_
  unfold wp; dsimp only; split
  · rename_i h; simp [h]
  · rename_i h; simp [h]
@[simp] theorem wp_bAnd {A B : M Bool} {Q : Bool → VS → Prop} : wp (bAnd A B) s Q ↔ wp A s fun k s => if k = true then wp B s Q else Q false s := by unfold bAnd; simp [wp_ite]
@[simp] theorem wp_bOr {A B : M Bool} {Q : Bool → VS → Prop} : wp (bOr A B) s Q ↔ wp A s fun k s => if k = true then Q true s else wp B s Q := by unfold bOr; simp [wp_ite]
@[simp] theorem wp_bNot {A : M Bool} {Q : Bool → VS → Prop} : wp (bNot A) s Q ↔ wp A s fun k s => Q (!k) s := by unfold bNot; simp
def dTest : D → Option Bool
  | .bl k => some k
  | _ => none
@[simp] theorem dTest_bl {k : Bool} : dTest (.bl k) = some k := rfl
@[simp] theorem wp_fTest {F : M D} {Q : Bool → VS → Prop} : wp (fTest F) s Q ↔ wp F s fun d s => to (dTest d) s Q := by
  unfold fTest; rw [wp_bd]; refine wp_congr fun d s => ?_
  cases d <;> rfl
@[simp] theorem wp_vAnd {A B : M D} {Q : D → VS → Prop} : wp (vAnd A B) s Q ↔ wp A s fun d s => to (dTest d) s fun k s => if k = true then wp B s Q else Q (.bl false) s := by
  unfold vAnd; rw [wp_bd]; refine wp_congr fun d s => ?_
  cases d with
  | bl k => cases k <;> simp [wp]
  | _ => rfl
@[simp] theorem wp_vOr {A B : M D} {Q : D → VS → Prop} : wp (vOr A B) s Q ↔ wp A s fun d s => to (dTest d) s fun k s => if k = true then Q (.bl true) s else wp B s Q := by
  unfold vOr; rw [wp_bd]; refine wp_congr fun d s => ?_
  cases d with
  | bl k => cases k <;> simp [wp]
  | _ => rfl
@[simp] theorem wp_vNot {A : M D} {Q : D → VS → Prop} : wp (vNot A) s Q ↔ wp A s fun d s => to (dTest d) s fun k s => Q (.bl (!k)) s := by
  unfold vNot; rw [wp_bd]; refine wp_congr fun d s => ?_
  cases d <;> rfl
@[simp] theorem wp_fIf {C : M Bool} {A B : M α} {Q : α → VS → Prop} : wp (fIf C A B) s Q ↔ wp C s fun k s => if k = true then wp A s Q else wp B s Q := by unfold fIf; simp [wp_ite]
@[simp] theorem wp_sNil {Q : Fl → VS → Prop} : wp sNil s Q ↔ Q .nx s := by unfold sNil; simp
def thenF (G : M Fl) (Q : Fl → VS → Prop) : Fl → VS → Prop
  | .nx, s => wp G s Q
  | f, s => Q f s
@[simp] theorem thenF_nx {G : M Fl} {Q : Fl → VS → Prop} : thenF G Q .nx s ↔ wp G s Q := Iff.rfl
@[simp] theorem thenF_rt {G : M Fl} {Q : Fl → VS → Prop} {l : L} : thenF G Q (.rt l) s ↔ Q (.rt l) s := Iff.rfl
@[simp] theorem wp_sSeq {F G : M Fl} {Q : Fl → VS → Prop} : wp (sSeq F G) s Q ↔ wp F s (thenF G Q) := by
  unfold sSeq; rw [wp_bd]; refine wp_congr fun f s => ?_
  cases f <;> rfl
@[simp] theorem wp_sExpr {F : M D} {Q : Fl → VS → Prop} : wp (sExpr F) s Q ↔ wp F s fun _ s => Q .nx s := by unfold sExpr; simp
@[simp] theorem wp_sRet {F : M L} {Q : Fl → VS → Prop} : wp (sRet F) s Q ↔ wp F s fun l s => Q (.rt l) s := by unfold sRet; simp
@[simp] theorem wp_sRetN {Q : Fl → VS → Prop} : wp sRetN s Q ↔ Q (.rt (.d .non)) s := by unfold sRetN; simp
@[simp] theorem wp_sIf {C : M Bool} {A B : M Fl} {Q : Fl → VS → Prop} : wp (sIf C A B) s Q ↔ wp C s fun k s => if k = true then wp A s Q else wp B s Q := by unfold sIf; simp [wp_ite]
@[simp] theorem wp_sSet {i : Nat} {F : M L} {Q : Fl → VS → Prop} : wp (sSet i F) s Q ↔ wp F s fun l s => i < s.length ∧ Q .nx (s.set i (some l)) := by
  unfold sSet; rw [wp_bd]; refine wp_congr fun l s => ?_
  unfold wp; dsimp only; split
  · rename_i h; simp [h]
  · rename_i h; simp [h]
@[simp] theorem wp_sSetT {t : Tg} {F : M D} {Q : Fl → VS → Prop} : wp (sSetT t F) s Q ↔ wp F s fun d s => to (asg t d s) s fun s' _ => Q .nx s' := by
  unfold sSetT; rw [wp_bd]; refine wp_congr fun d s => ?_
  unfold wp; dsimp only; cases asg t d s <;> simp
@[simp] theorem asg_nm {i : Nat} {d : D} : asg (.nm i) d s = if i < s.length then some (s.set i (some (.d d))) else none := by unfold asg; rfl
@[simp] theorem asg_tp {ts : List Tg} {ds : List D} : asg (.tp ts) (.tup ds) s = asgs ts ds s := by unfold asg; rfl
@[simp] theorem asgs_nil : asgs [] [] s = some s := by unfold asgs; rfl
@[simp] theorem to_asgs {t : Tg} {ts : List Tg} {d : D} {ds : List D} {s0 : VS} {Q : VS → VS → Prop} : to (asgs (t :: ts) (d :: ds) s) s0 Q ↔ to (asg t d s) s0 fun s1 s0 => to (asgs ts ds s1) s0 Q := by
  rw [asgs]
  cases h : asg t d s <;> simp
def ownAt (s : VS) (i : Nat) : Option (List D) := match s[i]? with
  | some (some (.own xs)) => some xs
  | _ => none
@[simp] theorem ownAt_zero {x : List D} {s : VS} : ownAt (some (.own x) :: s) 0 = some x := rfl
@[simp] theorem ownAt_succ {o : Option L} {s : VS} {i : Nat} : ownAt (o :: s) (i + 1) = ownAt s i := rfl
theorem ownAt_none {s : VS} {i : Nat} (h : ∀ xs, s[i]? ≠ some (some (.own xs))) : ownAt s i = none := by
  unfold ownAt
  split
  · rename_i xs e; exact (h xs e).elim
  · rfl
@[simp] theorem wp_fW {i : Nat} {g : List D → List D → Option (D × List D)} {Fr : M (List D)} {Q : D → VS → Prop} : wp (fW i g Fr) s Q ↔ to (ownAt s i) s fun _ s => wp Fr s fun ds s => to (ownAt s i) s fun xs s => to (g xs ds) s fun p s => Q p.1 (s.set i (some (.own p.2))) := by
  unfold fW; unfold wp; dsimp only; unfold ownAt
  cases s[i]? with
  | none => simp
  | some o =>
    cases o with
    | none => simp
    | some l =>
      cases l with
      | own xs =>
        simp only [to_some]
        refine (wp_bd (F := Fr) (s := s) (Q := Q)).trans (wp_congr fun ds s => ?_)
        unfold wp; dsimp only
        cases s[i]? with
        | none => simp
        | some o =>
          cases o with
          | none => simp
          | some l =>
            cases l with
            | own xs => dsimp only [to_some]; cases h : g xs ds <;> simp [h]
            | _ => simp
      | _ => simp
@[simp] theorem wp_sSetI {i : Nat} {Fv Fi : M D} {Q : Fl → VS → Prop} : wp (sSetI i Fv Fi) s Q ↔ wp Fv s fun v s => to (ownAt s i) s fun _ s => wp Fi s fun k s => to (ownAt s i) s fun xs s => to (dSetN xs k) s fun n s => Q .nx (s.set i (some (.own (xs.set n v)))) := by
  unfold sSetI; rw [wp_bd]; refine wp_congr fun v s => ?_
  unfold wp; dsimp only; unfold ownAt
  cases s[i]? with
  | none => simp
  | some o =>
    cases o with
    | none => simp
    | some l =>
      cases l with
      | own xs =>
        simp only [to_some]
        refine (wp_bd (F := Fi) (s := s) (Q := Q)).trans (wp_congr fun k s => ?_)
        unfold wp; dsimp only
        cases s[i]? with
        | none => simp
        | some o =>
          cases o with
          | none => simp
          | some l =>
            cases l with
            | own xs => dsimp only [to_some]; cases h : dSetN xs k <;> simp [h]
            | _ => simp
      | _ => simp
@[simp] theorem wp_oNone {Q : Option Int → VS → Prop} : wp oNone s Q ↔ Q none s := by unfold oNone; simp
def dInt? : D → Option Int
  | .int i => some i
  | _ => none
@[simp] theorem dInt?_int {i : Int} : dInt? (.int i) = some i := rfl
@[simp] theorem wp_oSome {F : M D} {Q : Option Int → VS → Prop} : wp (oSome F) s Q ↔ wp F s fun d s => to (dInt? d) s fun i s => Q (some i) s := by
  unfold oSome; rw [wp_bd]; refine wp_congr fun d s => ?_
  cases d <;> rfl
@[simp] theorem wp_fSl {Fa : M Pk} {Fl Fh : M (Option Int)} {Q : L → VS → Prop} : wp (fSl Fa Fl Fh) s Q ↔ wp Fa s fun a s => wp Fl s fun lo s => wp Fh s fun hi s => to (res s a) s fun x s => to (dSl x lo hi) s Q := by
  unfold fSl; rw [wp_bd]; refine wp_congr fun a s => ?_; rw [wp_bd]; refine wp_congr fun lo s => ?_; rw [wp_bd]; refine wp_congr fun hi s => ?_
  unfold wp; dsimp only
  cases h1 : res s a with
  | none => simp
  | some x => cases h : dSl x lo hi <;> simp [h]
@[simp] theorem wp_fLRg {F : M D} {Q : L → VS → Prop} : wp (fLRg F) s Q ↔ wp F s fun d s => to (dInt? d) s fun n s => (0 ≤ n ∧ n ≤ 100000) ∧ Q (.own (rgD 0 n.toNat)) s := by
  unfold fLRg; rw [wp_bd]; refine wp_congr fun d s => ?_
  cases d with
  | int n =>
    unfold wp; dsimp only [dInt?_int, to_some]
    split
    · rename_i h; simp [h]
    · rename_i h; simp [h]
  | _ => rfl
@[simp] theorem wp_iSeq {F : M D} {Q : List D → VS → Prop} : wp (iSeq F) s Q ↔ wp F s fun d s => to (match d with
  | .lst xs => some xs
  | .tup xs => some xs
  | .scr ns => some (ns.map D.int)
  | .str z => some (signs z)
  | _ => none) s Q := by
  unfold iSeq; rw [wp_bd]; refine wp_congr fun d s => ?_
  cases d <;> rfl
@[simp] theorem wp_iRng1F {F : M D} {Q : List D → VS → Prop} : wp (iRng1F F) s Q ↔ wp F s fun d s => to (dInt? d) s fun n s => (-100000 ≤ n ∧ n ≤ 100000) ∧ Q (rgD 0 n.toNat) s := by
  unfold iRng1F; rw [wp_bd]; refine wp_congr fun d s => ?_
  cases d with
  | int n =>
    unfold wp; dsimp only [dInt?_int, to_some]
    split
    · rename_i h; simp [h]
    · rename_i h; simp [h]
  | _ => rfl
@[simp] theorem wp_iRng2F {F G : M D} {Q : List D → VS → Prop} : wp (iRng2F F G) s Q ↔ wp F s fun a s => wp G s fun b s => to (dRng2 a b) s Q := by
  unfold iRng2F; rw [wp_bd]; refine wp_congr fun a s => ?_; rw [wp_bd]; refine wp_congr fun b s => ?_
  unfold wp; dsimp only
  cases dRng2 a b <;> simp
@[simp] theorem wp_fM {T : String} {f : D → List D → Option L} {Fo : M Pk} {Fr : M (List Pk)} {Q : L → VS → Prop} : wp (fM T f Fo Fr) s Q ↔ wp Fo s fun o s => to (res s o) s fun d1 s => isT T d1 = true ∧ wp Fr s fun ks s => to (res s o) s fun d s => to (resAll s ks) s fun ds s => to (f d ds) s Q := by
  unfold fM; rw [wp_bd]; refine wp_congr fun o s => ?_
  have e1 : ∀ s, wp (bd Fr (fun ks s2 => match res s2 o, resAll s2 ks with
    | some d, some ds => (match f d ds with
      | some l => some (.ok l, s2)
      | none => none)
    | _, _ => none)) s Q ↔ wp Fr s fun ks s => to (res s o) s fun d s => to (resAll s ks) s fun ds s => to (f d ds) s Q := fun s => by
    refine wp_bd.trans (wp_congr fun ks s => ?_)
    unfold wp; dsimp only
    cases h1 : res s o with
    | none => simp
    | some d =>
      cases h2 : resAll s ks with
      | none => simp [h2]
      | some ds => cases h : f d ds <;> simp [h2, h]
  simp only [← e1]
  unfold wp; dsimp only
  cases h1 : res s o with
  | none => simp
  | some d =>
    dsimp only [to_some]
    split
    · rename_i h; simp only [h, true_and, to_some] <;> exact Iff.rfl
    · rename_i h; simp [h]
@[simp] theorem wp_fIsi {T : String} {Fa : M Pk} {Q : D → VS → Prop} : wp (fIsi T Fa) s Q ↔ wp Fa s fun a s => to (res s a) s fun d s => to (dIsi T d) s fun b s => Q (.bl b) s := by
  unfold fIsi; rw [wp_bd]; refine wp_congr fun a s => ?_
  unfold wp; dsimp only
  cases h1 : res s a with
  | none => simp
  | some x => cases h : dIsi T x <;> simp [h]
@[simp] theorem wp_fTab {t : List (Str × Int)} {F G : M D} {Q : D → VS → Prop} : wp (fTab t F G) s Q ↔ wp F s fun z s => wp G s fun d s => to (dTab t z d) s Q := by
  unfold fTab; rw [wp_bd]; refine wp_congr fun a s => ?_; rw [wp_bd]; refine wp_congr fun b s => ?_
  unfold wp; dsimp only
  cases dTab t a b <;> simp
@[simp] theorem wp_fFld {C : Addr} {f : Str} {Fo : M Pk} {Q : D → VS → Prop} : wp (fFld C f Fo) s Q ↔ wp Fo s fun o s => to (fldOf C f s o) s Q := by
  unfold fFld; rw [wp_bd]; refine wp_congr fun o s => ?_
  unfold wp; dsimp only
  cases fldOf C f s o <;> simp
@[simp] theorem argsOf_nil : argsOf s [] = some [] := rfl
@[simp] theorem to_args_dat {s0 : VS} {d : D} {ks : List Pk} {Q : VS → VS → Prop} : to (argsOf s (.dat d :: ks)) s0 Q ↔ to (argsOf s ks) s0 fun ls s0 => Q (some (.d d) :: ls) s0 := by
  rw [argsOf, to_map]
@[simp] theorem to_args_sl {s0 : VS} {j : Nat} {ks : List Pk} {Q : VS → VS → Prop} : to (argsOf s (.sl j :: ks)) s0 Q ↔ to (at? s j) s0 fun l s0 => to (argsOf s ks) s0 fun ls s0 => Q (some l :: ls) s0 := by
  rw [argsOf]; unfold at?
  cases h : s[j]? with
  | none => simp
  | some o => cases o <;> simp
@[simp] theorem wp_fCall {fn : Fn} {Fr : M (List Pk)} {Q : L → VS → Prop} : wp (fCall fn Fr) s Q ↔ wp Fr s fun ks s => wp (callF fn ks) s Q := by unfold fCall; simp
theorem wp_callF {fn : Fn} {ks : List Pk} {Q : L → VS → Prop} : wp (callF fn ks) s Q ↔ to (argsOf s ks) s fun ls s => (slND ks = true ∧ ks.length = fn.n) ∧ wp fn.run ls fun l os => Q l (setO s ks os) := by
  unfold wp callF
  cases h : argsOf s ks with
  | none => simp
  | some ls =>
    dsimp only [to_some]
    split
    · rename_i h1
      cases h2 : fn.run ls with
      | none => simp [h2]
      | some p =>
        obtain ⟨r, os⟩ := p
        cases r <;> simp [h1, h2]
    · rename_i h1; simp [h1]
theorem wp_fMeth {C : Addr} {m : Str} {fn : Fn} {Fo : M Pk} {Fr : M (List Pk)} {Q : L → VS → Prop} : wp (fMeth C m fn Fo Fr) s Q ↔ wp Fo s fun o s => to (clsOf s o) s fun p s => (p.1 = C ∧ m ∉ p.2) ∧ wp Fr s fun ks s => wp (callF fn (o :: ks)) s Q := by
  unfold fMeth; rw [wp_bd]; refine wp_congr fun o s => ?_
  have e1 : ∀ s, wp (bd Fr fun ks => callF fn (o :: ks)) s Q ↔ wp Fr s fun ks s => wp (callF fn (o :: ks)) s Q := fun s => wp_bd
  simp only [← e1]
  unfold wp; dsimp only
  cases h1 : clsOf s o with
  | none => simp
  | some p =>
    obtain ⟨C', fs⟩ := p
    dsimp only [to_some]
    split
    · rename_i h; simp [h]
    · rename_i h; simp only [h, false_and, to_some] <;> exact Iff.rfl
theorem wp_fMake {C : Addr} {fn : Fn} {Fr : M (List Pk)} {Q : L → VS → Prop} : wp (fMake C fn Fr) s Q ↔ wp Fr s fun ks s => wp (makeF C fn ks) s Q := by unfold fMake; simp
theorem makeF_in {C : Addr} {fn : Fn} {ks : List Pk} {Q : L → VS → Prop} {ls os : VS} {l : L} (h1 : argsOf s ks = some ls) (h2 : slND ks = true) (h3 : ks.length + 1 = fn.n) (h4 : fn.run (some (.obj C [] []) :: ls) = some (.ok (.d .non), some l :: os)) (q : Q l (setO s ks os)) : wp (makeF C fn ks) s Q := by
  unfold wp makeF
  simp only [h1, h2, h3, h4, and_self, if_true]
  exact q
@[simp] theorem slND_nil : slND [] = true := rfl
@[simp] theorem slND_sl {j : Nat} {ks : List Pk} : slND (.sl j :: ks) = (!hasSl j ks && slND ks) := rfl
@[simp] theorem slND_dat {d : D} {ks : List Pk} : slND (.dat d :: ks) = slND ks := rfl
@[simp] theorem hasSl_nil {j : Nat} : hasSl j [] = false := rfl
@[simp] theorem hasSl_sl {j i : Nat} {ks : List Pk} : hasSl j (.sl i :: ks) = (decide (i = j) || hasSl j ks) := rfl
@[simp] theorem hasSl_dat {j : Nat} {d : D} {ks : List Pk} : hasSl j (.dat d :: ks) = hasSl j ks := rfl
@[simp] theorem setO_nil {os : VS} : setO s [] os = s := by cases os <;> rfl
@[simp] theorem setO_sl {j : Nat} {ks : List Pk} {o : Option L} {os : VS} : setO s (.sl j :: ks) (o :: os) = (setO s ks os).set j o := rfl
@[simp] theorem setO_dat {d : D} {ks : List Pk} {o : Option L} {os : VS} : setO s (.dat d :: ks) (o :: os) = setO s ks os := rfl
@[simp] theorem mkFn_n {n nn : Nat} {io : List Nat} {F : M Fl} : (mkFn n nn io F).n = n := rfl
theorem wp_run {n nn : Nat} {io : List Nat} {F : M Fl} {Q : L → VS → Prop} (h : wp F (s ++ List.replicate (nn - n) none) fun f s' => match f with
    | .rt l => Q l (outs n io s')
    | .nx => Q (.d .non) (outs n io s')
    | _ => False) : wp (mkFn n nn io F).run s Q := by
  obtain ⟨f, s', e, q⟩ := wp_out h
  show fin (mkRun n nn io F s) Q
  unfold mkRun
  rw [e]
  cases f with
  | nx => exact q
  | rt l => exact q
  | bk => exact q.elim
  | ct => exact q.elim
def lend (Q : Fl → VS → Prop) (N : VS → Prop) : Fl → VS → Prop
  | .nx, s => N s
  | .ct, s => N s
  | .bk, s => Q .nx s
  | .rt l, s => Q (.rt l) s
@[simp] theorem lend_nx {Q : Fl → VS → Prop} {N : VS → Prop} : lend Q N .nx s ↔ N s := Iff.rfl
@[simp] theorem lend_ct {Q : Fl → VS → Prop} {N : VS → Prop} : lend Q N .ct s ↔ N s := Iff.rfl
@[simp] theorem lend_bk {Q : Fl → VS → Prop} {N : VS → Prop} : lend Q N .bk s ↔ Q .nx s := Iff.rfl
@[simp] theorem lend_rt {Q : Fl → VS → Prop} {N : VS → Prop} {l : L} : lend Q N (.rt l) s ↔ Q (.rt l) s := Iff.rfl
@[simp] theorem wp_sFor {Fi : M (List D)} {tg : Tg} {B : M Fl} {Q : Fl → VS → Prop} : wp (sFor Fi tg B) s Q ↔ wp Fi s fun ds s => wp (loopF tg B ds) s Q := by unfold sFor; simp
@[simp] theorem wp_loop_nil {tg : Tg} {B : M Fl} {Q : Fl → VS → Prop} : wp (loopF tg B []) s Q ↔ Q .nx s := Iff.rfl
theorem wp_loop_cons {tg : Tg} {B : M Fl} {d : D} {r : List D} {Q : Fl → VS → Prop} : wp (loopF tg B (d :: r)) s Q ↔ to (asg tg d s) s fun s1 _ => wp B s1 (lend Q fun s2 => wp (loopF tg B r) s2 Q) := by
  rw [loopF]; unfold wp; dsimp only
  cases h : asg tg d s with
  | none => simp
  | some s1 =>
    dsimp only
    refine (wp_bd (F := B) (s := s1) (Q := Q)).trans (wp_congr fun f s => ?_)
    cases f <;> rfl
theorem wp_loop {tg : Tg} {B : M Fl} {ds : List D} {Q : Fl → VS → Prop} (I : Nat → VS → Prop) (h0 : I 0 s) (step : ∀ i d s, ds[i]? = some d → I i s → to (asg tg d s) s fun s1 _ => wp B s1 (lend Q (I (i + 1)))) (hend : ∀ s, I ds.length s → Q .nx s) : wp (loopF tg B ds) s Q := by
  have key : ∀ (r : List D) (i : Nat) (s : VS), ds.drop i = r → i ≤ ds.length → I i s → wp (loopF tg B r) s Q := by
    intro r
    induction r with
    | nil =>
      intro i s hr hi h
      have : i = ds.length := Nat.le_antisymm hi (List.drop_eq_nil_iff.mp hr)
      subst this
      exact hend s h
    | cons d r ih =>
      intro i s hr hi h
      have hlt : i < ds.length := by
        rcases Nat.lt_or_ge i ds.length with q | q
        · exact q
        · rw [List.drop_eq_nil_of_le q] at hr; cases hr
      rw [List.drop_eq_getElem_cons hlt] at hr
      injection hr with h1 h2
      rw [wp_loop_cons]
      obtain ⟨s1, e, w⟩ := to_out (step i d s (by rw [List.getElem?_eq_getElem hlt, h1]) h)
      refine to_in e (wp_mono w fun f s2 q => ?_)
      cases f with
      | nx => exact ih (i + 1) s2 h2 hlt q
      | ct => exact ih (i + 1) s2 h2 hlt q
      | bk => exact q
      | rt l => exact q
  exact key ds 0 s rfl (Nat.zero_le _) h0
theorem wp_while {C : M Bool} {B : M Fl} {Q : Fl → VS → Prop} (I : Nat → VS → Prop) (step : ∀ m s, I m s → wp C s fun k s1 => if k = true then wp B s1 (lend Q fun s2 => ∃ m', m' < m ∧ I m' s2) else Q .nx s1) : ∀ (n m : Nat) (s : VS), m < n → I m s → wp (sWhile C B n) s Q
  | 0, m, s, h, _ => by omega
  | n + 1, m, s, h, i => by
    rw [sWhile, wp_bd]
    refine wp_mono (step m s i) fun k s1 q => ?_
    cases k with
    | false => exact q
    | true =>
      have q : wp B s1 (lend Q fun s2 => ∃ m', m' < m ∧ I m' s2) := q
      rw [wp_ite, if_pos rfl, wp_bd]
      refine wp_mono q fun f s2 q => ?_
      cases f with
      | nx => obtain ⟨m', h1, h2⟩ := q; exact wp_while I step n m' s2 (by omega) h2
      | ct => obtain ⟨m', h1, h2⟩ := q; exact wp_while I step n m' s2 (by omega) h2
      | bk => exact q
      | rt l => exact q
theorem wp_fComp {own : List Nat} {Fi : M (List D)} {tg : Tg} {C : M Bool} {Fe : M D} {Q : L → VS → Prop} : wp (fComp own Fi tg C Fe) s Q ↔ wp Fi s fun ds s => to (lcF tg own C Fe ds [] (wipeV s own)) s fun p s => Q (.own p.1) (restV s p.2 own) := by
  unfold fComp; rw [wp_bd]; refine wp_congr fun ds s => ?_
  unfold wp; dsimp only
  cases lcF tg own C Fe ds [] (wipeV s own) <;> simp
theorem wp_fCompO {i : Nat} {own : List Nat} {tg : Tg} {C : M Bool} {Fe : M D} {Q : L → VS → Prop} : wp (fCompO i own tg C Fe) s Q ↔ to (ownAt s i) s fun xs s => to (lcF tg own C Fe xs [] (wipeV (s.set i none) own)) s fun p s => Q (.own p.1) ((restV (s.set i none) p.2 own).set i (some (.own xs))) := by
  unfold wp fCompO ownAt
  cases h : s[i]? with
  | none => simp
  | some o =>
    cases o with
    | none => simp
    | some l =>
      cases l with
      | own xs => cases h2 : lcF tg own C Fe xs [] (wipeV (s.set i none) own) <;> simp [h2]
      | _ => simp
theorem lcF_in {tg : Tg} {own : List Nat} {C : M Bool} {Fe : M D} {ds : List D} (I : Nat → List D → VS → Prop) (h0 : I 0 [] s)
    (step : ∀ i d acc s, ds[i]? = some d → I i acc s → to (asg tg d s) s fun s1 _ => wp C s1 fun k s2 => if k = true then wp Fe s2 fun y s3 => acc.length < 100000 ∧ I (i + 1) (acc ++ [y]) (wipeV s3 own) else I (i + 1) acc (wipeV s2 own)) :
    ∃ acc s2, lcF tg own C Fe ds [] s = some (acc, s2) ∧ I ds.length acc s2 := by
  have key : ∀ (r : List D) (i : Nat) (acc : List D) (s : VS), ds.drop i = r → i ≤ ds.length → I i acc s → ∃ acc' s2, lcF tg own C Fe r acc s = some (acc', s2) ∧ I ds.length acc' s2 := by
    intro r
    induction r with
    | nil =>
      intro i acc s hr hi h
      have : i = ds.length := Nat.le_antisymm hi (List.drop_eq_nil_iff.mp hr)
      subst this
      exact ⟨acc, s, rfl, h⟩
    | cons d r ih =>
      intro i acc s hr hi h
      have hlt : i < ds.length := by
        rcases Nat.lt_or_ge i ds.length with q | q
        · exact q
        · rw [List.drop_eq_nil_of_le q] at hr; cases hr
      rw [List.drop_eq_getElem_cons hlt] at hr
      injection hr with h1 h2
      obtain ⟨s1, e, w⟩ := to_out (step i d acc s (by rw [List.getElem?_eq_getElem hlt, h1]) h)
      obtain ⟨k, s2, e2, w⟩ := wp_out w
      rw [lcF]
      simp only [e, e2]
      cases k with
      | false => exact ih (i + 1) acc _ h2 hlt w
      | true =>
        have w : wp Fe s2 fun y s3 => acc.length < 100000 ∧ I (i + 1) (acc ++ [y]) (wipeV s3 own) := w
        obtain ⟨y, s3, e3, hl, w⟩ := wp_out w
        simp only [e3, hl, if_true]
        exact ih (i + 1) (acc ++ [y]) _ h2 hlt w
  exact key ds 0 [] s rfl (Nat.zero_le _) h0
theorem lcF_pure {tg : Tg} {own : List Nat} {C : M Bool} {Fe : M D} {ds : List D} (g : D → Option D) (hl : ds.length ≤ 100000)
    (h : ∀ d, d ∈ ds → to (asg tg d s) s fun s1 _ => wp C s1 fun k s2 => if k = true then wp Fe s2 fun y s3 => g d = some y ∧ wipeV s3 own = s else g d = none ∧ wipeV s2 own = s) : lcF tg own C Fe ds [] s = some (ds.filterMap g, s) := by
  obtain ⟨acc, s2, e, h1, h2, h3⟩ := lcF_in (s := s) (tg := tg) (own := own) (C := C) (Fe := Fe) (ds := ds) (fun i acc s' => acc = (ds.take i).filterMap g ∧ s' = s ∧ acc.length ≤ i) ⟨rfl, rfl, Nat.le_refl _⟩ (by
    rintro i d acc s' hd ⟨ha, rfl, hi⟩
    have hlt := (List.getElem?_eq_some_iff.mp hd).1
    have htk : ds.take (i + 1) = ds.take i ++ [d] := by rw [List.take_succ, hd]; rfl
    obtain ⟨s1, e, w⟩ := to_out (h d (List.mem_of_getElem? hd))
    refine to_in e (wp_mono w fun k s2 q => ?_)
    cases k with
    | false =>
      obtain ⟨q1, q2⟩ := (show g d = none ∧ wipeV s2 own = s' from q)
      refine ⟨?_, q2, by omega⟩
      rw [htk, List.filterMap_append, ← ha]
      simp [q1]
    | true =>
      have q : wp Fe s2 fun y s3 => g d = some y ∧ wipeV s3 own = s' := q
      refine (wp_mono q fun y s3 q => ?_ : wp Fe s2 _)
      obtain ⟨q1, q2⟩ := q
      refine ⟨by omega, ?_, q2, by simp; omega⟩
      rw [htk, List.filterMap_append, ← ha]
      simp [q1])
  rw [e, h1, h2, List.take_length]
end
end Ev
namespace Ev
open PySem PySem.Spec PyProof.Rows L2
section
variable {α : Type} {s : VS}
theorem atI_nat {xs : List α} (n : Nat) : atI xs (n : Int) = xs[n]? := by
  unfold L2.atI L2.ixN
  rw [if_pos (by omega)]
  by_cases h : n < xs.length
  · rw [if_pos (by omega)]; simp
  · rw [if_neg (by omega), List.getElem?_eq_none (by omega)]; rfl
theorem atI_pos {xs : List α} {i : Int} (h : 0 ≤ i) : atI xs i = xs[i.toNat]? := by
  have := atI_nat (xs := xs) i.toNat
  rwa [Int.toNat_of_nonneg h] at this
@[simp] theorem atI_zero {xs : List α} : atI xs 0 = xs[0]? := atI_nat 0
@[simp] theorem atI_one {xs : List α} : atI xs 1 = xs[1]? := atI_nat 1
@[simp] theorem atI_two {xs : List α} : atI xs 2 = xs[2]? := atI_nat 2
@[simp] theorem atI_three {xs : List α} : atI xs 3 = xs[3]? := atI_nat 3
@[simp] theorem atI_neg {xs : List α} : atI xs (-1) = xs[xs.length - 1]? := by
  unfold L2.atI L2.ixN
  rw [if_neg (by omega)]
  by_cases h : 0 < xs.length
  · rw [if_pos (by omega)]
    have : ((-1 : Int) + (xs.length : Int)).toNat = xs.length - 1 := by omega
    rw [this]; rfl
  · rw [if_neg (by omega), List.getElem?_eq_none (by omega)]; rfl
@[simp] theorem dIx_lst {xs : List D} {i : Int} : dIx (.lst xs) (.int i) = (atI xs i).map L.d := rfl
@[simp] theorem dIx_tup {xs : List D} {i : Int} : dIx (.tup xs) (.int i) = (atI xs i).map L.d := rfl
theorem dIx_str {z : Str} {i : Int} (h : z.length ≤ 100000) : dIx (.str z) (.int i) = (atI z.cps.toList i).map fun c => .d (.str ⟨#[c]⟩) := if_pos h
@[simp] theorem dAdd_int {i j : Int} : dAdd (.int i) (.int j) = some (.d (.int (i + j))) := rfl
@[simp] theorem dAdd_lst {a b : List D} : dAdd (.lst a) (.lst b) = if a.length + b.length ≤ 100000 then some (.own (a ++ b)) else none := rfl
@[simp] theorem dAdd_str {a b : Str} : dAdd (.str a) (.str b) = if a.length + b.length ≤ 100000 then some (.d (.str (a ++ b))) else none := rfl
@[simp] theorem dSub_int {i j : Int} : dSub (.int i) (.int j) = some (.d (.int (i - j))) := rfl
@[simp] theorem dMul_int {i j : Int} : dMul (.int i) (.int j) = if (-(2 ^ 64) < i ∧ i < 2 ^ 64) ∨ (-(2 ^ 64) < j ∧ j < 2 ^ 64) then some (.d (.int (i * j))) else none := rfl
@[simp] theorem dMul_lst {a : List D} {k : Int} : dMul (.lst a) (.int k) = if k ≤ 100000 ∧ -100000 ≤ k ∧ a.length * k.toNat ≤ 100000 then some (.own (List.replicate k.toNat a).flatten) else none := rfl
@[simp] theorem dMul_str {z : Str} {n : Int} : dMul (.str z) (.int n) = if 1 ≤ n ∧ n ≤ 1000 ∧ z.length ≤ 1000 then some (.d (.str (repS z n.toNat))) else none := rfl
@[simp] theorem dDiv_int {i j : Int} : dDiv (.int i) (.int j) = if 0 < j ∧ j < 1073741824 then some (.d (.int (i / j))) else none := rfl
@[simp] theorem dMod_int {i j : Int} : dMod (.int i) (.int j) = if 0 < j then some (.d (.int (i % j))) else none := rfl
@[simp] theorem dPow_int {i j : Int} : dPow (.int i) (.int j) = if 0 ≤ j ∧ j ≤ 1000 ∧ i.natAbs < 2 ^ 64 then some (.d (.int (i ^ j.toNat))) else none := rfl
@[simp] theorem dNeg_int {i : Int} : dNeg (.int i) = some (.d (.int (-i))) := rfl
@[simp] theorem dCmp_int {p : Int → Int → Bool} {i j : Int} : dCmp p (.int i) (.int j) = some (p i j) := rfl
@[simp] theorem dEq_int {i j : Int} : dEq (.int i) (.int j) = some (decide (i = j)) := rfl
@[simp] theorem dEq_str {i j : Str} : dEq (.str i) (.str j) = some (decide (i = j)) := rfl
@[simp] theorem dEq_bl {i j : Bool} : dEq (.bl i) (.bl j) = some (decide (i = j)) := rfl
@[simp] theorem dNe_eq {x y : D} : dNe x y = (dEq x y).map (! ·) := rfl
@[simp] theorem dNotIn_eq {x y : D} : dNotIn x y = (dIn x y).map (! ·) := rfl
@[simp] theorem dLen_lst {xs : List D} : dLen [.lst xs] = some (.d (.int xs.length)) := rfl
@[simp] theorem dLen_tup {xs : List D} : dLen [.tup xs] = some (.d (.int xs.length)) := rfl
@[simp] theorem dLen_str {z : Str} : dLen [.str z] = if z.length ≤ 100000 then some (.d (.int z.length)) else none := rfl
@[simp] theorem dAbs_int {i : Int} : dAbs [.int i] = some (.d (.int (if i < 0 then -i else i))) := rfl
@[simp] theorem dInt_int {i : Int} : dInt [.int i] = some (.d (.int i)) := rfl
@[simp] theorem dInt_bl {k : Bool} : dInt [.bl k] = some (.d (.int (if k then 1 else 0))) := rfl
@[simp] theorem dList_lst {xs : List D} : dList [.lst xs] = some (.own xs) := rfl
@[simp] theorem dSl_lst {xs : List D} {lo hi : Option Int} : dSl (.lst xs) lo hi = some (.own (cutL xs lo hi)) := rfl
@[simp] theorem dSl_str {z : Str} {lo hi : Option Int} : dSl (.str z) lo hi = if z.length ≤ 100000 then some (.d (.str (cutS z lo hi))) else none := rfl
@[simp] theorem dSum_ints {ns : List Int} : dSum [.lst (ns.map D.int)] = some (.d (.int ns.sum)) := by show (intsOf (ns.map D.int)).map _ = _; rw [intsOf_map]; rfl
@[simp] theorem gAppend_one {xs : List D} {d : D} : gAppend xs [d] = if xs.length < 100000 then some (.non, xs ++ [d]) else none := rfl
@[simp] theorem gPop_nil {xs : List D} : gPop xs [] = (xs[xs.length - 1]?).map fun y => (y, xs.dropLast) := rfl
@[simp] theorem gPop_int {xs : List D} {i : Int} : gPop xs [.int i] = if xs.length ≤ 100000 then (ixN xs.length i).bind fun k => (xs[k]?).map fun y => (y, xs.eraseIdx k) else none := rfl
@[simp] theorem dSetN_int {xs : List D} {i : Int} : dSetN xs (.int i) = ixN xs.length i := rfl
theorem ixN_nat {n k : Nat} (h : k < n) : ixN n (k : Int) = some k := by
  unfold L2.ixN; rw [if_pos (by omega), if_pos (by omega)]; rfl
theorem ixN_pos {n : Nat} {i : Int} (h : 0 ≤ i) (h2 : i < n) : ixN n i = some i.toNat := by
  unfold L2.ixN; rw [if_pos h, if_pos h2]
@[simp] theorem to_bind {β : Type} {o : Option α} {f : α → Option β} {Q : β → VS → Prop} : to (o.bind f) s Q ↔ to o s fun a s => to (f a) s Q := by cases o <;> rfl
def okD : Nat → D → Bool
  | _, .non => true
  | _, .bl _ => true
  | _, .int _ => true
  | _, .str x => PyData.strOk x
  | n + 1, .tup xs => xs.all (okD n)
  | n + 1, .lst xs => xs.all (okD n)
  | _, _ => false
mutual
theorem okD_py : ∀ (d : D) {n : Nat}, okD n d = true → ∃ p, toPy d = some p ∧ p.canLay0 = true ∧ p.depth ≤ n
  | .non, n, h => ⟨_, rfl, rfl, by simp [PyData.depth]⟩
  | .bl b, n, h => ⟨_, rfl, rfl, by simp [PyData.depth]⟩
  | .int i, n, h => ⟨_, rfl, rfl, by simp [PyData.depth]⟩
  | .str x, n, h => ⟨_, rfl, by cases n <;> exact h, by simp [PyData.depth]⟩
  | .tup xs, 0, h => by cases h
  | .tup xs, n + 1, h => by
    obtain ⟨ps, e, h1, h2⟩ := okD_pys xs (n := n) h
    exact ⟨.tuple ps, by unfold toPy; rw [e]; rfl, h1, by simp [PyData.depth]; exact h2⟩
  | .lst xs, 0, h => by cases h
  | .lst xs, n + 1, h => by
    obtain ⟨ps, e, h1, h2⟩ := okD_pys xs (n := n) h
    exact ⟨.list ps, by unfold toPy; rw [e]; rfl, h1, by simp [PyData.depth]; exact h2⟩
  | .scr _, n, h => by cases n <;> cases h
  | .ins _ _ _, n, h => by cases n <;> cases h
  | .dic _ _, n, h => by cases n <;> cases h
theorem okD_pys : ∀ (ds : List D) {n : Nat}, ds.all (okD n) = true → ∃ ps, toPys ds = some ps ∧ PyData.canLayAll0 ps = true ∧ PyData.depthAll ps ≤ n
  | [], n, h => ⟨[], rfl, rfl, by simp [PyData.depthAll]⟩
  | d :: ds, n, h => by
    rw [List.all_cons, Bool.and_eq_true] at h
    obtain ⟨p, e1, a1, b1⟩ := okD_py d h.1
    obtain ⟨ps, e2, a2, b2⟩ := okD_pys ds h.2
    refine ⟨p :: ps, by unfold toPys; rw [e1, e2], ?_, ?_⟩
    · show (PyData.canLay0 p && PyData.canLayAll0 ps) = true
      rw [a1, a2]; rfl
    · show max p.depth (PyData.depthAll ps) ≤ n
      omega
end
theorem okD_shaped {d : D} {n : Nat} (h : okD n d = true) (hn : n ≤ 64) : ∃ p, toPy d = some p ∧ SeqAt.shaped p = true := by
  obtain ⟨p, e, a, b⟩ := okD_py d h
  refine ⟨p, e, ?_⟩
  unfold SeqAt.shaped
  rw [a, Bool.true_and]
  exact decide_eq_true (Nat.le_trans b hn)
theorem dEq_nil {xs : List D} (h : okD 20 (.lst xs) = true) : dEq (.lst xs) (.lst []) = some (decide (xs = [])) := by
  obtain ⟨p, e, hp⟩ := okD_shaped h (by omega)
  have hq : toPy (.lst []) = some (.list []) := rfl
  have hs : SeqAt.shaped (.list []) = true := rfl
  have e1 : dEq (.lst xs) (.lst []) = eqDp (.lst xs) (.lst []) := rfl
  rw [e1]
  unfold eqDp
  rw [e, hq]
  dsimp only
  rw [hp, hs]
  simp only [Bool.and_self, if_true, Option.some.injEq]
  cases xs with
  | nil => cases e; rfl
  | cons d ds =>
    have e : (toPys (d :: ds)).map PyData.list = some p := e
    cases q : toPys (d :: ds) with
    | none => rw [q] at e; cases e
    | some ps =>
      rw [q] at e; cases e
      cases ps with
      | nil =>
        exfalso
        unfold toPys at q
        split at q <;> cases q
      | cons x xs => rfl
theorem okD_ints {n : Nat} (ns : List Int) : okD (n + 1) (.lst (ns.map D.int)) = true := by
  show (ns.map D.int).all (okD n) = true
  rw [List.all_eq_true]
  intro x hx
  obtain ⟨i, _, rfl⟩ := List.mem_map.mp hx
  cases n <;> rfl
@[simp] theorem dEq_ints_nil {ns : List Int} : dEq (.lst (ns.map D.int)) (.lst []) = some (decide (ns = [])) := by
  rw [dEq_nil (okD_ints ns)]
  simp
theorem toPys_ints : ∀ ns : List Int, toPys (ns.map D.int) = some (ns.map PyData.int)
  | [] => rfl
  | n :: r => by
    rw [List.map_cons, toPys, toPys_ints r]
    rfl
theorem eqvAll_ints : ∀ (a b : List Int), PyData.eqvAll (a.map PyData.int) (b.map PyData.int) = decide (a = b)
  | [], [] => rfl
  | [], _ :: _ => rfl
  | _ :: _, [] => rfl
  | x :: xs, y :: ys => by
    show ((x == y) && PyData.eqvAll (xs.map PyData.int) (ys.map PyData.int)) = _
    rw [eqvAll_ints xs ys]
    by_cases h : x = y <;> simp [h]
@[simp] theorem dEq_ints {a b : List Int} : dEq (.lst (a.map D.int)) (.lst (b.map D.int)) = some (decide (a = b)) := by
  have e1 : dEq (.lst (a.map D.int)) (.lst (b.map D.int)) = eqDp (.lst (a.map D.int)) (.lst (b.map D.int)) := rfl
  have ha : toPy (.lst (a.map D.int)) = some (.list (a.map PyData.int)) := by rw [toPy, toPys_ints]; rfl
  have hb : toPy (.lst (b.map D.int)) = some (.list (b.map PyData.int)) := by rw [toPy, toPys_ints]; rfl
  obtain ⟨p, e, hp⟩ := okD_shaped (okD_ints (n := 0) a) (by omega)
  obtain ⟨q, e', hq⟩ := okD_shaped (okD_ints (n := 0) b) (by omega)
  rw [ha] at e; cases e
  rw [hb] at e'; cases e'
  rw [e1]; unfold eqDp; rw [ha, hb]
  dsimp only
  rw [hp, hq]
  simp only [Bool.and_self, if_true, Option.some.injEq]
  exact eqvAll_ints a b
theorem flD_ints (ns : List Int) : (ns.map D.int).all flD = true := by
  rw [List.all_eq_true]; intro x hx; obtain ⟨i, _, rfl⟩ := List.mem_map.mp hx; rfl
@[simp] theorem dIn_ints {i : Int} {ns : List Int} : dIn (.int i) (.lst (ns.map D.int)) = some (decide (i ∈ ns)) := by
  show (if (flD (.int i) && (ns.map D.int).all flD) = true then _ else _) = _
  rw [flD_ints]
  rw [if_pos (by rfl), List.any_map]
  congr 1
  rw [Bool.eq_iff_iff, List.any_eq_true, decide_eq_true_iff]
  constructor
  · rintro ⟨x, hx, e⟩
    have e : (x == i) = true := e
    rw [beq_iff_eq] at e
    rw [← e]; exact hx
  · intro h
    exact ⟨i, h, (by show (i == i) = true; simp)⟩
@[simp] theorem dIn_strs {i : Str} {ns : List Str} : dIn (.str i) (.lst (ns.map D.str)) = some (decide (i ∈ ns)) := by
  have hf : (ns.map D.str).all flD = true := by rw [List.all_eq_true]; intro x hx; obtain ⟨i, _, rfl⟩ := List.mem_map.mp hx; rfl
  show (if (flD (.str i) && (ns.map D.str).all flD) = true then _ else _) = _
  rw [hf]
  rw [if_pos (by rfl), List.any_map]
  congr 1
  rw [Bool.eq_iff_iff, List.any_eq_true, decide_eq_true_iff]
  constructor
  · rintro ⟨x, hx, e⟩
    have e : (x == i) = true := e
    rw [beq_iff_eq] at e
    rw [← e]; exact hx
  · intro h
    exact ⟨i, h, (by show (i == i) = true; simp)⟩
@[simp] theorem dIn_two {i a b : Str} : dIn (.str i) (.tup [.str a, .str b]) = some (decide (i = a ∨ i = b)) := by
  show some ((a == i) || ((b == i) || false)) = _
  rw [Bool.or_false]
  congr 1
  rw [Bool.eq_iff_iff, Bool.or_eq_true, beq_iff_eq, beq_iff_eq, decide_eq_true_iff]
  exact ⟨fun h => h.imp Eq.symm Eq.symm, fun h => h.imp Eq.symm Eq.symm⟩
theorem wp_loopN {tg : Tg} {B : M Fl} {ds : List D} {Q : Fl → VS → Prop} (I : Nat → VS → Prop) (h0 : I 0 s) (step : ∀ i d s (N : VS → Prop), ds[i]? = some d → I i s → (∀ s', I (i + 1) s' → N s') → to (asg tg d s) s fun s1 _ => wp B s1 (lend Q N)) (hend : ∀ s, I ds.length s → Q .nx s) : wp (loopF tg B ds) s Q :=
  wp_loop I h0 (fun i d s hd hi => step i d s _ hd hi fun _ h => h) hend
theorem wp_whileN {C : M Bool} {B : M Fl} {Q : Fl → VS → Prop} (I : Nat → VS → Prop) (n m : Nat) (hm : m < n) (h0 : I m s) (step : ∀ m s (N : VS → Prop), I m s → (∀ m' s', m' < m → I m' s' → N s') → wp C s fun k s1 => if k = true then wp B s1 (lend Q N) else Q .nx s1) : wp (sWhile C B n) s Q :=
  wp_while I (fun m s i => step m s _ i fun m' s' h1 h2 => ⟨m', h1, h2⟩) n m s hm h0
theorem lcF_inN {tg : Tg} {own : List Nat} {C : M Bool} {Fe : M D} {ds : List D} {s0 : VS} {Q : List D × VS → VS → Prop} (I : Nat → List D → VS → Prop) (h0 : I 0 [] s)
    (step : ∀ i d acc s (N : List D → VS → Prop), ds[i]? = some d → I i acc s → (∀ acc' s', I (i + 1) acc' s' → N acc' s') → to (asg tg d s) s fun s1 _ => wp C s1 fun k s2 => if k = true then wp Fe s2 fun y s3 => acc.length < 100000 ∧ N (acc ++ [y]) (wipeV s3 own) else N acc (wipeV s2 own))
    (hend : ∀ acc s2, I ds.length acc s2 → Q (acc, s2) s0) : to (lcF tg own C Fe ds [] s) s0 Q := by
  obtain ⟨acc, s2, e, h⟩ := lcF_in (s := s) I h0 fun i d acc s hd hi => step i d acc s _ hd hi fun _ _ h => h
  exact to_in e (hend acc s2 h)
def retF (n : Nat) (io : List Nat) (Q : L → VS → Prop) : Fl → VS → Prop
  | .rt l, s => Q l (outs n io s)
  | .nx, s => Q (.d .non) (outs n io s)
  | _, _ => False
@[simp] theorem retF_rt {n : Nat} {io : List Nat} {Q : L → VS → Prop} {l : L} : retF n io Q (.rt l) s ↔ Q l (outs n io s) := Iff.rfl
@[simp] theorem retF_nx {n : Nat} {io : List Nat} {Q : L → VS → Prop} : retF n io Q .nx s ↔ Q (.d .non) (outs n io s) := Iff.rfl
theorem wp_def {n nn : Nat} {io : List Nat} {F : M Fl} {Q : L → VS → Prop} (h : wp F (s ++ List.replicate (nn - n) none) (retF n io Q)) : wp (mkFn n nn io F).run s Q := by
  refine wp_run (wp_mono h fun f s' q => ?_)
  cases f <;> exact q
theorem outs_eq {n : Nat} {io : List Nat} : outs n io s = (List.range n).map fun i => if i ∈ io then (s[i]?).getD none else none := rfl
end
end Ev
namespace Ev
open PySem PySem.Spec PyProof.Rows L2
open Evl (Ex)
def strsOf : List D → Option (List Str)
  | [] => some []
  | .str i :: r => (strsOf r).map (i :: ·)
  | _ :: _ => none
theorem strsOf_eq : ∀ {ds : List D} {ns : List Str}, strsOf ds = some ns → ds = ns.map D.str
  | [], _, h => by cases h; rfl
  | .str i :: r, ns, h => by
    unfold strsOf at h
    cases e : strsOf r with
    | none => rw [e] at h; cases h
    | some ms => rw [e] at h; cases h; rw [List.map_cons, strsOf_eq e]
  | .non :: _, _, h => by cases h
  | .bl _ :: _, _, h => by cases h
  | .int _ :: _, _, h => by cases h
  | .tup _ :: _, _, h => by cases h
  | .lst _ :: _, _, h => by cases h
  | .scr _ :: _, _, h => by cases h
  | .ins _ _ _ :: _, _, h => by cases h
  | .dic _ _ :: _, _, h => by cases h
theorem RepL.strs_of {K : PySem.W.Frag} {H : Hp} : ∀ {ns : List Str} {vs : List V}, RepL K H vs (ns.map D.str) → vs = ns.map V.str
  | [], _, h => by cases h; rfl
  | n :: r, _, h => by
    cases h with
    | cons h1 h2 => cases h1; rw [RepL.strs_of h2]; rfl
theorem RepL.strs_to {K : PySem.W.Frag} {H : Hp} : ∀ (ns : List Str), RepL K H (ns.map V.str) (ns.map D.str)
  | [] => .nil
  | n :: r => .cons (.str n) (RepL.strs_to r)
def dJoin : D → List D → Option L
  | .str a, [.lst xs] => (match strsOf xs with
    | some ys => if (ys.map (·.length)).sum + ys.length * a.length ≤ 100000 then some (.d (.str (Txt.join a ys))) else none
    | none => none)
  | _, _ => none
theorem ok_join {K : PySem.W.Frag} : OpM K (fun x xs H Q => ∃ a p, ∃ ys : List Str, x = .str a ∧ xs = [.ref p] ∧ (SqL K H p (ys.map V.str) ∨ SqT K H p (ys.map V.str)) ∧
    (ys.map (·.length)).sum + ys.length * a.length ≤ 16777216 ∧ Q (.str (Txt.join a ys)) H) dJoin := fun Hs H x xs dx ds l Q e h1 hp hf hR => by
  unfold dJoin at hf
  split at hf
  · rename_i a zs
    split at hf
    · rename_i ys ey
      split at hf
      · rename_i hl
        cases hf
        obtain ⟨y, rfl, hy⟩ := pair1 hp
        rw [strsOf_eq ey] at hy
        obtain ⟨p, vs, rfl, hp1, hv⟩ := hy.isLst e
        rw [hv.strs_of] at hp1
        exact ⟨a, p, ys, h1.isStr, rfl, .inl (SqL.of hp1), by omega, hR.1 _ (.str _)⟩
      · cases hf
    · cases hf
  · cases hf
def dSplit : D → List D → Option L
  | .str a, [.str b] => if (b.length == 0) = false ∧ a.length + 2 ≤ 100000 then some (.own ((Txt.split a b).map D.str)) else none
  | _, _ => none
theorem ok_split {K : PySem.W.Frag} : OpM K (fun x xs H Q => ∃ a b, x = .str a ∧ xs = [.str b] ∧ (b.length == 0) = false ∧ a.length + 2 ≤ sizeLine ∧ rNewStrs (Txt.split a b) H Q) dSplit := fun Hs H x xs dx ds l Q e h1 hp hf hR => by
  unfold dSplit at hf
  split at hf
  · rename_i a b
    split at hf
    · rename_i hl
      cases hf
      obtain ⟨y, rfl, hy⟩ := pair1 hp
      rw [hy.isStr]
      exact ⟨a, b, h1.isStr, rfl, hl.1, szl hl.2, fun p hp => hR p _ hp (RepL.strs_to _)⟩
    · cases hf
  · cases hf
def dIntA : List D → Option L
  | [.int i] => some (.d (.int i))
  | [.bl k] => some (.d (.int (if k then 1 else 0)))
  | [.str a] => (match PySem.intText? a with
    | some n => if a.length ≤ 640 then some (.d (.int n)) else none
    | none => none)
  | _ => none
def rIntA : List V → Hp → VK → Prop := fun xs H Q => ((∃ i, xs = [.int i] ∧ Q (.int i) H) ∨ ∃ k, xs = [.bl k] ∧ Q (.int (if k then 1 else 0)) H) ∨ ∃ a n, xs = [.str a] ∧ PySem.intText? a = some n ∧ a.length ≤ 640 ∧ Q (.int n) H
theorem cr_intA {X : Cx} : CallR X (.type "int") rIntA := call_int1.or call_int_str
theorem ok_intA {K : PySem.W.Frag} : OpN K rIntA dIntA := fun Hs H xs ds l Q e hp hf hR => by
  unfold dIntA at hf
  split at hf
  · cases hf
    obtain ⟨y, rfl, hy⟩ := pair1 hp
    rw [hy.isInt]
    exact .inl (.inl ⟨_, rfl, hR.1 _ (.int _)⟩)
  · cases hf
    obtain ⟨y, rfl, hy⟩ := pair1 hp
    rw [hy.isBl]
    exact .inl (.inr ⟨_, rfl, hR.1 _ (.int _)⟩)
  · split at hf
    · rename_i n en
      split at hf
      · rename_i hl
        cases hf
        obtain ⟨y, rfl, hy⟩ := pair1 hp
        rw [hy.isStr]
        exact .inr ⟨_, n, rfl, en, hl, hR.1 _ (.int _)⟩
      · cases hf
    · cases hf
  · cases hf
def dStrA : List D → Option L
  | [.int i] => if i.natAbs.log2 < 1920 then some (.d (.str (toString i))) else none
  | [.str a] => some (.d (.str a))
  | _ => none
def rStrA : List V → Hp → VK → Prop := fun xs H Q => (∃ i, xs = [.int i] ∧ i.natAbs.log2 < 1920 ∧ Q (.str (toString i)) H) ∨ ∃ a, xs = [.str a] ∧ Q (.str a) H
theorem cr_strA {X : Cx} : CallR X (.type "str") rStrA := call_str_int.or SkE.call_str_str
theorem ok_strA {K : PySem.W.Frag} : OpN K rStrA dStrA := fun Hs H xs ds l Q e hp hf hR => by
  unfold dStrA at hf
  split at hf
  · split at hf
    · rename_i hl
      cases hf
      obtain ⟨y, rfl, hy⟩ := pair1 hp
      rw [hy.isInt]
      exact .inl ⟨_, rfl, hl, hR.1 _ (.str _)⟩
    · cases hf
  · cases hf
    obtain ⟨y, rfl, hy⟩ := pair1 hp
    rw [hy.isStr]
    exact .inr ⟨_, rfl, hR.1 _ (.str _)⟩
  · cases hf
section
variable {X : Cx} {W : WX} {P : Pin} {e a b c o : Expr} {pos apos p : Pos} {Fo : M Pk} {F : M D} {Fr : M (List Pk)}
theorem g_join (ho : PE X o (tK X.K W P Fo)) (ha : PA X [e] (tKs X.K W P Fr)) (hbase : attributeBase o "join" X.env (eval o X.env) = eval o X.env := by rfl)
    (hfew : ((backTo pos (starEach [e] X.env)).all (fun x => !x.1) && (backToKw pos (keywordEach [] X.env)).all (fun x => x.1.isSome) && decide (([e] : List Expr).length + ([] : List Keyword).length + (if ([] : List Keyword).isEmpty then 0 else 1) < 30)) = true := by rfl)
    (hline : (apos.endLine == pos.line) = true := by rfl) (hs : starEach [e] X.env = (false, eval e X.env) :: starEach [] X.env := by rfl) (hplain : (backTo pos (starEach [] X.env)).any (·.1) = false := by rfl) :
    PE X (.Call (.Attribute o "join" apos) [e] [] pos) (tL X.K W P (fM "str" dJoin Fo Fr)) :=
  PE_weak (pe_bm PySem.F.plainAttrs_str PySem.F.slot_str_join PySem.F.type_str_join mt_join ho ha hbase hfew hline hs hplain) (re_fM ok_join)
theorem g_split (ho : PE X o (tK X.K W P Fo)) (ha : PA X [e] (tKs X.K W P Fr)) (hbase : attributeBase o "split" X.env (eval o X.env) = eval o X.env := by rfl)
    (hfew : ((backTo pos (starEach [e] X.env)).all (fun x => !x.1) && (backToKw pos (keywordEach [] X.env)).all (fun x => x.1.isSome) && decide (([e] : List Expr).length + ([] : List Keyword).length + (if ([] : List Keyword).isEmpty then 0 else 1) < 30)) = true := by rfl)
    (hline : (apos.endLine == pos.line) = true := by rfl) (hs : starEach [e] X.env = (false, eval e X.env) :: starEach [] X.env := by rfl) (hplain : (backTo pos (starEach [] X.env)).any (·.1) = false := by rfl) :
    PE X (.Call (.Attribute o "split" apos) [e] [] pos) (tL X.K W P (fM "str" dSplit Fo Fr)) :=
  PE_weak (pe_bm PySem.F.plainAttrs_str PySem.F.slot_str_split PySem.F.type_str_split mt_split ho ha hbase hfew hline hs hplain) (re_fM ok_split)
def enumD (k : Nat) : List D → List D
  | [] => []
  | d :: r => .tup [.int (k : Int), d] :: enumD (k + 1) r
def iEnF (F : M D) : M (List D) := bd F fun d s => match d with
  | .lst xs => some (.ok (enumD 0 xs), s)
  | _ => none
theorem enumD_get : ∀ {xs : List D} {k i : Nat} {d : D}, (enumD k xs)[i]? = some d → ∃ x, xs[i]? = some x ∧ d = .tup [.int ((k + i : Nat) : Int), x]
  | [], k, i, d, h => by simp [enumD] at h
  | x :: r, k, 0, d, h => by simp [enumD] at h; exact ⟨x, rfl, h.symm⟩
  | x :: r, k, i + 1, d, h => by
    have h : (enumD (k + 1) r)[i]? = some d := by simpa [enumD] using h
    obtain ⟨y, h1, h2⟩ := enumD_get h
    refine ⟨y, by simpa using h1, ?_⟩
    have : k + 1 + i = k + (i + 1) := by omega
    rw [h2, this]
theorem enumD_len : ∀ {xs : List D} {k : Nat}, (enumD k xs).length = xs.length
  | [], k => rfl
  | x :: r, k => by rw [enumD, List.length_cons, List.length_cons, enumD_len]
theorem itok_enum {K : PySem.W.Frag} {Hs : Hp} {a : Addr} {us : List V} {ds : List D} (h1 : ∀ H, Ex Hs H → SqL K H a us) (h2 : RepL K Hs us ds) : ItOk K Hs (Ite K a) (enumD 0 ds) := by
  refine ⟨fun i H e hi => ⟨us, h1 H e, by rw [h2.length]; rw [enumD_len] at hi; exact hi⟩, fun i d H e hd => ?_⟩
  obtain ⟨x, hx, rfl⟩ := enumD_get hd
  obtain ⟨v, ev, rv⟩ := h2.get hx
  refine ⟨⟨us, v, h1 H e, ev⟩, fun y H' hy => ?_⟩
  obtain ⟨T, z, rfl, hT, rfl, q⟩ := hy
  have := q us (h1 H e)
  rw [ev] at this
  cases this
  refine .inr ⟨T, [.int (i : Nat), v], _, hT, rfl, rfl, rfl, ?_⟩
  rw [Nat.zero_add]
  exact .cons (.int _) (.cons rv .nil)
theorem di_enum {tpos : Pos} {elts : List Expr} {kk : Nat} (hm : X.mg "enumerate" = none) (h : PE X e (tE X.K W P F)) (hg : Gl X "enumerate" := by rfl) (hs : starEach [e] X.env = [(false, eval e X.env)] := by rfl) :
    PI X (.Tuple elts kk tpos) (.Call (.Name "enumerate" p) [e] [] pos) (tI X.K W P (iEnF F)) :=
  PI_weak (pi_enum hg hm (pa_cons h pa_nil (by rw [hs]; rfl)) hs) fun σ H R ⟨fm, Hs, vs, r', vs', hF, hP, hS, hk, hE⟩ => by
    dsimp only [iEnum, tCons, tNil]
    refine go hF hP hS hE fun d vs1 v H1 Hs1 xf hg S1 X1 ⟨rx, ex⟩ => ?_
    subst ex
    split at hg
    · rename_i xs
      cases hg
      cases rx with
      | lst k1 k2 => exact ⟨_, _, rfl, SqL.of (S1.sub _ _ k1), hk _ _ H1 Hs1 [] rfl S1 X1 ⟨itok_enum (fun H e => SqL.of (e _ _ k1)) k2, rfl⟩⟩
    · cases hg
end
end Ev
namespace Ev
open PySem PySem.Spec PyProof.Rows L2
section
variable {α : Type} {s : VS}
@[simp] theorem wp_iEnF {F : M D} {Q : List D → VS → Prop} : wp (iEnF F) s Q ↔ wp F s fun d s => to (match d with
  | .lst xs => some (enumD 0 xs)
  | _ => none) s Q := by
  unfold iEnF; rw [wp_bd]; refine wp_congr fun d s => ?_
  cases d <;> rfl
@[simp] theorem dIntA_int {i : Int} : dIntA [.int i] = some (.d (.int i)) := rfl
@[simp] theorem dIntA_bl {k : Bool} : dIntA [.bl k] = some (.d (.int (if k then 1 else 0))) := rfl
@[simp] theorem dStrA_str {a : Str} : dStrA [.str a] = some (.d (.str a)) := rfl
@[simp] theorem dStrA_int {i : Int} : dStrA [.int i] = if i.natAbs.log2 < 1920 then some (.d (.str (toString i))) else none := rfl
theorem strsOf_map : ∀ ns : List Str, strsOf (ns.map D.str) = some ns
  | [] => rfl
  | n :: r => by rw [List.map_cons, strsOf, strsOf_map r]; rfl
@[simp] theorem dJoin_strs {a : Str} {ys : List Str} : dJoin (.str a) [.lst (ys.map D.str)] = if (ys.map (·.length)).sum + ys.length * a.length ≤ 100000 then some (.d (.str (Txt.join a ys))) else none := by
  show (match strsOf (ys.map D.str) with
    | some ys => if (ys.map fun (z : Str) => z.length).sum + ys.length * a.length ≤ 100000 then some (L.d (.str (Txt.join a ys))) else none
    | none => none) = _
  rw [strsOf_map]
@[simp] theorem dSplit_str {a b : Str} : dSplit (.str a) [.str b] = if (b.length == 0) = false ∧ a.length + 2 ≤ 100000 then some (.own ((Txt.split a b).map D.str)) else none := rfl
end
end Ev
namespace Ev
open PySem PySem.Spec PyProof.Rows L2
open Evl (Ex)
section
variable {X : Cx} {e : Expr} {es : List Expr} {ta : TA} {p1 p2 pos : Pos} {B : Addr} {y : Str}
theorem pe_binit {pl : Sem Bool} (hg : Gl X y) (hm : X.mg y = some (.ref B)) (ga : PySem.W.specialIn X.K (.ref B) "__getattribute__" = some (some (.builtin "type.__getattribute__"))) (rd : PySem.W.readsIn X.K B (.type "type") = true)
    (fi : PySem.W.findCls X.K (.ref B) (.type "type") "__init__" = some (.val (.builtin "ValueError.__init__"))) (ha : PA X (e :: es) ta) (hdb : (y == ("__debug__" : Str)) = false)
    (hc : eval (.Call (.Attribute (.Name y p1) "__init__" p2) (e :: es) [] pos) X.env = (do
      let ov ← eval (.Name y p1) X.env
      standAt p2.atName
      let (f, first) ← holding [ov] (getMethod ov "__init__" pl)
      callWith pos f first (backTo pos (starEach (e :: es) X.env)) (backToKw pos (keywordEach [] X.env))))
    (he : starEach (e :: es) X.env = (false, eval e X.env) :: starEach es X.env) (hpl : (backTo pos (starEach es X.env)).any (·.1) = false) :
    PE X (.Call (.Attribute (.Name y p1) "__init__" p2) (e :: es) [] pos) (tVeI X.K ta) := ⟨fun pins s σ H Q I h => by
  refine PySem.W.methodCall_KW (ld_glob I hg hm ?_ hdb) hc
  refine PySem.W.method_cls I.kIn ga (PySem.W.cls_value I.kIn rd fi (by decide +kernel) ?_)
  refine PyProof.Rows.callWith_method1 (thn (ha.run pos pins _ σ H _ (I.tok _) h) fun us s1 ⟨vs, H1, I1, r1, a, C, ws, ev, hl, T, ea, q⟩ => ?_) he hpl
  subst ev
  cases r1 with
  | @cons _ u0 _ ur ra rr =>
    obtain rfl : u0 = Value.ref a := ra
    exact oinit_ok T I1 ea (by rw [← Paired.length rr, sizeLine_eq]; omega) fun s' J => ⟨.non, H1, J, rfl, q⟩⟩
theorem pmkN {CX : CXT} {x : Str} {C fI : Addr} {k : Nat} {fd : FuncData} {ps : List Str} {sp : Sp} {p : Pos} (T : OexC X.K C) (iC : PySem.W.findIn X.K (.ref C) "__init__" = some (some (.ref fI))) (tI : PySem.W.typeIn X.K (.ref fI) = some (.type "function"))
    (F1 : FnOk X.prog X.w X.K X.mg X.base CX k fI fd ps sp) (hr : Room (k + 1) X.A) (hb : Binds X.K fd ps []) (hx : Passes CX X (fun _ _ _ => False)) (hg : Gl X x) (hm : X.mg x = some (.ref C)) (ha : PA X (e :: es) ta)
    (hdb : (x == ("__debug__" : Str)) = false) (he : starEach (e :: es) X.env = (false, eval e X.env) :: starEach es X.env) (hpl : (backTo pos (starEach es X.env)).any (·.1) = false) :
    L2N.PMk X (.Call (.Name x p) (e :: es) [] pos) (tMkO C sp [] ta) := fun pins s σ H Q I h => by
  obtain ⟨nm, q, N, bs, bm, sn, sub, ab, col, dd, k0, k1, k2, k3, k5, hC, hbm⟩ := T.cls
  refine wpAny_Call_Name_kw (ld_glob I hg hm (PySem.W.callWith_K (h₀ := X.base) I.ok.mod.kin T.kC (thn (ha.run pos pins s σ H _ I h) fun us s1 ⟨vs, H1, I1, r1, hz, q1⟩ => ⟨I1.kIn, ?_⟩) he hpl) hdb)
  show wpAny _ _ (call (.ref C) us) _ _ _
  obtain ⟨hp, g, dr, tk, os⟩ := s1
  obtain ⟨n, hn⟩ : ∃ n, hp.objs.size = n := ⟨_, rfl⟩
  have sz : hp.objs.size ≤ n + 1 := by omega
  have hq := q1 (n + 1) (I1.hok.fresh sz)
  have kk : ∀ b o, hp.get? b = some o → ((hp.push (PySem.W.kdv_tup us)).push (PySem.HandSPX.excO C hp.objs.size)).get? b = some o := fun b o e => Heap.get?_push_of_some _ (Heap.get?_push_of_some _ e)
  have hget : ((hp.push (PySem.W.kdv_tup us)).push (PySem.HandSPX.excO C hp.objs.size)).get? (n + 1) = some (PySem.HandSPX.excO C hp.objs.size) := by subst hn; heap_get
  have I2 : Inv X pins σ (upd H1 (n + 1) (exo (n + 1) C none)) ⟨(hp.push (PySem.W.kdv_tup us)).push (PySem.HandSPX.excO C hp.objs.size), g, dr, tk, os⟩ :=
    I1.laid (t' := tk) (a := n + 1) (o := exo (n + 1) C none) (h' := (hp.push (PySem.W.kdv_tup us)).push (PySem.HandSPX.excO C hp.objs.size)) kk sz (exo_ok hget)
  have r2 : Vals (V.ref (n + 1) :: (vs ++ [])) (Value.ref (n + 1) :: (us ++ [])) := .cons rfl (r1.append .nil)
  have hl : (Value.ref (n + 1) :: us ++ []).length = ps.length := by
    have e := r2.length
    rw [F1.len _ _ _ _ hq] at e
    exact e.symm
  have hus : us.length ≤ sizeLine := by rw [← Paired.length r1, sizeLine_eq]; omega
  subst hn
  have hbn := hb _ (Value.ref (hp.objs.size + 1) :: us) I2.kIn hl
  rw [List.cons_append] at hbn
  refine wpAny_call (PySem.HandSPX.call_own F.excBase_ValueError (fun Y => PySem.HandSPX.refsVE_contains Y bm hbm) (I1.kIn _ _ hC) (PySem.W.looks_findIn I1.kIn iC) (fun self => PySem.W.bind_fn I1.kIn self tI) hus
    (codeAny_mono (F1.run _ X.stack _ _ ⟨Value.ref (hp.objs.size + 1) :: us, []⟩ (Value.ref (hp.objs.size + 1) :: (us ++ [])) _ _ (fun _ _ _ => False) (hr.make C us []) (I2.env0.make C us []) hbn r2 hq) fun r s' hq' => ?_))
  cases r with
  | error er => exact hx pins σ _ _ er s' I2 hq'
  | ok fl =>
    cases fl with
    | ret u =>
      obtain ⟨v, H2, os2, bare2, un2, hok2, rv, ev, d, fs, ea, ed, hd1, q2⟩ := hq'
      subst ev
      obtain ⟨h2, g2, d2, t2, os'⟩ := s'
      obtain ⟨t0, G, J, kG, ge, hoe, na⟩ := mk_end0 (d2 := d2) (t2 := t2) I1 sz kk un2 hok2 os2 bare2 ea ed hd1
      exact ⟨rv, _, _, _, ⟨G, g2, d2, t2, os'⟩, _, .ref C, some d, rfl, J, kG, ge, hoe, ⟨rfl, rfl, fun vs e => by cases e; rfl⟩, rfl, rfl, na, rfl, bare2, raises_own T.exC T.tyC, q2⟩
    | next => exact False.elim hq'
    | brk => exact False.elim hq'
    | cont => exact False.elim hq'
end
end Ev
namespace Ev
open PySem PySem.Spec PyProof.Rows L2
open Evl (Ex)
def pick {α : Type} (xs : List α) : List Nat → Option (List α)
  | [] => some []
  | i :: r => match xs[i]?, pick xs r with
    | some x, some y => some (x :: y)
    | _, _ => none
theorem pick_rep {K : PySem.W.Frag} {H : Hp} {us : List V} {ds : List D} (h : RepL K H us ds) : ∀ {ix : List Nat} {es : List D}, pick ds ix = some es → ∃ ws, pick us ix = some ws ∧ RepL K H ws es
  | [], es, e => by cases e; exact ⟨[], rfl, .nil⟩
  | i :: r, es, e => by
    unfold pick at e
    cases e1 : ds[i]? with
    | none => rw [e1] at e; cases e
    | some d =>
      cases e2 : pick ds r with
      | none => rw [e1, e2] at e; cases e
      | some y =>
        rw [e1, e2] at e; cases e
        obtain ⟨v, a1, a2⟩ := h.get e1
        obtain ⟨ws, b1, b2⟩ := pick_rep h e2
        exact ⟨v :: ws, by unfold pick; rw [a1, b1], .cons a2 b2⟩
def SpX (C : Addr) (n : Nat) (fs : List Str) (ix : List Nat) : Sp := fun vs H Q _ => vs.length = n + 1 ∧ ∃ a ws, vs = .ref a :: ws ∧ H a = some (exo a C none) ∧
  ∀ d kvs H', H d = none → d ≠ a → (∀ b, b ≠ a → b ≠ d → H' b = H b) → H' a = some (exo a C (some d)) → H' d = some (exd d kvs) → kvs.map (·.1) = fs → pick ws ix = some (kvs.map (·.2)) → Q .non H'
structure XkAt (P : Program) (w : World) (K : PySem.W.Frag) (mg : Str → Option Value) (base : Heap) (k : Nat) (x : Str) (C : Addr) (n : Nat) (fs : List Str) (ix : List Nat) : Prop where
  ex : ∃ fI fd ps, mg x = some (.ref C) ∧ OexC K C ∧ PySem.W.findIn K (.ref C) "__init__" = some (some (.ref fI)) ∧ PySem.W.typeIn K (.ref fI) = some (.type "function") ∧ Binds K fd ps [] ∧ FnOk P w K mg base (L2N.CX P w) k fI fd ps (SpX C n fs ix)
def sRaise (C : Addr) (n : Nat) (fs : List Str) (ix : List Nat) (Fr : M (List D)) : M Fl := bd Fr fun ds s => if ds.length = n ∧ n ≤ 1000 then (match pick ds ix with
  | some es => some (.error ⟨C, some (fs, es)⟩, s)
  | none => none) else none
theorem Sim.noX {K : PySem.W.Frag} {fm : Fm} {Hs : Hp} {vs : VS} {σ : L2.St} {H : Hp} {xf : List Addr} (S : Sim K fm Hs vs σ H xf) : Sim K fm Hs vs σ H [] := by
  obtain ⟨ft, s⟩ := S
  exact ⟨ft, ⟨s.sub, s.base, s.grow, s.new, s.len, s.ok, s.nd, s.dj, s.sp, by simp, fun _ _ _ q => by simp at q, fun _ q => by simp at q, s.pins⟩⟩
theorem passN {X : Cx} : Passes (L2N.CX X.prog X.w) X (fun _ _ _ => False) := fun _ _ _ _ _ _ _ h => by
  obtain ⟨_, _, _, _, _, _, _, _, _, _, _, _, z⟩ := h
  exact z.elim
section
variable {X : Cx} {W : WX} {P : Pin} {e : Expr} {es : List Expr} {pos pos' p : Pos} {k n : Nat} {x : Str} {C : Addr} {fs : List Str} {ix : List Nat} {Fr : M (List D)}
theorem ds_raise (Xk : XkAt X.prog X.w X.K X.mg X.base k x C n fs ix) (hr : Room (k + 1) X.A) (tk : L2N.Takes X W) (ha : PA X (e :: es) (tAs X.K W P Fr)) (hc : X.calm = true := by rfl) (hg : Gl X x := by rfl) (hdb : (x == ("__debug__" : Str)) = false := by decide)
    (he : starEach (e :: es) X.env = (false, eval e X.env) :: starEach es X.env := by rfl) (hpl : (backTo pos (starEach es X.env)).any (·.1) = false := by rfl) :
    PS X (.Raise (some (.Call (.Name x p) (e :: es) [] pos)) none pos') (tS X.K W P (sRaise C n fs ix Fr)) := by
  obtain ⟨fI, fd, ps, hm, T, iC, tI, hb, F⟩ := Xk.ex
  refine PS_weak (L2N.ps_raise hc tk (pmkN T iC tI F hr hb passN hg hm ha hdb he hpl)) fun E σ H ⟨fm, Hs, vs, r, vs', hF, hP, hS, hk⟩ => ?_
  dsimp only [tMkO]
  refine goS hF hP hS hk fun ds vs1 us H1 Hs1 xf hg S1 X1 ⟨rv, ex⟩ => ?_
  subst ex
  split at hg
  · rename_i hl
    split at hg
    · rename_i es' ep
      cases hg
      have hul := rv.length
      refine ⟨by omega, fun a ha => ⟨by simp; omega, a, us, by simp, upd_same, fun d kvs H' hd hda hout hHa hHd hf hv => ⟨rfl, d, kvs, hHa, hHd, ?_, ?_⟩⟩⟩
      · rw [upd_ne hda] at hd; exact hd
      · rw [upd_ne hda] at hd
        have eH : upd (L2.del H' a) d (.xd kvs) = upd H1 d (.xd kvs) := by
          funext b
          by_cases hb1 : b = d
          · rw [hb1, upd_same, upd_same]
          · rw [upd_ne hb1, upd_ne hb1]
            by_cases hb2 : b = a
            · rw [hb2, del_same, ha]
            · rw [del_ne hb2, hout b hb2 hb1, upd_ne hb2]
        rw [eH]
        obtain ⟨ws, b1, b2⟩ := pick_rep rv ep
        rw [hv] at b1
        cases b1
        exact hk.er _ _ _ σ _ Hs1 rfl (S1.allocX hd _).noX X1 ⟨rfl, d, kvs, rfl, upd_same, Evl.fresh_back S1.sub hd, hf, b2⟩
    · cases hg
  · cases hg
def sRaise0 (C : Addr) : M Fl := fun s => some (.error ⟨C, none⟩, s)
structure X0At (K : PySem.W.Frag) (mg : Str → Option Value) (x : Str) (C : Addr) : Prop where
  g : mg x = some (.ref C)
  q : PySem.W.excIn K C [.type "ValueError", .type "Exception", .type "BaseException", .type "object"] "ValueError.__new__" = true
  k : PySem.W.keepIn K (.ref C) = true
  b : PySem.W.subIn K (.ref C) (.type "BaseException") = some true
  t : PySem.W.typeIn K (.ref C) = some (.type "type")
theorem ds_raise0 {m : Str} {j : Nat} {p2 : Pos} (Xk : X0At X.K X.mg x C) (tk : L2N.Takes X W) (hc : X.calm = true := by rfl) (hg : Gl X x := by rfl) (hdb : (x == ("__debug__" : Str)) = false := by decide) :
    PS X (.Raise (some (.Call (.Name x p) [.Constant (.str m) j p2] [] pos)) none pos') (tS X.K W P (sRaise0 C)) := by
  refine PS_weak (L2N.ps_raise hc tk (L2N.pmk_own PySem.F.excBase_ValueError Xk.q Xk.g Xk.k (raises_own Xk.b Xk.t) hg hdb)) fun E σ H ⟨fm, Hs, vs, r, vs', hF, hP, hS, hk⟩ => ?_
  cases hF
  exact hk.er _ _ _ σ H Hs rfl hS (Ex.refl _) ⟨rfl, rfl⟩
end
end Ev
namespace Ev
open PySem PySem.Spec PyProof.Rows L2
open Evl (Ex)
def isOwn : HO → Bool
  | .lst _ => true
  | .dK _ => true
  | .ins _ _ _ => true
  | .tup _ => true
  | _ => false
section
variable {K : PySem.W.Frag} {Hs H : Hp}
mutual
theorem LOk.kind : ∀ (l : L) {v : V} {f : List Addr}, LOk K Hs H v l f → ∀ a ∈ f, ∃ o, H a = some o ∧ isOwn o = true
  | .d x, _, _, h, a, ha => by cases h; simp at ha
  | .own xs, _, _, h, a, ha => by cases h with | own h1 h2 => simp at ha; subst ha; exact ⟨_, h1, rfl⟩
  | .odi ks ds, _, _, h, a, ha => by cases h with | odi h1 h2 h3 => simp at ha; subst ha; exact ⟨_, h1, rfl⟩
  | .obj C fs ls, _, _, h, a, ha => by
    cases h with
    | obj h1 h2 h3 =>
      rcases List.mem_cons.mp ha with rfl | ha
      · exact ⟨_, h1, rfl⟩
      · exact LOkL.kind ls h3 a ha
  | .oll ls, _, _, h, a, ha => by
    cases h with
    | oll h1 h3 =>
      rcases List.mem_cons.mp ha with rfl | ha
      · exact ⟨_, h1, rfl⟩
      · exact LOkL.kind ls h3 a ha
  | .odl ks ls, _, _, h, a, ha => by
    cases h with
    | odl h1 h2 h3 =>
      rcases List.mem_cons.mp ha with rfl | ha
      · exact ⟨_, h1, rfl⟩
      · exact LOkL.kind ls h3 a ha
  | .otp ls, _, _, h, a, ha => by
    cases h with
    | otp h1 h3 =>
      rcases List.mem_cons.mp ha with rfl | ha
      · exact ⟨_, h1, rfl⟩
      · exact LOkL.kind ls h3 a ha
  | .hole, _, _, h, a, ha => by cases h; simp at ha
theorem LOkL.kind : ∀ (ls : List L) {vs : List V} {f : List Addr}, LOkL K Hs H vs ls f → ∀ a ∈ f, ∃ o, H a = some o ∧ isOwn o = true
  | [], _, _, h, a, ha => by cases h; simp at ha
  | l :: ls, _, _, h, a, ha => by
    cases h with
    | cons h1 h2 =>
      rcases List.mem_append.mp ha with ha | ha
      · exact LOk.kind l h1 a ha
      · exact LOkL.kind ls h2 a ha
end
end
section
variable {K : PySem.W.Frag} {fm : Fm} {Hs : Hp} {vs : VS} {σ : L2.St} {H : Hp} {i : Nat} {a : Addr} {dd : Option Addr} {x : Xn}
def catchB (B : Hp) : Option Addr → Option (List (Str × V)) → Hp
  | some d, some kvs => upd B d (.xd kvs)
  | _, _ => B
theorem Sim.tidy {xf : List Addr} (S : Sim K fm Hs vs σ H xf) : ∃ ft, Sm K fm Hs vs σ H xf ft ∧ ∀ j, ∀ b ∈ ft j, ∃ o, H b = some o ∧ isOwn o = true := by
  obtain ⟨ft, s⟩ := S
  refine ⟨fun j => match vs[j]? with | some (some _) => ft j | _ => [], ⟨s.sub, s.base, s.grow, s.new, s.len, fun j l e => ?_, fun j => ?_, fun j k b h1 h2 => ?_, fun j b hb => ?_, s.xnd, fun j b hb => ?_, s.xsp, s.pins⟩, fun j b hb => ?_⟩
  · obtain ⟨v, e1, r⟩ := s.ok j l e
    try dsimp only
    rw [e]
    exact ⟨v, e1, r⟩
  · show List.Nodup (match vs[j]? with | some (some _) => ft j | _ => [])
    split
    · exact s.nd j
    · simp
  · try dsimp only at h1 h2
    split at h1
    · split at h2
      · exact s.dj j k b h1 h2
      · simp at h2
    · simp at h1
  · try dsimp only at hb
    split at hb
    · exact s.sp j b hb
    · simp at hb
  · try dsimp only at hb
    split at hb
    · exact s.xdj j b hb
    · simp at hb
  · try dsimp only at hb
    split at hb
    · rename_i l e
      obtain ⟨v, _, r⟩ := s.ok j l e
      exact r.kind l b hb
    · simp at hb
theorem Sim.catch (S : Sim K fm Hs vs σ H []) (hi : i < σ.length) (hp : i ∉ fm.pin.map (·.1)) (kv : Option (List (Str × V))) (hx : ∀ d kvs, dd = some d → kv = some kvs → H d = some (.xd kvs) ∧ Hs d = none) :
    Sim K ⟨catchB fm.B dd kv, Hs, (i, .ref a) :: fm.pin⟩ Hs (vs.set i none) (σ.set i (some (.ref a))) H [] := by
  obtain ⟨ft, s, own⟩ := S.tidy
  have cB : ∀ b, (catchB fm.B dd kv) b = fm.B b ∨ ∃ d kvs, dd = some d ∧ kv = some kvs ∧ b = d ∧ (catchB fm.B dd kv) b = some (.xd kvs) := fun b => by
    unfold catchB
    split
    · rename_i d kvs
      by_cases q : b = d
      · subst q; exact .inr ⟨_, _, rfl, rfl, rfl, upd_same⟩
      · exact .inl (upd_ne q)
    · exact .inl rfl
  have nd : ∀ b, (∀ d kvs, dd = some d → kv = some kvs → b ≠ d) → (catchB fm.B dd kv) b = fm.B b := fun b hb => by
    rcases cB b with h | ⟨d, kvs, e1, e2, e3, _⟩
    · exact h
    · exact absurd e3 (hb d kvs e1 e2)
  refine ⟨fun j => if j = i then [] else ft j, ⟨s.sub, fun b u e => ?_, Ex.refl _, fun b hb => .inl hb, by simp [s.len], fun j l e => ?_, fun j => ?_, fun j k b h1 h2 => ?_, fun j b hb => ?_, by simp, fun _ _ _ q => by simp at q, fun _ q => by simp at q, fun p hp' => ?_⟩⟩
  · have e : (catchB fm.B dd kv) b = some u := e
    rcases cB b with h | ⟨d, kvs, e1, e2, rfl, h⟩
    · rw [h] at e; exact s.base b u e
    · rw [h] at e; cases e; exact (hx _ kvs e1 e2).1
  · by_cases q : j = i
    · subst q
      by_cases hj : j < vs.length
      · rw [List.getElem?_set_self hj] at e; cases e
      · rw [List.getElem?_eq_none (by simpa using hj)] at e; cases e
    · rw [List.getElem?_set_ne (Ne.symm q)] at e
      rw [List.getElem?_set_ne (Ne.symm q), if_neg q]
      exact s.ok j l e
  · show List.Nodup (if _ then _ else _)
    split
    · simp
    · exact s.nd j
  · try dsimp only at h1 h2
    split at h1
    · simp at h1
    · split at h2
      · simp at h2
      · exact s.dj j k b h1 h2
  · try dsimp only at hb
    split at hb
    · simp at hb
    · obtain ⟨q1, q2, q3⟩ := s.sp j b hb
      refine ⟨q1, ?_, q3⟩
      show (catchB fm.B dd kv) b = none
      rw [nd b fun d kvs e1 e2 z => ?_]
      · exact q2
      · obtain ⟨o, ho, io⟩ := own j b hb
        rw [z, (hx d kvs e1 e2).1] at ho
        cases ho
        cases io
  · rcases List.mem_cons.mp hp' with rfl | hp'
    · exact List.getElem?_set_self hi
    · rw [List.getElem?_set_ne]
      · exact s.pins p hp'
      · intro e
        exact hp (by rw [e]; exact List.mem_map_of_mem hp')
theorem Sim.uncatch {Hs' : Hp} {vs' : VS} {σ' : L2.St} {H' : Hp} {xf : List Addr} {kv : Option (List (Str × V))} {pp : List (Nat × V)} (S : Sim K fm Hs vs σ H []) (t : Sim K ⟨catchB fm.B dd kv, Hs, pp ++ fm.pin⟩ Hs' vs' σ' H' xf) (hx : ∀ d kvs, dd = some d → kv = some kvs → H d = some (.xd kvs)) : Sim K fm Hs' vs' σ' H' xf := by
  obtain ⟨ft0, s⟩ := S
  obtain ⟨ft, t⟩ := t
  have sub : ∀ b, (catchB fm.B dd kv) b = none → fm.B b = none := fun b h => by
    unfold catchB at h
    split at h
    · rename_i d kvs
      by_cases q : b = d
      · subst q; rw [upd_same] at h; cases h
      · rw [upd_ne q] at h; exact h
    · exact h
  refine ⟨ft, ⟨t.sub, fun b u e => ?_, fun b u e => t.grow b u (s.grow b u e), fun b hb => ?_, t.len, t.ok, t.nd, t.dj, fun j b hb => ?_, t.xnd, t.xdj, fun b hb => ?_, fun p hp => t.pins p (List.mem_append_right _ hp)⟩⟩
  · cases q : (catchB fm.B dd kv) b with
    | none => rw [sub b q] at e; cases e
    | some o =>
      have := t.base b o q
      unfold catchB at q
      split at q
      · rename_i d kvs
        by_cases z : b = d
        · subst z
          have h1 := s.base b u e
          rw [hx _ kvs rfl rfl] at h1
          cases h1
          rw [upd_same] at q
          cases q
          exact this
        · rw [upd_ne z] at q
          rw [e] at q; cases q; exact this
      · rw [e] at q; cases q; exact this
  · rcases t.new b hb with h | h
    · exact s.new b h
    · exact .inr (sub b h)
  · obtain ⟨q1, q2, q3⟩ := t.sp j b hb
    exact ⟨q1, sub b q2, q3⟩
  · obtain ⟨q1, q2, q3⟩ := t.xsp b hb
    exact ⟨q1, sub b q2, q3⟩
theorem Sim.unset {xf : List Addr} (S : Sim K fm Hs vs σ H xf) (hp : i ∉ fm.pin.map (·.1)) : Sim K fm Hs (vs.set i none) (σ.set i none) H xf := by
  obtain ⟨ft, s⟩ := S
  refine ⟨ft, ⟨s.sub, s.base, s.grow, s.new, by simp [s.len], fun j m e => ?_, s.nd, s.dj, s.sp, s.xnd, s.xdj, s.xsp, fun p hp' => ?_⟩⟩
  · by_cases q : j = i
    · subst q
      by_cases hj : j < vs.length
      · rw [List.getElem?_set_self hj] at e; cases e
      · rw [List.getElem?_eq_none (by simpa using hj)] at e; cases e
    · rw [List.getElem?_set_ne (Ne.symm q)] at e
      rw [List.getElem?_set_ne (Ne.symm q)]
      exact s.ok j m e
  · rw [List.getElem?_set_ne]
    · exact s.pins p hp'
    · intro e
      exact hp (by rw [e]; exact List.mem_map_of_mem hp')
end
def dOk (d : Option Addr) (x : Xn) : Prop := d.isSome = true → x.fs.isSome = true
def sTry (cs : List Addr) (i : Nat) (B : M Fl) (S : Xn → M Fl) : M Fl := fun s => match B s with
  | none => none
  | some (.ok f, s1) => some (.ok f, s1)
  | some (.error x, s1) => if x.C ∈ cs ∧ i < s1.length then (match S x (s1.set i none) with
    | some (.ok f, s2) => some (.ok f, s2.set i none)
    | _ => none) else none
section
variable {X : Cx} {W : WX} {P : Pin} {x n : Str} {c : Value} {i : Nat} {body suite : List Stmt} {b0 : Stmt} {np pos pos' : Pos} {cs : List Addr} {B : M Fl} {S : Xn → M Fl}
theorem ds_tryAs (hp : i ∉ P.ix) (hc : Names X x c) (tk : L2N.Takes X W) (hcs : ∀ C ∈ cs, PySem.W.exmOne X.K (.ref C) c = some true) (hN : X.N.Nodup)
    (hb : ∀ (W : WX) (pn : List (Addr × Obj)) (xe : Value → Shared → Prop), L2N.Takes (X.tr pn xe) W → PassesOwn (model X.prog X.w) X.A X.env xe → PSs (X.tr pn xe) body (tS X.K W P B))
    (hsu : ∀ (a : Addr) (oe : Obj) (d : Option Addr) (pn : List (Addr × Obj)) (x : Xn), x.C ∈ cs → dOk d x → L2N.Zn (.ref x.C) d oe → (∃ vs, oe.data = .fields vs) → PSs (X.suite a ((a, oe) :: pn)) (b0 :: suite) (tS X.K W0 ⟨i :: P.ix, some (i, a, d, x)⟩ (S x)))
    (hi : X.N[i]? = some n := by rfl) (hln : X.env.kindOf n = some .local := by rfl) (hs : X.stack = X.env :: X.outer := by rfl) (hf : X.env.frame = some X.env.locals := by rfl) :
    PS X (.Try body [.ExceptHandler (some (.Name x np)) (some n) (b0 :: suite) pos'] [] [] pos) (tS X.K W P (sTry cs i B S)) := by
  have hsu' : ∀ (a : Addr) (oe : Obj) (cls : Value) (d : Option Addr) (pn : List (Addr × Obj)), L2N.Zn cls d oe → (∃ vs, oe.data = .fields vs) → PSs (X.suite a ((a, oe) :: pn)) (b0 :: suite) (fun E σ H => ∃ x : Xn, cls = .ref x.C ∧ x.C ∈ cs ∧ dOk d x ∧ tS X.K W0 ⟨i :: P.ix, some (i, a, d, x)⟩ (S x) E σ H) := fun a oe cls d pn hz hv => ⟨fun pins s σ H E I ⟨x, e, hx, hd, q⟩ => by
    subst e
    exact (hsu a oe d pn x hx hd hz hv).run pins s σ H E I q⟩
  refine PS_weak (L2N.ps_try_as hs hf hN hi hln hc tk hb hsu') fun E σ H ⟨fm, Hs, vs, r, vs', hF, hP, hS, hk⟩ => ?_
  unfold sTry at hF
  cases eB : B vs with
  | none => rw [eB] at hF; cases hF
  | some q =>
    obtain ⟨rB, sB⟩ := q
    rw [eB] at hF
    cases rB with
    | ok f =>
      cases hF
      exact ⟨fm, Hs, vs, _, _, eB, hP, hS, ⟨hk.nx, hk.bk, hk.ct, hk.rt, fun _ _ _ _ _ _ q => by cases q⟩⟩
    | error x0 =>
      dsimp only at hF
      split at hF
      · rename_i hx
        split at hF
        · rename_i f s2 eS
          cases hF
          refine ⟨fm, Hs, vs, _, _, eB, hP, hS, ⟨fun _ _ _ q => (by cases q), fun _ _ _ q => (by cases q), fun _ _ _ q => (by cases q), fun _ _ _ _ _ _ q => (by cases q), fun x1 c1 dd σ1 H1 Hs1 q S1 X1 xo => ?_⟩⟩
          cases q
          obtain ⟨ec, xo⟩ := xo
          subst ec
          have hdk : dOk dd x0 := fun z => by
            cases ef : x0.fs with
            | none => rw [ef] at xo; rw [xo] at z; cases z
            | some p => rfl
          refine ⟨true, hcs _ hx.1, fun _ a ha => ⟨x0, rfl, hx.1, hdk, ?_⟩, fun z => nomatch z⟩
          have hp' : i ∉ fm.pin.map (·.1) := by rw [hP.1]; exact hp
          have hil : i < σ1.length := by rw [← S1.leneq]; exact hx.2
          obtain ⟨kv, hkv, hpn⟩ : ∃ kv : Option (List (Str × V)), (∀ d kvs, dd = some d → kv = some kvs → H1 d = some (.xd kvs) ∧ Hs1 d = none) ∧
              ∀ fs ds, x0.fs = some (fs, ds) → ∃ d kvs, dd = some d ∧ catchB fm.B dd kv d = some (.xd kvs) ∧ kvs.map (·.1) = fs ∧ RepL X.K Hs1 (kvs.map (·.2)) ds := by
            cases ef : x0.fs with
            | none => exact ⟨none, ⟨fun d kvs _ z => (by cases z), fun fs ds z => (by cases z)⟩⟩
            | some p =>
              obtain ⟨fs, ds⟩ := p
              rw [ef] at xo
              obtain ⟨d, kvs, e1, e2, e3, e4, e5⟩ := xo
              subst e1
              refine ⟨some kvs, ⟨fun d' kvs' z1 z2 => (by cases z1; cases z2; exact ⟨e2, e3⟩), fun fs' ds' z => ?_⟩⟩
              cases z
              exact ⟨d, kvs, rfl, upd_same, e4, e5⟩
          have S2 := S1.catch (a := a) hil hp' kv hkv
          have out : ∀ {Hs' : Hp} {v2 : VS} {σ' : L2.St} {H' : Hp} {xf : List Addr}, Sim X.K ⟨catchB fm.B dd kv, Hs1, (i, .ref a) :: fm.pin⟩ Hs' v2 σ' H' xf → Sim X.K fm Hs' v2 σ' H' xf := fun t => S1.uncatch (pp := [(i, .ref a)]) t fun d kvs z1 z2 => (hkv d kvs z1 z2).1
          refine ⟨_, Hs1, sB.set i none, _, s2, eS, ⟨by simp [hP.1], fun i' a' d' x' z => ?_⟩, S2, ⟨fun σ' H' Hs' q S' X' => ?_, fun σ' H' Hs' q S' X' => ?_, fun σ' H' Hs' q S' X' => ?_, fun l v σ' H' Hs' xf q S' X' o => ?_, fun _ _ _ _ _ _ q => (by cases q)⟩⟩
          · cases z
            exact ⟨List.mem_cons_self .., hpn⟩
          · cases q; exact hk.nx _ H' Hs' rfl ((out S').unset hp') (X1.trans X')
          · cases q; exact hk.bk _ H' Hs' rfl ((out S').unset hp') (X1.trans X')
          · cases q; exact hk.ct _ H' Hs' rfl ((out S').unset hp') (X1.trans X')
          · cases q; exact hk.rt l v (σ'.set i none) H' Hs' xf rfl ((out S').unset hp') (X1.trans X') o
        · cases hF
      · cases hF
end
end Ev
namespace Ht
open PySem PySem.Spec PyProof.Rows L2 HotX L2H
section
variable {prog : Program} {w : World} {A : Around} {E : Value → Shared → Prop} {s : Shared}
theorem end_list {q l x : Addr} {i : Nat} {its : Array Value} {Q : Option Value → Shared → Prop} (hot : HotAt A x s.heap) (hxq : x ≠ q) (hit : s.heap.IsListIter q l i) (hl : s.heap.IsList l its) (hx : its[i]? = none)
    (hQ : ∀ h', (∀ b o, b ≠ q → s.heap.get? b = some o → h'.get? b = some o) → Q none { s with heap := h' }) : wpAny (model prog w) A (pyNext (.ref q)) Q E s := by
  have hty := hit.typeIs
  obtain ⟨oi, ei, _, di⟩ := hit
  obtain ⟨ol, el, _, nl, dl⟩ := hl
  obtain ⟨hh, ox, vx, ex, dx, cx⟩ := hot
  unfold pyNext
  refine wpAny_bind (wpAny_attempt (wpAny_callSpecial?_slot (name := Str.ofString "__next__") hty slot_listiter_next (wpAny_call_entry slot_listiter_next hty entry_listiter_next ?_ (args_listiter_next _))))
  show wpAny _ _ (field (.ref q) 0 >>= _) _ _ s
  refine wpAny_bind (wpAny_field ei di (x := .ref l) rfl ?_)
  show wpAny _ _ (if (Value.ref l == Value.none) = true then _ else _) _ _ s
  rw [if_neg (by intro z; cases z)]
  show wpAny _ _ (field (.ref q) 1 >>= _) _ _ s
  refine wpAny_bind (wpAny_field ei di (x := .int i 0) rfl ?_)
  show wpAny _ _ (seqItems? (.ref l) >>= _) _ _ s
  refine wpAny_bind (wpAny_seqItems el dl ?_)
  simp only [Int.toNat_natCast, hx]
  refine wpAny_bind (wpAny_rule (wpAny_bind (wpAny_setField ei di (by simp) ?_)))
  show wpAny _ _ (newExc (.type "StopIteration") [] >>= _) _ _ _
  refine wpAny_bind ?_
  simp only [newExc, newTuple]
  refine wpAny_bind (wpAny_newObj_type ?_ (by size_fits))
  refine wpAny_bind (m := firstArgMember _ _) (wpAny_of_eq (a := Value.none) (by first | rfl | (simp only [firstArgMember]; rfl)) ?_)
  refine wpAny_newObj_type ?_ (by size_fits)
  have k0 : ∀ b o, b ≠ q → s.heap.get? b = some o → ∀ f, (s.heap.update q f).get? b = some o := fun b o hb e f => (Heap.get?_update_other _ _ (Ne.symm hb)).trans e
  refine raiseNew_hot ⟨hh, ox, vx, Heap.get?_push_of_some _ (Heap.get?_push_of_some _ (k0 x ox hxq ex _)), dx, cx⟩ (Nat.ne_of_lt (Heap.lt_size (Heap.get?_push_of_some _ (k0 x ox hxq ex _)))) (Heap.get?_push_size _ rfl) rfl (by first | (simp; done) | (simp; omega)) ?_
  refine wpAny_bind (wpAny_isInstance (T := "StopIteration") (b := true) ⟨_, Heap.get?_update_self _ (Heap.get?_push_size _ rfl) rfl, rfl⟩ isSubtype_stop (wpAny_pure (hQ _ fun b o hb e => ?_)))
  exact (Heap.get?_update_other _ _ (Nat.ne_of_gt (Heap.lt_size (Heap.get?_push_of_some _ (k0 b o hb e _))))).trans (Heap.get?_push_of_some _ (Heap.get?_push_of_some _ (k0 b o hb e _)))
end
end Ht
namespace Ht
open PySem PySem.Spec PyProof.Rows L2 HotX L2H
theorem turnL {P : Program} {w : World} {K : PySem.W.Frag} {tg : Expr} (a it : Addr) : TurnH P w K tg (Itl K a) [it] it (fun i h => h.IsListIter it a i) where
  mem := List.mem_singleton.mpr rfl
  obj := fun n h st b hb => by
    rw [List.mem_singleton.mp hb]
    obtain ⟨o, e, _, d⟩ := st
    exact ⟨o, e, fun v z => by rw [d] at z; cases z⟩
  keep := fun n h h' st k => st.at (k it (List.mem_singleton.mpr rfl))
  item := by
    intro X hP hw hK _ n pins s σ H E I hf st hg
    subst hP hw hK
    obtain ⟨xs, v, hs, hv⟩ := hg
    obtain ⟨us, rel, pl, _⟩ := I.list hs
    obtain ⟨u, hu, ru⟩ := rel.get hv
    obtain ⟨g0, g1, g2, g3, g4, g5⟩ := hf it (List.mem_singleton.mpr rfl)
    refine wpAny_pyNext_list_item st pl.isList (x := u) (by simpa using hu) fun h1 st1 same => ?_
    have J : Inv X pins σ H { s with heap := h1 } := I.turned (t' := s.toks) (fun b o hb e => (same.2 b hb).trans e) g0 g1 g3 g4 g5
    obtain ⟨o, eo, co, d0⟩ := id st1
    exact ⟨u, rfl, go_of (s := { s with heap := h1 }) eo co d0 (by decide) ⟨v, H, J, ru, ⟨rfl, fun ys hy => by rw [I.list_inj hy hs]; exact hv⟩, st1, fun b hb => (hf b hb).1⟩⟩
  done := by
    intro X hP hw hK hc n pins s σ H E I hf st hg
    subst hP hw hK
    obtain ⟨xs, hs, hn⟩ := hg
    obtain ⟨us, rel, pl, _⟩ := I.list hs
    obtain ⟨g0, g1, g2, g3, g4, g5⟩ := hf it (List.mem_singleton.mpr rfl)
    obtain ⟨p, ⟨hh, vx, dx, cx⟩, hp⟩ := hc
    have hp' : p ∈ X.pn ++ pins := List.mem_append_left _ hp
    have len := rel.length
    exact end_list ⟨hh, p.2, vx, (I.pin p hp').1, dx, cx⟩ (g5 p hp') st pl.isList (by simp; omega) fun h1 eb => ⟨rfl, I.turned (t' := s.toks) eb g0 g1 g3 g4 g5⟩
  self := fun _ _ _ _ _ st h => wpAny_pyIter_listiter st h
section
variable {X : Cx} {tg : Expr}
theorem pi_listH {l : Expr} {tl : TE} (hl : PE X l tl) : PIH X tg l (iList X.K tl) := ⟨fun pins s σ H R I h => thn (hl.run pins s σ H _ I h) fun v s1 ⟨x, H1, I1, r1, a, e, ⟨xs, hs⟩, q⟩ => by
  subst e
  cases r1
  obtain ⟨us, rel, pl, _⟩ := I1.list hs
  refine wpAny_pyIter_list pl.isList ⟨s1.heap.objs.size, [s1.heap.objs.size], _, _, H1, rfl, I1.kept (t' := s1.toks) fun b o e => Heap.get?_push_of_some _ e, turnL a _, ⟨_, Heap.get?_push_size _ rfl, rfl, rfl⟩, fun b hb => ?_, q⟩
  rw [List.mem_singleton.mp hb]
  exact I1.fpOk (Nat.le_refl _) (I1.hok.fresh (Nat.le_refl _))⟩
end
abbrev blkH (X : Cx) (s : Shared) (H : Hp) (scope : Scope) (cenv : Env) (fp : List Addr) : Cx := { X.blk s H scope cenv fp with pn := X.pn }
theorem HotC.blk {X : Cx} (h : HotC X) {s : Shared} {H : Hp} {scope : Scope} {cenv : Env} {fp : List Addr} : HotC (blkH X s H scope cenv fp) := h
section
variable {X : Cx} {pins : List (Addr × Obj)} {σ : L2.St} {H : Hp} {s : Shared}
theorem startH {scope : Scope} {own : List (Str × Nat)} {fp : List Addr} (I : Inv X pins σ H s) (ok : BlkOk X.N X.env.scope scope own) (hN : X.N.Nodup) (hfp : ∀ b ∈ fp, FpOk X pins H b ∧ b < s.heap.objs.size) :
    Inv (blkH X s H scope (compEnvC scope (cellsFrom (s.heap.objs.size + 1) scope.names (cloFrom X.env.cells scope.names [])) s.heap.objs.size X.env) fp) [] (wipe σ (own.map (·.2))) H { s with heap := pushCells (s.heap.push { cls := .type "dict", data := .dict #[] }) scope.names } := by
  have J := block_start I ok hN hfp
  have o := J.ok
  refine ⟨⟨o.mod, o.kind, o.glob, o.blt, o.above, o.inj, o.has, o.cab, o.hd, o.frames, o.stk, o.exf, o.bs, o.bsz, o.noex, o.exfs, o.funs, o.frf⟩, J.os, J.bare, J.base, J.loc, J.cell, J.free, J.freeC, fun p hp => ?_, J.hok, J.len⟩
  have hp : p ∈ X.pn ++ [] := hp
  rw [List.append_nil] at hp
  obtain ⟨z1, z2, z3, z4, z5⟩ := I.pin p (List.mem_append_left _ hp)
  refine ⟨pushCells_keeps _ _ _ _ (Heap.get?_push_of_some _ z1), z2, Nat.ne_of_lt (Heap.lt_size z1), fun z => ?_, z5⟩
  rcases List.mem_cons.mp (I.stkSub _ z) with y | y
  · exact z3 y
  · exact z4 y
end
end Ht
namespace Ht
open PySem PySem.Spec PyProof.Rows L2 HotX L2H
section
variable {X : Cx} {pins : List (Addr × Obj)} {s : Shared} {σ : L2.St} {H : Hp}
theorem compH {Q : VK} {elt tg iter : Expr} {ifs : List Expr} {scope : Scope} {own : List (Str × Nat)} {pos pos' : Pos} {wi : TI} {g : TG} {tt : TT} {te : TE} {use : Option (Value → Sem Unit)} {Qf : Value → Shared → Prop} (hot : HotC X) (hN : X.N.Nodup) (I : Inv X pins σ H s) (hi : PIH X tg iter wi) (ok : BlkOk X.N X.env.scope scope own)
    (hg : ∀ s H C cl fp, PG (blkH X s H scope (compEnvC scope cl C X.env) fp) tg g) (ht : ∀ s H C cl fp, PTs (blkH X s H scope (compEnvC scope cl C X.env) fp) ifs tt) (he : ∀ s H C cl fp, PE (blkH X s H scope (compEnvC scope cl C X.env) fp) elt te) (hs : ∀ x, foldedSetIterable iter X.env x = pure x) (h : tLc wi g tt te (own.map (·.2)) σ H Q)
    (back : ∀ D C s' m H', Inv X pins σ H' s' → Q (.ref D) H' → s'.heap.Ns C m → FpOk X pins H' C → compPost (model X.prog X.w) X.A X.xe use Qf (.ref D) C (.ok .next) s') :
    wpAny (model X.prog X.w) X.A (comprehension (.ListComp elt [⟨tg, iter, ifs, 0⟩] scope pos) scope X.env pos' (newList []) false (eval iter X.env) use) Qf X.xe s := by
  have clo : ∀ y ∈ scope.names, y.2 = .free → ∃ c, X.env.cells.lookup y.1 = some c := fun y hy e => (ok.free y hy e).elim (fun z => I.ok.has _ (.inl z)) fun z => I.ok.has _ (.inr z)
  refine wpAny_comprehension_free (use := use) rfl hs (closure_ok clo) ok.kind (fun y hy e => by rw [ok.uniq y hy, e]) (thn (hi.run pins s σ H _ I h) fun xv s1 hx => thn hx fun itv s2 h2 => ?_)
  obtain ⟨it, fp, tn, J, H2, e, I2, T, st2, f2, q⟩ := h2
  subst e
  refine wpAny_newObj_type (newEnv_comp ?_) (by show 0 ≤ sizeLine; decide)
  obtain ⟨D, hD⟩ : ∃ D, s2.heap.objs.size = D := ⟨_, rfl⟩
  rw [hD]
  obtain ⟨W, ⟨m0, w0⟩, turn⟩ := q D (I2.hok.fresh (Nat.le_of_eq hD))
  obtain ⟨s3, e3⟩ : ∃ s3, ({ s2 with heap := s2.heap.push { cls := .type "list", data := .seq ([] : List Value).toArray } } : Shared) = s3 := ⟨_, rfl⟩
  have hh3 : s3.heap = s2.heap.push { cls := .type "list", data := .seq ([] : List Value).toArray } := by rw [← e3]
  have I3 : Inv X pins σ (upd H2 D (.lst [])) s3 := by
    subst e3
    refine I2.laid (t' := s2.toks) (fun b o e => Heap.get?_push_of_some _ e) (Nat.le_of_eq hD) ⟨Nat.zero_le _, [], 0, .nil, ?_⟩
    subst hD
    exact Heap.get?_push_size _ rfl
  have lt2 : ∀ b ∈ fp, b < s2.heap.objs.size := fun b hb => let ⟨o, e, _⟩ := T.obj _ _ st2 b hb; Heap.lt_size e
  have f3 : ∀ b ∈ fp, FpOk X pins (upd H2 D (.lst [])) b ∧ b < s3.heap.objs.size := fun b hb => by
    refine ⟨⟨?_, (f2 b hb).2⟩, by rw [hh3, Heap.size_push]; exact Nat.lt_succ_of_lt (lt2 b hb)⟩
    rw [upd_ne (by subst hD; exact Nat.ne_of_lt (lt2 b hb))]
    exact (f2 b hb).1
  have st3 : tn 0 s3.heap := T.keep _ _ _ st2 fun b _ o e => by rw [hh3]; exact Heap.get?_push_of_some _ e
  have I4 := startH I3 ok hN f3
  obtain ⟨cl, hcl⟩ : ∃ cl, cellsFrom (s3.heap.objs.size + 1) scope.names (cloFrom X.env.cells scope.names []) = cl := ⟨_, rfl⟩
  rw [hcl] at I4
  obtain ⟨H3, eH3⟩ : ∃ H3, upd H2 D (.lst []) = H3 := ⟨_, rfl⟩
  rw [eH3] at I3 I4 f3 w0
  obtain ⟨Cn, hCn⟩ : ∃ Cn, s3.heap.objs.size = Cn := ⟨_, rfl⟩
  rw [hCn] at I4
  have pg := hg s3 H3 Cn cl fp
  have pt := ht s3 H3 Cn cl fp
  have pe := he s3 H3 Cn cl fp
  obtain ⟨s4, e4⟩ : ∃ s4, ({ s3 with heap := pushCells (s3.heap.push { cls := .type "dict", data := .dict #[] }) scope.names } : Shared) = s4 := ⟨_, rfl⟩
  rw [e4] at I4
  have goal : codeAny (model X.prog X.w) X.A (.compStart (.ListComp elt [⟨tg, iter, ifs, 0⟩] scope pos) 0 (.ref it) (.ref D) (compEnvC scope cl Cn X.env)) (compPost (model X.prog X.w) X.A X.xe use Qf (.ref D) Cn) s4 := by
    have st4 : tn 0 s4.heap := T.keep _ _ _ st3 fun b _ o e => by subst e4; exact pushCells_keeps _ _ _ _ (Heap.get?_push_of_some _ e)
    have nfp : ∀ b ∈ fp, H3 b = none := fun b hb => (f3 b hb).1.1
    obtain ⟨Y, hY⟩ : ∃ Y, blkH X s3 H3 scope (compEnvC scope cl Cn X.env) fp = Y := ⟨_, rfl⟩
    have stay : ∀ {σ' : L2.St} {H' : Hp} {s' : Shared}, Inv (blkH X s3 H3 scope (compEnvC scope cl Cn X.env) fp) [] σ' H' s' → (∀ b ∈ fp, H' b = none) → ∀ b ∈ fp, FpOk (blkH X s3 H3 scope (compEnvC scope cl Cn X.env) fp) [] H' b := fun {σ' H' s'} I' hn b hb =>
      ⟨hn b hb, (I'.ok.exf b hb).1, I'.ok.exfs b hb, .inl hb, fun x c e => (I'.ok.exf b hb).2 x c e, fun p hp => (f3 b hb).1.2.2.2.2.2 p (List.mem_append_left _ (by
        have hp : p ∈ X.pn ++ [] := hp
        rwa [List.append_nil] at hp))⟩
    have loop : codeAny (model X.prog X.w) X.A (.compLoop (.ListComp elt [⟨tg, iter, ifs, 0⟩] scope pos) 0 (.ref it) (.ref D) (compEnvC scope cl Cn X.env)) (compPost (model X.prog X.w) X.A X.xe use Qf (.ref D) Cn) s4 := by
      refine compLoop_any (fun n s' => ∃ i H', Inv (blkH X s3 H3 scope (compEnvC scope cl Cn X.env) fp) [] (wipe σ (own.map (·.2))) H' s' ∧ tn i s'.heap ∧ (∀ b ∈ fp, H' b = none) ∧ W i n H') ?_ m0 ⟨0, H3, I4, st4, nfp, w0⟩
      rintro n s5 ⟨i, H5, I5, st5, n5, w5⟩
      rcases turn i n H5 w5 with ⟨stop, qq⟩ | ⟨go, Nx, hNx, step⟩
      · refine thnF (T.done (blkH X s3 H3 scope (compEnvC scope cl Cn X.env) fp) rfl rfl rfl hot i [] s5 _ H5 (fun _ _ => False) I5 (stay I5 n5) st5 stop) fun r s6 ⟨hr, I6⟩ => ?_
        subst hr
        have out : Inv X pins σ H5 s6 := I3.call' (ch := fp) I6.os I6.base I6.hok I6.bare fun b hb => ⟨(f3 b hb).1.2.2.2.1, (f3 b hb).1.2.1, (f3 b hb).1.2.2.2.2.1, (f3 b hb).1.2.2.2.2.2⟩
        obtain ⟨m, hn, _⟩ := I6.loc
        have nC : H5 Cn = none := I6.free
        exact back D Cn s6 m H5 out qq hn (I3.fpOk (Nat.le_of_eq hCn) nC)
      · refine thnF (T.item (blkH X s3 H3 scope (compEnvC scope cl Cn X.env) fp) rfl rfl rfl hot i [] s5 _ H5 (fun _ _ => False) I5 (stay I5 n5) st5 go) fun r s6 ⟨u, hr, h6⟩ => ?_
        subst hr
        refine thnF h6 fun _ s7 ⟨x, H7, I7, r7, y7, st7, n7⟩ => ?_
        have P7 := I7.pinned (stay I7 n7) (T.obj _ _ st7)
        refine thnF (pg.run _ s7 _ H7 x u _ P7 r7 (step x H7 y7)) fun _ s8 ⟨σ8, H8, I8, hw, q8⟩ => thnF (pt.run _ s8 σ8 H8 _ I8 q8) fun b s9 ⟨H9, I9, q9⟩ => ?_
        have fin : ∀ {s' : Shared} {H' : Hp}, Inv (blkH X s3 H3 scope (compEnvC scope cl Cn X.env) fp) ([] ++ pinsAt fp s7.heap) σ8 H' s' → Nx H' → ∃ m, m < n ∧ ∃ i H', Inv (blkH X s3 H3 scope (compEnvC scope cl Cn X.env) fp) [] (wipe σ (own.map (·.2))) H' s' ∧ tn i s'.heap ∧ (∀ b ∈ fp, H' b = none) ∧ W i m H' := fun {s' H'} I' nx => by
          obtain ⟨m', hm, w'⟩ := hNx H' nx
          have kept : ∀ b ∈ fp, ∀ o, s7.heap.get? b = some o → s'.heap.get? b = some o ∧ H' b = none := fun b hb o e =>
            have z := I'.pin (b, o) (List.mem_append_right _ (List.mem_append_right _ (mem_pinsAt hb e)))
            ⟨z.1, z.2.1⟩
          have len : (wipe σ (own.map (·.2))).length = σ8.length := by rw [← hw, wipe_length]
          refine ⟨m', hm, i + 1, H', (I'.unpinned (pins := [])).weak len (fun j v e => (wipe_some (by rw [hw]; exact e)).1), T.keep _ _ _ st7 fun b hb o e => (kept b hb o e).1, fun b hb => ?_, w'⟩
          obtain ⟨o, e, _⟩ := T.obj _ _ st7 b hb
          exact (kept b hb o e).2
        cases b with
        | false => exact fin I9 (by simpa using q9)
        | true =>
          have q9 : te σ8 H9 fun y H4 => ∃ acc, H4 D = some (.lst acc) ∧ acc.length < sizeLine ∧ Nx (upd H4 D (.lst (acc ++ [y]))) := by simpa using q9
          refine thnF (pe.run _ s9 σ8 H9 _ I9 q9) fun z s10 ⟨yv, H10, I10, r10, acc, a1, a2, nx⟩ => ?_
          exact app_ok (X := blkH X s3 H3 scope (compEnvC scope cl Cn X.env) fp) I10 a1 a2 r10 fun s11 I11 => fin I11 nx
    exact codeAny_compStart_list loop (T.self X.A 0 _ _ _ st4 loop)
  subst e4 hCn hcl e3
  exact goal
end
end Ht
namespace Ht
open PySem PySem.Spec PyProof.Rows L2 HotX L2H
section
variable {X : Cx}
theorem pe_lcH {elt tg iter : Expr} {ifs : List Expr} {scope : Scope} {own : List (Str × Nat)} {pos : Pos} {wi : TI} {g : TG} {tt : TT} {te : TE} (hot : HotC X) (hN : X.N.Nodup) (hi : PIH X tg iter wi) (ok : BlkOk X.N X.env.scope scope own)
    (hg : ∀ s H C cl fp, PG (blkH X s H scope (compEnvC scope cl C X.env) fp) tg g) (ht : ∀ s H C cl fp, PTs (blkH X s H scope (compEnvC scope cl C X.env) fp) ifs tt) (he : ∀ s H C cl fp, PE (blkH X s H scope (compEnvC scope cl C X.env) fp) elt te) (hs : ∀ x, foldedSetIterable iter X.env x = pure x := by intro _; rfl) :
    PE X (.ListComp elt [⟨tg, iter, ifs, 0⟩] scope pos) (tLc wi g tt te (own.map (·.2))) := ⟨fun pins s σ H Q I h => by
  rw [eval_ListComp]
  exact compH hot hN I hi ok hg ht he hs h fun D C s' m H' I' q hn ⟨f0, f1, f2, f3, f4, f5⟩ => ⟨m, hn, fun h'' sb => ⟨.ref D, H', I'.turned (t' := s'.toks) (fun b o hb e => (sb.2 b hb).trans e) f0 f1 f3 f4 f5, rfl, q⟩⟩⟩
end
theorem walkL {prog : Program} {w : World} {A : Around} {x : Addr} (I ax : Addr) (hne : ax ≠ I) (hx : x ≠ I) (its : Array Value) :
    Walks prog w A I [I, ax, x] [I] its.size (fun i v => its[i]? = some v) (fun i h => h.IsListIter I ax i ∧ h.IsList ax its ∧ HotAt A x h) where
  sub := fun b hb => by rw [List.mem_singleton.mp hb]; exact List.mem_cons_self ..
  frame := fun i h h' ⟨s1, s2, hh, o, vs, e, d, c⟩ k => ⟨s1.at fun o e => k I (by simp) o e, s2.at fun o e => k ax (by simp) o e, hh, o, vs, k x (by simp) o e, d, c⟩
  item := fun i s Q E hi ⟨s1, s2, hh, o, vs, e, d, c⟩ hQ => by
    refine wpAny_pyNext_list_item s1 s2 (x := its[i]) (by simp [hi]) fun h' it' sb => ?_
    exact hQ _ h' s.toks (by simp [hi]) ⟨it', s2.extBut sb.extBut hne, hh, o, vs, sb.extBut x o hx e, d, c⟩ fun b o hb e => sb.extBut b o (fun z => hb (List.mem_singleton.mpr z)) e
  done := fun s Q E ⟨s1, s2, hot⟩ hQ => end_list hot hx s1 s2 (by simp) fun h' k => hQ h' s.toks fun b o hb e => k b o (fun z => hb (List.mem_singleton.mpr z)) e
  self := fun _ _ _ _ st hQ => wpAny_pyIter_listiter st.1 hQ
section
variable {X : Cx}
theorem cr_allH (hc : HotC X) : CallR X (.builtin "all") (rAll X.K) := by
  rintro pins s σ H vs us Q I r ⟨a, bs, rfl, hs, q⟩
  obtain ⟨its, rel, pl, _⟩ := I.list hs
  obtain ⟨x, hh, o, vx, e, d, c⟩ := hc.at I
  have bl := rel.bls
  rw [Vals.ref1 r]
  refine call_all_walk (iter_any pl.isList fun s2 e2 st hne => ?_)
  subst e2
  have xl : x < s.heap.objs.size := Heap.lt_size e
  refine ⟨_, _, _, _, _, _, _, rfl, walkL (A := X.A.in1) (x := x) _ a hne (Nat.ne_of_lt xl) its.toArray, ⟨st.1, st.2, hh, o, vx, Heap.get?_push_of_some _ e, d, c⟩, truth_bools bl, fun h' tk hk => ?_⟩
  refine ⟨.bl _, H, I.kept fun b u eu => hk b u (fun z => absurd (List.mem_singleton.mp z ▸ Heap.lt_size eu) (Nat.lt_irrefl _)) (Heap.get?_push_of_some _ eu), ?_, q⟩
  show Value.bool _ = Value.bool _
  rw [← L2.all_range, bl, List.size_toArray, List.length_map]
end
end Ht
namespace Ev
open PySem PySem.Spec PyProof.Rows L2
open Evl (Ex)
open L2H (RoomH Hot1 PinOk cxH HotC PIH)
structure FnE (P : Program) (w : World) (K : PySem.W.Frag) (mg : Str → Option Value) (base : Heap) (k : Nat) (f : Addr) (fd : FuncData) (ps : List Str) (sp : Addr → Value → Option Addr → Sp) : Prop where
  len : ∀ a c d vs H Q E, sp a c d vs H Q E → vs.length = ps.length
  run : ∀ (A : Around) (outer : List Env) (s : Shared) (H : Hp) (args : Args) (us : List Value) (vs : List V) (Q : VK) (E : XK) (p : Addr × Obj) (c : Value) (d : Option Addr), RoomH k A → Hot1 A p → L2N.Zn c d p.2 → PinOk outer H s p → Env0 P w K mg base A outer s H → BindsTo s fd args (ps.zip us) → Vals vs us → sp p.1 c d vs H Q E →
    codeAny (model P w) A (.call (.ref f) args) (CR (L2N.CX P w) outer P w H s Q E) s
theorem fnE {P : Program} {w : World} {K : PySem.W.Frag} {mg : Str → Option Value} {base : Heap} {k : Nat} {x qual : Str} {st : Stmt} {f : Addr} {fd : FuncData} {N ps : List Str} {sp : Addr → Value → Option Addr → Sp} (Fu : Fun K x qual st f fd) (S : FnScope N ps (defScope st)) (len : ∀ a c d vs H Q E, sp a c d vs H Q E → vs.length = ps.length)
    (hB : ∀ (cdv : Value) (A : Around) (outer : List Env) (s : Shared) (H : Hp) (vs : List V) (Q : VK) (E : XK) (p : Addr × Obj) (c : Value) (d : Option Addr), Hot1 A p → L2N.Zn c d p.2 → RoomH k (A.deeper (envOfC qual (defScope st) s.heap.objs.size f cdv)) → sp p.1 c d vs H Q E →
      ∃ t, PSs (cxH (L2N.CX P w) P w K mg base N qual (defScope st) f cdv A outer s H E p) (defBody st) t ∧ t { nx := fun _ H' => Q .non H', rt := Q } (L2.start N vs) H) : FnE P w K mg base (k + 1) f fd ps sp := by
  obtain ⟨_, _, _, _, _, _, cdv, _, _, rfl, lk, hcd⟩ := Fu.ex
  refine ⟨len, fun A outer s H args us vs Q E p c d hr hot hz hpin e0 hb r hsp => ?_⟩
  have KX : K.In s.heap := e0.mod.kin.keeps fun b o e => (e0.bs b o e).1
  have par : ∀ y ∈ ps.zip us, (defScope st).names.lookup y.1 = some .local ∨ ((defScope st).names.lookup y.1 = some .cell ∧ ((cellsFrom (s.heap.objs.size + 1) (defScope st).names []).lookup y.1).isSome = true) := fun y hy =>
    (S.par y.1 (List.of_mem_zip hy).1).imp id fun q => ⟨q, PySem.W.cellsFrom_some _ _ _ (.inl q)⟩
  refine codeAny_call_function hr.depth (KX _ _ lk) rfl S.co S.gen rfl (PySem.W.codeRec_of KX hcd) (hb _ _ _ _ (wpAny_newFunctionEnv_cells S.kind par fun env he s1 x => ?_))
  subst he
  refine ⟨(e0.mod.nolimit.keeps fun b o e => (e0.bs b o e).1).keeps x.toInCall.keep, codeAny_func ?_⟩
  obtain ⟨t, ht, hq⟩ := hB cdv A outer s H vs Q E p c d hot hz (hr.deeper _) hsp
  refine wpAny_mono (ht.run [] s1 (L2.start N vs) H _ (L2H.inv_startH S hpin e0 (len _ _ _ _ _ _ _ hsp) r x) hq) (fun fl s' hs => ?_) fun e s' hs => hs
  cases fl with
  | ret u => obtain ⟨v, σ', H', J, rv, q⟩ := hs; exact ⟨v, H', J.os, J.bare, J.base, J.hok, rv, q⟩
  | next => obtain ⟨σ', H', J, q⟩ := hs; exact ⟨.non, H', J.os, J.bare, J.base, J.hok, rfl, q⟩
  | brk => obtain ⟨_, _, _, q⟩ := hs; exact q.elim
  | cont => obtain ⟨_, _, _, q⟩ := hs; exact q.elim
structure Hx (X : Cx) (p : Addr × Obj) (c : Value) (d : Option Addr) : Prop where
  hot : Hot1 X.A p
  mem : p ∈ X.pn
  z : L2N.Zn c d p.2
theorem Hx.c {X : Cx} {p : Addr × Obj} {c : Value} {d : Option Addr} (h : Hx X p c d) : HotC X := ⟨p, h.hot, h.mem⟩
theorem Hx.blk {X : Cx} {p : Addr × Obj} {c : Value} {d : Option Addr} (h : Hx X p c d) {s : Shared} {H : Hp} {scope : Scope} {cenv : Env} {fp : List Addr} : Hx (Ht.blkH X s H scope cenv fp) p c d := ⟨h.hot, h.mem, h.z⟩
section
variable {X : Cx} {W : WX} {P : Pin} {e a b o : Expr} {es : List Expr} {pos apos q : Pos} {k : Nat} {x m : Str} {p : Addr × Obj} {c : Value} {d : Option Addr} {sp : Addr → Value → Option Addr → Sp} {E : L2.St → XK} {t : TA}
theorem pe_callE {f : Addr} {fd : FuncData} {ps : List Str} (F : FnE X.prog X.w X.K X.mg X.base k f fd ps sp) (hr : RoomH k X.A) (hc : Hx X p c d) (hg : Gl X x) (hm : X.mg x = some (.ref f)) (hk : PySem.W.keepIn X.K (.ref f) = true) (hb : Binds X.K fd ps []) (hx : ∀ σ, PassesAt (L2N.CX X.prog X.w) X σ (E σ))
    (ha : PA X (e :: es) t) (hdb : (x == ("__debug__" : Str)) = false) (he : starEach (e :: es) X.env = (false, eval e X.env) :: starEach es X.env) (hpl : (backTo pos (starEach es X.env)).any (·.1) = false) :
    PE X (.Call (.Name x q) (e :: es) [] pos) (tCallS (sp p.1 c d) E t) := ⟨fun pins s σ H Q I h => by
  refine wpAny_Call_Name_kw (ld_glob I hg hm (PySem.W.callWith_K (h₀ := X.base) I.ok.mod.kin hk (thn (ha.run pos pins s σ H _ I h) fun us s1 ⟨vs, H1, I1, r, sq⟩ => ⟨I1.kIn, ?_⟩) he hpl) hdb)
  have hl : us.length = ps.length := by rw [← r.length]; exact F.len _ _ _ _ _ _ _ sq
  have bd := hb s1 us I1.kIn (by rw [List.append_nil]; exact hl)
  rw [List.append_nil] at bd
  obtain ⟨z1, z2, z3, z4, z5⟩ := I1.pin p (List.mem_append_left _ hc.mem)
  have hpin : PinOk X.stack H1 s1 p := ⟨z1, z2, fun y => (List.mem_cons.mp (I1.stkSub p.1 y)).elim z3 z4, z5⟩
  refine wpAny_call (codeAny_mono (F.run X.A X.stack s1 H1 ⟨us, []⟩ us vs Q (E σ) p c d hr hc.hot hc.z hpin I1.env0 bd r sq) fun r s' hq => ?_)
  cases r with
  | error er => exact hx σ pins H1 s1 er s' I1 hq
  | ok fl =>
    cases fl with
    | ret u => exact I1.after hq
    | next => exact hq.elim
    | brk => exact hq.elim
    | cont => exact hq.elim⟩
end
structure FnAtH (P : Program) (w : World) (K : PySem.W.Frag) (mg : Str → Option Value) (base : Heap) (k : Nat) (x : Str) (fn : Fn) : Prop where
  ex : ∃ f fd ps, mg x = some (.ref f) ∧ PySem.W.keepIn K (.ref f) = true ∧ Binds K fd ps [] ∧ FnE P w K mg base k f fd ps (fun _ _ _ => SpF K fn)
theorem fn_okH {P : Program} {w : World} {K : PySem.W.Frag} {mg : Str → Option Value} {base : Heap} {x qual : Str} {st : Stmt} {f : Addr} {fd : FuncData} {N ps : List Str} {k : Nat} {io : List Nat} {F : M Fl} (Fu : Fun K x qual st f fd) (S : FnScope N ps (defScope st)) (hio : ∀ i ∈ io, i < ps.length)
    (hB : ∀ (cdv : Value) (A : Around) (outer : List Env) (s : Shared) (H : Hp) (E : XK) (p : Addr × Obj) (c : Value) (d : Option Addr), Hot1 A p → L2N.Zn c d p.2 → RoomH k (A.deeper (envOfC qual (defScope st) s.heap.objs.size f cdv)) →
      PSs (cxH (L2N.CX P w) P w K mg base N qual (defScope st) f cdv A outer s H E p) (defBody st) (tS K (fun c dd _ H => E c dd H) ⟨io, none⟩ F)) :
    FnE P w K mg base (k + 1) f fd ps (fun _ _ _ => SpF K ⟨ps.length, io, mkRun ps.length N.length io F⟩) := by
  refine fnE Fu S (fun _ _ _ vs H Q E h => h.1) (fun cdv A outer s H us Q E p c d hot hz hr h => ?_)
  obtain ⟨hl, B, Hs, qs, r, qs', hF, hS, hk, hE⟩ := h
  have hl : us.length = ps.length := hl
  refine ⟨_, hB cdv A outer s H E p c d hot hz hr, ?_⟩
  have hio' : ∀ i ∈ io, i < us.length := fun i hi => by rw [hl]; exact hio i hi
  have S1 := sim_enter (N.length - ps.length) hS hio'
  have hst : L2.start N us = us.map some ++ List.replicate (N.length - ps.length) none := by unfold L2.start; rw [hl]
  rw [hst]
  have hF : mkRun ps.length N.length io F qs = some (r, qs') := hF
  unfold mkRun at hF
  have hol : ∀ s : VS, (outs ps.length io s).length = us.length := fun s => by unfold outs; simp [hl]
  split at hF
  · rename_i l s' e
    cases hF
    refine ⟨_, Hs, _, _, s', e, PnOk.of (pin_fst us io), S1, ⟨fun _ _ _ q => (by cases q), fun _ _ _ q => (by cases q), fun _ _ _ q => (by cases q), fun l' v σ' H' Hs' xf q S' X' o => ?_, fun _ _ _ _ _ _ q => (by cases q)⟩⟩
    cases q
    have S2 := sim_leave S' hio'
    rw [hl] at S2
    exact hk _ v H' Hs' xf rfl (hol _) S2 o
  · rename_i s' e
    cases hF
    refine ⟨_, Hs, _, _, s', e, PnOk.of (pin_fst us io), S1, ⟨fun σ' H' Hs' q S' X' => ?_, fun _ _ _ q => (by cases q), fun _ _ _ q => (by cases q), fun _ _ _ _ _ _ q => (by cases q), fun _ _ _ _ _ _ q => (by cases q)⟩⟩
    have S2 := sim_leave S' hio'
    rw [hl] at S2
    exact hk _ .non H' Hs' [] rfl (hol _) S2 (.d .non)
  · rename_i x s' e
    cases hF
    refine ⟨_, Hs, _, _, s', e, PnOk.of (pin_fst us io), S1, ⟨fun _ _ _ q => (by cases q), fun _ _ _ q => (by cases q), fun _ _ _ q => (by cases q), fun _ _ _ _ _ _ q => (by cases q), fun x' c dd σ' H' Hs' q S' X' o => ?_⟩⟩
    cases q
    have S2 := sim_leave S' hio'
    rw [hl] at S2
    exact hE _ c dd H' Hs' rfl (hol _) S2 o
  · cases hF
section
variable {X : Cx} {W : WX} {P : Pin} {e a b o tg : Expr} {es : List Expr} {pos apos q : Pos} {k : Nat} {x m : Str} {p : Addr × Obj} {c : Value} {d : Option Addr} {fn : Fn} {Fr : M (List Pk)} {F : M D}
theorem dl_callH (Fk : FnAtH X.prog X.w X.K X.mg X.base k x fn) (hr : RoomH k X.A) (hc : Hx X p c d) (tk : L2N.Takes X W) (ha : PA X (e :: es) (tKs X.K W P Fr)) (hg : Gl X x := by rfl) (hdb : (x == ("__debug__" : Str)) = false := by decide) (he : starEach (e :: es) X.env = (false, eval e X.env) :: starEach es X.env := by rfl) (hpl : (backTo pos (starEach es X.env)).any (·.1) = false := by rfl) :
    PE X (.Call (.Name x q) (e :: es) [] pos) (tL X.K W P (fCall fn Fr)) := by
  obtain ⟨f, fd, ps, hm, hk, hb, F⟩ := Fk.ex
  refine PE_weak (pe_callE F hr hc hg hm hk hb (fun σ => L2N.passAt tk σ) ha hdb he hpl) fun σ H Q ⟨fm, Hs, vs, r', vs', hF, hP, hS, hk, hE⟩ => ?_
  dsimp only [tCallS]
  refine go hF hP hS hE fun ks vs1 us H1 Hs1 xf hg S1 X1 ⟨rx, ex⟩ => ?_
  subst ex
  exact callF_sp S1 rx hg (fun l v H' Hs' xf q S' X' o => hk l v H' Hs' xf q S' (X1.trans X') o) fun x c dd H' Hs' q S' X' o => hE x c dd H' Hs' q S' (X1.trans X') o
theorem PIH_weak {t t' : TI} (h : PIH X tg e t) (hw : ∀ σ H R, t' σ H R → t σ H R) : PIH X tg e t' := ⟨fun pins s σ H R I q => h.run pins s σ H R I (hw σ H R q)⟩
def iLstF (F : M D) : M (List D) := bd F fun d s => match d with
  | .lst xs => some (.ok xs, s)
  | _ => none
theorem di_listH (h : PE X e (tE X.K W P F)) : PIH X tg e (tI X.K W P (iLstF F)) := PIH_weak (Ht.pi_listH h) fun σ H R ⟨fm, Hs, vs, r', vs', hF, hP, hS, hk, hE⟩ => by
  dsimp only [iList]
  refine go hF hP hS hE fun d vs1 v H1 Hs1 xf hg S1 X1 ⟨rx, ex⟩ => ?_
  subst ex
  split at hg
  · rename_i xs
    cases hg
    cases rx with
    | lst k1 k2 => exact ⟨_, rfl, ⟨_, SqL.of (S1.sub _ _ k1)⟩, hk _ _ H1 Hs1 [] rfl S1 X1 ⟨itok_list (fun H e => SqL.of (e _ _ k1)) (fun _ _ _ _ => trivial) k2, rfl⟩⟩
  · cases hg
theorem di_rng1H (hm : X.mg "range" = none) (h : PE X a (tE X.K W P F)) (hg : Gl X "range" := by rfl) (hs : starEach [a] X.env = [(false, eval a X.env)] := by rfl) : PIH X tg (.Call (.Name "range" q) [a] [] pos) (tI X.K W P (iRng1F F)) :=
  PIH_weak (L2H.pi_range1H hg hm (pa_cons h pa_nil (by rw [hs]; rfl)) hs) fun σ H R ⟨fm, Hs, vs, r', vs', hF, hP, hS, hk, hE⟩ => by
    dsimp only [iRng1, tCons, tNil]
    refine go hF hP hS hE fun d vs1 v H1 Hs1 xf hg S1 X1 ⟨rx, ex⟩ => ?_
    subst ex
    split at hg
    · split at hg
      · cases hg; cases rx
        exact ⟨_, rfl, by omega, by omega, hk _ _ H1 Hs1 [] rfl S1 X1 ⟨itok_rng 0 _, rfl⟩⟩
      · cases hg
    · cases hg
theorem dl_compH {elt iter : Expr} {ifs : List Expr} {scope : Scope} {own : List (Str × Nat)} {Fi : M (List D)} {t : Tg} {C : M Bool} {Fe : M D} (hown : ∀ j ∈ t.ix, j ∈ own.map (·.2)) (hpo : ∀ i ∈ own.map (·.2), i ∉ P.ix) (hc : HotC X) (hN : X.N.Nodup) (hi : PIH X tg iter (tI X.K W P Fi)) (ok : BlkOk X.N X.env.scope scope own)
    (hg : ∀ s H C cl fp, PG (Ht.blkH X s H scope (compEnvC scope cl C X.env) fp) tg (tG X.K P t)) (ht : ∀ s H C1 cl fp, PTs (Ht.blkH X s H scope (compEnvC scope cl C1 X.env) fp) ifs (tB X.K W0 P C)) (he : ∀ s H C cl fp, PE (Ht.blkH X s H scope (compEnvC scope cl C X.env) fp) elt (tE X.K W0 P Fe)) (hs : ∀ x, foldedSetIterable iter X.env x = pure x := by intro _; rfl) :
    PE X (.ListComp elt [⟨tg, iter, ifs, 0⟩] scope pos) (tL X.K W P (fComp (own.map (·.2)) Fi t C Fe)) := PE_weak (Ht.pe_lcH hc hN hi ok hg ht he hs) (re_comp hown hpo)
end
end Ev
namespace Ev
open PySem PySem.Spec PyProof.Rows L2
open Evl (Ex)
open L2H (RoomH Hot1 PinOk cxH HotC PIH)
def rIsP (K : PySem.W.Frag) (D a : Addr) (d : Option Addr) : List V → Hp → VK → Prop := fun xs H Q => ∃ (c : V) (cv : Value) (b : Bool), xs = [.ref a, c] ∧ (∀ u, RelV c u → u = cv) ∧ PySem.W.kitOne K (.ref D) cv = some b ∧ (∀ dd, d = some dd → ∃ fs, H dd = some (.xd fs)) ∧ Q (.bl b) H
theorem cr_isP {X : Cx} {p : Addr × Obj} {D : Addr} {d : Option Addr} (C : ExcC X.K D) (h : Hx X p (.ref D) d) : CallR X (.builtin "isinstance") (rIsP X.K D p.1 d) := by
  rintro pins s σ H xs us Q I r ⟨c, cv, b, rfl, hcv, e, hd, q⟩
  cases r with
  | cons rx rr =>
    cases rr with
    | cons rt rr =>
      cases rr
      cases rx
      have ec := hcv _ rt
      subst ec
      obtain ⟨hget, _⟩ := I.pin p (List.mem_append_left _ h.mem)
      obtain ⟨_, vs, hv, _⟩ := h.hot
      have J : ∃ od, PySem.W.InstAt s.heap p.1 p.2 D od := by
        obtain ⟨pa, oe⟩ := p
        obtain ⟨z1, z2, _⟩ := h.z
        dsimp only at hget hv z1 z2 ⊢
        cases d with
        | none => exact ⟨none, hget, z1, by unfold PySem.W.notCls; rw [hv], by rw [z2]; trivial⟩
        | some dd =>
          obtain ⟨fs, hf⟩ := hd dd rfl
          obtain ⟨o, ho⟩ := objOk_get (I.hok dd _ hf)
          exact ⟨some o, hget, z1, by unfold PySem.W.notCls; rw [hv], by rw [z2]; exact ho⟩
      obtain ⟨od, J⟩ := J
      have hcl : (PySem.W.clsIn X.K D).isSome = true := by
        obtain ⟨cd, hc, _⟩ := PySem.W.any_some C.hd
        rw [hc]; rfl
      exact PySem.W.kia_one (PySem.W.kitx_exc hcl C.hg C.hk C.hs C.ha C.hn C.ht C.hm) I.kIn J e (fun z => nomatch z) fun tk => ⟨.bl b, H, I.kept (t' := tk) fun _ _ z => z, rfl, q⟩
section
variable {X : Cx} {W : WX} {P : Pin} {e : Expr} {es : List Expr} {pos apos q q1 q2 : Pos} {k i : Nat} {y n : Str} {p : Addr × Obj} {d : Option Addr} {x : Xn}
theorem PnOk.at {K : PySem.W.Frag} {fm : Fm} {Hs : Hp} {vs : VS} {σ : L2.St} {H : Hp} {xf : List Addr} {a : Addr} (hP : PnOk K fm P) (S : Sim K fm Hs vs σ H xf) (he : P.ex = some (i, a, d, x)) : σ[i]? = some (some (.ref a)) := by
  obtain ⟨_, s⟩ := S
  exact s.pins _ (hP.2 _ _ _ _ he).1
theorem PnOk.xd {K : PySem.W.Frag} {fm : Fm} {Hs : Hp} {vs : VS} {σ : L2.St} {H : Hp} {xf : List Addr} {a : Addr} {fs : List Str} {ds : List D} (hP : PnOk K fm P) (S : Sim K fm Hs vs σ H xf) (he : P.ex = some (i, a, d, x)) (hf : x.fs = some (fs, ds)) :
    ∃ dd kvs, d = some dd ∧ H dd = some (.xd kvs) ∧ kvs.map (·.1) = fs ∧ RepL K Hs (kvs.map (·.2)) ds := by
  obtain ⟨dd, kvs, e1, e2, e3, e4⟩ := (hP.2 _ _ _ _ he).2 fs ds hf
  obtain ⟨_, s⟩ := S
  exact ⟨dd, kvs, e1, s.base _ _ e2, e3, e4.mono s.grow⟩
theorem re_isP {cv : Value} {cV : V} {bb : Bool} (he : P.ex = some (i, p.1, d, x)) (hd : dOk d x) (hv : ∀ u, RelV cV u → u = cv) (hk : PySem.W.kitOne X.K (.ref x.C) cv = some bb) :
    ∀ σ H Q, tE X.K W P (rt (.bl bb)) σ H Q → tCB (rIsP X.K x.C p.1 d) (tCons (tVar i) (tCons (tC cV) tNil)) σ H Q := fun σ H Q ⟨fm, Hs, vs, r', vs', hF, hP, hS, hk', hE⟩ => by
  cases hF
  refine ⟨.ref p.1, hP.at hS he, cV, cv, bb, rfl, hv, hk, fun dd e => ?_, hk' _ _ H Hs [] rfl hS (Ex.refl _) ⟨.bl _, rfl⟩⟩
  subst e
  cases ef : x.fs with
  | none => have := hd rfl; rw [ef] at this; cases this
  | some q =>
    obtain ⟨dd', kvs, e1, e2, _⟩ := hP.xd hS he (fs := q.1) (ds := q.2) ef
    cases e1
    exact ⟨kvs, e2⟩
theorem de_isE {cn : Str} {bb : Bool} (C : ExcC X.K x.C) (h : Hx X p (.ref x.C) d) (he : P.ex = some (i, p.1, d, x)) (hd : dOk d x) (hv : PE X (.Name n q1) (tVar i)) {C' : Addr} (hm2 : X.mg cn = some (.ref C')) (hk : PySem.W.kitOne X.K (.ref x.C) (.ref C') = some bb)
    (hm : X.mg "isinstance" = none) (hg2 : Gl X cn := by rfl) (hd2 : (cn == ("__debug__" : Str)) = false := by decide) (hg : Gl X "isinstance" := by rfl) (hs1 : starEach [.Name n q1, .Name cn q2] X.env = (false, eval (.Name n q1) X.env) :: starEach [.Name cn q2] X.env := by rfl) (hs2 : starEach [.Name cn q2] X.env = (false, eval (.Name cn q2) X.env) :: starEach [] X.env := by rfl)
    (hpl : (backTo pos (starEach [.Name cn q2] X.env)).any (·.1) = false := by rfl) : PE X (.Call (.Name "isinstance" q) [.Name n q1, .Name cn q2] [] pos) (tE X.K W P (rt (.bl bb))) :=
  PE_weak (pe_callB (cr_isP C h) hg hm (by decide +kernel) (pa_cons hv (pa_cons (pe_glob (v := .ref C') hg2 hm2 rfl hd2) pa_nil hs2) hs1) (by decide) (by decide) hs1 hpl) (re_isP he hd (fun u r => r) hk)
theorem de_isV {bb : Bool} (C : ExcC X.K x.C) (h : Hx X p (.ref x.C) d) (he : P.ex = some (i, p.1, d, x)) (hd : dOk d x) (hv : PE X (.Name n q1) (tVar i)) (hm2 : X.mg "ValueError" = none) (hk : PySem.W.kitOne X.K (.ref x.C) (.type "ValueError") = some bb)
    (hm : X.mg "isinstance" = none) (hg2 : Gl X "ValueError" := by rfl) (hg : Gl X "isinstance" := by rfl) (hs1 : starEach [.Name n q1, .Name "ValueError" q2] X.env = (false, eval (.Name n q1) X.env) :: starEach [.Name "ValueError" q2] X.env := by rfl) (hs2 : starEach [.Name "ValueError" q2] X.env = (false, eval (.Name "ValueError" q2) X.env) :: starEach [] X.env := by rfl)
    (hpl : (backTo pos (starEach [.Name "ValueError" q2] X.env)).any (·.1) = false := by rfl) : PE X (.Call (.Name "isinstance" q) [.Name n q1, .Name "ValueError" q2] [] pos) (tE X.K W P (rt (.bl bb))) :=
  PE_weak (pe_callB (cr_isP C h) hg hm (by decide +kernel) (pa_cons hv (pa_cons (pe_bltn (v := .ty "ValueError") (u := .type "ValueError") hg2 hm2 PyProof.Rows.Boot.«ValueError» rfl) pa_nil hs2) hs1) (by decide) (by decide) hs1 hpl) (re_isP he hd (fun u r => r) hk)
def fXf (x : Xn) (f : Str) : M D := fun s => match x.fs with
  | some (fs, ds) => (match (fs.zip ds).lookup f with
    | some v => some (.ok v, s)
    | none => none)
  | none => none
theorem lookup_rep {K : PySem.W.Frag} {H : Hp} {f : Str} : ∀ {kvs : List (Str × V)} {fs : List Str} {ds : List D} {v : D}, kvs.map (·.1) = fs → RepL K H (kvs.map (·.2)) ds → (fs.zip ds).lookup f = some v → ∃ u, kvs.lookup f = some u ∧ Rep K H u v
  | [], fs, ds, v, e, r, h => by subst e; cases h
  | kv :: kvs, fs, ds, v, e, r, h => by
    subst e
    cases ds with
    | nil => cases r
    | cons d ds =>
      cases r with
      | cons r1 r2 =>
        rw [List.map_cons, List.zip_cons_cons, List.lookup_cons] at h
        rw [List.lookup_cons]
        by_cases z : (f == kv.1) = true
        · rw [z] at h ⊢
          cases h
          exact ⟨_, rfl, r1⟩
        · rw [Bool.not_eq_true] at z
          rw [z] at h ⊢
          exact lookup_rep rfl r2 h
theorem de_xf {Y : Cx} {a : Addr} {oe : Obj} {pn : List (Addr × Obj)} {f : Str} (T : XfC Y.K x.C) (hno : PySem.W.findIn Y.K (.ref x.C) f = some none) (hz : L2N.Zn (.ref x.C) d oe) (hf : ∃ vs, oe.data = .fields vs) (he : P.ex = some (i, a, d, x)) (hv : PE (Y.suite a ((a, oe) :: pn)) (.Name n q1) (tVar i))
    (hb : attributeBase (.Name n q1) f (Y.suite a ((a, oe) :: pn)).env (eval (.Name n q1) (Y.suite a ((a, oe) :: pn)).env) = eval (.Name n q1) (Y.suite a ((a, oe) :: pn)).env := by rfl) :
    PE (Y.suite a ((a, oe) :: pn)) (.Attribute (.Name n q1) f pos) (tE Y.K W P (fXf x f)) := by
  refine PE_weak (pe_xf T hno hz.zc hf hv) fun σ H Q ⟨fm, Hs, vs, r', vs', hF, hP, hS, hk, hE⟩ => ?_
  unfold fXf at hF
  split at hF
  · rename_i fs ds ef
    split at hF
    · rename_i v ev
      cases hF
      obtain ⟨dd, kvs, e1, e2, e3, e4⟩ := hP.xd hS he ef
      obtain ⟨u, e5, r5⟩ := lookup_rep e3 e4 ev
      exact ⟨.ref a, hP.at hS he, rfl, rfl, dd, kvs, u, e1, e2, e5, hk _ u H Hs [] rfl hS (Ex.refl _) ⟨r5, rfl⟩⟩
    · cases hF
  · cases hF
end
end Ev
namespace Ev
open PySem PySem.Spec PyProof.Rows L2
open Evl (Ex)
open L2H (RoomH Hot1 PinOk cxH HotC PIH)
def XB (K : PySem.W.Frag) (B Hs : Hp) (d : Option Addr) (x : Xn) : Prop := ∀ fs ds, x.fs = some (fs, ds) → ∃ dd kvs, d = some dd ∧ B dd = some (.xd kvs) ∧ kvs.map (·.1) = fs ∧ RepL K Hs (kvs.map (·.2)) ds
def SpI (K : PySem.W.Frag) (cs : List Addr) (run : Xn → M L) : Addr → Value → Option Addr → Sp := fun a c d us H Q _ => us.length = 2 ∧ ∃ x w B Hs ps r ps', c = .ref x.C ∧ x.C ∈ cs ∧ dOk d x ∧ us = [.ref a, w] ∧ run x ps = some (r, ps') ∧ Sim K ⟨B, Hs, []⟩ Hs ps (us.map some) H [] ∧ XB K B Hs d x ∧
  ∃ l, r = .ok l ∧ ∀ v H' Hs' xf, Sim K ⟨B, Hs, []⟩ Hs' ps' (us.map some) H' xf → LOk K Hs' H' v l xf → Q v H'
structure FnAtI (P : Program) (w : World) (K : PySem.W.Frag) (mg : Str → Option Value) (base : Heap) (k : Nat) (x : Str) (cs : List Addr) (run : Xn → M L) : Prop where
  ex : ∃ f fd ps, mg x = some (.ref f) ∧ PySem.W.keepIn K (.ref f) = true ∧ Binds K fd ps [] ∧ FnE P w K mg base k f fd ps (SpI K cs run)
theorem fn_okI {P : Program} {w : World} {K : PySem.W.Frag} {mg : Str → Option Value} {base : Heap} {x qual : Str} {st : Stmt} {f : Addr} {fd : FuncData} {N ps : List Str} {k : Nat} {cs : List Addr} {F : Xn → M Fl} (Fu : Fun K x qual st f fd) (S : FnScope N ps (defScope st)) (hps : ps.length = 2)
    (hB : ∀ (cdv : Value) (A : Around) (outer : List Env) (s : Shared) (H : Hp) (E : XK) (p : Addr × Obj) (d : Option Addr) (x : Xn), x.C ∈ cs → dOk d x → Hot1 A p → L2N.Zn (.ref x.C) d p.2 → RoomH k (A.deeper (envOfC qual (defScope st) s.heap.objs.size f cdv)) →
      PSs (cxH (L2N.CX P w) P w K mg base N qual (defScope st) f cdv A outer s H E p) (defBody st) (tS K (fun c dd _ H => E c dd H) ⟨[0], some (0, p.1, d, x)⟩ (F x))) :
    FnE P w K mg base (k + 1) f fd ps (SpI K cs fun x => mkRun 2 N.length [] (F x)) := by
  refine fnE Fu S (fun _ _ _ vs H Q E h => h.1.trans hps.symm) (fun cdv A outer s H us Q E p c d hot hz hr h => ?_)
  obtain ⟨hl, x0, wv, B, Hs, qs, r, qs', ec, hx, hd, eu, hF, hS, hXB, l0, el, hk⟩ := h
  subst ec eu el
  refine ⟨_, hB cdv A outer s H E p d x0 hx hd hot hz hr, ?_⟩
  have S1 := sim_enter (io := [0]) (N.length - 2) hS (by simp)
  have hst : L2.start N [V.ref p.1, wv] = [V.ref p.1, wv].map some ++ List.replicate (N.length - 2) none := by unfold L2.start; rfl
  rw [hst]
  have hP : PnOk K ⟨B, Hs, [0].map fun i => (i, [V.ref p.1, wv].getD i .non)⟩ ⟨[0], some (0, p.1, d, x0)⟩ := ⟨rfl, fun i a dd x e => by
    cases e
    exact ⟨List.mem_singleton.mpr rfl, hXB⟩⟩
  have leave : ∀ {Hs' H' : Hp} {s' : VS} {σ' : L2.St} {xf : List Addr}, Sim K ⟨B, Hs, [0].map fun i => (i, [V.ref p.1, wv].getD i .non)⟩ Hs' s' σ' H' xf → Sim K ⟨B, Hs, []⟩ Hs' (outs 2 [] s') ([V.ref p.1, wv].map some) H' xf := fun {Hs' H' s' σ' xf} t => by
    have t2 := sim_leave t (by simp)
    obtain ⟨ft, z⟩ := t2
    refine ⟨ft, ⟨z.sub, z.base, z.grow, z.new, rfl, fun i m e => ?_, z.nd, z.dj, z.sp, z.xnd, z.xdj, z.xsp, z.pins⟩⟩
    have : ¬ (i ∈ ([] : List Nat)) := by simp
    exact absurd (outs_get e).2.1 this
  unfold mkRun at hF
  dsimp only at hF
  split at hF
  · rename_i l s' e
    cases hF
    exact ⟨_, Hs, _, _, s', e, hP, S1, ⟨fun _ _ _ q => (by cases q), fun _ _ _ q => (by cases q), fun _ _ _ q => (by cases q), fun l' v σ' H' Hs' xf q S' X' o => (by cases q; exact hk v H' Hs' xf (leave S') o), fun _ _ _ _ _ _ q => (by cases q)⟩⟩
  · rename_i s' e
    cases hF
    exact ⟨_, Hs, _, _, s', e, hP, S1, ⟨fun σ' H' Hs' q S' X' => hk .non H' Hs' [] (leave S') (.d .non), fun _ _ _ q => (by cases q), fun _ _ _ q => (by cases q), fun _ _ _ _ _ _ q => (by cases q), fun _ _ _ _ _ _ q => (by cases q)⟩⟩
  · cases hF
  · cases hF
theorem Sim.after0 {K : PySem.W.Frag} {fm : Fm} {Hs Hs' : Hp} {vs ps' : VS} {σ σ' : L2.St} {H H' : Hp} {xf : List Addr} (S : Sim K fm Hs vs σ H []) (t : Sim K ⟨H, Hs, []⟩ Hs' ps' σ' H' xf) : Sim K fm Hs' vs σ H' xf ∧ Ex Hs Hs' := by
  obtain ⟨ft, s⟩ := S
  obtain ⟨fo, t⟩ := t
  have same : ∀ j b, b ∈ ft j → H' b = H b := fun j b hb => by
    cases e : H b with
    | none => exact absurd e (s.sp j b hb).2.2
    | some o => exact t.base b o e
  refine ⟨⟨ft, ⟨t.sub, fun b u e => t.base b u (s.base b u e), fun b u e => t.grow b u (s.grow b u e), fun b hb => ?_, s.len, fun j l e => ?_, s.nd, s.dj, fun j b hb => ?_, t.xnd, fun j b hb hx => ?_, fun b hb => ?_, s.pins⟩⟩, t.grow⟩
  · rcases t.new b hb with h | h
    · exact s.new b h
    · exact .inr (Evl.fresh_back s.base h)
  · obtain ⟨v, e1, r⟩ := s.ok j l e
    exact ⟨v, e1, r.mono t.grow l fun b hb => same j b hb⟩
  · obtain ⟨q1, q2, q3⟩ := s.sp j b hb
    refine ⟨?_, q2, by rw [same j b hb]; exact q3⟩
    cases q : Hs' b with
    | none => rfl
    | some o =>
      rcases t.new b (by rw [q]; simp) with h | h
      · exact absurd q1 h
      · exact absurd h q3
  · exact (s.sp j b hb).2.2 (t.xsp b hx).2.1
  · obtain ⟨q1, q2, q3⟩ := t.xsp b hb
    exact ⟨q1, Evl.fresh_back s.base q2, q3⟩
def fAskE (run : Xn → M L) (x : Xn) (Fw : M D) : M D := bd Fw fun w s => match run x [none, some (.d w)] with
  | some (.ok (.d v), _) => some (.ok v, s)
  | _ => none
section
variable {X : Cx} {W : WX} {P : Pin} {e : Expr} {es : List Expr} {pos apos q q1 : Pos} {k i : Nat} {y n : Str} {p : Addr × Obj} {d : Option Addr} {x : Xn} {cs : List Addr} {run : Xn → M L} {Fw : M D}
theorem de_askE (Fk : FnAtI X.prog X.w X.K X.mg X.base k y cs run) (hr : RoomH k X.A) (h : Hx X p (.ref x.C) d) (he : P.ex = some (i, p.1, d, x)) (hx : x.C ∈ cs) (hd : dOk d x) (tk : L2N.Takes X W) (hv : PE X (.Name n q1) (tVar i)) (hw : PE X e (tE X.K W P Fw)) (hg : Gl X y := by rfl) (hdb : (y == ("__debug__" : Str)) = false := by decide)
    (hs1 : starEach [.Name n q1, e] X.env = (false, eval (.Name n q1) X.env) :: starEach [e] X.env := by rfl) (hs2 : starEach [e] X.env = (false, eval e X.env) :: starEach [] X.env := by rfl) (hpl : (backTo pos (starEach [e] X.env)).any (·.1) = false := by rfl) :
    PE X (.Call (.Name y q) [.Name n q1, e] [] pos) (tE X.K W P (fAskE run x Fw)) := by
  obtain ⟨f, fd, ps, hm, hk, hb, F⟩ := Fk.ex
  refine PE_weak (pe_callE F hr h hg hm hk hb (fun σ => L2N.passAt tk σ) (pa_cons hv (pa_cons hw pa_nil hs2) hs1) hdb hs1 hpl) fun σ H Q ⟨fm, Hs, vs, r', vs', hF, hP, hS, hk, hE⟩ => ?_
  dsimp only [tCallS, tCons, tNil]
  refine ⟨.ref p.1, hP.at hS he, go hF hP hS hE fun w vs1 v H1 Hs1 xf hg S1 X1 ⟨rv, ex⟩ => ?_⟩
  subst ex
  split at hg
  · rename_i l ps' er
    cases hg
    have S0 : Sim X.K ⟨H1, Hs1, []⟩ Hs1 [none, some (.d w)] ([V.ref p.1, v].map some) H1 [] := by
      refine ⟨fun _ => [], ⟨S1.sub, Ex.refl _, Ex.refl _, fun b hb => .inl hb, rfl, fun j l e => ?_, fun _ => by simp, fun _ _ _ q => by simp at q, fun _ _ q => by simp at q, by simp, fun _ _ q => by simp at q, fun _ q => by simp at q, fun _ q => by cases q⟩⟩
      match j, e with
      | 1, e => cases e; exact ⟨v, rfl, .d rv⟩
      | 0, e => cases e
      | j + 2, e => simp at e
    refine ⟨rfl, x, v, H1, Hs1, _, _, ps', rfl, hx, hd, rfl, er, S0, fun fs ds ef => hP.xd S1 he ef, _, rfl, fun v' H' Hs' xf t o => ?_⟩
    obtain ⟨S2, X2⟩ := S1.after0 t
    cases o with
    | d o => exact hk _ v' H' Hs' [] rfl S2 (X1.trans X2) ⟨o, rfl⟩
  · cases hg
theorem Hx.suite {a : Addr} {oe : Obj} {pn : List (Addr × Obj)} {c : Value} (hz : L2N.Zn c d oe) (hv : ∃ vs, oe.data = .fields vs) : Hx (X.suite a ((a, oe) :: pn)) (a, oe) c d := by
  obtain ⟨vs, hv⟩ := hv
  exact ⟨⟨rfl, vs, hv, hz.2.2 vs hv⟩, List.mem_cons_self .., hz⟩
end
end Ev
namespace Ev
open PySem PySem.Spec PyProof.Rows L2
open Evl (Ex)
structure FunX (K : PySem.W.Frag) (mg : Str → Option Value) (x : Str) (C : Addr) (qual : Str) (ps : List Str) (st : Stmt) : Prop where
  ex : ∃ fI fd, mg x = some (.ref C) ∧ OexC K C ∧ PySem.W.findIn K (.ref C) "__init__" = some (some (.ref fI)) ∧ PySem.W.typeIn K (.ref fI) = some (.type "function") ∧ Binds K fd ps [] ∧ Fun K "__init__" qual st fI fd
abbrev BodyX (P : Program) (w : World) (K : PySem.W.Frag) (mg : Str → Option Value) (base : Heap) (N : List Str) (qual : Str) (st : Stmt) (k : Nat) (t : TS) : Prop :=
  ∀ (f : Addr) (cdv : Value) (A : Around) (outer : List Env) (s : Shared) (H : Hp) (E : XK), Room k (A.deeper (envOfC qual (defScope st) s.heap.objs.size f cdv)) → PSs (cxOf (L2N.CX P w) P w K mg base N qual (defScope st) f cdv A outer s H E) (defBody st) t
section
variable {P : Program} {w : World} {K : PySem.W.Frag} {mg : Str → Option Value} {base : Heap} {k : Nat} {x qual n0 n1 n2 f g m : Str} {C : Addr} {st : Stmt}
theorem xk1_at (G : FunX K mg x C qual [n0, n1] st) (S : FnScope [n0, n1] [n0, n1] (defScope st)) (hf : PySem.W.findIn K (.ref C) f = some none)
    (hB : BodyX P w K mg base [n0, n1] qual st k (tSeq (tDrop (tVeI K (tCons (tVar 0) (tCons (tC (.str m)) tNil)))) (tOst K f (tVar 0) (tVar 1)))) : XkAt P w K mg base (k + 1) x C 1 [f] [0] := by
  obtain ⟨fI, fd, hm, T, iC, tI, hb, Fu⟩ := G.ex
  refine ⟨fI, fd, [n0, n1], hm, T, iC, tI, hb, okN Fu S (fun vs H Q E h => h.1) fun cdv A outer s H us Q E hr h => ?_⟩
  obtain ⟨hl, a, ws, rfl, ha, hq⟩ := h
  obtain ⟨v, rfl⟩ : ∃ v, ws = [v] := by
    match ws, hl with
    | [v], _ => exact ⟨v, rfl⟩
  refine ⟨_, hB fI cdv A outer s H E hr, .ref a, rfl, a, C, [.str m], rfl, by simp, T, ha, v, rfl, .ref a, rfl, a, C, rfl, T, hf, .inl ⟨ha, fun d hd hda => ?_⟩⟩
  exact hq d [(f, v)] _ hd hda (fun b h1 h2 => by rw [upd_ne h1, upd_ne h2]) upd_same (by rw [upd_ne hda, upd_same]) rfl rfl
theorem xk2_at (G : FunX K mg x C qual [n0, n1, n2] st) (S : FnScope [n0, n1, n2] [n0, n1, n2] (defScope st)) (hf : PySem.W.findIn K (.ref C) f = some none) (hg : PySem.W.findIn K (.ref C) g = some none)
    (hB : BodyX P w K mg base [n0, n1, n2] qual st k (tSeq (tDrop (tVeI K (tCons (tVar 0) (tCons (tVar 2) tNil)))) (tSeq (tOst K f (tVar 0) (tVar 1)) (tOst K g (tVar 0) (tVar 2))))) : XkAt P w K mg base (k + 1) x C 2 [g, f] [1, 0] := by
  obtain ⟨fI, fd, hm, T, iC, tI, hb, Fu⟩ := G.ex
  refine ⟨fI, fd, [n0, n1, n2], hm, T, iC, tI, hb, okN Fu S (fun vs H Q E h => h.1) fun cdv A outer s H us Q E hr h => ?_⟩
  obtain ⟨hl, a, ws, rfl, ha, hq⟩ := h
  obtain ⟨v, u, rfl⟩ : ∃ v u, ws = [v, u] := by
    match ws, hl with
    | [v, u], _ => exact ⟨v, u, rfl⟩
  refine ⟨_, hB fI cdv A outer s H E hr, .ref a, rfl, u, rfl, a, C, [u], rfl, by simp, T, ha, v, rfl, .ref a, rfl, a, C, rfl, T, hf, .inl ⟨ha, fun d hd hda => ?_⟩⟩
  refine ⟨u, rfl, .ref a, rfl, a, C, rfl, T, hg, .inr ⟨d, [(f, v)], upd_same, by rw [upd_ne hda, upd_same], by simp, ?_⟩⟩
  exact hq d [(g, u), (f, v)] _ hd hda (fun b h1 h2 => by rw [upd_ne h2, upd_ne h1, upd_ne h2]) (by rw [upd_ne (Ne.symm hda), upd_same]) upd_same rfl rfl
end
def oexB (K : PySem.W.Frag) (C : Addr) : Bool := match K.lookup C with
  | some ⟨.type "type", _, .cls cd, sl⟩ => (match cd.mro, sl.toList with
    | .ref D :: bm, [_, _, _, _, some (.builtin id), _] => (D == C) && (cd.hasDict && (!cd.hasDel && ((id == "ValueError.__new__") && PySem.HandSPX.refsVE bm)))
    | _, _ => false)
  | _ => false
theorem oexB_ok {K : PySem.W.Frag} {C : Addr} (h : oexB K C = true) : ∃ nm q N bs bm sn sub ab col dd k0 k1 k2 k3 k5, K.lookup C = some (excClassObj nm q C N bs bm true sn sub ab col dd k0 k1 k2 k3 k5 "ValueError.__new__") ∧ PySem.HandSPX.refsVE bm = true := by
  unfold oexB at h
  split at h
  · rename_i dd cd sl hl
    split at h
    · rename_i D bm k0 k1 k2 k3 id k5 em es
      simp only [Bool.and_eq_true, beq_iff_eq, Bool.not_eq_true'] at h
      obtain ⟨rfl, h1, h2, rfl, h3⟩ := h
      obtain ⟨nm, bs, mro, ns, qn, hd, sn, sub, ab, col, del⟩ := cd
      dsimp only at em h1 h2
      subst em h1 h2
      have e : sl = #[k0, k1, k2, k3, some (.builtin "ValueError.__new__"), k5] := by rw [← es]
      subst e
      exact ⟨nm, qn, ns, bs, bm, sn, sub, ab, col, dd, k0, k1, k2, k3, k5, hl, h3⟩
    · cases h
  · cases h
inductive XFa where
  | oex (x : Str)
  | bas (x : Str)
  | xf (x : Str)
  | kit (x y : Str) (b : Bool)
  | kiv (x : Str)
  | ne (x y : Str)
def eqV1 (a b : Option Bool) : Bool := decide (a = b)
def XFa.ok (K : PySem.W.Frag) : XFa → Bool
  | .oex x => oexB K (He.ga K x) && (He.eqO (PySem.W.findIn K (.ref (He.ga K x)) "__setattr__") (some (some (.builtin "object.__setattr__"))) && (decide (PySem.W.subIn K (.ref (He.ga K x)) (.type "BaseException") = some true) && (decide (PySem.W.typeIn K (.ref (He.ga K x)) = some (.type "type")) && (PySem.W.keepIn K (.ref (He.ga K x)) &&
      (He.eqO (PySem.W.findIn K (.ref (He.ga K x)) "__init__") (some (some (.ref (He.ma K (He.ga K x) "__init__")))) && decide (PySem.W.typeIn K (.ref (He.ma K (He.ga K x) "__init__")) = some (.type "function")))))))
  | .bas x => He.eqO (PySem.W.specialIn K (.ref (He.ga K x)) "__getattribute__") (some (some (.builtin "type.__getattribute__"))) && (PySem.W.readsIn K (He.ga K x) (.type "type") && (match PySem.W.findCls K (.ref (He.ga K x)) (.type "type") "__init__" with
      | some (.val (.builtin id)) => id == "ValueError.__init__"
      | _ => false))
  | .xf x => He.eqO (PySem.W.findIn K (.ref (He.ga K x)) "__getattribute__") (some (some (.builtin "BaseException.__getattribute__"))) && (He.eqO (PySem.W.findIn K (.ref (He.ga K x)) "__getattr__") (some none) && (decide (PySem.W.subIn K (.ref (He.ga K x)) (.type "BaseException") = some true) && (PySem.W.hasDictIn K (He.ga K x) &&
      (He.eqO (PySem.W.findIn K (.ref (He.ga K x)) "__class__") (some (some (.builtin "object.__class__"))) && (He.eqO (PySem.W.specialIn K (.builtin "object.__class__") "__get__") (some (some (.builtin "getset_descriptor.__get__"))) && (eqV1 (PySem.W.takesIn K (.builtin "object.__class__")) (some true) && eqV1 (PySem.W.mroIn K (He.ga K x) (.type "object")) (some true)))))))
  | .kit x y b => eqV1 (PySem.W.kitOne K (.ref (He.ga K x)) (.ref (He.ga K y))) (some b)
  | .kiv x => eqV1 (PySem.W.kitOne K (.ref (He.ga K x)) (.type "ValueError")) (some true)
  | .ne x y => decide (He.ga K x ≠ He.ga K y)
section
variable {K : PySem.W.Frag} {x y : Str}
theorem oex_ok (h : (XFa.oex x).ok K = true) : OexC K (He.ga K x) ∧ PySem.W.findIn K (.ref (He.ga K x)) "__init__" = some (some (.ref (He.ma K (He.ga K x) "__init__"))) ∧ PySem.W.typeIn K (.ref (He.ma K (He.ga K x) "__init__")) = some (.type "function") := by
  obtain ⟨h1, h⟩ := He.ba h
  obtain ⟨h2, h⟩ := He.ba h
  obtain ⟨h3, h⟩ := He.ba h
  obtain ⟨h4, h⟩ := He.ba h
  obtain ⟨h5, h⟩ := He.ba h
  obtain ⟨h6, h7⟩ := He.ba h
  exact ⟨⟨oexB_ok h1, He.eqO_ok h2, of_decide_eq_true h3, of_decide_eq_true h4, h5⟩, He.eqO_ok h6, of_decide_eq_true h7⟩
structure BasAt (K : PySem.W.Frag) (mg : Str → Option Value) (y : Str) (B : Addr) : Prop where
  g : mg y = some (.ref B)
  ga : PySem.W.specialIn K (.ref B) "__getattribute__" = some (some (.builtin "type.__getattribute__"))
  rd : PySem.W.readsIn K B (.type "type") = true
  fi : PySem.W.findCls K (.ref B) (.type "type") "__init__" = some (.val (.builtin "ValueError.__init__"))
theorem bas_ok {mg : Str → Option Value} (hm : mg x = some (.ref (He.ga K x))) (h : (XFa.bas x).ok K = true) : BasAt K mg x (He.ga K x) := by
  obtain ⟨h1, h⟩ := He.ba h
  obtain ⟨h2, h3⟩ := He.ba h
  refine ⟨hm, He.eqO_ok h1, h2, ?_⟩
  split at h3
  · rename_i id e
    rw [e, beq_iff_eq.mp h3]
  · cases h3
theorem xf_ok (h : (XFa.xf x).ok K = true) : ExcC K (He.ga K x) ∧ XfC K (He.ga K x) := by
  obtain ⟨h1, h⟩ := He.ba h
  obtain ⟨h2, h⟩ := He.ba h
  obtain ⟨h3, h⟩ := He.ba h
  obtain ⟨h4, h⟩ := He.ba h
  obtain ⟨h5, h⟩ := He.ba h
  obtain ⟨h6, h⟩ := He.ba h
  obtain ⟨h7, h8⟩ := He.ba h
  have e1 := He.eqO_ok h1
  have e2 := He.eqO_ok h2
  have e3 := of_decide_eq_true h3
  refine ⟨⟨e1, e2, e3, h4, He.eqO_ok h5, He.eqO_ok h6, of_decide_eq_true h7, of_decide_eq_true h8⟩, xfB_ok ?_⟩
  unfold xfB
  rw [e1, e2, e3, h4]
  rfl
theorem kit_ok {b : Bool} (h : (XFa.kit x y b).ok K = true) : PySem.W.kitOne K (.ref (He.ga K x)) (.ref (He.ga K y)) = some b := of_decide_eq_true h
theorem kiv_ok (h : (XFa.kiv x).ok K = true) : PySem.W.kitOne K (.ref (He.ga K x)) (.type "ValueError") = some true := of_decide_eq_true h
theorem xne_ok (h : (XFa.ne x y).ok K = true) : He.ga K x ≠ He.ga K y := of_decide_eq_true h
theorem xc0_ok {mg : Str → Option Value} (hm : mg x = some (.ref (He.ga K x))) (h : (He.Fa.exc x).ok K = true) : X0At K mg x (He.ga K x) := by
  obtain ⟨h1, h⟩ := He.ba h
  obtain ⟨h2, h⟩ := He.ba h
  obtain ⟨h3, h4⟩ := He.ba h
  exact ⟨hm, h1, h2, of_decide_eq_true h3, of_decide_eq_true h4⟩
theorem xexm_ok {b : Bool} (h : (He.Fa.exm x y b).ok K = true) : PySem.W.exmOne K (.ref (He.ga K x)) (.ref (He.ga K y)) = some b := of_decide_eq_true h
end
abbrev AlX : Type := AlU × List Bool
def obsX (fa : List He.Fa) (fn : List He.DefD) (ts : List TabU) (xs : List XFa) (K : PySem.W.Frag) : AlX := (obsU fa fn ts K, xs.map (·.ok K))
def valX (fn : List He.DefD) (ts : List TabU) (xs : List XFa) (w : World) : AlX := (valU fn ts w, xs.map fun _ => true)
def obsXG (n : Nat) (fa : List He.Fa) (fn : List He.DefD) (ts : List TabU) (xs : List XFa) (g : Addr → Option Obj) : AlX := obsX fa fn ts xs (He.frG g (PySem.cStatics :: He.asD g n))
def SaysX (fa : List He.Fa) (fn : List He.DefD) (ts : List TabU) (xs : List XFa) (w : World) (K : PySem.W.Frag) : Prop := obsX fa fn ts xs K = valX fn ts xs w
def hookX (n : Nat) (fa : List He.Fa) (fn : List He.DefD) (ts : List TabU) (xs : List XFa) : PySem.W.Hook where
  α := AlX
  obs := fun s => obsXG n fa fn ts xs s.heap.get?
  val := fun w => valX fn ts xs w
  says := fun w h => ∃ K : PySem.W.Frag, K.In h ∧ SaysX fa fn ts xs w K
  of := fun _ _ e => ⟨_, He.frG_in, e⟩
  keeps := fun _ _ _ ⟨K, hK, c⟩ k => ⟨K, PySem.W.Frag.In.keeps hK k, c⟩
theorem obsXG_eq {n : Nat} {fa : List He.Fa} {fn : List He.DefD} {ts : List TabU} {xs : List XFa} {g : Addr → Option Obj} {s : Shared} (h : ∀ a, g a = s.heap.get? a) : obsXG n fa fn ts xs g = (hookX n fa fn ts xs).obs s := by
  have e : g = s.heap.get? := funext h
  rw [e] <;> rfl
section
variable {fa : List He.Fa} {fn : List He.DefD} {ts : List TabU} {xs : List XFa} {w : World} {K : PySem.W.Frag}
theorem SaysX.u (c : SaysX fa fn ts xs w K) : SaysU fa fn ts w K := congrArg (fun z : AlX => z.1) c
theorem SaysX.x (c : SaysX fa fn ts xs w K) (i : Nat) {f : XFa} (h : xs[i]? = some f := by rfl) : f.ok K = true := by
  have e : xs.map (·.ok K) = xs.map fun _ => true := congrArg (fun z : AlX => z.2) c
  have e2 := congrArg (fun l : List Bool => l[i]?) e
  rw [List.getElem?_map, List.getElem?_map, h] at e2
  exact Option.some.inj e2
end
end Ev
namespace Ev
open PySem PySem.Spec PyProof.Rows L2
open Evl (Ex)
section
variable {K : PySem.W.Frag} {fm : Fm} {Hs : Hp} {vs : VS} {σ : L2.St} {H : Hp} {xf : List Addr}
open Classical in
def Fm.parkF (fm : Fm) (f : List Addr) (H : Hp) : Fm := { fm with B := fun b => if b ∈ f then H b else fm.B b }
open Classical in
theorem parkF_in {f : List Addr} {b : Addr} (h : b ∈ f) : (fm.parkF f H).B b = H b := if_pos h
open Classical in
theorem parkF_out {f : List Addr} {b : Addr} (h : b ∉ f) : (fm.parkF f H).B b = fm.B b := if_neg h
theorem Sim.parkF (S : Sim K fm Hs vs σ H xf) : Sim K (fm.parkF xf H) Hs vs σ H [] ∧ (∀ b ∈ xf, Hs b = none ∧ fm.B b = none ∧ H b ≠ none) ∧ xf.Nodup := by
  obtain ⟨ft, s⟩ := S
  refine ⟨⟨ft, ⟨s.sub, fun b u e => ?_, s.grow, fun b hb => ?_, s.len, s.ok, s.nd, s.dj, fun j b hb => ?_, by simp, fun _ _ _ q => by simp at q, fun _ q => by simp at q, s.pins⟩⟩, s.xsp, s.xnd⟩
  · by_cases h : b ∈ xf
    · rw [parkF_in h] at e; exact e
    · rw [parkF_out h] at e; exact s.base b u e
  · have hx : b ∉ xf := fun h => hb (s.xsp b h).1
    rcases s.new b hb with h | h
    · exact .inl h
    · exact .inr (by rw [parkF_out hx]; exact h)
  · obtain ⟨q1, q2, q3⟩ := s.sp j b hb
    exact ⟨q1, by rw [parkF_out (s.xdj j b hb)]; exact q2, q3⟩
theorem PnOk.parkF {P : Pin} (h : PnOk K fm P) (hx : ∀ b ∈ xf, fm.B b = none) : PnOk K (fm.parkF xf H) P := ⟨h.1, fun i b dd x e => ⟨(h.2 i b dd x e).1, fun fs ds ef => by
  obtain ⟨d, kvs, e1, e2, e3, e4⟩ := (h.2 i b dd x e).2 fs ds ef
  refine ⟨d, kvs, e1, ?_, e3, e4⟩
  rw [parkF_out fun z => by rw [hx d z] at e2; cases e2]
  exact e2⟩⟩
theorem Sim.unparkF {Hs' H' : Hp} {vs' : VS} {σ' : L2.St} {xg : List Addr} (t : Sim K (fm.parkF xf H) Hs' vs' σ' H' xg) (hx : ∀ b ∈ xf, fm.S b = none ∧ fm.B b = none ∧ H b ≠ none) (nd : xf.Nodup) : Sim K fm Hs' vs' σ' H' (xf ++ xg) ∧ ∀ b ∈ xf, H' b = H b := by
  obtain ⟨ft, t⟩ := t
  have live : ∀ b ∈ xf, ∃ o, H b = some o := fun b hb => by
    cases e : H b with
    | none => exact absurd e (hx b hb).2.2
    | some o => exact ⟨o, rfl⟩
  have same : ∀ b ∈ xf, H' b = H b := fun b hb => by
    obtain ⟨o, e⟩ := live b hb
    rw [e]
    exact t.base b o (by rw [parkF_in hb]; exact e)
  have notin : ∀ b, (fm.parkF xf H).B b = none → b ∉ xf ∧ fm.B b = none := fun b h => by
    by_cases z : b ∈ xf
    · rw [parkF_in z] at h; exact absurd h (hx b z).2.2
    · rw [parkF_out z] at h; exact ⟨z, h⟩
  refine ⟨⟨ft, ⟨t.sub, fun b u e => ?_, t.grow, fun b hb => ?_, t.len, t.ok, t.nd, t.dj, fun j b hb => ?_, ?_, fun j b hb => ?_, fun b hb => ?_, t.pins⟩⟩, same⟩
  · by_cases z : b ∈ xf
    · rw [(hx b z).2.1] at e; cases e
    · exact t.base b u (by rw [parkF_out z]; exact e)
  · rcases t.new b hb with h | h
    · exact .inl h
    · exact .inr (notin b h).2
  · obtain ⟨q1, q2, q3⟩ := t.sp j b hb
    exact ⟨q1, (notin b q2).2, q3⟩
  · rw [List.nodup_append]
    exact ⟨nd, t.xnd, fun a ha b hb e => by subst e; exact (notin a (t.xsp a hb).2.1).1 ha⟩
  · intro h
    rcases List.mem_append.mp h with h | h
    · exact (notin b (t.sp j b hb).2.1).1 h
    · exact t.xdj j b hb h
  · rcases List.mem_append.mp hb with h | h
    · refine ⟨?_, (hx b h).2.1, by rw [same b h]; exact (hx b h).2.2⟩
      cases q : Hs' b with
      | none => rfl
      | some o =>
        rcases t.new b (by rw [q]; simp) with z | z
        · exact absurd (hx b h).1 z
        · exact absurd h (notin b z).1
    · obtain ⟨q1, q2, q3⟩ := t.xsp b h
      exact ⟨q1, (notin b q2).2, q3⟩
theorem Sim.allocXs (S : Sim K fm Hs vs σ H xf) {p : Addr} (hp : H p = none) (o : HO) : Sim K fm Hs vs σ (upd H p o) (p :: xf) := by
  obtain ⟨ft, s⟩ := S
  have ne : ∀ a, H a ≠ none → a ≠ p := fun a ha e => ha (by rw [e]; exact hp)
  refine ⟨ft, ⟨fun a u e => ?_, fun a u e => ?_, s.grow, s.new, s.len, fun i l e => ?_, s.nd, s.dj, fun i a ha => ?_, ?_, fun i a ha q => ?_, fun a ha => ?_, s.pins⟩⟩
  · rw [upd_ne (ne_of_none (s.sub a u e) hp)]; exact s.sub a u e
  · rw [upd_ne (ne_of_none (s.base a u e) hp)]; exact s.base a u e
  · obtain ⟨v, e1, r⟩ := s.ok i l e
    exact ⟨v, e1, r.mono (Ex.refl _) l fun a ha => upd_ne (ne a (s.sp i a ha).2.2)⟩
  · obtain ⟨h1, h2, h3⟩ := s.sp i a ha
    exact ⟨h1, h2, by rw [upd_ne (ne a h3)]; exact h3⟩
  · exact List.nodup_cons.mpr ⟨fun z => (s.xsp p z).2.2 hp, s.xnd⟩
  · rcases List.mem_cons.mp q with rfl | q
    · exact (s.sp i a ha).2.2 hp
    · exact s.xdj i a ha q
  · rcases List.mem_cons.mp ha with rfl | ha
    · exact ⟨Evl.fresh_back s.sub hp, Evl.fresh_back s.base hp, by rw [upd_same]; simp⟩
    · obtain ⟨h1, h2, h3⟩ := s.xsp a ha
      exact ⟨h1, h2, by rw [upd_ne (ne a h3)]; exact h3⟩
end
abbrev tLs (K : PySem.W.Frag) (W : WX) (P : Pin) (F : M (List L)) : TA := tF K W P (fun Hs H _ vs ls xf => LOkL K Hs H vs ls xf) F
def lNil : M (List L) := rt []
def lCons (Fa : M L) (Fr : M (List L)) : M (List L) := bd Fa fun l => bd Fr fun ls => rt (l :: ls)
def fLstL (Fr : M (List L)) : M L := bd Fr fun ls s => if ls.length ≤ 100000 then some (.ok (.oll ls), s) else none
theorem LOkL.length {K : PySem.W.Frag} {Hs H : Hp} : ∀ {ls : List L} {vs : List V} {f : List Addr}, LOkL K Hs H vs ls f → vs.length = ls.length
  | [], _, _, h => by cases h; rfl
  | l :: ls, _, _, h => by cases h with | cons h1 h2 => simp [LOkL.length h2]
section
variable {X : Cx} {W : WX} {P : Pin} {e a b : Expr} {es : List Expr} {pos : Pos} {Fa : M L} {Fr : M (List L)}
theorem dls_nil : PA X [] (tLs X.K W P lNil) := PA_weak pa_nil fun σ H Q ⟨fm, Hs, vs, r', vs', hF, hP, hS, hk, hE⟩ => by
  cases hF
  exact hk _ [] H Hs [] rfl hS (Ex.refl _) .nil
theorem dls_cons (ha : PE X a (tL X.K W P Fa)) (hr : PA X es (tLs X.K W P Fr)) (hs : starEach (a :: es) X.env = (false, eval a X.env) :: starEach es X.env := by rfl) : PA X (a :: es) (tLs X.K W P (lCons Fa Fr)) :=
  PA_weak (pa_cons ha hr hs) fun σ H Q ⟨fm, Hs, vs, r', vs', hF, hP, hS, hk, hE⟩ => by
    dsimp only [tCons]
    refine go hF hP hS hE fun l vs1 v H1 Hs1 xf hg S1 X1 r1 => ?_
    obtain ⟨S2, hx, nd⟩ := S1.parkF
    have hSx : ∀ b ∈ xf, fm.S b = none ∧ fm.B b = none ∧ H1 b ≠ none := fun b hb => ⟨Evl.fresh_back (let ⟨_, z⟩ := S1; z.grow) (hx b hb).1, (hx b hb).2⟩
    refine go hg (hP.parkF fun b hb => (hx b hb).2.1) S2 (fun x c dd H' Hs' q S' X' o => hE x c dd H' Hs' q (S'.unparkF hSx nd).1.noX (X1.trans X') o) fun ls vs2 us H2 Hs2 xg hg2 S3 X2 r2 => ?_
    cases hg2
    obtain ⟨S4, same⟩ := S3.unparkF hSx nd
    exact hk _ (v :: us) H2 Hs2 _ rfl S4 (X1.trans X2) (.cons (r1.mono X2 l same) r2)
theorem dl_lstL (h : PA X es (tLs X.K W P Fr)) : PE X (.List es pos) (tL X.K W P (fLstL Fr)) := PE_weak (pe_lst h) fun σ H Q ⟨fm, Hs, vs, r', vs', hF, hP, hS, hk, hE⟩ => by
  dsimp only [tLst]
  refine go hF hP hS hE fun ls vs1 us H1 Hs1 xf hg S1 X1 r1 => ?_
  split at hg
  · rename_i hl
    cases hg
    refine ⟨by rw [r1.length]; exact szl hl, fun p hp => ?_⟩
    exact hk _ (.ref p) _ Hs1 (p :: xf) rfl (S1.allocXs hp _) X1 (.oll upd_same (r1.mono (Ex.refl _) ls fun b hb => upd_ne fun z => (let ⟨_, s⟩ := S1; (s.xsp b hb).2.2) (by rw [z]; exact hp)))
  · cases hg
end
end Ev
namespace Ev
open PySem PySem.Spec PyProof.Rows L2
open Evl (Ex)
section
variable {K : PySem.W.Frag} {fm : Fm} {Hs : Hp} {vs : VS} {σ : L2.St} {H : Hp} {xf f g : List Addr} {v : V} {l : L}
theorem Sim.pushX (S : Sim K fm Hs vs σ H (f ++ g)) (r : LOk K Hs H v l f) : Sim K fm Hs (vs ++ [some l]) (σ ++ [some v]) H g := by
  obtain ⟨S1, hx, nd⟩ := S.parkF
  obtain ⟨ft, s⟩ := S
  have hl := s.len
  have ndf : f.Nodup := (List.nodup_append.mp s.xnd).1
  have ndg : g.Nodup := (List.nodup_append.mp s.xnd).2.1
  have dj : ∀ b, b ∈ f → b ∉ g := fun b h1 h2 => (List.nodup_append.mp s.xnd).2.2 b h1 b h2 rfl
  refine ⟨fun i => if i = vs.length then f else (if i < vs.length then ft i else []), ⟨s.sub, s.base, s.grow, s.new, by simp [s.len], fun i m e => ?_, fun i => ?_, fun i j b h1 h2 => ?_, fun i b h => ?_, ndg, fun i b h => ?_, fun b hb => s.xsp b (List.mem_append_right _ hb), fun p hp => ?_⟩⟩
  · by_cases q : i = vs.length
    · subst q
      rw [List.getElem?_append_right (Nat.le_refl _), Nat.sub_self] at e
      have e : some (some l) = some (some m) := e
      cases e
      rw [if_pos rfl]
      refine ⟨v, ?_, r⟩
      rw [hl, List.getElem?_append_right (Nat.le_refl _), Nat.sub_self]
      rfl
    · have hi : i < vs.length := by
        have := (List.getElem?_eq_some_iff.mp e).1
        rw [List.length_append] at this
        simp at this
        omega
      rw [List.getElem?_append_left hi] at e
      rw [if_neg q, if_pos hi, List.getElem?_append_left (by omega)]
      exact s.ok i m e
  · show List.Nodup (if _ then _ else _)
    split
    · exact ndf
    · split
      · exact s.nd i
      · simp
  · try dsimp only at h1 h2
    split at h1
    · rename_i z1
      split at h2
      · rename_i z2; rw [z1, z2]
      · split at h2
        · exact absurd (List.mem_append_left _ h1) (s.xdj j b h2)
        · simp at h2
    · split at h1
      · split at h2
        · exact absurd (List.mem_append_left _ h2) (s.xdj i b h1)
        · split at h2
          · exact s.dj i j b h1 h2
          · simp at h2
      · simp at h1
  · try dsimp only at h
    split at h
    · exact s.xsp b (List.mem_append_left _ h)
    · split at h
      · exact s.sp i b h
      · simp at h
  · try dsimp only at h
    split at h
    · exact dj b h
    · split at h
      · exact fun z => s.xdj i b h (List.mem_append_right _ z)
      · simp at h
  · have q := s.pins p hp
    rw [List.getElem?_append_left (List.getElem?_eq_some_iff.mp q).1]
    exact q
theorem Sim.popX (S : Sim K fm Hs (vs ++ [some l]) (σ ++ [some v]) H g) (hl : vs.length = σ.length) (hp : ∀ p ∈ fm.pin, σ[p.1]? = some (some p.2)) : ∃ f, Sim K fm Hs vs σ H (f ++ g) ∧ LOk K Hs H v l f := by
  obtain ⟨ft, s⟩ := S
  have e0 : (vs ++ [some l])[vs.length]? = some (some l) := by rw [List.getElem?_append_right (Nat.le_refl _), Nat.sub_self]; rfl
  obtain ⟨v', e1, r⟩ := s.ok vs.length l e0
  rw [hl, List.getElem?_append_right (Nat.le_refl _), Nat.sub_self] at e1
  have e1 : some (some v) = some (some v') := e1
  cases e1
  refine ⟨ft vs.length, ⟨fun i => if i < vs.length then ft i else [], ⟨s.sub, s.base, s.grow, s.new, hl, fun i m e => ?_, fun i => ?_, fun i j b h1 h2 => ?_, fun i b h => ?_, ?_, fun i b h z => ?_, fun b hb => ?_, hp⟩⟩, r⟩
  · have hi := (List.getElem?_eq_some_iff.mp e).1
    obtain ⟨u, e2, r2⟩ := s.ok i m (by rw [List.getElem?_append_left hi]; exact e)
    rw [List.getElem?_append_left (by omega)] at e2
    rw [if_pos hi]
    exact ⟨u, e2, r2⟩
  · show List.Nodup (if _ then _ else _)
    split
    · exact s.nd i
    · simp
  · try dsimp only at h1 h2
    split at h1
    · split at h2
      · exact s.dj i j b h1 h2
      · simp at h2
    · simp at h1
  · try dsimp only at h
    split at h
    · exact s.sp i b h
    · simp at h
  · rw [List.nodup_append]
    exact ⟨s.nd _, s.xnd, fun a ha b hb e => by subst e; exact s.xdj _ a ha hb⟩
  · try dsimp only at h
    split at h
    · rename_i hi
      rcases List.mem_append.mp z with z | z
      · have := s.dj i vs.length b h z
        omega
      · exact s.xdj i b h z
    · simp at h
  · rcases List.mem_append.mp hb with h | h
    · exact s.sp _ b h
    · exact s.xsp b h
theorem Sim.pushAll : ∀ {ls : List L} {us : List V} {vs : VS} {σ : L2.St} {f : List Addr}, Sim K fm Hs vs σ H (f ++ g) → LOkL K Hs H us ls f → Sim K fm Hs (vs ++ ls.map some) (σ ++ us.map some) H g
  | [], us, vs, σ, f, S, h => by
    cases h
    simpa using S
  | l :: ls, _, vs, σ, _, S, h => by
    cases h with
    | cons h1 h2 =>
      rw [List.append_assoc] at S
      have := Sim.pushAll (S.pushX h1) h2
      simpa using this
theorem Sim.popAll : ∀ {ls : List L} {us : List V} {vs : VS} {σ : L2.St}, us.length = ls.length → Sim K fm Hs (vs ++ ls.map some) (σ ++ us.map some) H g → vs.length = σ.length → (∀ p ∈ fm.pin, σ[p.1]? = some (some p.2)) → ∃ f, Sim K fm Hs vs σ H (f ++ g) ∧ LOkL K Hs H us ls f
  | [], [], vs, σ, _, S, hl, hp => ⟨[], by simpa using S, .nil⟩
  | l :: ls, u :: us, vs, σ, hlen, S, hl, hp => by
    have S' : Sim K fm Hs ((vs ++ [some l]) ++ ls.map some) ((σ ++ [some u]) ++ us.map some) H g := by simpa using S
    obtain ⟨f2, S2, r2⟩ := Sim.popAll (by simpa using hlen) S' (by simp [hl]) fun p h => by
      have q := hp p h
      rw [List.getElem?_append_left (List.getElem?_eq_some_iff.mp q).1]; exact q
    obtain ⟨f1, S1, r1⟩ := S2.popX hl hp
    exact ⟨f1 ++ f2, by rw [List.append_assoc]; exact S1, .cons r1 r2⟩
  | [], _ :: _, _, _, h, _, _, _ => by cases h
  | _ :: _, [], _, _, h, _, _, _ => by cases h
theorem Sim.explode {j : Nat} {ls : List L} (S : Sim K fm Hs vs σ H []) (e : vs[j]? = some (some (.oll ls))) : ∃ a us, σ[j]? = some (some (.ref a)) ∧ H a = some (.lst us) ∧ us.length = ls.length ∧ fm.B a = none ∧ fm.S a = none ∧ Hs a = none ∧
    Sim K (fm.parkF [a] H) Hs (vs.set j none ++ ls.map some) (σ ++ us.map some) H [] := by
  obtain ⟨v, f, e1, r, S1⟩ := S.move e
  cases r with
  | @oll a us _ f h1 h2 =>
    have S1' : Sim K fm Hs (vs.set j none) σ H ([a] ++ f) := S1
    obtain ⟨ft, s⟩ := S1'
    have hxa := s.xsp a (by simp)
    refine ⟨a, us, e1, h1, h2.length, hxa.2.1, Evl.fresh_back s.grow hxa.1, hxa.1, ?_⟩
    have S2 : Sim K (fm.parkF [a] H) Hs (vs.set j none) σ H (f ++ []) := by
      have na : ∀ b, b ∈ f → b ≠ a := fun b hb z => (List.nodup_cons.mp s.xnd).1 (z ▸ hb)
      refine ⟨ft, ⟨s.sub, fun b u q => ?_, s.grow, fun b hb => ?_, s.len, s.ok, s.nd, s.dj, fun i b hb => ?_, by simpa using (List.nodup_cons.mp s.xnd).2, fun i b hb z => s.xdj i b hb (List.mem_cons_of_mem _ (by simpa using z)), fun b hb => ?_, s.pins⟩⟩
      · by_cases z : b = a
        · subst z; rw [parkF_in (by simp)] at q; exact q
        · rw [parkF_out (by simpa using z)] at q; exact s.base b u q
      · have z : b ≠ a := fun z => hb (z ▸ hxa.1)
        rcases s.new b hb with h | h
        · exact .inl h
        · exact .inr (by rw [parkF_out (by simpa using z)]; exact h)
      · have z : b ≠ a := fun z => s.xdj i b hb (by simp [z])
        obtain ⟨q1, q2, q3⟩ := s.sp i b hb
        exact ⟨q1, by rw [parkF_out (by simpa using z)]; exact q2, q3⟩
      · have hb : b ∈ f := by simpa using hb
        obtain ⟨q1, q2, q3⟩ := s.xsp b (List.mem_cons_of_mem _ hb)
        exact ⟨q1, by rw [parkF_out (by simpa using na b hb)]; exact q2, q3⟩
    exact S2.pushAll h2
theorem Sim.implode {j : Nat} {a : Addr} {us : List V} {ls : List L} {Hs' H' : Hp} {vs' : VS} (t : Sim K (fm.parkF [a] H) Hs' (vs' ++ ls.map some) (σ ++ us.map some) H' xf) (ha : H a = some (.lst us)) (hl : us.length = ls.length) (hB : fm.B a = none) (hS : fm.S a = none) (hv : vs'.length = σ.length) (e : σ[j]? = some (some (.ref a))) (hj : j ∉ fm.pin.map (·.1)) (hp : ∀ p ∈ fm.pin, σ[p.1]? = some (some p.2)) : Sim K fm Hs' (vs'.set j (some (.oll ls))) σ H' xf := by
  obtain ⟨f, S1, r⟩ := t.popAll hl hv hp
  obtain ⟨S2, same⟩ := S1.unparkF (fun b hb => by rw [List.mem_singleton.mp hb]; exact ⟨hS, hB, by rw [ha]; simp⟩) (by simp)
  have ha' : H' a = some (.lst us) := by rw [same a (by simp)]; exact ha
  obtain ⟨ft, s⟩ := S2
  have hjl : j < vs'.length := by rw [hv]; exact (List.getElem?_eq_some_iff.mp e).1
  have nd := s.xnd
  have nd1 : (a :: f).Nodup ∧ xf.Nodup ∧ ∀ b, b ∈ a :: f → b ∉ xf := by
    have z : ([a] ++ (f ++ xf)) = (a :: f) ++ xf := by simp
    rw [z] at nd
    obtain ⟨n1, n2, n3⟩ := List.nodup_append.mp nd
    exact ⟨n1, n2, fun b h1 h2 => n3 b h1 b h2 rfl⟩
  have mem : ∀ b, b ∈ a :: f ∨ b ∈ xf → b ∈ [a] ++ (f ++ xf) := fun b h => by
    have z : ([a] ++ (f ++ xf)) = (a :: f) ++ xf := by simp
    rw [z]
    exact List.mem_append.mpr h
  refine ⟨fun i => if i = j then a :: f else ft i, ⟨s.sub, s.base, s.grow, s.new, by simp [hv], fun i m em => ?_, fun i => ?_, fun i k b h1 h2 => ?_, fun i b h => ?_, nd1.2.1, fun i b h z => ?_, fun b hb => s.xsp b (mem b (.inr hb)), s.pins⟩⟩
  · by_cases q : i = j
    · subst q
      rw [List.getElem?_set_self hjl] at em
      cases em
      rw [if_pos rfl]
      exact ⟨_, e, .oll ha' r⟩
    · rw [List.getElem?_set_ne (Ne.symm q)] at em
      rw [if_neg q]
      exact s.ok i m em
  · show List.Nodup (if _ then _ else _)
    split
    · exact nd1.1
    · exact s.nd i
  · try dsimp only at h1 h2
    split at h1
    · rename_i z1
      split at h2
      · rename_i z2; rw [z1, z2]
      · exact absurd (mem b (.inl h1)) (s.xdj k b h2)
    · split at h2
      · exact absurd (mem b (.inl h2)) (s.xdj i b h1)
      · exact s.dj i k b h1 h2
  · try dsimp only at h
    split at h
    · exact s.xsp b (mem b (.inl h))
    · exact s.sp i b h
  · try dsimp only at h
    split at h
    · exact nd1.2.2 b h z
    · exact s.xdj i b h (mem b (.inr z))
end
end Ev
namespace Ev
open PySem PySem.Spec PyProof.Rows L2
open Evl (Ex)
theorem makeF_sp {K : PySem.W.Frag} {C : Addr} {fn : Fn} {fm : Fm} {Hs : Hp} {vs vs' : VS} {σ : L2.St} {H : Hp} {ks : List Pk} {us : List V} {r : Except Xn L} {Q : VK} {E : XK} (S1 : Sim K fm Hs vs σ H []) (rx : Paired (PkOk K Hs σ) us ks) (hg : makeF C fn ks vs = some (r, vs'))
    (hk : ∀ l v H' Hs' xf, r = .ok l → Sim K fm Hs' vs' σ H' xf → Ex Hs Hs' → LOk K Hs' H' v l xf → Q v H')
    (hE : ∀ x c dd H' Hs', r = .error x → Sim K fm Hs' vs' σ H' [] → Ex Hs Hs' → XOk K Hs' H' c dd x → E c dd H') {xa dx : Addr} (hx : H xa = none) (hdx : H dx = none) (hne : dx ≠ xa) :
    SpF K fn (.ref xa :: us) (upd (upd H dx (.own xa)) xa (.ins C dx [])) (fun v H2 => v = .non ∧ Q (.ref xa) H2) E := by
  have hxd : upd H dx (.own xa) xa = none := by rw [upd_ne hne.symm]; exact hx
  have hl1 : vs.length = σ.length := S1.leneq
  have hpin : ∀ p ∈ fm.pin, σ[p.1]? = some (some p.2) := (let ⟨ft, s⟩ := S1; s.pins)
  have S2 := ((S1.other hdx (.own xa)).allocX hxd (.ins C dx [])).push (v := .ref xa) (l := .obj C [] []) (.obj upd_same rfl .nil)
  unfold makeF at hg
  split at hg
  · rename_i ls ea
    split at hg
    · rename_i hc
      obtain ⟨a1, a2, a3⟩ := argsOf_app (o := some (.obj C [] [])) ea
      have ea2 : argsOf (vs ++ [some (.obj C [] [])]) (.sl vs.length :: ks) = some (some (.obj C [] []) :: ls) := by
        unfold argsOf
        rw [List.getElem?_append_right (Nat.le_refl _), Nat.sub_self]
        show (argsOf (vs ++ [some (.obj C [] [])]) ks).map _ = _
        rw [a1]; rfl
      have nd2 : slND (.sl vs.length :: ks) = true := by
        unfold slND
        rw [a2, hc.1]; rfl
      have hk2 : Paired (PkOk K Hs (σ ++ [some (.ref xa)])) (.ref xa :: us) (.sl vs.length :: ks) := by
        refine .cons ?_ (Paired_imp rx fun u k q => ?_)
        · show (σ ++ [some (V.ref xa)])[vs.length]? = some (some (V.ref xa))
          rw [hl1, List.getElem?_append_right (Nat.le_refl _), Nat.sub_self]; rfl
        · cases k with
          | dat d => exact q
          | sl j =>
            have q : σ[j]? = some (some u) := q
            show (σ ++ [some (V.ref xa)])[j]? = some (some u)
            rw [List.getElem?_append_left (List.getElem?_eq_some_iff.mp q).1]; exact q
      obtain ⟨B, S3, back⟩ := call_sim S2 hk2 ea2 nd2
      have hlen : (V.ref xa :: us).length = fn.n := by rw [List.length_cons, Paired_len rx]; exact hc.2
      split at hg
      · rename_i l os er
        cases hg
        refine ⟨hlen, B, Hs, _, _, _, er, S3, fun l' v H' Hs' xf q hl' S' o => ?_, fun _ _ _ _ _ q => (by cases q)⟩
        cases q
        cases o with
        | d o =>
          cases o
          refine ⟨rfl, ?_⟩
          obtain ⟨S4, X4⟩ := back Hs' H' _ [] hl' S'
          unfold setO at S4
          rw [a3 os, List.set_append_right _ _ (by rw [setO_len]; exact Nat.le_refl _), setO_len, Nat.sub_self] at S4
          obtain ⟨xf, S5, r5⟩ := Sim.pop (vs := setO vs ks os) (l := l) (v := .ref xa) S4 (by rw [setO_len]; exact hl1) hpin
          exact hk l _ H' Hs' xf rfl S5 X4 r5
      · rename_i z o os er
        cases hg
        refine ⟨hlen, B, Hs, _, _, _, er, S3, fun _ _ _ _ _ q => (by cases q), fun x' c dd H' Hs' q hl' S' o' => ?_⟩
        cases q
        obtain ⟨S4, X4⟩ := back Hs' H' _ [] hl' S'
        unfold setO at S4
        rw [a3 os, List.set_append_right _ _ (by rw [setO_len]; exact Nat.le_refl _), setO_len, Nat.sub_self] at S4
        exact hE _ c dd H' Hs' rfl (Sim.pop0 (vs := setO vs ks os) (v := .ref xa) S4 (by rw [setO_len]; exact hl1) hpin) X4 o'
      · cases hg
    · cases hg
  · cases hg
def unSome : VS → Option (List L)
  | [] => some []
  | some l :: r => (unSome r).map (l :: ·)
  | none :: _ => none
theorem unSome_eq : ∀ {t : VS} {ls : List L}, unSome t = some ls → t = ls.map some
  | [], ls, h => by cases h; rfl
  | none :: _, ls, h => by cases h
  | some l :: r, ls, h => by
    unfold unSome at h
    cases e : unSome r with
    | none => rw [e] at h; cases h
    | some q => rw [e] at h; cases h; rw [List.map_cons, unSome_eq e]
def fMakeN (j : Nat) (C : Addr) (fn : Fn) : M L := fun s => match s[j]? with
  | some (some (.oll [l0, l1])) => (match makeF C fn [.sl s.length, .sl (s.length + 1)] (s.set j none ++ [some l0, some l1]) with
    | some (r, t) => (match unSome (t.drop s.length) with
      | some ls => if t.length = s.length + 2 then some (r, (t.take s.length).set j (some (.oll ls))) else none
      | none => none)
    | none => none)
  | _ => none
section
variable {X : Cx} {W : WX} {P : Pin} {e : Expr} {es : List Expr} {pos p q1 q2 q3 q4 q5 q6 : Pos} {k j j1 j2 : Nat} {x y : Str} {fn : Fn} {C : Addr}
theorem dl_makeN (Mk : MkAt X.prog X.w X.K X.mg X.base k x C fn) (hr : Room (k + 1) X.A) (tk : L2N.Takes X W) (hj : j ∉ P.ix) (hv1 : PE X (.Name y q1) (tVar j)) (hv2 : PE X (.Name y q4) (tVar j)) (hg : Gl X x := by rfl) (hdb : (x == ("__debug__" : Str)) = false := by decide)
    (hs1 : starEach [.Subscript (.Name y q1) (.Constant (.int 0) j1 q2) q3, .Subscript (.Name y q4) (.Constant (.int 1) j2 q5) q6] X.env = (false, eval (.Subscript (.Name y q1) (.Constant (.int 0) j1 q2) q3) X.env) :: starEach [.Subscript (.Name y q4) (.Constant (.int 1) j2 q5) q6] X.env := by rfl)
    (hs2 : starEach [.Subscript (.Name y q4) (.Constant (.int 1) j2 q5) q6] X.env = (false, eval (.Subscript (.Name y q4) (.Constant (.int 1) j2 q5) q6) X.env) :: starEach [] X.env := by rfl)
    (hpl : (backTo pos (starEach [.Subscript (.Name y q4) (.Constant (.int 1) j2 q5) q6] X.env)).any (·.1) = false := by rfl) :
    PE X (.Call (.Name x p) [.Subscript (.Name y q1) (.Constant (.int 0) j1 q2) q3, .Subscript (.Name y q4) (.Constant (.int 1) j2 q5) q6] [] pos) (tL X.K W P (fMakeN j C fn)) := by
  obtain ⟨f, fd, ps, hm, hk, hb, F⟩ := Mk.ex
  refine PE_weak (pe_makeS hk F hr hg hm hb (fun σ => L2N.passAt tk σ) (pa_cons (pe_ix ix_seq hv1 pe_int (fun _ _ => rfl)) (pa_cons (pe_ix ix_seq hv2 pe_int (fun _ _ => rfl)) pa_nil hs2) hs1) hdb hs1 hpl) fun σ H Q ⟨fm, Hs, vs, r', vs', hF, hP, hS, hk, hE⟩ => ?_
  unfold fMakeN at hF
  split at hF
  · rename_i l0 l1 e0
    split at hF
    · rename_i r t em
      split at hF
      · rename_i ls eu
        split at hF
        · rename_i hlt
          cases hF
          obtain ⟨a, us, e1, ha, hul, hB, hSn, hHs, S1⟩ := hS.explode e0
          obtain ⟨v0, v1, rfl⟩ : ∃ v0 v1, us = [v0, v1] := by
            match us, hul with
            | [v0, v1], _ => exact ⟨v0, v1, rfl⟩
          have hl : vs.length = σ.length := hS.leneq
          have hpin : ∀ p ∈ fm.pin, σ[p.1]? = some (some p.2) := (let ⟨ft, s⟩ := hS; s.pins)
          have hjp : j ∉ fm.pin.map (·.1) := by rw [hP.1]; exact hj
          have rx : Paired (PkOk X.K Hs (σ ++ [v0, v1].map some)) [v0, v1] [.sl vs.length, .sl (vs.length + 1)] := by
            refine .cons ?_ (.cons ?_ .nil)
            · show (σ ++ [some v0, some v1])[vs.length]? = some (some v0)
              rw [hl, List.getElem?_append_right (Nat.le_refl _), Nat.sub_self]; rfl
            · show (σ ++ [some v0, some v1])[vs.length + 1]? = some (some v1)
              rw [hl, List.getElem?_append_right (by omega), Nat.add_sub_cancel_left]; rfl
          have et : t = t.take vs.length ++ ls.map some := by rw [← unSome_eq eu, List.take_append_drop]
          have htl : (t.take vs.length).length = σ.length := by rw [List.length_take, ← hl]; omega
          have hls : [v0, v1].length = ls.length := by
            have := congrArg List.length et
            rw [List.length_append, List.length_map, htl, hlt] at this
            simp
            omega
          have back : ∀ {Hs' H' : Hp} {xf : List Addr}, Sim X.K (fm.parkF [a] H) Hs' t (σ ++ [v0, v1].map some) H' xf → Sim X.K fm Hs' ((t.take vs.length).set j (some (.oll ls))) σ H' xf := fun {Hs' H' xf} S' => by
            rw [et] at S'
            have z := Sim.implode (vs' := t.take vs.length) S' ha hls hB hSn htl e1 hjp hpin
            exact z
          refine ⟨.ref a, e1, .inl ⟨a, _, 0, v0, rfl, rfl, SqL.of ha, rfl, .ref a, e1, .inl ⟨a, _, 1, v1, rfl, rfl, SqL.of ha, rfl, fun xa dx hx hdx hne => ?_⟩⟩⟩
          exact makeF_sp S1 rx em (fun l v H' Hs' xf q S' X' o => hk l v H' Hs' xf q (back S') X' o) (fun x c dd H' Hs' q S' X' o => hE x c dd H' Hs' q (back S') X' o) hx hdx hne
        · cases hF
      · cases hF
    · cases hF
  · cases hF
mutual
def L.full : L → Bool
  | .hole => false
  | .obj _ _ ls => L.fulls ls
  | .oll ls => L.fulls ls
  | .odl _ ls => L.fulls ls
  | .otp ls => L.fulls ls
  | _ => true
def L.fulls : List L → Bool
  | [] => true
  | l :: ls => L.full l && L.fulls ls
end
end
section
variable {K : PySem.W.Frag} {Hs H : Hp}
mutual
theorem LOk.rep (e : Ex Hs H) : ∀ (l : L) {v : V} {f : List Addr}, LOk K Hs H v l f → l.full = true → Rep K H v l.view
  | .d x, _, _, h, _ => by cases h with | d h => exact h.mono e
  | .own xs, _, _, h, _ => by cases h with | own h1 h2 => exact .lst h1 (h2.mono e)
  | .odi ks ds, _, _, h, _ => by cases h with | odi h1 h2 h3 => exact .dic h1 h2 (h3.mono e)
  | .obj C fs ls, _, _, h, q => by cases h with | obj h1 h2 h3 => exact .ins h1 h2 (LOkL.rep e ls h3 q)
  | .oll ls, _, _, h, q => by cases h with | oll h1 h3 => exact .lst h1 (LOkL.rep e ls h3 q)
  | .odl ks ls, _, _, h, q => by cases h with | odl h1 h2 h3 => exact .dic h1 h2 (LOkL.rep e ls h3 q)
  | .otp ls, _, _, h, q => by cases h with | otp h1 h3 => exact .tup h1 (LOkL.rep e ls h3 q)
  | .hole, _, _, h, q => by cases q
theorem LOkL.rep (e : Ex Hs H) : ∀ (ls : List L) {vs : List V} {f : List Addr}, LOkL K Hs H vs ls f → L.fulls ls = true → RepL K H vs (L.views ls)
  | [], _, _, h, _ => by cases h; exact .nil
  | l :: ls, _, _, h, q => by
    have q : (L.full l && L.fulls ls) = true := q
    rw [Bool.and_eq_true] at q
    cases h with | cons h1 h2 => exact .cons (LOk.rep e l h1 q.1) (LOkL.rep e ls h2 q.2)
end
end
def cNeS (j : Nat) (Fb : M D) : M Bool := fun s0 => match s0[j]? with
  | some (some _) => bd Fb (fun d s => match s[j]? with
    | some (some l) => if l.full = true then (match eqDp l.view d with
      | some b => some (.ok (!b), s)
      | none => none) else none
    | _ => none) s0
  | _ => none
section
variable {X : Cx} {W : WX} {P : Pin} {b : Expr} {pos q1 : Pos} {j : Nat} {y : Str} {Fb : M D}
theorem dt_neS (hu : X.A.units + 64 < cLine) (hv : PE X (.Name y q1) (tVar j)) (hb : PE X b (tE X.K W P Fb)) (hm : behindInMarks .NotEq b = false := by rfl) : PT X (.Compare (.Name y q1) [.NotEq] [b] pos) (tB X.K W P (cNeS j Fb)) :=
  PT_weak (pt_cmpR (op_neD hu) hv hb hm) fun σ H Q ⟨fm, Hs, vs, r', vs', hF, hP, hS, hk, hE⟩ => by
    unfold cNeS at hF
    split at hF
    · rename_i l0 e0
      obtain ⟨v, f, e1, _⟩ := hS.slot e0
      refine ⟨v, e1, go hF hP hS hE fun d vs1 u H1 Hs1 xf hg S1 X1 ⟨ru, ex⟩ => ?_⟩
      subst ex
      split at hg
      · rename_i l el
        split at hg
        · rename_i hfull
          split at hg
          · rename_i bb eb
            cases hg
            obtain ⟨v', f', e2, r2⟩ := S1.slot el
            rw [e1] at e2
            cases e2
            have rv := r2.rep S1.sub l hfull
            have rd := ru.mono S1.sub
            unfold eqDp at eb
            cases p1 : toPy l.view with
            | none => rw [p1] at eb; cases eb
            | some p =>
              cases p2 : toPy d with
              | none => rw [p1, p2] at eb; cases eb
              | some q =>
                rw [p1, p2] at eb
                dsimp only at eb
                split at eb
                · rename_i hs
                  cases eb
                  rw [Bool.and_eq_true] at hs
                  exact ⟨p, q, toPy_ok _ rv p1, toPy_ok _ rd p2, hs.1, hs.2, _, rfl, hk _ _ H1 Hs1 [] rfl S1 X1 ⟨rfl, rfl⟩⟩
                · cases eb
          · cases hg
        · cases hg
      · cases hg
    · cases hF
end
end Ev
namespace Ev
open PySem PySem.Spec PyProof.Rows L2
open Evl (Ex)
def allOwn : List L → Bool
  | [] => true
  | .own _ :: r => allOwn r
  | _ :: _ => false
theorem own_cells {K : PySem.W.Frag} {Hs H : Hp} : ∀ {ls : List L} {us : List V} {f : List Addr}, LOkL K Hs H us ls f → allOwn ls = true → us = f.map V.ref ∧ ∀ c ∈ f, ∃ vs, H c = some (.lst vs)
  | [], _, _, h, _ => by cases h; exact ⟨rfl, by simp⟩
  | l :: ls, _, _, h, q => by
    cases h with
    | cons h1 h2 =>
      cases l with
      | own xs =>
        obtain ⟨e, k⟩ := own_cells h2 q
        cases h1 with
        | own a1 a2 =>
          refine ⟨by rw [e]; rfl, fun c hc => ?_⟩
          rcases List.mem_cons.mp hc with rfl | hc
          · exact ⟨_, a1⟩
          · exact k c hc
      | d _ => cases q
      | odi _ _ => cases q
      | obj _ _ _ => cases q
      | oll _ => cases q
      | odl _ _ => cases q
      | otp _ => cases q
      | hole => cases q
open Classical in
noncomputable def clr (cs : List Addr) (H : Hp) : Hp := fun b => if b ∈ cs then some (.lst []) else H b
open Classical in
theorem clr_in {cs : List Addr} {H : Hp} {b : Addr} (h : b ∈ cs) : clr cs H b = some (.lst []) := if_pos h
open Classical in
theorem clr_out {cs : List Addr} {H : Hp} {b : Addr} (h : b ∉ cs) : clr cs H b = H b := if_neg h
theorem clr_upd {cs : List Addr} {H : Hp} {c : Addr} : upd (clr cs H) c (.lst []) = clr (cs ++ [c]) H := by
  funext b
  by_cases h : b = c
  · subst h; rw [upd_same, clr_in (by simp)]
  · rw [upd_ne h]
    by_cases h2 : b ∈ cs
    · rw [clr_in h2, clr_in (by simp [h2])]
    · rw [clr_out h2, clr_out (by simp [h, h2])]
theorem clr_ok {K : PySem.W.Frag} {Hs H : Hp} {cs : List Addr} : ∀ {ls : List L} {us : List V} {f : List Addr}, LOkL K Hs H us ls f → allOwn ls = true → (∀ c ∈ f, c ∈ cs) → LOkL K Hs (clr cs H) us (ls.map fun _ => .own []) f
  | [], _, _, h, _, _ => by cases h; exact .nil
  | l :: ls, _, _, h, q, k => by
    cases h with
    | cons h1 h2 =>
      cases l with
      | own xs =>
        cases h1 with
        | own a1 a2 => exact .cons (.own (clr_in (k _ (by simp))) .nil) (clr_ok h2 q fun c hc => k c (by simp [hc]))
      | d _ => cases q
      | odi _ _ => cases q
      | obj _ _ _ => cases q
      | oll _ => cases q
      | odl _ _ => cases q
      | otp _ => cases q
      | hole => cases q
section
variable {K : PySem.W.Frag} {fm : Fm} {Hs : Hp} {vs : VS} {σ : L2.St} {H : Hp} {xf : List Addr} {j i : Nat} {ms : List L}
theorem Sim.clr (S : Sim K fm Hs vs σ H xf) (e : vs[j]? = some (some (.oll ms))) (hm : allOwn ms = true) :
    ∃ a cs, σ[j]? = some (some (.ref a)) ∧ H a = some (.lst (cs.map V.ref)) ∧ (∀ c ∈ cs, ∃ us, H c = some (.lst us)) ∧ (xf ++ cs).Nodup ∧ a ∉ xf ++ cs ∧
      Sim K fm Hs (vs.set j (some (.oll (ms.map fun _ => .own [])))) σ (clr (xf ++ cs) H) [] := by
  obtain ⟨ft, s⟩ := S
  obtain ⟨v, e1, r⟩ := s.ok j _ e
  generalize hft : ft j = fj at r
  cases r with
  | @oll a us _ f h1 h2 =>
    obtain ⟨eu, hc⟩ := own_cells h2 hm
    have nd := s.nd j
    rw [hft] at nd
    have inj : ∀ b, b ∈ a :: f → b ∈ ft j := fun b hb => by rw [hft]; exact hb
    have xdj : ∀ b, b ∈ a :: f → b ∉ xf := fun b hb => s.xdj j b (inj b hb)
    have nd2 : (xf ++ f).Nodup := by
      rw [List.nodup_append]
      exact ⟨s.xnd, (List.nodup_cons.mp nd).2, fun b hb c hc z => by subst z; exact xdj b (by simp [hc]) hb⟩
    have na : a ∉ xf ++ f := fun z => (List.mem_append.mp z).elim (xdj a (by simp)) (List.nodup_cons.mp nd).1
    have dead : ∀ b, b ∈ xf ++ f → Hs b = none ∧ fm.B b = none := fun b hb => (List.mem_append.mp hb).elim (fun h => ⟨(s.xsp b h).1, (s.xsp b h).2.1⟩) fun h => by
      obtain ⟨q1, q2, _⟩ := s.sp j b (inj b (by simp [h]))
      exact ⟨q1, q2⟩
    subst eu
    refine ⟨a, f, e1, h1, hc, nd2, na, ⟨ft, ⟨fun b u q => ?_, fun b u q => ?_, s.grow, s.new, by simp [s.len], fun i m em => ?_, s.nd, s.dj, fun i b hb => ?_, by simp, fun _ _ _ q => by simp at q, fun _ q => by simp at q, s.pins⟩⟩⟩
    · rw [clr_out fun z => by rw [(dead b z).1] at q; cases q]; exact s.sub b u q
    · rw [clr_out fun z => by rw [(dead b z).2] at q; cases q]; exact s.base b u q
    · by_cases z : i = j
      · subst z
        rw [List.getElem?_set_self (List.getElem?_eq_some_iff.mp e).1] at em
        cases em
        refine ⟨_, e1, ?_⟩
        rw [hft]
        exact .oll (by rw [clr_out na]; exact h1) (clr_ok h2 hm fun c hc => by simp [hc])
      · rw [List.getElem?_set_ne (Ne.symm z)] at em
        obtain ⟨u, e2, r2⟩ := s.ok i m em
        refine ⟨u, e2, r2.mono (Ex.refl _) m fun b hb => clr_out fun q => ?_⟩
        rcases List.mem_append.mp q with q | q
        · exact s.xdj i b hb q
        · exact z (s.dj i j b hb (inj b (by simp [q])))
    · obtain ⟨q1, q2, q3⟩ := s.sp i b hb
      refine ⟨q1, q2, ?_⟩
      by_cases z : b ∈ xf ++ f
      · rw [clr_in z]; simp
      · rw [clr_out z]; exact q3
theorem Sim.setAny {xf : List Addr} (S : Sim K fm Hs vs σ H xf) (o : Option V) (hp : i ∉ fm.pin.map (·.1)) : Sim K fm Hs (vs.set i none) (σ.set i o) H xf := by
  obtain ⟨ft, s⟩ := S
  refine ⟨ft, ⟨s.sub, s.base, s.grow, s.new, by simp [s.len], fun j m e => ?_, s.nd, s.dj, s.sp, s.xnd, s.xdj, s.xsp, fun p hp' => ?_⟩⟩
  · by_cases q : j = i
    · subst q
      by_cases hj : j < vs.length
      · rw [List.getElem?_set_self hj] at e; cases e
      · rw [List.getElem?_eq_none (by simpa using hj)] at e; cases e
    · rw [List.getElem?_set_ne (Ne.symm q)] at e
      rw [List.getElem?_set_ne (Ne.symm q)]
      exact s.ok j m e
  · rw [List.getElem?_set_ne]
    · exact s.pins p hp'
    · intro e
      exact hp (by rw [e]; exact List.mem_map_of_mem hp')
end
def sClearN (j i : Nat) (Fr : M (List L)) : M Fl := bd Fr fun ls s => match s[j]? with
  | some (some (.oll ms)) => if allOwn ls = true ∧ allOwn ms = true ∧ ls.length + ms.length ≤ 1000 ∧ i < s.length then some (.ok .nx, (s.set j (some (.oll (ms.map fun _ => .own [])))).set i none) else none
  | _ => none
section
variable {X : Cx} {W : WX} {P : Pin} {es : List Expr} {pos p1 p2 p3 p4 p5 p6 p7 p8 : Pos} {j i : Nat} {y n : Str} {Fr : M (List L)}
theorem ds_clearN (hp : PassesOwn (model X.prog X.w) X.A X.env X.xe) (hi : i ∉ P.ix) (hN : X.N.Nodup) (hx : PA X es (tLs X.K W P Fr)) (hv : PE X (.Name y p2) (tVar j)) (hr : PE X (.Name n p5) (tVar i)) (hij : i ≠ j) (hc : X.calm = true := by rfl)
    (hni : X.N[i]? = some n := by rfl) (hnl : Loc X.env.scope n := by first | exact .inl rfl | exact .inr rfl) (hnf : X.fn n = true ∨ X.env.scope.names.lookup n = some .local := by first | exact .inl rfl | exact .inr rfl)
    (hbase : attributeBase (.Name n p5) "clear" X.env (eval (.Name n p5) X.env) = eval (.Name n p5) X.env := by rfl) (hline : (p6.endLine == p7.line) = true := by rfl) (hs : ∀ x, foldedSetIterable (.BinOp (.List es p1) .Add (.Name y p2) p3) X.env x = pure x := by intro _; rfl)
    (hsw : swapsWith (.Call (.Attribute (.Name n p5) "clear" p6) [] [] p7) none p8.line X.env = pure false := by rfl) :
    PS X (.For (.Name n p4) (.BinOp (.List es p1) .Add (.Name y p2) p3) [.Expr (.Call (.Attribute (.Name n p5) "clear" p6) [] [] p7) p8] [] pos) (tS X.K W P (sClearN j i Fr)) := by
  refine PS_weak (ps_for hp hc (pi_list (pe_op op_cat (pe_lst hx) hv)) (pg_name hN hni hnl hnf) (pss_one (ps_expr (pe_bm0 PySem.F.plainAttrs_list PySem.F.slot_list_clear PySem.F.type_list_clear mt_clear hr hbase hline) hsw)) hs) fun E σ H ⟨fm, Hs, vs, r, vs', hF, hP, hS, hk⟩ => ?_
  dsimp only [tFor, iList, tOp, tLst]
  refine goS hF hP hS hk fun ls vs1 us H1 Hs1 xf hg S1 X1 r1 => ?_
  split at hg
  · rename_i ms em
    split at hg
    · rename_i hh
      obtain ⟨h1, h2, h3, h4⟩ := hh
      cases hg
      obtain ⟨eu, hcu⟩ := own_cells r1 h1
      have hul : us.length = ls.length := r1.length
      refine ⟨by rw [hul, sizeLine_eq]; omega, fun p0 hp0 => ?_⟩
      have S2 := S1.other hp0 (.lst us)
      obtain ⟨a, cs, ea, ha, hca, nd, na, _⟩ := S2.clr em h2
      have hcl : cs.length = ms.length := by
        obtain ⟨ft, s⟩ := S2
        obtain ⟨v, e1, r⟩ := s.ok j _ em
        rw [ea] at e1
        cases e1
        generalize ft j = fj at r
        cases r with
        | oll q1 q2 =>
          have := q2.length
          rw [ha] at q1
          cases q1
          simpa using this
      have xl : xf.length = us.length := by rw [eu]; simp
      refine ⟨.ref a, ea, p0, a, us, cs.map V.ref, rfl, rfl, upd_same, ha, by rw [sizeLine_eq]; simp; omega, fun p hpn => ⟨p, rfl, ⟨_, SqL.of upd_same⟩, ?_⟩⟩
      have S3 := S2.other hpn (.lst (us ++ cs.map V.ref))
      obtain ⟨a', cs', ea', ha', hca', nd', na', S4⟩ := S3.clr em h2
      rw [ea] at ea'
      cases ea'
      have hpa : a ≠ p := fun z => by rw [z] at ha; rw [ha] at hpn; cases hpn
      rw [upd_ne hpa, ha] at ha'
      have ecs : cs' = cs := by
        have q := Option.some.inj ha'
        have q : cs.map V.ref = cs'.map V.ref := HO.lst.inj q
        have inj : ∀ {l m : List Addr}, l.map V.ref = m.map V.ref → l = m := by
          intro l
          induction l with
          | nil => intro m h; cases m with | nil => rfl | cons _ _ => cases h
          | cons x l ih =>
            intro m h
            cases m with
            | nil => cases h
            | cons y m =>
              rw [List.map_cons, List.map_cons] at h
              injection h with h1 h2
              cases h1
              rw [ih h2]
        exact (inj q).symm
      subst ecs
      have eall : us ++ cs'.map V.ref = (xf ++ cs').map V.ref := by rw [eu, List.map_append]
      obtain ⟨H3, eH3⟩ : ∃ H3, upd (upd H1 p0 (.lst us)) p (.lst (us ++ cs'.map V.ref)) = H3 := ⟨_, rfl⟩
      rw [eH3] at S4 ⊢
      have hcell : ∀ c ∈ xf ++ cs', ∃ us, H3 c = some (.lst us) := fun c hc => by
        rw [← eH3]
        rcases List.mem_append.mp hc with h | h
        · obtain ⟨ws, q⟩ := hcu c h
          refine ⟨ws, ?_⟩
          have n0 : c ≠ p0 := ne_of_none q hp0
          have q2 : upd H1 p0 (.lst us) c = some (.lst ws) := by rw [upd_ne n0]; exact q
          rw [upd_ne (ne_of_none q2 hpn)]; exact q2
        · obtain ⟨ws, q⟩ := hca c h
          exact ⟨ws, by rw [upd_ne (ne_of_none q hpn)]; exact q⟩
      have hpc : p ∉ xf ++ cs' := fun z => by
        rcases List.mem_append.mp z with h | h
        · obtain ⟨ws, q⟩ := hcu p h
          have n0 : p ≠ p0 := ne_of_none q hp0
          rw [upd_ne n0, q] at hpn; cases hpn
        · obtain ⟨ws, q⟩ := hca p h
          rw [q] at hpn; cases hpn
      have hp3 : H3 p = some (.lst ((xf ++ cs').map V.ref)) := by rw [← eH3, upd_same, eall]
      refine for_list (K := X.K) (xs := (xf ++ cs').map V.ref) (fun k σ' H' => (∃ o, σ' = σ.set i o ∨ σ' = σ) ∧ H' = Ev.clr ((xf ++ cs').take k) H3) ⟨⟨none, .inr rfl⟩, ?_⟩ ?_ ?_ ?_
      · funext b
        rw [List.take_zero, clr_out (by simp)]
      · rintro k σ' H' _ ⟨_, rfl⟩
        exact SqL.of (by rw [clr_out fun z => hpc (List.mem_of_mem_take z)]; exact hp3)
      · rintro k x σ' H' hx ⟨⟨o, ho⟩, rfl⟩
        obtain ⟨c, hc, rfl⟩ : ∃ c, (xf ++ cs')[k]? = some c ∧ x = V.ref c := by
          rw [List.getElem?_map] at hx
          cases q : (xf ++ cs')[k]? with
          | none => rw [q] at hx; cases hx
          | some c => rw [q] at hx; cases hx; exact ⟨c, rfl, rfl⟩
        have hlen : σ'.length = σ.length := by rcases ho with rfl | rfl <;> simp
        have hil : i < σ'.length := by rw [hlen, ← S1.leneq]; exact h4
        obtain ⟨ws, hw⟩ : ∃ ws, Ev.clr ((xf ++ cs').take k) H3 c = some (.lst ws) := by
          by_cases z : c ∈ (xf ++ cs').take k
          · exact ⟨[], clr_in z⟩
          · obtain ⟨ws, q⟩ := hcell c (List.mem_of_getElem? hc)
            exact ⟨ws, by rw [clr_out z]; exact q⟩
        refine ⟨.ref c, List.getElem?_set_self hil, .inl ⟨rfl, _, SqL.of hw⟩, c, ws, rfl, rfl, hw, ⟨some (.ref c), ?_⟩, ?_⟩
        · rcases ho with rfl | rfl
          · exact .inl (by rw [List.set_set])
          · exact .inl rfl
        · rw [clr_upd, List.take_succ, hc]; rfl
      · rintro σ' H' ⟨⟨o, ho⟩, rfl⟩
        have et : (xf ++ cs').take ((xf ++ cs').map V.ref).length = xf ++ cs' := List.take_of_length_le (by simp)
        rw [et]
        have hip : i ∉ fm.pin.map (·.1) := by rw [hP.1]; exact hi
        rcases ho with rfl | rfl
        · exact hk.nx _ _ Hs1 rfl (S4.setAny o hip) X1
        · refine hk.nx _ _ Hs1 rfl ?_ X1
          exact S4.drop i
    · cases hg
  · cases hg
end
end Ev
namespace Ev
open PySem PySem.Spec PyProof.Rows L2
def finx {α : Type} (E : Xn → VS → Prop) (o : Option (Except Xn α × VS)) (Q : α → VS → Prop) : Prop := match o with
  | some (.ok a, s) => Q a s
  | some (.error x, s) => E x s
  | none => False
def wpx {α : Type} (E : Xn → VS → Prop) (F : M α) (s : VS) (Q : α → VS → Prop) : Prop := finx E (F s) Q
section
variable {α β : Type} {s : VS} {E : Xn → VS → Prop}
@[simp] theorem finx_ok {a : α} {Q : α → VS → Prop} : finx E (some (.ok a, s)) Q ↔ Q a s := Iff.rfl
@[simp] theorem finx_none {Q : α → VS → Prop} : finx E none Q ↔ False := Iff.rfl
@[simp] theorem finx_er {x : Xn} {Q : α → VS → Prop} : finx E (some (.error x, s)) Q ↔ E x s := Iff.rfl
theorem wpx_of {F : M α} {Q : α → VS → Prop} (h : wp F s Q) : wpx E F s Q := by
  obtain ⟨a, s', e, q⟩ := wp_out h
  unfold wpx; rw [e]; exact q
theorem wpx_out {F : M α} {Q : α → VS → Prop} (h : wpx E F s Q) : (∃ a s', F s = some (.ok a, s') ∧ Q a s') ∨ ∃ x s', F s = some (.error x, s') ∧ E x s' := by
  unfold wpx finx at h
  split at h
  · rename_i a s' e; exact .inl ⟨a, s', e, h⟩
  · rename_i x s' e; exact .inr ⟨x, s', e, h⟩
  · exact h.elim
theorem wpx_in {F : M α} {Q : α → VS → Prop} {a : α} {s' : VS} (e : F s = some (.ok a, s')) (q : Q a s') : wpx E F s Q := by unfold wpx; rw [e]; exact q
theorem wpx_er {F : M α} {Q : α → VS → Prop} {x : Xn} {s' : VS} (e : F s = some (.error x, s')) (q : E x s') : wpx E F s Q := by unfold wpx; rw [e]; exact q
theorem wpx_mono {E' : Xn → VS → Prop} {F : M α} {Q Q' : α → VS → Prop} (h : wpx E F s Q) (hq : ∀ a s', Q a s' → Q' a s') (he : ∀ x s', E x s' → E' x s') : wpx E' F s Q' := by
  rcases wpx_out h with ⟨a, s', e, q⟩ | ⟨x, s', e, q⟩
  · exact wpx_in e (hq a s' q)
  · exact wpx_er e (he x s' q)
theorem wpx_congr {F : M α} {Q Q' : α → VS → Prop} (h : ∀ a s', Q a s' ↔ Q' a s') : wpx E F s Q ↔ wpx E F s Q' := by
  have e : Q = Q' := funext fun a => funext fun s => propext (h a s)
  rw [e]
@[simp] theorem wpx_bd {F : M α} {g : α → M β} {Q : β → VS → Prop} : wpx E (bd F g) s Q ↔ wpx E F s fun a s' => wpx E (g a) s' Q := by
  unfold wpx bd
  split <;> rename_i e <;> simp [e]
def thenX (E : Xn → VS → Prop) (G : M Fl) (Q : Fl → VS → Prop) : Fl → VS → Prop
  | .nx, s => wpx E G s Q
  | f, s => Q f s
@[simp] theorem thenX_nx {G : M Fl} {Q : Fl → VS → Prop} : thenX E G Q .nx s ↔ wpx E G s Q := Iff.rfl
@[simp] theorem thenX_rt {G : M Fl} {Q : Fl → VS → Prop} {l : L} : thenX E G Q (.rt l) s ↔ Q (.rt l) s := Iff.rfl
@[simp] theorem wpx_rt {a : α} {Q : α → VS → Prop} : wpx E (rt a) s Q ↔ Q a s := Iff.rfl
theorem wpx_opt {o : Option α} {Q : α → VS → Prop} : wpx E (fun s => match o with | some l => some (.ok l, s) | none => none) s Q ↔ to o s Q := by cases o <;> rfl
@[simp] theorem wpx_fK {F : M D} {Q : Pk → VS → Prop} : wpx E (fK F) s Q ↔ wpx E F s fun d s' => Q (.dat d) s' := by unfold fK; simp
@[simp] theorem wpx_fD {F : M D} {Q : L → VS → Prop} : wpx E (fD F) s Q ↔ wpx E F s fun d s' => Q (.d d) s' := by unfold fD; simp
@[simp] theorem wpx_fS {F : M L} {Q : D → VS → Prop} : wpx E (fS F) s Q ↔ wpx E F s fun l s' => to l.data s' Q := by
  unfold fS; rw [wpx_bd]; refine wpx_congr fun l s => ?_
  unfold wpx; dsimp only; cases l.data <;> simp
@[simp] theorem wpx_vLook {i : Nat} {Q : Pk → VS → Prop} : wpx E (vLook i) s Q ↔ to (at? s i) s fun l s' => Q (pkOf i l) s' := by
  unfold wpx vLook at? to
  cases h : s[i]? with
  | none => simp
  | some o =>
    cases o with
    | none => simp
    | some l => cases l <;> simp
@[simp] theorem wpx_vGet {i : Nat} {Q : D → VS → Prop} : wpx E (vGet i) s Q ↔ to (at? s i) s fun l s' => to l.data s' fun d s' => Q d (s'.set i (some (.d d))) := by
  have hid : ∀ x, s[i]? = some (some (L.d x)) → s.set i (some (.d x)) = s := fun x e => by
    apply List.ext_getElem?
    intro j
    by_cases q : i = j
    · subst q
      rw [List.getElem?_set_self (List.getElem?_eq_some_iff.mp e).1, e]
    · rw [List.getElem?_set_ne q]
  unfold wpx vGet at?
  cases h : s[i]? with
  | none => simp
  | some o =>
    cases o with
    | none => simp
    | some l =>
      cases l with
      | d x => simp [hid x h]
      | own x => simp
      | odi k x => simp
      | obj C fs ls =>
        simp only [to_some]
        unfold L.data
        split <;> simp_all
      | oll ls => simp [L.data]
      | odl ks ls => simp [L.data]
      | otp ls => simp [L.data]
      | hole => simp [L.data]
@[simp] theorem wpx_vMove {i : Nat} {Q : L → VS → Prop} : wpx E (vMove i) s Q ↔ to (at? s i) s fun l s' => Q l (s'.set i none) := by
  unfold wpx vMove at?
  cases h : s[i]? with
  | none => simp
  | some o => cases o <;> simp
@[simp] theorem wpx_f2 {f : D → D → Option L} {Fa Fb : M Pk} {Q : L → VS → Prop} : wpx E (f2 f Fa Fb) s Q ↔ wpx E Fa s fun a s => wpx E Fb s fun b s => to (res s a) s fun x s => to (res s b) s fun y s => to (f x y) s Q := by
  unfold f2; rw [wpx_bd]; refine wpx_congr fun a s => ?_; rw [wpx_bd]; refine wpx_congr fun b s => ?_
  unfold wpx; dsimp only
  cases h1 : res s a with
  | none => simp
  | some x =>
    cases h2 : res s b with
    | none => simp [h2]
    | some y => cases h : f x y <;> simp [h2, h]
@[simp] theorem wpx_c2 {f : D → D → Option Bool} {Fa Fb : M Pk} {Q : Bool → VS → Prop} : wpx E (c2 f Fa Fb) s Q ↔ wpx E Fa s fun a s => wpx E Fb s fun b s => to (res s a) s fun x s => to (res s b) s fun y s => to (f x y) s Q := by
  unfold c2; rw [wpx_bd]; refine wpx_congr fun a s => ?_; rw [wpx_bd]; refine wpx_congr fun b s => ?_
  unfold wpx; dsimp only
  cases h1 : res s a with
  | none => simp
  | some x =>
    cases h2 : res s b with
    | none => simp [h2]
    | some y => cases h : f x y <;> simp [h2, h]
@[simp] theorem wpx_f1 {f : D → Option L} {Fa : M Pk} {Q : L → VS → Prop} : wpx E (f1 f Fa) s Q ↔ wpx E Fa s fun a s => to (res s a) s fun x s => to (f x) s Q := by
  unfold f1; rw [wpx_bd]; refine wpx_congr fun a s => ?_
  unfold wpx; dsimp only
  cases h1 : res s a with
  | none => simp
  | some x => cases h : f x <;> simp [h]
@[simp] theorem wpx_fBl {F : M Bool} {Q : D → VS → Prop} : wpx E (fBl F) s Q ↔ wpx E F s fun b s => Q (.bl b) s := by unfold fBl; simp
@[simp] theorem wpx_c3 {f f' : D → D → Option Bool} {Fa Fb Fc : M Pk} {Q : Bool → VS → Prop} : wpx E (c3 f f' Fa Fb Fc) s Q ↔ wpx E Fa s fun a s => wpx E Fb s fun b s => to (res s a) s fun x s => to (res s b) s fun y s => to (f x y) s fun k s =>
    if k = true then wpx E Fc s fun c s => to (res s b) s fun y s => to (res s c) s fun z s => to (f' y z) s Q else Q false s := by
  unfold c3; rw [wpx_bd]; refine wpx_congr fun a s => ?_; rw [wpx_bd]; refine wpx_congr fun b s => ?_
  have e1 : ∀ s, wpx E (bd Fc (fun c s => match res s b, res s c with
    | some y, some z => (match f' y z with
      | some l => some (.ok l, s)
      | none => none)
    | _, _ => none)) s Q ↔ wpx E Fc s fun c s => to (res s b) s fun y s => to (res s c) s fun z s => to (f' y z) s Q := fun s => by
    refine wpx_bd.trans (wpx_congr fun c s => ?_)
    unfold wpx; dsimp only
    cases h1 : res s b with
    | none => simp
    | some y =>
      cases h2 : res s c with
      | none => simp [h2]
      | some z => cases h : f' y z <;> simp [h2, h]
  simp only [← e1]
  unfold wpx; dsimp only
  cases h1 : res s a with
  | none => simp
  | some x =>
    cases h2 : res s b with
    | none => simp [h2]
    | some y =>
      cases h : f x y with
      | none => simp [h2, h]
      | some k =>
        cases k with
        | false => simp [h2, h]
        | true =>
          simp only [h2, h, to_some, if_true] <;> exact Iff.rfl
@[simp] theorem wpx_kNil {Q : List Pk → VS → Prop} : wpx E kNil s Q ↔ Q [] s := by unfold kNil; simp
@[simp] theorem wpx_kCons {Fa : M Pk} {Fr : M (List Pk)} {Q : List Pk → VS → Prop} : wpx E (kCons Fa Fr) s Q ↔ wpx E Fa s fun a s => wpx E Fr s fun r s => Q (a :: r) s := by unfold kCons; simp
@[simp] theorem wpx_aNil {Q : List D → VS → Prop} : wpx E aNil s Q ↔ Q [] s := by unfold aNil; simp
@[simp] theorem wpx_aCons {Fa : M D} {Fr : M (List D)} {Q : List D → VS → Prop} : wpx E (aCons Fa Fr) s Q ↔ wpx E Fa s fun a s => wpx E Fr s fun r s => Q (a :: r) s := by unfold aCons; simp
@[simp] theorem wpx_fN {f : List D → Option L} {Fr : M (List Pk)} {Q : L → VS → Prop} : wpx E (fN f Fr) s Q ↔ wpx E Fr s fun ks s => to (resAll s ks) s fun ds s => to (f ds) s Q := by
  unfold fN; rw [wpx_bd]; refine wpx_congr fun ks s => ?_
  unfold wpx; dsimp only
  cases h1 : resAll s ks with
  | none => simp
  | some ds => cases h : f ds <;> simp [h]
theorem wpx_ite {c : Prop} [Decidable c] {F G : M α} {Q : α → VS → Prop} : wpx E (if c then F else G) s Q ↔ if c then wpx E F s Q else wpx E G s Q := by split <;> rfl
@[simp] theorem wpx_fLst {Fr : M (List D)} {Q : L → VS → Prop} : wpx E (fLst Fr) s Q ↔ wpx E Fr s fun ds s => ds.length ≤ 100000 ∧ Q (.own ds) s := by
  unfold fLst; rw [wpx_bd]; refine wpx_congr fun ds s => ?_
  unfold wpx; dsimp only; split
  · rename_i h; simp [h]
  · rename_i h; simp [h]
@[simp] theorem wpx_fTup {Fr : M (List D)} {Q : D → VS → Prop} : wpx E (fTup Fr) s Q ↔ wpx E Fr s fun ds s => ds.length ≤ 100000 ∧ Q (.tup ds) s := by
  unfold fTup; rw [wpx_bd]; refine wpx_congr fun ds s => ?_
  unfold wpx; dsimp only; split
  · rename_i h; simp [h]
  · rename_i h; simp [h]
@[simp] theorem wpx_bAnd {A B : M Bool} {Q : Bool → VS → Prop} : wpx E (bAnd A B) s Q ↔ wpx E A s fun k s => if k = true then wpx E B s Q else Q false s := by unfold bAnd; simp [wpx_ite]
@[simp] theorem wpx_bOr {A B : M Bool} {Q : Bool → VS → Prop} : wpx E (bOr A B) s Q ↔ wpx E A s fun k s => if k = true then Q true s else wpx E B s Q := by unfold bOr; simp [wpx_ite]
@[simp] theorem wpx_bNot {A : M Bool} {Q : Bool → VS → Prop} : wpx E (bNot A) s Q ↔ wpx E A s fun k s => Q (!k) s := by unfold bNot; simp
@[simp] theorem wpx_fTest {F : M D} {Q : Bool → VS → Prop} : wpx E (fTest F) s Q ↔ wpx E F s fun d s => to (dTest d) s Q := by
  unfold fTest; rw [wpx_bd]; refine wpx_congr fun d s => ?_
  cases d <;> rfl
@[simp] theorem wpx_vAnd {A B : M D} {Q : D → VS → Prop} : wpx E (vAnd A B) s Q ↔ wpx E A s fun d s => to (dTest d) s fun k s => if k = true then wpx E B s Q else Q (.bl false) s := by
  unfold vAnd; rw [wpx_bd]; refine wpx_congr fun d s => ?_
  cases d with
  | bl k => cases k <;> simp [wpx]
  | _ => rfl
@[simp] theorem wpx_vOr {A B : M D} {Q : D → VS → Prop} : wpx E (vOr A B) s Q ↔ wpx E A s fun d s => to (dTest d) s fun k s => if k = true then Q (.bl true) s else wpx E B s Q := by
  unfold vOr; rw [wpx_bd]; refine wpx_congr fun d s => ?_
  cases d with
  | bl k => cases k <;> simp [wpx]
  | _ => rfl
@[simp] theorem wpx_vNot {A : M D} {Q : D → VS → Prop} : wpx E (vNot A) s Q ↔ wpx E A s fun d s => to (dTest d) s fun k s => Q (.bl (!k)) s := by
  unfold vNot; rw [wpx_bd]; refine wpx_congr fun d s => ?_
  cases d <;> rfl
@[simp] theorem wpx_fIf {C : M Bool} {A B : M α} {Q : α → VS → Prop} : wpx E (fIf C A B) s Q ↔ wpx E C s fun k s => if k = true then wpx E A s Q else wpx E B s Q := by unfold fIf; simp [wpx_ite]
@[simp] theorem wpx_sNil {Q : Fl → VS → Prop} : wpx E sNil s Q ↔ Q .nx s := by unfold sNil; simp
@[simp] theorem wpx_sSeq {F G : M Fl} {Q : Fl → VS → Prop} : wpx E (sSeq F G) s Q ↔ wpx E F s (thenX E G Q) := by
  unfold sSeq; rw [wpx_bd]; refine wpx_congr fun f s => ?_
  cases f <;> rfl
@[simp] theorem wpx_sExpr {F : M D} {Q : Fl → VS → Prop} : wpx E (sExpr F) s Q ↔ wpx E F s fun _ s => Q .nx s := by unfold sExpr; simp
@[simp] theorem wpx_sRet {F : M L} {Q : Fl → VS → Prop} : wpx E (sRet F) s Q ↔ wpx E F s fun l s => Q (.rt l) s := by unfold sRet; simp
@[simp] theorem wpx_sRetN {Q : Fl → VS → Prop} : wpx E sRetN s Q ↔ Q (.rt (.d .non)) s := by unfold sRetN; simp
@[simp] theorem wpx_sIf {C : M Bool} {A B : M Fl} {Q : Fl → VS → Prop} : wpx E (sIf C A B) s Q ↔ wpx E C s fun k s => if k = true then wpx E A s Q else wpx E B s Q := by unfold sIf; simp [wpx_ite]
@[simp] theorem wpx_sSet {i : Nat} {F : M L} {Q : Fl → VS → Prop} : wpx E (sSet i F) s Q ↔ wpx E F s fun l s => i < s.length ∧ Q .nx (s.set i (some l)) := by
  unfold sSet; rw [wpx_bd]; refine wpx_congr fun l s => ?_
  unfold wpx; dsimp only; split
  · rename_i h; simp [h]
  · rename_i h; simp [h]
@[simp] theorem wpx_sSetT {t : Tg} {F : M D} {Q : Fl → VS → Prop} : wpx E (sSetT t F) s Q ↔ wpx E F s fun d s => to (asg t d s) s fun s' _ => Q .nx s' := by
  unfold sSetT; rw [wpx_bd]; refine wpx_congr fun d s => ?_
  unfold wpx; dsimp only; cases asg t d s <;> simp
@[simp] theorem wpx_fW {i : Nat} {g : List D → List D → Option (D × List D)} {Fr : M (List D)} {Q : D → VS → Prop} : wpx E (fW i g Fr) s Q ↔ to (ownAt s i) s fun _ s => wpx E Fr s fun ds s => to (ownAt s i) s fun xs s => to (g xs ds) s fun p s => Q p.1 (s.set i (some (.own p.2))) := by
  unfold fW; unfold wpx; dsimp only; unfold ownAt
  cases s[i]? with
  | none => simp
  | some o =>
    cases o with
    | none => simp
    | some l =>
      cases l with
      | own xs =>
        simp only [to_some]
        refine (wpx_bd (F := Fr) (s := s) (Q := Q)).trans (wpx_congr fun ds s => ?_)
        unfold wpx; dsimp only
        cases s[i]? with
        | none => simp
        | some o =>
          cases o with
          | none => simp
          | some l =>
            cases l with
            | own xs => dsimp only [to_some]; cases h : g xs ds <;> simp [h]
            | _ => simp
      | _ => simp
@[simp] theorem wpx_sSetI {i : Nat} {Fv Fi : M D} {Q : Fl → VS → Prop} : wpx E (sSetI i Fv Fi) s Q ↔ wpx E Fv s fun v s => to (ownAt s i) s fun _ s => wpx E Fi s fun k s => to (ownAt s i) s fun xs s => to (dSetN xs k) s fun n s => Q .nx (s.set i (some (.own (xs.set n v)))) := by
  unfold sSetI; rw [wpx_bd]; refine wpx_congr fun v s => ?_
  unfold wpx; dsimp only; unfold ownAt
  cases s[i]? with
  | none => simp
  | some o =>
    cases o with
    | none => simp
    | some l =>
      cases l with
      | own xs =>
        simp only [to_some]
        refine (wpx_bd (F := Fi) (s := s) (Q := Q)).trans (wpx_congr fun k s => ?_)
        unfold wpx; dsimp only
        cases s[i]? with
        | none => simp
        | some o =>
          cases o with
          | none => simp
          | some l =>
            cases l with
            | own xs => dsimp only [to_some]; cases h : dSetN xs k <;> simp [h]
            | _ => simp
      | _ => simp
@[simp] theorem wpx_oNone {Q : Option Int → VS → Prop} : wpx E oNone s Q ↔ Q none s := by unfold oNone; simp
@[simp] theorem wpx_oSome {F : M D} {Q : Option Int → VS → Prop} : wpx E (oSome F) s Q ↔ wpx E F s fun d s => to (dInt? d) s fun i s => Q (some i) s := by
  unfold oSome; rw [wpx_bd]; refine wpx_congr fun d s => ?_
  cases d <;> rfl
@[simp] theorem wpx_fSl {Fa : M Pk} {Fl Fh : M (Option Int)} {Q : L → VS → Prop} : wpx E (fSl Fa Fl Fh) s Q ↔ wpx E Fa s fun a s => wpx E Fl s fun lo s => wpx E Fh s fun hi s => to (res s a) s fun x s => to (dSl x lo hi) s Q := by
  unfold fSl; rw [wpx_bd]; refine wpx_congr fun a s => ?_; rw [wpx_bd]; refine wpx_congr fun lo s => ?_; rw [wpx_bd]; refine wpx_congr fun hi s => ?_
  unfold wpx; dsimp only
  cases h1 : res s a with
  | none => simp
  | some x => cases h : dSl x lo hi <;> simp [h]
@[simp] theorem wpx_fLRg {F : M D} {Q : L → VS → Prop} : wpx E (fLRg F) s Q ↔ wpx E F s fun d s => to (dInt? d) s fun n s => (0 ≤ n ∧ n ≤ 100000) ∧ Q (.own (rgD 0 n.toNat)) s := by
  unfold fLRg; rw [wpx_bd]; refine wpx_congr fun d s => ?_
  cases d with
  | int n =>
    unfold wpx; dsimp only [dInt?_int, to_some]
    split
    · rename_i h; simp [h]
    · rename_i h; simp [h]
  | _ => rfl
@[simp] theorem wpx_iSeq {F : M D} {Q : List D → VS → Prop} : wpx E (iSeq F) s Q ↔ wpx E F s fun d s => to (match d with
  | .lst xs => some xs
  | .tup xs => some xs
  | .scr ns => some (ns.map D.int)
  | .str z => some (signs z)
  | _ => none) s Q := by
  unfold iSeq; rw [wpx_bd]; refine wpx_congr fun d s => ?_
  cases d <;> rfl
@[simp] theorem wpx_iRng1F {F : M D} {Q : List D → VS → Prop} : wpx E (iRng1F F) s Q ↔ wpx E F s fun d s => to (dInt? d) s fun n s => (-100000 ≤ n ∧ n ≤ 100000) ∧ Q (rgD 0 n.toNat) s := by
  unfold iRng1F; rw [wpx_bd]; refine wpx_congr fun d s => ?_
  cases d with
  | int n =>
    unfold wpx; dsimp only [dInt?_int, to_some]
    split
    · rename_i h; simp [h]
    · rename_i h; simp [h]
  | _ => rfl
@[simp] theorem wpx_iRng2F {F G : M D} {Q : List D → VS → Prop} : wpx E (iRng2F F G) s Q ↔ wpx E F s fun a s => wpx E G s fun b s => to (dRng2 a b) s Q := by
  unfold iRng2F; rw [wpx_bd]; refine wpx_congr fun a s => ?_; rw [wpx_bd]; refine wpx_congr fun b s => ?_
  unfold wpx; dsimp only
  cases dRng2 a b <;> simp
@[simp] theorem wpx_fM {T : String} {f : D → List D → Option L} {Fo : M Pk} {Fr : M (List Pk)} {Q : L → VS → Prop} : wpx E (fM T f Fo Fr) s Q ↔ wpx E Fo s fun o s => to (res s o) s fun d1 s => isT T d1 = true ∧ wpx E Fr s fun ks s => to (res s o) s fun d s => to (resAll s ks) s fun ds s => to (f d ds) s Q := by
  unfold fM; rw [wpx_bd]; refine wpx_congr fun o s => ?_
  have e1 : ∀ s, wpx E (bd Fr (fun ks s2 => match res s2 o, resAll s2 ks with
    | some d, some ds => (match f d ds with
      | some l => some (.ok l, s2)
      | none => none)
    | _, _ => none)) s Q ↔ wpx E Fr s fun ks s => to (res s o) s fun d s => to (resAll s ks) s fun ds s => to (f d ds) s Q := fun s => by
    refine wpx_bd.trans (wpx_congr fun ks s => ?_)
    unfold wpx; dsimp only
    cases h1 : res s o with
    | none => simp
    | some d =>
      cases h2 : resAll s ks with
      | none => simp [h2]
      | some ds => cases h : f d ds <;> simp [h2, h]
  simp only [← e1]
  unfold wpx; dsimp only
  cases h1 : res s o with
  | none => simp
  | some d =>
    dsimp only [to_some]
    split
    · rename_i h; simp only [h, true_and, to_some] <;> exact Iff.rfl
    · rename_i h; simp [h]
@[simp] theorem wpx_fIsi {T : String} {Fa : M Pk} {Q : D → VS → Prop} : wpx E (fIsi T Fa) s Q ↔ wpx E Fa s fun a s => to (res s a) s fun d s => to (dIsi T d) s fun b s => Q (.bl b) s := by
  unfold fIsi; rw [wpx_bd]; refine wpx_congr fun a s => ?_
  unfold wpx; dsimp only
  cases h1 : res s a with
  | none => simp
  | some x => cases h : dIsi T x <;> simp [h]
@[simp] theorem wpx_fTab {t : List (Str × Int)} {F G : M D} {Q : D → VS → Prop} : wpx E (fTab t F G) s Q ↔ wpx E F s fun z s => wpx E G s fun d s => to (dTab t z d) s Q := by
  unfold fTab; rw [wpx_bd]; refine wpx_congr fun a s => ?_; rw [wpx_bd]; refine wpx_congr fun b s => ?_
  unfold wpx; dsimp only
  cases dTab t a b <;> simp
@[simp] theorem wpx_fFld {C : Addr} {f : Str} {Fo : M Pk} {Q : D → VS → Prop} : wpx E (fFld C f Fo) s Q ↔ wpx E Fo s fun o s => to (fldOf C f s o) s Q := by
  unfold fFld; rw [wpx_bd]; refine wpx_congr fun o s => ?_
  unfold wpx; dsimp only
  cases fldOf C f s o <;> simp
@[simp] theorem wpx_fCall {fn : Fn} {Fr : M (List Pk)} {Q : L → VS → Prop} : wpx E (fCall fn Fr) s Q ↔ wpx E Fr s fun ks s => wpx E (callF fn ks) s Q := by unfold fCall; simp
theorem wpx_fMeth {C : Addr} {m : Str} {fn : Fn} {Fo : M Pk} {Fr : M (List Pk)} {Q : L → VS → Prop} : wpx E (fMeth C m fn Fo Fr) s Q ↔ wpx E Fo s fun o s => to (clsOf s o) s fun p s => (p.1 = C ∧ m ∉ p.2) ∧ wpx E Fr s fun ks s => wpx E (callF fn (o :: ks)) s Q := by
  unfold fMeth; rw [wpx_bd]; refine wpx_congr fun o s => ?_
  have e1 : ∀ s, wpx E (bd Fr fun ks => callF fn (o :: ks)) s Q ↔ wpx E Fr s fun ks s => wpx E (callF fn (o :: ks)) s Q := fun s => wpx_bd
  simp only [← e1]
  unfold wpx; dsimp only
  cases h1 : clsOf s o with
  | none => simp
  | some p =>
    obtain ⟨C', fs⟩ := p
    dsimp only [to_some]
    split
    · rename_i h; simp [h]
    · rename_i h; simp only [h, false_and, to_some] <;> exact Iff.rfl
theorem wpx_fMake {C : Addr} {fn : Fn} {Fr : M (List Pk)} {Q : L → VS → Prop} : wpx E (fMake C fn Fr) s Q ↔ wpx E Fr s fun ks s => wpx E (makeF C fn ks) s Q := by unfold fMake; simp
@[simp] theorem wpx_sFor {Fi : M (List D)} {tg : Tg} {B : M Fl} {Q : Fl → VS → Prop} : wpx E (sFor Fi tg B) s Q ↔ wpx E Fi s fun ds s => wpx E (loopF tg B ds) s Q := by unfold sFor; simp
@[simp] theorem wpx_loop_nil {tg : Tg} {B : M Fl} {Q : Fl → VS → Prop} : wpx E (loopF tg B []) s Q ↔ Q .nx s := Iff.rfl
theorem wpx_loop_cons {tg : Tg} {B : M Fl} {d : D} {r : List D} {Q : Fl → VS → Prop} : wpx E (loopF tg B (d :: r)) s Q ↔ to (asg tg d s) s fun s1 _ => wpx E B s1 (lend Q fun s2 => wpx E (loopF tg B r) s2 Q) := by
  rw [loopF]; unfold wpx; dsimp only
  cases h : asg tg d s with
  | none => simp
  | some s1 =>
    dsimp only
    refine (wpx_bd (F := B) (s := s1) (Q := Q)).trans (wpx_congr fun f s => ?_)
    cases f <;> rfl
theorem wpx_loop {tg : Tg} {B : M Fl} {ds : List D} {Q : Fl → VS → Prop} (I : Nat → VS → Prop) (h0 : I 0 s) (step : ∀ i d s, ds[i]? = some d → I i s → to (asg tg d s) s fun s1 _ => wpx E B s1 (lend Q (I (i + 1)))) (hend : ∀ s, I ds.length s → Q .nx s) : wpx E (loopF tg B ds) s Q := by
  have key : ∀ (r : List D) (i : Nat) (s : VS), ds.drop i = r → i ≤ ds.length → I i s → wpx E (loopF tg B r) s Q := by
    intro r
    induction r with
    | nil =>
      intro i s hr hi h
      have : i = ds.length := Nat.le_antisymm hi (List.drop_eq_nil_iff.mp hr)
      subst this
      exact hend s h
    | cons d r ih =>
      intro i s hr hi h
      have hlt : i < ds.length := by
        rcases Nat.lt_or_ge i ds.length with q | q
        · exact q
        · rw [List.drop_eq_nil_of_le q] at hr; cases hr
      rw [List.drop_eq_getElem_cons hlt] at hr
      injection hr with h1 h2
      rw [wpx_loop_cons]
      obtain ⟨s1, e, w⟩ := to_out (step i d s (by rw [List.getElem?_eq_getElem hlt, h1]) h)
      refine to_in e (wpx_mono w (fun f s2 q => ?_) fun _ _ q => q)
      cases f with
      | nx => exact ih (i + 1) s2 h2 hlt q
      | ct => exact ih (i + 1) s2 h2 hlt q
      | bk => exact q
      | rt l => exact q
  exact key ds 0 s rfl (Nat.zero_le _) h0
theorem wpx_while {C : M Bool} {B : M Fl} {Q : Fl → VS → Prop} (I : Nat → VS → Prop) (step : ∀ m s, I m s → wpx E C s fun k s1 => if k = true then wpx E B s1 (lend Q fun s2 => ∃ m', m' < m ∧ I m' s2) else Q .nx s1) : ∀ (n m : Nat) (s : VS), m < n → I m s → wpx E (sWhile C B n) s Q
  | 0, m, s, h, _ => by omega
  | n + 1, m, s, h, i => by
    rw [sWhile, wpx_bd]
    refine wpx_mono (step m s i) (fun k s1 q => ?_) fun _ _ q => q
    cases k with
    | false => exact q
    | true =>
      have q : wpx E B s1 (lend Q fun s2 => ∃ m', m' < m ∧ I m' s2) := q
      rw [wpx_ite, if_pos rfl, wpx_bd]
      refine wpx_mono q (fun f s2 q => ?_) fun _ _ q => q
      cases f with
      | nx => obtain ⟨m', h1, h2⟩ := q; exact wpx_while I step n m' s2 (by omega) h2
      | ct => obtain ⟨m', h1, h2⟩ := q; exact wpx_while I step n m' s2 (by omega) h2
      | bk => exact q
      | rt l => exact q
theorem wpx_fComp {own : List Nat} {Fi : M (List D)} {tg : Tg} {C : M Bool} {Fe : M D} {Q : L → VS → Prop} : wpx E (fComp own Fi tg C Fe) s Q ↔ wpx E Fi s fun ds s => to (lcF tg own C Fe ds [] (wipeV s own)) s fun p s => Q (.own p.1) (restV s p.2 own) := by
  unfold fComp; rw [wpx_bd]; refine wpx_congr fun ds s => ?_
  unfold wpx; dsimp only
  cases lcF tg own C Fe ds [] (wipeV s own) <;> simp
theorem wpx_fCompO {i : Nat} {own : List Nat} {tg : Tg} {C : M Bool} {Fe : M D} {Q : L → VS → Prop} : wpx E (fCompO i own tg C Fe) s Q ↔ to (ownAt s i) s fun xs s => to (lcF tg own C Fe xs [] (wipeV (s.set i none) own)) s fun p s => Q (.own p.1) ((restV (s.set i none) p.2 own).set i (some (.own xs))) := by
  unfold wpx fCompO ownAt
  cases h : s[i]? with
  | none => simp
  | some o =>
    cases o with
    | none => simp
    | some l =>
      cases l with
      | own xs => cases h2 : lcF tg own C Fe xs [] (wipeV (s.set i none) own) <;> simp [h2]
      | _ => simp
theorem wpx_loopN {tg : Tg} {B : M Fl} {ds : List D} {Q : Fl → VS → Prop} (I : Nat → VS → Prop) (h0 : I 0 s) (step : ∀ i d s (N : VS → Prop), ds[i]? = some d → I i s → (∀ s', I (i + 1) s' → N s') → to (asg tg d s) s fun s1 _ => wpx E B s1 (lend Q N)) (hend : ∀ s, I ds.length s → Q .nx s) : wpx E (loopF tg B ds) s Q :=
  wpx_loop I h0 (fun i d s hd hi => step i d s _ hd hi fun _ h => h) hend
theorem wpx_whileN {C : M Bool} {B : M Fl} {Q : Fl → VS → Prop} (I : Nat → VS → Prop) (n m : Nat) (hm : m < n) (h0 : I m s) (step : ∀ m s (N : VS → Prop), I m s → (∀ m' s', m' < m → I m' s' → N s') → wpx E C s fun k s1 => if k = true then wpx E B s1 (lend Q N) else Q .nx s1) : wpx E (sWhile C B n) s Q :=
  wpx_while I (fun m s i => step m s _ i fun m' s' h1 h2 => ⟨m', h1, h2⟩) n m s hm h0
@[simp] theorem wpx_iEnF {F : M D} {Q : List D → VS → Prop} : wpx E (iEnF F) s Q ↔ wpx E F s fun d s => to (match d with
  | .lst xs => some (enumD 0 xs)
  | _ => none) s Q := by
  unfold iEnF; rw [wpx_bd]; refine wpx_congr fun d s => ?_
  cases d <;> rfl
theorem wpx_callF {fn : Fn} {ks : List Pk} {Q : L → VS → Prop} : wpx E (callF fn ks) s Q ↔ to (argsOf s ks) s fun ls s => (slND ks = true ∧ ks.length = fn.n) ∧ wpx (fun x os => E x (setO s ks os)) fn.run ls fun l os => Q l (setO s ks os) := by
  unfold wpx callF
  cases h : argsOf s ks with
  | none => simp
  | some ls =>
    dsimp only [to_some]
    split
    · rename_i h1
      cases h2 : fn.run ls with
      | none => simp [h2]
      | some p =>
        obtain ⟨r, os⟩ := p
        cases r <;> simp [h1, h2]
    · rename_i h1; simp [h1]
theorem wpx_makeF {C : Addr} {fn : Fn} {ks : List Pk} {Q : L → VS → Prop} {ls : VS} (h1 : argsOf s ks = some ls) (h2 : slND ks = true) (h3 : ks.length + 1 = fn.n) (h4 : wpx (fun x os => ∃ o os', os = o :: os' ∧ E x (setO s ks os')) fn.run (some (.obj C [] []) :: ls) fun r os => r = .d .non ∧ ∃ l os', os = some l :: os' ∧ Q l (setO s ks os')) : wpx E (makeF C fn ks) s Q := by
  unfold wpx makeF
  rw [h1]
  dsimp only
  rw [if_pos ⟨h2, h3⟩]
  rcases wpx_out h4 with ⟨a, s', e, rfl, l, os', rfl, q⟩ | ⟨x, s', e, o, os', rfl, q⟩
  · rw [e]; exact q
  · rw [e]; exact q
theorem wpx_def {n nn : Nat} {io : List Nat} {F : M Fl} {Q : L → VS → Prop} (h : wpx (fun x s' => E x (outs n io s')) F (s ++ List.replicate (nn - n) none) (retF n io Q)) : wpx E (mkFn n nn io F).run s Q := by
  show finx E (mkRun n nn io F s) Q
  unfold mkRun
  rcases wpx_out h with ⟨a, s', e, q⟩ | ⟨x, s', e, q⟩
  · rw [e]
    cases a with
    | rt l => exact q
    | nx => exact q
    | bk => exact q.elim
    | ct => exact q.elim
  · rw [e]; exact q
@[simp] theorem wpx_sRaise {C : Addr} {n : Nat} {fs : List Str} {ix : List Nat} {Fr : M (List D)} {Q : Fl → VS → Prop} : wpx E (sRaise C n fs ix Fr) s Q ↔ wpx E Fr s fun ds s => (ds.length = n ∧ n ≤ 1000) ∧ to (pick ds ix) s fun es s => E ⟨C, some (fs, es)⟩ s := by
  unfold sRaise; rw [wpx_bd]; refine wpx_congr fun ds s => ?_
  unfold wpx; dsimp only
  split
  · rename_i h
    cases pick ds ix <;> simp [h]
  · rename_i h; simp [h]
@[simp] theorem wpx_sRaise0 {C : Addr} {Q : Fl → VS → Prop} : wpx E (sRaise0 C) s Q ↔ E ⟨C, none⟩ s := Iff.rfl
theorem wpx_sTry {cs : List Addr} {i : Nat} {B : M Fl} {S : Xn → M Fl} {Q : Fl → VS → Prop} (h : wpx (fun x s1 => (x.C ∈ cs ∧ i < s1.length) ∧ wp (S x) (s1.set i none) fun f s2 => Q f (s2.set i none)) B s Q) : wpx E (sTry cs i B S) s Q := by
  unfold wpx sTry
  rcases wpx_out h with ⟨a, s', e, q⟩ | ⟨x, s', e, hx, q⟩
  · rw [e]; exact q
  · rw [e]
    dsimp only
    rw [if_pos hx]
    obtain ⟨f, s2, e2, q2⟩ := wp_out q
    rw [e2]
    exact q2
theorem wp_sTry {cs : List Addr} {i : Nat} {B : M Fl} {S : Xn → M Fl} {Q : Fl → VS → Prop} (h : wpx (fun x s1 => (x.C ∈ cs ∧ i < s1.length) ∧ wp (S x) (s1.set i none) fun f s2 => Q f (s2.set i none)) B s Q) : wp (sTry cs i B S) s Q := by
  unfold wp sTry
  rcases wpx_out h with ⟨a, s', e, q⟩ | ⟨x, s', e, hx, q⟩
  · rw [e]; exact q
  · rw [e]
    dsimp only
    rw [if_pos hx]
    obtain ⟨f, s2, e2, q2⟩ := wp_out q
    rw [e2]
    exact q2
end
end Ev
namespace Ev
open PySem PySem.Spec PyProof.Rows L2
open Evl (Ex)
open L2H (RoomH Hot1 PinOk cxH HotC PIH)
theorem unitsH {k : Nat} {A : Around} (r : RoomH k A) : A.units + 64 < cLine := by have := r.un; omega
theorem FnAtH.mono {P : Program} {w : World} {K : PySem.W.Frag} {mg : Str → Option Value} {base : Heap} {j k : Nat} {x : Str} {fn : Fn} (h : FnAtH P w K mg base j x fn) (hj : j ≤ k) : FnAtH P w K mg base k x fn := by
  obtain ⟨f, fd, ps, a, b, c, F⟩ := h.ex
  exact ⟨f, fd, ps, a, b, c, F.len, fun A outer s H args us vs Q E p cc d hr => F.run A outer s H args us vs Q E p cc d (hr.mono hj)⟩
theorem FnAtI.mono {P : Program} {w : World} {K : PySem.W.Frag} {mg : Str → Option Value} {base : Heap} {j k : Nat} {x : Str} {cs : List Addr} {run : Xn → M L} (h : FnAtI P w K mg base j x cs run) (hj : j ≤ k) : FnAtI P w K mg base k x cs run := by
  obtain ⟨f, fd, ps, a, b, c, F⟩ := h.ex
  exact ⟨f, fd, ps, a, b, c, F.len, fun A outer s H args us vs Q E p cc d hr => F.run A outer s H args us vs Q E p cc d (hr.mono hj)⟩
abbrev BodyOkH (P : Program) (w : World) (K : PySem.W.Frag) (mg : Str → Option Value) (base : Heap) (N : List Str) (qual : Str) (st : Stmt) (k : Nat) (io : List Nat) (F : M Fl) : Prop :=
  ∀ (f : Addr) (cdv : Value) (A : Around) (outer : List Env) (s : Shared) (H : Hp) (E : XK) (p : Addr × Obj) (c : Value) (d : Option Addr), Hot1 A p → L2N.Zn c d p.2 → RoomH k (A.deeper (envOfC qual (defScope st) s.heap.objs.size f cdv)) →
    PSs (cxH (L2N.CX P w) P w K mg base N qual (defScope st) f cdv A outer s H E p) (defBody st) (tS K (fun c dd _ H => E c dd H) ⟨io, none⟩ F)
section
variable {P : Program} {w : World} {K : PySem.W.Frag} {mg : Str → Option Value} {base : Heap} {k : Nat} {x qual : Str} {N ps : List Str} {st : Stmt} {io : List Nat} {F : M Fl} {C : Addr}
theorem fn_atH (G : FunG K mg x ps st) (S : FnScope N ps (defScope st)) (hio : ∀ i ∈ io, i < ps.length) (hB : BodyOkH P w K mg base N x st k io F) : FnAtH P w K mg base (k + 1) x (mkFn ps.length N.length io F) := by
  obtain ⟨f, fd, hm, hk, hb, Fu⟩ := G.ex
  exact ⟨f, fd, ps, hm, hk, hb, fn_okH Fu S hio (hB f)⟩
theorem fn_atI {cs : List Addr} {F : Xn → M Fl} (G : FunG K mg x ps st) (S : FnScope N ps (defScope st)) (hps : ps.length = 2)
    (hB : ∀ (f : Addr) (cdv : Value) (A : Around) (outer : List Env) (s : Shared) (H : Hp) (E : XK) (p : Addr × Obj) (d : Option Addr) (x0 : Xn), x0.C ∈ cs → dOk d x0 → Hot1 A p → L2N.Zn (.ref x0.C) d p.2 → RoomH k (A.deeper (envOfC x (defScope st) s.heap.objs.size f cdv)) →
      PSs (cxH (L2N.CX P w) P w K mg base N x (defScope st) f cdv A outer s H E p) (defBody st) (tS K (fun c dd _ H => E c dd H) ⟨[0], some (0, p.1, d, x0)⟩ (F x0))) : FnAtI P w K mg base (k + 1) x cs (fun x => mkRun 2 N.length [] (F x)) := by
  obtain ⟨f, fd, hm, hk, hb, Fu⟩ := G.ex
  exact ⟨f, fd, ps, hm, hk, hb, fn_okI Fu S hps (hB f)⟩
end
theorem Sim.subX {K : PySem.W.Frag} {fm : Fm} {Hs : Hp} {vs : VS} {σ : L2.St} {H : Hp} {xf xg : List Addr} (S : Sim K fm Hs vs σ H xf) (h : xg.Sublist xf) : Sim K fm Hs vs σ H xg := by
  obtain ⟨ft, s⟩ := S
  exact ⟨ft, ⟨s.sub, s.base, s.grow, s.new, s.len, s.ok, s.nd, s.dj, s.sp, s.xnd.sublist h, fun i a ha q => s.xdj i a ha (h.subset q), fun a ha => s.xsp a (h.subset ha), s.pins⟩⟩
theorem LOkL.get {K : PySem.W.Frag} {Hs H : Hp} : ∀ {ls : List L} {us : List V} {f : List Addr} {i : Nat} {l : L}, LOkL K Hs H us ls f → ls[i]? = some l → ∃ v g, us[i]? = some v ∧ LOk K Hs H v l g ∧ g.Sublist f
  | [], _, _, _, _, _, e => by simp at e
  | a :: ls, _, _, 0, l, h, e => by
    cases h with
    | cons h1 h2 =>
      have : a = l := by simpa using e
      subst this
      exact ⟨_, _, rfl, h1, List.sublist_append_left ..⟩
  | a :: ls, _, _, i + 1, l, h, e => by
    cases h with
    | cons h1 h2 =>
      obtain ⟨v, g, e1, r, s⟩ := LOkL.get (i := i) h2 (by simpa using e)
      exact ⟨v, g, by simpa using e1, r, s.trans (List.sublist_append_right ..)⟩
def pickI (ls : List L) : D → Option L
  | .int i => if 0 ≤ i then ls[i.toNat]? else none
  | _ => none
def pickF (ls : List L) (d : D) : M L := fun s => match pickI ls d with
  | some l => some (.ok l, s)
  | none => none
def fPickL (Fr : M (List L)) (Fi : M D) : M L := bd Fr fun ls s => if ls.length ≤ 1000 then bd Fi (pickF ls) s else none
section
variable {X : Cx} {W : WX} {P : Pin} {ie : Expr} {es : List Expr} {pos p1 : Pos} {Fr : M (List L)} {Fi : M D}
theorem dl_pickL (hx : PA X es (tLs X.K W P Fr)) (hi : PE X ie (tE X.K W P Fi)) (hs : PlainIx ie := by exact fun _ _ => rfl) : PE X (.Subscript (.List es p1) ie pos) (tL X.K W P (fPickL Fr Fi)) :=
  PE_weak (pe_ix ix_seq (pe_lst hx) hi hs) fun σ H Q ⟨fm, Hs, vs, r', vs', hF, hP, hS, hk, hE⟩ => by
    dsimp only [tOp, tLst]
    refine go hF hP hS hE fun ls vs1 us H1 Hs1 xf hg S1 X1 r1 => ?_
    have hul := r1.length
    split at hg
    · rename_i hsz
      refine ⟨by rw [hul, sizeLine_eq]; omega, fun p0 hp0 => ?_⟩
      have S2 := S1.allocXs hp0 (.lst us)
      have r2 : LOkL X.K Hs1 (upd H1 p0 (.lst us)) us ls xf := r1.mono (Ex.refl _) ls fun b hb => upd_ne fun z => (let ⟨_, s⟩ := S1; (s.xsp b hb).2.2) (by rw [z]; exact hp0)
      obtain ⟨S3, hxx, nd⟩ := S2.parkF
      have hSx : ∀ b ∈ p0 :: xf, fm.S b = none ∧ fm.B b = none ∧ upd H1 p0 (.lst us) b ≠ none := fun b hb => ⟨Evl.fresh_back (let ⟨_, z⟩ := S1; z.grow) (hxx b hb).1, (hxx b hb).2⟩
      refine go hg (hP.parkF fun b hb => (hxx b hb).2.1) S3 (fun x c dd H' Hs' q S' X' o => hE x c dd H' Hs' q (S'.unparkF hSx nd).1.noX (X1.trans X') o) fun d vs2 v H2 Hs2 xg hg2 S4 X2 ⟨rd, ex⟩ => ?_
      subst ex
      obtain ⟨S5, same⟩ := S4.unparkF hSx nd
      unfold pickF at hg2
      split at hg2
      · rename_i l el
        cases hg2
        unfold pickI at el
        split at el
        · skip
          split at el
          · rename_i hc
            cases rd
            obtain ⟨u, g, e1, r3, sb⟩ := r2.get el
            have hp2 : H2 p0 = some (.lst us) := by rw [same p0 (by simp), upd_same]
            refine .inl ⟨p0, us, _, u, rfl, rfl, SqL.of hp2, by rw [atI_pos hc]; exact e1, ?_⟩
            exact hk _ u H2 Hs2 g rfl (S5.subX (by simpa using sb.trans (List.sublist_cons_self ..))) (X1.trans X2) (r3.mono X2 l fun b hb => same b (by simp [sb.subset hb]))
          · cases el
        · cases el
      · cases hg2
    · cases hg
end
section
variable {X : Cx} {W : WX} {P : Pin} {e tg : Expr} {F : M D}
theorem di_listC (h : PE X e (tE X.K W P F)) : PI X tg e (tI X.K W P (iLstF F)) := PI_weak (pi_list h) fun σ H R ⟨fm, Hs, vs, r', vs', hF, hP, hS, hk, hE⟩ => by
  dsimp only [iList]
  refine go hF hP hS hE fun d vs1 v H1 Hs1 xf hg S1 X1 ⟨rx, ex⟩ => ?_
  subst ex
  split at hg
  · rename_i xs
    cases hg
    cases rx with
    | lst k1 k2 => exact ⟨_, rfl, ⟨_, SqL.of (S1.sub _ _ k1)⟩, hk _ _ H1 Hs1 [] rfl S1 X1 ⟨itok_list (fun H e => SqL.of (e _ _ k1)) (fun _ _ _ _ => trivial) k2, rfl⟩⟩
  · cases hg
end
def parSet (i j : Nat) (s : VS) : List D → Option VS
  | [x, y] => if i < s.length ∧ j < s.length then some ((s.set i (some (.d x))).set j (some (.d y))) else none
  | _ => none
def sPar (i j : Nat) (Fr : M (List D)) : M Fl := bd Fr fun ds s => match parSet i j s ds with
  | some s' => some (.ok .nx, s')
  | none => none
section
variable {X : Cx} {W : WX} {P : Pin} {a b : Expr} {Fr : M (List D)} {i j : Nat} {x y : Str} {px py pt pos : Pos} {kt k2 : Nat} {pt2 : Pos}
theorem ds_par (hi' : i ∉ P.ix) (hj' : j ∉ P.ix) (hN : X.N.Nodup) (ha : PA X [a, b] (tAs X.K W P Fr)) (hij : i ≠ j := by decide) (hc : X.calm = true := by rfl) (hi : X.N[i]? = some x := by rfl) (hj : X.N[j]? = some y := by rfl) (hx : X.env.scope.names.lookup x = some .local := by rfl) (hy : X.env.scope.names.lookup y = some .local := by rfl)
    (hw : swappedStores [.Tuple [.Name x px, .Name y py] kt pt] (.Tuple [a, b] k2 pt2) X.env = pure (some [x, y]) := by rfl) (hs : swapsWithSole [.Tuple [.Name x px, .Name y py] kt pt] (.Tuple [a, b] k2 pt2) pos.line X.env = pure false := by rfl) :
    PS X (.Assign [.Tuple [.Name x px, .Name y py] kt pt] (.Tuple [a, b] k2 pt2) pos) (tS X.K W P (sPar i j Fr)) :=
  PS_weak (ps_par hc hN hi hj hij hx hy ha hw hs) fun E σ H ⟨fm, Hs, vs, r, vs', hF, hP, hS, hk⟩ => by
    dsimp only [tPar]
    refine goS hF hP hS hk fun ds vs1 us H1 Hs1 xf hg S1 X1 ⟨rv, ex⟩ => ?_
    subst ex
    split at hg
    · rename_i s' es
      cases hg
      unfold parSet at es
      split at es
      · split at es
        · rename_i hl
          cases es
          cases rv with
          | cons r1 rr =>
            cases rr with
            | cons r2 rr =>
              cases rr
              refine ⟨_, _, rfl, ?_⟩
              have p1 : i ∉ fm.pin.map (·.1) := by rw [hP.1]; exact hi'
              have p2 : j ∉ fm.pin.map (·.1) := by rw [hP.1]; exact hj'
              have S2 := S1.set (.d r1) (i := i) (by rw [← S1.leneq]; exact hl.1) p1
              have S3 := S2.set (.d r2) (i := j) (by rw [List.length_set, ← S1.leneq]; exact hl.2) p2
              exact hk.nx _ H1 Hs1 rfl S3 X1
        · cases es
      · cases es
    · cases hg
@[simp] theorem wp_sPar {s : VS} {Q : Fl → VS → Prop} : wp (sPar i j Fr) s Q ↔ wp Fr s fun ds s => to (parSet i j s ds) s fun s' _ => Q .nx s' := by
  unfold sPar; rw [wp_bd]; refine wp_congr fun ds s => ?_
  unfold wp; dsimp only; cases parSet i j s ds <;> simp
end
end Ev
namespace Ev
open PySem PySem.Spec PyProof.Rows L2
section
variable {s : VS} {E : Xn → VS → Prop}
@[simp] theorem wp_iLstF {F : M D} {Q : List D → VS → Prop} : wp (iLstF F) s Q ↔ wp F s fun d s => to (match d with
  | .lst xs => some xs
  | _ => none) s Q := by
  unfold iLstF; rw [wp_bd]; refine wp_congr fun d s => ?_
  cases d <;> rfl
@[simp] theorem wp_fXf {x : Xn} {f : Str} {Q : D → VS → Prop} : wp (fXf x f) s Q ↔ to (match x.fs with
  | some (fs, ds) => (fs.zip ds).lookup f
  | none => none) s Q := by
  unfold wp fXf
  cases x.fs with
  | none => simp
  | some p =>
    obtain ⟨fs, ds⟩ := p
    dsimp only
    cases (fs.zip ds).lookup f <;> simp
theorem wp_fAskE {run : Xn → M L} {x : Xn} {Fw : M D} {Q : D → VS → Prop} : wp (fAskE run x Fw) s Q ↔ wp Fw s fun w s => wp (run x) [none, some (.d w)] fun l _ => to (match l with
  | .d v => some v
  | _ => none) s Q := by
  unfold fAskE; rw [wp_bd]; refine wp_congr fun w s => ?_
  unfold wp; dsimp only
  cases run x [none, some (.d w)] with
  | none => simp
  | some p =>
    obtain ⟨r, t⟩ := p
    cases r with
    | error z => simp
    | ok l => cases l <;> simp
@[simp] theorem wp_lNil {Q : List L → VS → Prop} : wp lNil s Q ↔ Q [] s := by unfold lNil; simp
@[simp] theorem wp_lCons {Fa : M L} {Fr : M (List L)} {Q : List L → VS → Prop} : wp (lCons Fa Fr) s Q ↔ wp Fa s fun a s => wp Fr s fun r s => Q (a :: r) s := by unfold lCons; simp
@[simp] theorem wp_fLstL {Fr : M (List L)} {Q : L → VS → Prop} : wp (fLstL Fr) s Q ↔ wp Fr s fun ls s => ls.length ≤ 100000 ∧ Q (.oll ls) s := by
  unfold fLstL; rw [wp_bd]; refine wp_congr fun ls s => ?_
  unfold wp; dsimp only; split
  · rename_i h; simp [h]
  · rename_i h; simp [h]
@[simp] theorem wp_fPickL {Fr : M (List L)} {Fi : M D} {Q : L → VS → Prop} : wp (fPickL Fr Fi) s Q ↔ wp Fr s fun ls s => ls.length ≤ 1000 ∧ wp Fi s fun d s => to (pickI ls d) s Q := by
  unfold fPickL; rw [wp_bd]; refine wp_congr fun ls s => ?_
  have e1 : wp (bd Fi (pickF ls)) s Q ↔ wp Fi s fun d s => to (pickI ls d) s Q := by
    refine wp_bd.trans (wp_congr fun d s => ?_)
    unfold wp pickF
    cases pickI ls d <;> simp
  rw [← e1]
  by_cases h : ls.length ≤ 1000
  · have e2 : (fun s => if ls.length ≤ 1000 then bd Fi (pickF ls) s else none) = bd Fi (pickF ls) := by funext s; rw [if_pos h]
    rw [e2]
    exact ⟨fun q => ⟨h, q⟩, fun q => q.2⟩
  · exact ⟨fun q => by unfold wp at q; dsimp only at q; rw [if_neg h] at q; exact q.elim, fun q => absurd q.1 h⟩
def oll2At (s : VS) (j : Nat) : Option (L × L) := match s[j]? with
  | some (some (.oll [l0, l1])) => some (l0, l1)
  | _ => none
theorem wp_fMakeN {j : Nat} {C : Addr} {fn : Fn} {Q : L → VS → Prop} {l0 l1 : L} (h : s[j]? = some (some (.oll [l0, l1]))) (hq : wp (makeF C fn [.sl s.length, .sl (s.length + 1)]) (s.set j none ++ [some l0, some l1]) fun l t => ∃ a b : L, t = s.set j none ++ [some a, some b] ∧ Q l (s.set j (some (.oll [a, b])))) : wp (fMakeN j C fn) s Q := by
  obtain ⟨l, t, e, a, b, rfl, q⟩ := wp_out hq
  unfold wp fMakeN
  rw [h]
  dsimp only
  rw [e]
  dsimp only
  have e1 : (s.set j none ++ [some a, some b]).drop s.length = [some a, some b] := by
    have := List.drop_left (l₁ := s.set j none) (l₂ := [some a, some b])
    rwa [List.length_set] at this
  have e2 : (s.set j none ++ [some a, some b]).take s.length = s.set j none := by
    have := List.take_left (l₁ := s.set j none) (l₂ := [some a, some b])
    rwa [List.length_set] at this
  rw [e1, e2]
  have e3 : unSome [some a, some b] = some [a, b] := rfl
  rw [e3]
  dsimp only
  rw [if_pos (by simp), List.set_set]
  exact q
theorem wp_cNeS {j : Nat} {Fb : M D} {Q : Bool → VS → Prop} {l : L} (h : at? s j = some l) (hq : wp Fb s fun d s => to (at? s j) s fun l s => l.full = true ∧ to (eqDp l.view d) s fun b s => Q (!b) s) : wp (cNeS j Fb) s Q := by
  unfold at? at h
  unfold wp cNeS
  cases e : s[j]? with
  | none => rw [e] at h; cases h
  | some o =>
    cases o with
    | none => rw [e] at h; cases h
    | some l' =>
      dsimp only
      refine (wp_bd (F := Fb) (s := s) (Q := Q)).mpr (wp_mono hq fun d s q => ?_)
      unfold at? at q
      unfold wp
      dsimp only
      cases e2 : s[j]? with
      | none => rw [e2] at q; exact q.elim
      | some o =>
        cases o with
        | none => rw [e2] at q; exact q.elim
        | some l2 =>
          rw [e2] at q
          obtain ⟨q1, q2⟩ := q
          dsimp only
          rw [if_pos q1]
          obtain ⟨b, e3, q3⟩ := to_out q2
          rw [e3]
          exact q3
theorem wp_sClearN {j i : Nat} {Fr : M (List L)} {Q : Fl → VS → Prop} (hq : wp Fr s fun ls s => ∃ ms, s[j]? = some (some (.oll ms)) ∧ (allOwn ls = true ∧ allOwn ms = true ∧ ls.length + ms.length ≤ 1000 ∧ i < s.length) ∧ Q .nx ((s.set j (some (.oll (ms.map fun _ => .own [])))).set i none)) : wp (sClearN j i Fr) s Q := by
  unfold sClearN
  rw [wp_bd]
  refine wp_mono hq fun ls s ⟨ms, e, h, q⟩ => ?_
  unfold wp
  dsimp only
  rw [e]
  dsimp only
  rw [if_pos h]
  exact q
end
end Ev
namespace Hd
open PySem PySem.Spec PyProof.Rows L2
def top (i : Nat) : Stmt := PySem.Challenge.pw_evenlate_k01_desks_refused.main.body.getD i (.Pass ⟨0, 0, 0, 0⟩)
abbrev s_X_BadDesk : Stmt := inClass (top 2) 0
abbrev s_X_TooLate : Stmt := inClass (top 3) 0
abbrev s_X_BadText : Stmt := inClass (top 7) 0
abbrev s_must : Stmt := top 16
abbrev s_is_name : Stmt := top 17
abbrev s_Desk___init__ : Stmt := inClass (top 18) 0
abbrev s_Desk_is_box : Stmt := inClass (top 18) 1
abbrev s_Desk_names : Stmt := inClass (top 18) 2
abbrev s_Desk_is_cable : Stmt := inClass (top 18) 3
abbrev s_Desk_led_from : Stmt := inClass (top 18) 4
abbrev s_Desk_is_twice : Stmt := inClass (top 18) 5
abbrev s_Desk_in_order : Stmt := inClass (top 18) 6
abbrev s_Desk_boxes : Stmt := inClass (top 18) 7
abbrev s_Desk_cables : Stmt := inClass (top 18) 8
abbrev s_Desk_late : Stmt := inClass (top 18) 9
abbrev s_Desk_ends : Stmt := inClass (top 18) 10
abbrev s__law_dice : Stmt := top 20
abbrev s__law_off : Stmt := top 21
abbrev s__law_alike : Stmt := top 22
abbrev s__law_mixed : Stmt := top 23
abbrev s__law_box : Stmt := top 24
abbrev s__law_hold : Stmt := top 25
abbrev s__law_names : Stmt := top 26
abbrev s__law_rows : Stmt := top 27
abbrev s__law_more : Stmt := top 28
abbrev s__law_desk : Stmt := top 29
abbrev s__law_ends : Stmt := top 30
abbrev s__law_is : Stmt := top 31
abbrev s__law_bad_box : Stmt := top 32
abbrev s__law_mid : Stmt := top 33
abbrev s__law_apart : Stmt := top 34
abbrev s__law_ring : Stmt := top 35
abbrev s__law_lonely : Stmt := top 36
abbrev s__law_wrong : Stmt := top 37
abbrev s__law_refused : Stmt := top 38
abbrev s_law : Stmt := top 39
end Hd
namespace Hd
open PySem PySem.Spec PyProof.Rows L2 Ev
structure Cl where
  Desk : Addr
  LateError : Addr
  BadDesk : Addr
  TooLate : Addr
  BadDelays : Addr
  BadStreams : Addr
  BadChange : Addr
  BadText : Addr
instance : Coe Cl Addr := ⟨Cl.Desk⟩
def exs (C : Cl) : List Addr := [C.BadDesk, C.TooLate, C.BadDelays, C.BadStreams, C.BadChange, C.BadText]
def t_SIZES : List (Str × Int) := [("in", 2), ("out", 2), ("sum", 2), ("most", 2), ("times", 3), ("part", 3)]
def F_must_3 (C : Cl) : M Fl := (sRaise C.BadDesk 2 ["why", "at"] [1, 0] (aCons (vGet 1) (aCons (vGet 2) aNil)))
def F_must_2 (C : Cl) : M Fl := (sSeq (F_must_3 C) sNil)
def F_must_1 (C : Cl) : M Fl := (sIf (bNot (fTest (vGet 0))) (F_must_2 C) sNil)
def F_must_0 (C : Cl) : M Fl := (sSeq (F_must_1 C) sNil)
def F_must (C : Cl) : M Fl := (F_must_0 C)
def fn_must (C : Cl) : Fn := mkFn 3 3 [] (F_must C)
def F_is_name_1 (C : Cl) : M Fl := (sRet (fD (vAnd (fBl (c3 dLe dLe (fK (rt (.int 1))) (fK (fS (fN dLen (kCons (vLook 0) kNil)))) (fK (rt (.int 8))))) (fBl (c2 dEq (fK (fS (fComp [1] (iSeq (vGet 0)) (.nm 1) (c2 dNotIn (vLook 1) (fK (rt (.str "abcdefghijklmnopqrstuvwxyz")))) (vGet 1)))) (fK (fS (fLst aNil))))))))
def F_is_name_0 (C : Cl) : M Fl := (sSeq (F_is_name_1 C) sNil)
def F_is_name (C : Cl) : M Fl := (F_is_name_0 C)
def fn_is_name (C : Cl) : Fn := mkFn 1 2 [] (F_is_name C)
def F_Desk_ends_1 (C : Cl) : M Fl := (sRet (fComp [2] (iRng1F (fS (fN dLen (kCons (fK (fFld C.Desk "kept" (vLook 0))) kNil)))) (.nm 2) (c2 dEq (fK (fS (f2 dIx (fK (fS (f2 dIx (fK (fFld C.Desk "kept" (vLook 0))) (vLook 2)))) (fK (rt (.int 0)))))) (vLook 1)) (vGet 2)))
def F_Desk_ends_0 (C : Cl) : M Fl := (sSeq (F_Desk_ends_1 C) sNil)
def F_Desk_ends (C : Cl) : M Fl := (F_Desk_ends_0 C)
def fn_Desk_ends (C : Cl) : Fn := mkFn 2 3 [0] (F_Desk_ends C)
def F_Desk_in_order_1 (C : Cl) : M Fl := (sSet 1 (fLst aNil))
def F_Desk_in_order_2 (C : Cl) : M Fl := (sSet 2 (fD (fS (f1 dNeg (fK (rt (.int 1)))))))
def F_Desk_in_order_5 (C : Cl) : M Fl := (sSet 2 (fD (fS (fN dLen (kCons (vLook 1) kNil)))))
def F_Desk_in_order_8 (C : Cl) : M Fl := (sSet 4 (fComp [5] (iSeq (fFld C.Desk "wires" (vLook 0))) (.nm 5) (bAnd (c2 dEq (fK (fS (f2 dIx (vLook 5) (fK (rt (.int 1)))))) (vLook 3)) (c2 dEq (fK (fS (f2 dIx (vLook 5) (fK (rt (.int 2)))))) (fK (rt (.int 0))))) (fS (f2 dIx (vLook 5) (fK (rt (.int 0)))))))
def F_Desk_in_order_11 (C : Cl) : M Fl := (sExpr (fW 1 gAppend (aCons (vGet 3) aNil)))
def F_Desk_in_order_10 (C : Cl) : M Fl := (sSeq (F_Desk_in_order_11 C) sNil)
def F_Desk_in_order_9 (C : Cl) : M Fl := (sIf (bAnd (c2 dNotIn (vLook 3) (vLook 1)) (c2 dEq (fK (fS (fComp [6] (iSeq (vGet 4)) (.nm 6) (c2 dNotIn (vLook 6) (vLook 1)) (vGet 6)))) (fK (fS (fLst aNil))))) (F_Desk_in_order_10 C) sNil)
def F_Desk_in_order_7 (C : Cl) : M Fl := (sSeq (F_Desk_in_order_8 C) (sSeq (F_Desk_in_order_9 C) sNil))
def F_Desk_in_order_6 (C : Cl) : M Fl := (sFor (iRng1F (fS (fN dLen (kCons (fK (fFld C.Desk "kept" (vLook 0))) kNil)))) (.nm 3) (F_Desk_in_order_7 C))
def F_Desk_in_order_4 (C : Cl) : M Fl := (sSeq (F_Desk_in_order_5 C) (sSeq (F_Desk_in_order_6 C) sNil))
def F_Desk_in_order_3 (C : Cl) : M Fl := (sWhile (c2 dLt (vLook 2) (fK (fS (fN dLen (kCons (vLook 1) kNil))))) (F_Desk_in_order_4 C) 1000)
def F_Desk_in_order_12 (C : Cl) : M Fl := (sRet (vMove 1))
def F_Desk_in_order_0 (C : Cl) : M Fl := (sSeq (F_Desk_in_order_1 C) (sSeq (F_Desk_in_order_2 C) (sSeq (F_Desk_in_order_3 C) (sSeq (F_Desk_in_order_12 C) sNil))))
def F_Desk_in_order (C : Cl) : M Fl := (F_Desk_in_order_0 C)
def fn_Desk_in_order (C : Cl) : Fn := mkFn 1 7 [0] (F_Desk_in_order C)
def F_Desk_names_1 (C : Cl) : M Fl := (sRet (fComp [2] (iSeq (fS (fSl (fK (fFld C.Desk "kept" (vLook 0))) oNone (oSome (vGet 1))))) (.nm 2) (c2 dIn (fK (fS (f2 dIx (vLook 2) (fK (rt (.int 0)))))) (fK (fTup (aCons (rt (.str "in")) (aCons (rt (.str "out")) aNil))))) (fS (f2 dIx (vLook 2) (fK (rt (.int 1)))))))
def F_Desk_names_0 (C : Cl) : M Fl := (sSeq (F_Desk_names_1 C) sNil)
def F_Desk_names (C : Cl) : M Fl := (F_Desk_names_0 C)
def fn_Desk_names (C : Cl) : Fn := mkFn 2 3 [0] (F_Desk_names C)
def F_Desk_is_box_1 (C : Cl) : M Fl := (sSet 2 (fD (fS (f2 dIx (fK (fFld C.Desk "kept" (vLook 0))) (vLook 1)))))
def F_Desk_is_box_4 (C : Cl) : M Fl := (sRet (fD (rt (.bl false))))
def F_Desk_is_box_3 (C : Cl) : M Fl := (sSeq (F_Desk_is_box_4 C) sNil)
def F_Desk_is_box_2 (C : Cl) : M Fl := (sIf (bOr (c2 dEq (fK (fS (fN dLen (kCons (vLook 2) kNil)))) (fK (rt (.int 0)))) (c2 dNe (fK (fTab t_SIZES (fS (f2 dIx (vLook 2) (fK (rt (.int 0))))) (rt (.int 0)))) (fK (fS (fN dLen (kCons (vLook 2) kNil)))))) (F_Desk_is_box_3 C) sNil)
def F_Desk_is_box_7 (C : Cl) : M Fl := (sRet (fD (vAnd (fS (fCall (fn_is_name C) (kCons (fK (fS (f2 dIx (vLook 2) (fK (rt (.int 1)))))) kNil))) (fBl (c2 dNotIn (fK (fS (f2 dIx (vLook 2) (fK (rt (.int 1)))))) (fK (fS (fMeth C.Desk "names" (fn_Desk_names C) (vLook 0) (kCons (vLook 1) kNil)))))))))
def F_Desk_is_box_6 (C : Cl) : M Fl := (sSeq (F_Desk_is_box_7 C) sNil)
def F_Desk_is_box_5 (C : Cl) : M Fl := (sIf (c2 dIn (fK (fS (f2 dIx (vLook 2) (fK (rt (.int 0)))))) (fK (fTup (aCons (rt (.str "in")) (aCons (rt (.str "out")) aNil))))) (F_Desk_is_box_6 C) sNil)
def F_Desk_is_box_10 (C : Cl) : M Fl := (sRet (fD (rt (.bl false))))
def F_Desk_is_box_9 (C : Cl) : M Fl := (sSeq (F_Desk_is_box_10 C) sNil)
def F_Desk_is_box_8 (C : Cl) : M Fl := (sIf (bAnd (c2 dEq (fK (fS (f2 dIx (vLook 2) (fK (rt (.int 0)))))) (fK (rt (.str "times")))) (bNot (c3 dLe dLe (fK (fS (f2 dSub (fK (rt (.int 0))) (fK (rt (.int 9)))))) (fK (fS (f2 dIx (vLook 2) (fK (rt (.int 1)))))) (fK (rt (.int 9)))))) (F_Desk_is_box_9 C) sNil)
def F_Desk_is_box_13 (C : Cl) : M Fl := (sRet (fD (rt (.bl false))))
def F_Desk_is_box_12 (C : Cl) : M Fl := (sSeq (F_Desk_is_box_13 C) sNil)
def F_Desk_is_box_11 (C : Cl) : M Fl := (sIf (bAnd (c2 dEq (fK (fS (f2 dIx (vLook 2) (fK (rt (.int 0)))))) (fK (rt (.str "part")))) (bNot (c3 dLe dLe (fK (rt (.int 1))) (fK (fS (f2 dIx (vLook 2) (fK (rt (.int 1)))))) (fK (rt (.int 9)))))) (F_Desk_is_box_12 C) sNil)
def F_Desk_is_box_14 (C : Cl) : M Fl := (sRet (fD (fBl (c3 dLe dLe (fK (rt (.int 0))) (fK (fS (f2 dIx (vLook 2) (fK (fS (f1 dNeg (fK (rt (.int 1))))))))) (fK (rt (.int 9)))))))
def F_Desk_is_box_0 (C : Cl) : M Fl := (sSeq (F_Desk_is_box_1 C) (sSeq (F_Desk_is_box_2 C) (sSeq (F_Desk_is_box_5 C) (sSeq (F_Desk_is_box_8 C) (sSeq (F_Desk_is_box_11 C) (sSeq (F_Desk_is_box_14 C) sNil))))))
def F_Desk_is_box (C : Cl) : M Fl := (F_Desk_is_box_0 C)
def fn_Desk_is_box (C : Cl) : Fn := mkFn 2 3 [0] (F_Desk_is_box C)
def F_Desk_is_cable_1 (C : Cl) : M Fl := (sSetT (.tp [(.nm 2), (.nm 3), (.nm 4)]) (vGet 1))
def F_Desk_is_cable_4 (C : Cl) : M Fl := (sRet (fD (rt (.bl false))))
def F_Desk_is_cable_3 (C : Cl) : M Fl := (sSeq (F_Desk_is_cable_4 C) sNil)
def F_Desk_is_cable_2 (C : Cl) : M Fl := (sIf (bOr (bNot (c3 dLe dLt (fK (rt (.int 0))) (vLook 2) (fK (fS (fN dLen (kCons (fK (fFld C.Desk "kept" (vLook 0))) kNil)))))) (bOr (bNot (c3 dLe dLt (fK (rt (.int 0))) (vLook 3) (fK (fS (fN dLen (kCons (fK (fFld C.Desk "kept" (vLook 0))) kNil)))))) (bNot (c3 dLe dLe (fK (rt (.int 0))) (vLook 4) (fK (rt (.int 99))))))) (F_Desk_is_cable_3 C) sNil)
def F_Desk_is_cable_5 (C : Cl) : M Fl := (sRet (fD (vAnd (fBl (c2 dNe (fK (fS (f2 dIx (fK (fS (f2 dIx (fK (fFld C.Desk "kept" (vLook 0))) (vLook 2)))) (fK (rt (.int 0)))))) (fK (rt (.str "out"))))) (fBl (c2 dNe (fK (fS (f2 dIx (fK (fS (f2 dIx (fK (fFld C.Desk "kept" (vLook 0))) (vLook 3)))) (fK (rt (.int 0)))))) (fK (rt (.str "in"))))))))
def F_Desk_is_cable_0 (C : Cl) : M Fl := (sSeq (F_Desk_is_cable_1 C) (sSeq (F_Desk_is_cable_2 C) (sSeq (F_Desk_is_cable_5 C) sNil)))
def F_Desk_is_cable (C : Cl) : M Fl := (F_Desk_is_cable_0 C)
def fn_Desk_is_cable (C : Cl) : Fn := mkFn 2 5 [0] (F_Desk_is_cable C)
def F_Desk_is_twice_1 (C : Cl) : M Fl := (sRet (fD (vAnd (fBl (c2 dEq (fK (fS (f2 dIx (fK (fS (f2 dIx (fK (fFld C.Desk "kept" (vLook 0))) (vLook 1)))) (fK (rt (.int 0)))))) (fK (rt (.str "out"))))) (fBl (c2 dGt (fK (fS (fN dLen (kCons (fK (fS (fComp [2] (iSeq (fFld C.Desk "wires" (vLook 0))) (.nm 2) (c2 dEq (fK (fS (f2 dIx (vLook 2) (fK (rt (.int 1)))))) (vLook 1)) (vGet 2)))) kNil)))) (fK (rt (.int 1))))))))
def F_Desk_is_twice_0 (C : Cl) : M Fl := (sSeq (F_Desk_is_twice_1 C) sNil)
def F_Desk_is_twice (C : Cl) : M Fl := (F_Desk_is_twice_0 C)
def fn_Desk_is_twice (C : Cl) : Fn := mkFn 2 3 [0] (F_Desk_is_twice C)
def F_Desk_led_from_1 (C : Cl) : M Fl := (sSet 3 (fN dList (kCons (vLook 1) kNil)))
def F_Desk_led_from_2 (C : Cl) : M Fl := (sSet 4 (fN dList (kCons (vLook 1) kNil)))
def F_Desk_led_from_5 (C : Cl) : M Fl := (sSet 5 (fD (fW 4 gPop aNil)))
def F_Desk_led_from_10 (C : Cl) : M Fl := (sExpr (fW 3 gAppend (aCons (fS (f2 dIx (vLook 6) (fK (fS (f2 dSub (fK (rt (.int 1))) (vLook 2)))))) aNil)))
def F_Desk_led_from_11 (C : Cl) : M Fl := (sExpr (fW 4 gAppend (aCons (fS (f2 dIx (vLook 6) (fK (fS (f2 dSub (fK (rt (.int 1))) (vLook 2)))))) aNil)))
def F_Desk_led_from_9 (C : Cl) : M Fl := (sSeq (F_Desk_led_from_10 C) (sSeq (F_Desk_led_from_11 C) sNil))
def F_Desk_led_from_8 (C : Cl) : M Fl := (sIf (bAnd (c2 dEq (fK (fS (f2 dIx (vLook 6) (vLook 2)))) (vLook 5)) (c2 dNotIn (fK (fS (f2 dIx (vLook 6) (fK (fS (f2 dSub (fK (rt (.int 1))) (vLook 2))))))) (vLook 3))) (F_Desk_led_from_9 C) sNil)
def F_Desk_led_from_7 (C : Cl) : M Fl := (sSeq (F_Desk_led_from_8 C) sNil)
def F_Desk_led_from_6 (C : Cl) : M Fl := (sFor (iSeq (fFld C.Desk "wires" (vLook 0))) (.nm 6) (F_Desk_led_from_7 C))
def F_Desk_led_from_4 (C : Cl) : M Fl := (sSeq (F_Desk_led_from_5 C) (sSeq (F_Desk_led_from_6 C) sNil))
def F_Desk_led_from_3 (C : Cl) : M Fl := (sWhile (c2 dNe (vLook 4) (fK (fS (fLst aNil)))) (F_Desk_led_from_4 C) 1000)
def F_Desk_led_from_12 (C : Cl) : M Fl := (sRet (vMove 3))
def F_Desk_led_from_0 (C : Cl) : M Fl := (sSeq (F_Desk_led_from_1 C) (sSeq (F_Desk_led_from_2 C) (sSeq (F_Desk_led_from_3 C) (sSeq (F_Desk_led_from_12 C) sNil))))
def F_Desk_led_from (C : Cl) : M Fl := (F_Desk_led_from_0 C)
def fn_Desk_led_from (C : Cl) : Fn := mkFn 3 7 [0] (F_Desk_led_from C)
def F_Desk___init___1 (C : Cl) : M Fl := (sExpr (fS (fCall (fn_must C) (kCons (fK (fBl (c3 dLe dLe (fK (rt (.int 1))) (fK (fS (fN dLen (kCons (vLook 1) kNil)))) (fK (rt (.int 10)))))) (kCons (fK (rt (.int 0))) (kCons (fK (rt (.str "boxes"))) kNil))))))
def F_Desk___init___2 (C : Cl) : M Fl := (sFldSet 0 C.Desk "kept" (fD (fS (fN dList (kCons (vLook 1) kNil)))))
def F_Desk___init___5 (C : Cl) : M Fl := (sExpr (fS (fCall (fn_must C) (kCons (fK (fS (fMeth C.Desk "is_box" (fn_Desk_is_box C) (vLook 0) (kCons (vLook 3) kNil)))) (kCons (vLook 3) (kCons (fK (rt (.str "box"))) kNil))))))
def F_Desk___init___4 (C : Cl) : M Fl := (sSeq (F_Desk___init___5 C) sNil)
def F_Desk___init___3 (C : Cl) : M Fl := (sFor (iRng1F (fS (fN dLen (kCons (vLook 1) kNil)))) (.nm 3) (F_Desk___init___4 C))
def F_Desk___init___6 (C : Cl) : M Fl := (sExpr (fS (fCall (fn_must C) (kCons (fK (fBl (c2 dLe (fK (fS (fN dLen (kCons (vLook 2) kNil)))) (fK (rt (.int 20)))))) (kCons (fK (rt (.int 0))) (kCons (fK (rt (.str "cables"))) kNil))))))
def F_Desk___init___7 (C : Cl) : M Fl := (sFldSet 0 C.Desk "wires" (fD (fS (fN dList (kCons (vLook 2) kNil)))))
def F_Desk___init___10 (C : Cl) : M Fl := (sExpr (fS (fCall (fn_must C) (kCons (fK (fS (fMeth C.Desk "is_cable" (fn_Desk_is_cable C) (vLook 0) (kCons (fK (fS (f2 dIx (vLook 2) (vLook 3)))) kNil)))) (kCons (vLook 3) (kCons (fK (rt (.str "cable"))) kNil))))))
def F_Desk___init___9 (C : Cl) : M Fl := (sSeq (F_Desk___init___10 C) sNil)
def F_Desk___init___8 (C : Cl) : M Fl := (sFor (iRng1F (fS (fN dLen (kCons (vLook 2) kNil)))) (.nm 3) (F_Desk___init___9 C))
def F_Desk___init___11 (C : Cl) : M Fl := (sSet 4 (fD (fS (fMeth C.Desk "led_from" (fn_Desk_led_from C) (vLook 0) (kCons (fK (fS (fMeth C.Desk "ends" (fn_Desk_ends C) (vLook 0) (kCons (fK (rt (.str "in"))) kNil)))) (kCons (fK (rt (.int 0))) kNil))))))
def F_Desk___init___12 (C : Cl) : M Fl := (sSet 5 (fD (fS (fMeth C.Desk "led_from" (fn_Desk_led_from C) (vLook 0) (kCons (fK (fS (fMeth C.Desk "ends" (fn_Desk_ends C) (vLook 0) (kCons (fK (rt (.str "out"))) kNil)))) (kCons (fK (rt (.int 1))) kNil))))))
def F_Desk___init___15 (C : Cl) : M Fl := (sExpr (fS (fCall (fn_must C) (kCons (fK (vAnd (fBl (c2 dIn (vLook 3) (vLook 4))) (vAnd (fBl (c2 dIn (vLook 3) (vLook 5))) (vNot (fS (fMeth C.Desk "is_twice" (fn_Desk_is_twice C) (vLook 0) (kCons (vLook 3) kNil))))))) (kCons (vLook 3) (kCons (fK (rt (.str "lonely"))) kNil))))))
def F_Desk___init___14 (C : Cl) : M Fl := (sSeq (F_Desk___init___15 C) sNil)
def F_Desk___init___13 (C : Cl) : M Fl := (sFor (iRng1F (fS (fN dLen (kCons (vLook 1) kNil)))) (.nm 3) (F_Desk___init___14 C))
def F_Desk___init___16 (C : Cl) : M Fl := (sFldSet 0 C.Desk "order" (fD (fS (fMeth C.Desk "in_order" (fn_Desk_in_order C) (vLook 0) kNil))))
def F_Desk___init___17 (C : Cl) : M Fl := (sExpr (fS (fCall (fn_must C) (kCons (fK (fBl (c2 dEq (fK (fS (fN dLen (kCons (fK (fFld C.Desk "order" (vLook 0))) kNil)))) (fK (fS (fN dLen (kCons (vLook 1) kNil))))))) (kCons (fK (rt (.int 0))) (kCons (fK (rt (.str "ring"))) kNil))))))
def F_Desk___init___0 (C : Cl) : M Fl := (sSeq (F_Desk___init___1 C) (sSeq (F_Desk___init___2 C) (sSeq (F_Desk___init___3 C) (sSeq (F_Desk___init___6 C) (sSeq (F_Desk___init___7 C) (sSeq (F_Desk___init___8 C) (sSeq (F_Desk___init___11 C) (sSeq (F_Desk___init___12 C) (sSeq (F_Desk___init___13 C) (sSeq (F_Desk___init___16 C) (sSeq (F_Desk___init___17 C) sNil)))))))))))
def F_Desk___init__ (C : Cl) : M Fl := (F_Desk___init___0 C)
def fn_Desk___init__ (C : Cl) : Fn := mkFn 3 6 [0, 1, 2] (F_Desk___init__ C)
def F_Desk_boxes_1 (C : Cl) : M Fl := (sRet (fN dList (kCons (fK (fFld C.Desk "kept" (vLook 0))) kNil)))
def F_Desk_boxes_0 (C : Cl) : M Fl := (sSeq (F_Desk_boxes_1 C) sNil)
def F_Desk_boxes (C : Cl) : M Fl := (F_Desk_boxes_0 C)
def fn_Desk_boxes (C : Cl) : Fn := mkFn 1 1 [0] (F_Desk_boxes C)
def F_Desk_cables_1 (C : Cl) : M Fl := (sRet (fN dList (kCons (fK (fFld C.Desk "wires" (vLook 0))) kNil)))
def F_Desk_cables_0 (C : Cl) : M Fl := (sSeq (F_Desk_cables_1 C) sNil)
def F_Desk_cables (C : Cl) : M Fl := (F_Desk_cables_0 C)
def fn_Desk_cables (C : Cl) : Fn := mkFn 1 1 [0] (F_Desk_cables C)
def F__law_dice_1 (C : Cl) : M Fl := (sSet 2 (fD (vGet 1)))
def F__law_dice_4 (C : Cl) : M Fl := (sSet 2 (fD (fS (f2 dMod (fK (fS (f2 dAdd (fK (fS (f2 dMul (vLook 2) (fK (rt (.int 31)))))) (fK (fS (fN dAbs (kCons (vLook 3) kNil))))))) (fK (rt (.int 2147483647)))))))
def F__law_dice_3 (C : Cl) : M Fl := (sSeq (F__law_dice_4 C) sNil)
def F__law_dice_2 (C : Cl) : M Fl := (sFor (iSeq (vGet 0)) (.nm 3) (F__law_dice_3 C))
def F__law_dice_5 (C : Cl) : M Fl := (sRet (f2 dAdd (fK (fS (fLst (aCons (vGet 2) (aCons (rt (.int 0)) aNil))))) (fK (fS (fComp [3] (iSeq (vGet 0)) (.nm 3) (c2 dGe (vLook 3) (fK (fS (f2 dPow (fK (rt (.int 10))) (fK (rt (.int 18))))))) (vGet 3))))))
def F__law_dice_0 (C : Cl) : M Fl := (sSeq (F__law_dice_1 C) (sSeq (F__law_dice_2 C) (sSeq (F__law_dice_5 C) sNil)))
def F__law_dice (C : Cl) : M Fl := (F__law_dice_0 C)
def fn__law_dice (C : Cl) : Fn := mkFn 2 4 [] (F__law_dice C)
def F__law_off_3 (C : Cl) : M Fl := (sSetI 0 (fW 0 gPop (aCons (rt (.int 2)) aNil)) (rt (.int 1)))
def F__law_off_2 (C : Cl) : M Fl := (sSeq (F__law_off_3 C) sNil)
def F__law_off_1 (C : Cl) : M Fl := (sIf (bAnd (c2 dEq (fK (fS (f2 dIx (vLook 0) (fK (rt (.int 1)))))) (fK (rt (.int 0)))) (c2 dGt (fK (fS (fN dLen (kCons (vLook 0) kNil)))) (fK (rt (.int 2))))) (F__law_off_2 C) sNil)
def F__law_off_6 (C : Cl) : M Fl := (sSet 2 (fD (fS (f2 dMod (fK (fS (f2 dIx (vLook 0) (fK (rt (.int 1)))))) (vLook 1)))))
def F__law_off_7 (C : Cl) : M Fl := (sSetI 0 (fS (f2 dDiv (fK (fS (f2 dIx (vLook 0) (fK (rt (.int 1)))))) (vLook 1))) (rt (.int 1)))
def F__law_off_8 (C : Cl) : M Fl := (sRet (vMove 2))
def F__law_off_5 (C : Cl) : M Fl := (sSeq (F__law_off_6 C) (sSeq (F__law_off_7 C) (sSeq (F__law_off_8 C) sNil)))
def F__law_off_4 (C : Cl) : M Fl := (sIf (c2 dGt (fK (fS (f2 dIx (vLook 0) (fK (rt (.int 1)))))) (fK (rt (.int 0)))) (F__law_off_5 C) sNil)
def F__law_off_9 (C : Cl) : M Fl := (sSetI 0 (fS (f2 dMod (fK (fS (f2 dAdd (fK (fS (f2 dMul (fK (fS (f2 dIx (vLook 0) (fK (rt (.int 0)))))) (fK (rt (.int 48271)))))) (fK (rt (.int 11)))))) (fK (rt (.int 2147483647))))) (rt (.int 0)))
def F__law_off_10 (C : Cl) : M Fl := (sRet (f2 dMod (fK (fS (f2 dDiv (fK (fS (f2 dIx (vLook 0) (fK (rt (.int 0)))))) (fK (rt (.int 64)))))) (vLook 1)))
def F__law_off_0 (C : Cl) : M Fl := (sSeq (F__law_off_1 C) (sSeq (F__law_off_4 C) (sSeq (F__law_off_9 C) (sSeq (F__law_off_10 C) sNil))))
def F__law_off (C : Cl) : M Fl := (F__law_off_0 C)
def fn__law_off (C : Cl) : Fn := mkFn 2 3 [0] (F__law_off C)
def F__law_alike_3 (C : Cl) (fr : Fn) : M Fl := (sRet (fD (fBl (c2 dIs (vLook 0) (fK (rt .non))))))
def F__law_alike_2 (C : Cl) (fr : Fn) : M Fl := (sSeq (F__law_alike_3 C fr) sNil)
def F__law_alike_1 (C : Cl) (fr : Fn) : M Fl := (sIf (c2 dIs (vLook 1) (fK (rt .non))) (F__law_alike_2 C fr) sNil)
def F__law_alike_6 (C : Cl) (fr : Fn) : M Fl := (sRet (fD (vAnd (fIsi "bool" (vLook 0)) (fBl (c2 dEq (vLook 0) (vLook 1))))))
def F__law_alike_5 (C : Cl) (fr : Fn) : M Fl := (sSeq (F__law_alike_6 C fr) sNil)
def F__law_alike_4 (C : Cl) (fr : Fn) : M Fl := (sIf (fTest (fIsi "bool" (vLook 1))) (F__law_alike_5 C fr) sNil)
def F__law_alike_9 (C : Cl) (fr : Fn) : M Fl := (sRet (fD (vAnd (fIsi "int" (vLook 0)) (vAnd (vNot (fIsi "bool" (vLook 0))) (fBl (c2 dEq (vLook 0) (vLook 1)))))))
def F__law_alike_8 (C : Cl) (fr : Fn) : M Fl := (sSeq (F__law_alike_9 C fr) sNil)
def F__law_alike_7 (C : Cl) (fr : Fn) : M Fl := (sIf (fTest (fIsi "int" (vLook 1))) (F__law_alike_8 C fr) sNil)
def F__law_alike_12 (C : Cl) (fr : Fn) : M Fl := (sRet (fD (vAnd (fIsi "str" (vLook 0)) (fBl (c2 dEq (vLook 0) (vLook 1))))))
def F__law_alike_11 (C : Cl) (fr : Fn) : M Fl := (sSeq (F__law_alike_12 C fr) sNil)
def F__law_alike_10 (C : Cl) (fr : Fn) : M Fl := (sIf (fTest (fIsi "str" (vLook 1))) (F__law_alike_11 C fr) sNil)
def F__law_alike_17 (C : Cl) (fr : Fn) : M Fl := (sRet (fD (rt (.bl false))))
def F__law_alike_16 (C : Cl) (fr : Fn) : M Fl := (sSeq (F__law_alike_17 C fr) sNil)
def F__law_alike_15 (C : Cl) (fr : Fn) : M Fl := (sIf (bOr (bNot (fTest (fIsi "dict" (vLook 0)))) (c2 dNe (fK (fS (fN dLen (kCons (vLook 0) kNil)))) (fK (fS (fN dLen (kCons (vLook 1) kNil)))))) (F__law_alike_16 C fr) sNil)
def F__law_alike_18 (C : Cl) (fr : Fn) : M Fl := (sRet (fN dAll (kCons (fK (fS (fComp [3] (iLstF (vGet 1)) (.nm 3) bYes (vAnd (fBl (c2 dIn (vLook 3) (vLook 0))) (fS (fCall fr (kCons (fK (fS (f2 dIx (vLook 0) (vLook 3)))) (kCons (fK (fS (f2 dIx (vLook 1) (vLook 3)))) kNil)))))))) kNil)))
def F__law_alike_14 (C : Cl) (fr : Fn) : M Fl := (sSeq (F__law_alike_15 C fr) (sSeq (F__law_alike_18 C fr) sNil))
def F__law_alike_13 (C : Cl) (fr : Fn) : M Fl := (sIf (fTest (fIsi "dict" (vLook 1))) (F__law_alike_14 C fr) sNil)
def F__law_alike_21 (C : Cl) (fr : Fn) : M Fl := (sRet (fD (rt (.bl false))))
def F__law_alike_20 (C : Cl) (fr : Fn) : M Fl := (sSeq (F__law_alike_21 C fr) sNil)
def F__law_alike_19 (C : Cl) (fr : Fn) : M Fl := (sIf (bOr (c2 dNe (fK (fIsi "tuple" (vLook 1))) (fK (fIsi "tuple" (vLook 0)))) (c2 dNe (fK (fIsi "list" (vLook 1))) (fK (fIsi "list" (vLook 0))))) (F__law_alike_20 C fr) sNil)
def F__law_alike_24 (C : Cl) (fr : Fn) : M Fl := (sRet (fD (rt (.bl false))))
def F__law_alike_23 (C : Cl) (fr : Fn) : M Fl := (sSeq (F__law_alike_24 C fr) sNil)
def F__law_alike_22 (C : Cl) (fr : Fn) : M Fl := (sIf (c2 dNe (fK (fS (fN dLen (kCons (vLook 0) kNil)))) (fK (fS (fN dLen (kCons (vLook 1) kNil))))) (F__law_alike_23 C fr) sNil)
def F__law_alike_25 (C : Cl) (fr : Fn) : M Fl := (sRet (fN dAll (kCons (fK (fS (fComp [2] (iRng1F (fS (fN dLen (kCons (vLook 1) kNil)))) (.nm 2) bYes (fS (fCall fr (kCons (fK (fS (f2 dIx (vLook 0) (vLook 2)))) (kCons (fK (fS (f2 dIx (vLook 1) (vLook 2)))) kNil))))))) kNil)))
def F__law_alike_0 (C : Cl) (fr : Fn) : M Fl := (sSeq (F__law_alike_1 C fr) (sSeq (F__law_alike_4 C fr) (sSeq (F__law_alike_7 C fr) (sSeq (F__law_alike_10 C fr) (sSeq (F__law_alike_13 C fr) (sSeq (F__law_alike_19 C fr) (sSeq (F__law_alike_22 C fr) (sSeq (F__law_alike_25 C fr) sNil))))))))
def F__law_alike (C : Cl) (fr : Fn) : M Fl := (F__law_alike_0 C fr)
def fn__law_alikeN (C : Cl) : Nat → Fn
  | 0 => mkFn 2 4 [] sNever
  | n + 1 => mkFn 2 4 [] (F__law_alike C (fn__law_alikeN C n))
def fn__law_alike (C : Cl) : Fn := fn__law_alikeN C 6
def F__law_mixed_1 (C : Cl) : M Fl := (sSet 2 (fN dList (kCons (vLook 1) kNil)))
def F__law_mixed_2 (C : Cl) : M Fl := (sSet 3 (fLst aNil))
def F__law_mixed_5 (C : Cl) : M Fl := (sExpr (fW 3 gAppend (aCons (fW 2 gPop (aCons (fS (fCall (fn__law_off C) (kCons (vLook 0) (kCons (fK (fS (fN dLen (kCons (vLook 2) kNil)))) kNil)))) aNil)) aNil)))
def F__law_mixed_4 (C : Cl) : M Fl := (sSeq (F__law_mixed_5 C) sNil)
def F__law_mixed_3 (C : Cl) : M Fl := (sWhile (c2 dNe (vLook 2) (fK (fS (fLst aNil)))) (F__law_mixed_4 C) 1000)
def F__law_mixed_6 (C : Cl) : M Fl := (sRet (vMove 3))
def F__law_mixed_0 (C : Cl) : M Fl := (sSeq (F__law_mixed_1 C) (sSeq (F__law_mixed_2 C) (sSeq (F__law_mixed_3 C) (sSeq (F__law_mixed_6 C) sNil))))
def F__law_mixed (C : Cl) : M Fl := (F__law_mixed_0 C)
def fn__law_mixed (C : Cl) : Fn := mkFn 2 4 [0] (F__law_mixed C)
def F__law_box_1 (C : Cl) : M Fl := (sSet 1 (fD (fS (f2 dIx (fK (fS (fLst (aCons (rt (.str "sum")) (aCons (rt (.str "sum")) (aCons (rt (.str "most")) (aCons (rt (.str "times")) (aCons (rt (.str "part")) aNil)))))))) (fK (fS (fCall (fn__law_off C) (kCons (vLook 0) (kCons (fK (rt (.int 5))) kNil)))))))))
def F__law_box_2 (C : Cl) : M Fl := (sSet 2 (fD (fS (f2 dIx (fK (fS (fLst (aCons (fS (fCall (fn__law_off C) (kCons (vLook 0) (kCons (fK (rt (.int 4))) kNil)))) (aCons (fS (fCall (fn__law_off C) (kCons (vLook 0) (kCons (fK (rt (.int 10))) kNil)))) aNil))))) (fK (fS (fCall (fn__law_off C) (kCons (vLook 0) (kCons (fK (rt (.int 2))) kNil)))))))))
def F__law_box_5 (C : Cl) : M Fl := (sRet (fD (fTup (aCons (vGet 1) (aCons (fS (f2 dSub (fK (fS (fCall (fn__law_off C) (kCons (vLook 0) (kCons (fK (rt (.int 19))) kNil))))) (fK (rt (.int 9))))) (aCons (vGet 2) aNil))))))
def F__law_box_4 (C : Cl) : M Fl := (sSeq (F__law_box_5 C) sNil)
def F__law_box_3 (C : Cl) : M Fl := (sIf (c2 dEq (vLook 1) (fK (rt (.str "times")))) (F__law_box_4 C) sNil)
def F__law_box_8 (C : Cl) : M Fl := (sRet (fD (fTup (aCons (vGet 1) (aCons (fS (f2 dAdd (fK (rt (.int 1))) (fK (fS (fCall (fn__law_off C) (kCons (vLook 0) (kCons (fK (rt (.int 9))) kNil))))))) (aCons (vGet 2) aNil))))))
def F__law_box_7 (C : Cl) : M Fl := (sSeq (F__law_box_8 C) sNil)
def F__law_box_6 (C : Cl) : M Fl := (sIf (c2 dEq (vLook 1) (fK (rt (.str "part")))) (F__law_box_7 C) sNil)
def F__law_box_9 (C : Cl) : M Fl := (sRet (fD (fTup (aCons (vGet 1) (aCons (vGet 2) aNil)))))
def F__law_box_0 (C : Cl) : M Fl := (sSeq (F__law_box_1 C) (sSeq (F__law_box_2 C) (sSeq (F__law_box_3 C) (sSeq (F__law_box_6 C) (sSeq (F__law_box_9 C) sNil)))))
def F__law_box (C : Cl) : M Fl := (F__law_box_0 C)
def fn__law_box (C : Cl) : Fn := mkFn 1 3 [0] (F__law_box C)
def F__law_hold_1 (C : Cl) : M Fl := (sRet (f2 dIx (fK (fS (fLst (aCons (rt (.int 0)) (aCons (rt (.int 0)) (aCons (rt (.int 0)) (aCons (rt (.int 1)) (aCons (fS (fCall (fn__law_off C) (kCons (vLook 0) (kCons (fK (rt (.int 10))) kNil)))) (aCons (fS (fCall (fn__law_off C) (kCons (vLook 0) (kCons (fK (rt (.int 100))) kNil)))) aNil))))))))) (fK (fS (fCall (fn__law_off C) (kCons (vLook 0) (kCons (fK (rt (.int 6))) kNil)))))))
def F__law_hold_0 (C : Cl) : M Fl := (sSeq (F__law_hold_1 C) sNil)
def F__law_hold (C : Cl) : M Fl := (F__law_hold_0 C)
def fn__law_hold (C : Cl) : Fn := mkFn 1 1 [0] (F__law_hold C)
def F__law_names_1 (C : Cl) : M Fl := (sSet 1 (fD (fS (fCall (fn__law_off C) (kCons (vLook 0) (kCons (fK (rt (.int 26))) kNil))))))
def F__law_names_2 (C : Cl) : M Fl := (sSet 2 (fD (rt (.str "abcdefghijklmnopqrstuvwxyz"))))
def F__law_names_3 (C : Cl) : M Fl := (sSet 2 (fD (fS (f2 dAdd (fK (fS (fSl (vLook 2) (oSome (vGet 1)) oNone))) (fK (fS (fSl (vLook 2) oNone (oSome (vGet 1)))))))))
def F__law_names_4 (C : Cl) : M Fl := (sSet 3 (fD (fS (f2 dMul (fK (fS (f2 dIx (vLook 2) (fK (rt (.int 2)))))) (fK (fS (f2 dAdd (fK (rt (.int 1))) (fK (fS (fCall (fn__law_off C) (kCons (vLook 0) (kCons (fK (rt (.int 6))) kNil))))))))))))
def F__law_names_5 (C : Cl) : M Fl := (sRet (fLst (aCons (fS (f2 dIx (vLook 2) (fK (rt (.int 0))))) (aCons (fS (f2 dIx (fK (fS (fLst (aCons (fS (f2 dAdd (fK (fS (f2 dIx (vLook 2) (fK (rt (.int 0)))))) (fK (fS (f2 dIx (vLook 2) (fK (rt (.int 1)))))))) (aCons (fS (f2 dAdd (fK (fS (f2 dIx (vLook 2) (fK (rt (.int 1)))))) (fK (fS (f2 dIx (vLook 2) (fK (rt (.int 0)))))))) aNil))))) (fK (fS (fCall (fn__law_off C) (kCons (vLook 0) (kCons (fK (rt (.int 2))) kNil))))))) (aCons (vGet 3) (aCons (fS (f2 dAdd (vLook 3) (fK (fS (f2 dIx (vLook 2) (fK (fS (fCall (fn__law_off C) (kCons (vLook 0) (kCons (fK (rt (.int 4))) kNil)))))))))) aNil))))))
def F__law_names_0 (C : Cl) : M Fl := (sSeq (F__law_names_1 C) (sSeq (F__law_names_2 C) (sSeq (F__law_names_3 C) (sSeq (F__law_names_4 C) (sSeq (F__law_names_5 C) sNil)))))
def F__law_names (C : Cl) : M Fl := (F__law_names_0 C)
def fn__law_names (C : Cl) : Fn := mkFn 1 4 [0] (F__law_names C)
def F__law_rows_1 (C : Cl) : M Fl := (sSet 2 (fD (fS (fCall (fn__law_names C) (kCons (vLook 0) kNil)))))
def F__law_rows_2 (C : Cl) : M Fl := (sSet 3 (fD (fS (f2 dAdd (fK (rt (.int 1))) (fK (fS (fCall (fn__law_off C) (kCons (vLook 0) (kCons (fK (rt (.int 2))) kNil)))))))))
def F__law_rows_3 (C : Cl) : M Fl := (sSet 4 (fD (fS (f2 dAdd (fK (rt (.int 1))) (fK (fS (fCall (fn__law_off C) (kCons (vLook 0) (kCons (vLook 1) kNil)))))))))
def F__law_rows_4 (C : Cl) : M Fl := (sSet 5 (f2 dAdd (fK (fS (fComp [9] (iRng1F (vGet 3)) (.nm 9) bYes (fTup (aCons (rt (.str "in")) (aCons (fS (f2 dIx (vLook 2) (vLook 9))) aNil)))))) (fK (fS (fComp [9] (iRng1F (vGet 4)) (.nm 9) bYes (fS (fCall (fn__law_box C) (kCons (vLook 0) kNil))))))))
def F__law_rows_5 (C : Cl) : M Fl := (sSet 6 (fD (fS (f2 dSub (fK (fS (fN dLen (kCons (vLook 5) kNil)))) (fK (rt (.int 1)))))))
def F__law_rows_6 (C : Cl) : M Fl := (sSet 7 (fLst aNil))
def F__law_rows_11 (C : Cl) : M Fl := (sExpr (fW 7 gAppend (aCons (fTup (aCons (fS (fCall (fn__law_off C) (kCons (vLook 0) (kCons (vLook 8) kNil)))) (aCons (vGet 8) (aCons (fS (fCall (fn__law_hold C) (kCons (vLook 0) kNil))) aNil)))) aNil)))
def F__law_rows_10 (C : Cl) : M Fl := (sSeq (F__law_rows_11 C) sNil)
def F__law_rows_9 (C : Cl) : M Fl := (sFor (iRng1F (fS (f2 dAdd (fK (rt (.int 1))) (fK (fS (f2 dMul (fK (fS (fCall (fn__law_off C) (kCons (vLook 0) (kCons (fK (rt (.int 2))) kNil))))) (fK (fS (fN dIntA (kCons (fK (fBl (c2 dLt (fK (fS (fN dLen (kCons (vLook 7) kNil)))) (fK (rt (.int 8)))))) kNil)))))))))) (.nm 9) (F__law_rows_10 C))
def F__law_rows_8 (C : Cl) : M Fl := (sSeq (F__law_rows_9 C) sNil)
def F__law_rows_7 (C : Cl) : M Fl := (sFor (iRng2F (vGet 3) (fS (fN dLen (kCons (vLook 5) kNil)))) (.nm 8) (F__law_rows_8 C))
def F__law_rows_16 (C : Cl) : M Fl := (sExpr (fW 7 gAppend (aCons (fTup (aCons (vGet 8) (aCons (vGet 6) (aCons (fS (fCall (fn__law_hold C) (kCons (vLook 0) kNil))) aNil)))) aNil)))
def F__law_rows_15 (C : Cl) : M Fl := (sSeq (F__law_rows_16 C) sNil)
def F__law_rows_14 (C : Cl) : M Fl := (sIf (c2 dEq (fK (fS (fCompO 7 [10] (.nm 10) (c2 dEq (fK (fS (f2 dIx (vLook 10) (fK (rt (.int 0)))))) (vLook 8)) (vGet 10)))) (fK (fS (fLst aNil)))) (F__law_rows_15 C) sNil)
def F__law_rows_13 (C : Cl) : M Fl := (sSeq (F__law_rows_14 C) sNil)
def F__law_rows_12 (C : Cl) : M Fl := (sFor (iRng1F (vGet 6)) (.nm 8) (F__law_rows_13 C))
def F__law_rows_19 (C : Cl) : M Fl := (sSet 8 (fD (fS (f2 dAdd (vLook 3) (fK (fS (fCall (fn__law_off C) (kCons (vLook 0) (kCons (vLook 4) kNil)))))))))
def F__law_rows_20 (C : Cl) : M Fl := (sExpr (fW 7 gAppend (aCons (fTup (aCons (vGet 8) (aCons (fS (f2 dAdd (vLook 3) (fK (fS (fCall (fn__law_off C) (kCons (vLook 0) (kCons (fK (fS (f2 dAdd (fK (fS (f2 dSub (vLook 8) (vLook 3)))) (fK (rt (.int 1)))))) kNil))))))) (aCons (fS (f2 dAdd (fK (rt (.int 1))) (fK (fS (fCall (fn__law_off C) (kCons (vLook 0) (kCons (fK (fS (f2 dIx (fK (fS (fLst (aCons (rt (.int 9)) (aCons (rt (.int 40)) aNil))))) (fK (fS (fCall (fn__law_off C) (kCons (vLook 0) (kCons (fK (rt (.int 2))) kNil)))))))) kNil))))))) aNil)))) aNil)))
def F__law_rows_18 (C : Cl) : M Fl := (sSeq (F__law_rows_19 C) (sSeq (F__law_rows_20 C) sNil))
def F__law_rows_17 (C : Cl) : M Fl := (sFor (iRng1F (fS (fCall (fn__law_off C) (kCons (vLook 0) (kCons (fK (rt (.int 3))) kNil))))) (.nm 9) (F__law_rows_18 C))
def F__law_rows_23 (C : Cl) : M Fl := (sExpr (fW 5 gAppend (aCons (fTup (aCons (rt (.str "out")) (aCons (fS (f2 dIx (vLook 2) (fK (fS (f2 dAdd (fK (rt (.int 2))) (vLook 9)))))) aNil))) aNil)))
def F__law_rows_24 (C : Cl) : M Fl := (sExpr (fW 7 gAppend (aCons (fTup (aCons (fS (f2 dIx (fK (fS (fLst (aCons (vGet 6) (aCons (fS (fCall (fn__law_off C) (kCons (vLook 0) (kCons (fK (fS (f2 dAdd (vLook 6) (fK (rt (.int 1)))))) kNil)))) aNil))))) (vLook 9))) (aCons (fS (f2 dSub (fK (fS (fN dLen (kCons (vLook 5) kNil)))) (fK (rt (.int 1))))) (aCons (fS (fCall (fn__law_hold C) (kCons (vLook 0) kNil))) aNil)))) aNil)))
def F__law_rows_22 (C : Cl) : M Fl := (sSeq (F__law_rows_23 C) (sSeq (F__law_rows_24 C) sNil))
def F__law_rows_21 (C : Cl) : M Fl := (sFor (iRng1F (fS (f2 dAdd (fK (rt (.int 1))) (fK (fS (fCall (fn__law_off C) (kCons (vLook 0) (kCons (fK (rt (.int 2))) kNil)))))))) (.nm 9) (F__law_rows_22 C))
def F__law_rows_25 (C : Cl) : M Fl := (sRet (fD (fTup (aCons (vGet 5) (aCons (vGet 7) aNil)))))
def F__law_rows_0 (C : Cl) : M Fl := (sSeq (F__law_rows_1 C) (sSeq (F__law_rows_2 C) (sSeq (F__law_rows_3 C) (sSeq (F__law_rows_4 C) (sSeq (F__law_rows_5 C) (sSeq (F__law_rows_6 C) (sSeq (F__law_rows_7 C) (sSeq (F__law_rows_12 C) (sSeq (F__law_rows_17 C) (sSeq (F__law_rows_21 C) (sSeq (F__law_rows_25 C) sNil)))))))))))
def F__law_rows (C : Cl) : M Fl := (F__law_rows_0 C)
def fn__law_rows (C : Cl) : Fn := mkFn 2 11 [0] (F__law_rows C)
def F__law_more_1 (C : Cl) : M Fl := (sSet 3 (fD (fS (f2 dMod (vLook 2) (fK (rt (.int 8)))))))
def F__law_more_6 (C : Cl) : M Fl := (sSet 2 (fD (fS (f2 dAdd (fK (fS (f2 dDiv (vLook 2) (fK (rt (.int 3)))))) (fK (fS (f2 dMul (fK (rt (.int 7))) (vLook 4))))))))
def F__law_more_7 (C : Cl) : M Fl := (sSet 5 (fD (fS (f2 dMod (vLook 2) (fK (fS (fN dLen (kCons (vLook 1) kNil))))))))
def F__law_more_8 (C : Cl) : M Fl := (sSetT (.tp [(.nm 9), (.nm 10), (.nm 11)]) (fS (f2 dIx (vLook 1) (vLook 5))))
def F__law_more_9 (C : Cl) : M Fl := (sSet 6 (fD (fS (fN dLen (kCons (vLook 0) kNil)))))
def F__law_more_10 (C : Cl) : M Fl := (sSet 7 (fComp [12] (iRng1F (vGet 6)) (.nm 12) (c2 dNotIn (fK (fS (f2 dIx (fK (fS (f2 dIx (vLook 0) (vLook 12)))) (fK (rt (.int 0)))))) (fK (fTup (aCons (rt (.str "in")) (aCons (rt (.str "out")) aNil))))) (vGet 12)))
def F__law_more_11 (C : Cl) : M Fl := (sSet 8 (fD (fS (f2 dMul (fK (fS (f2 dIx (fK (rt (.str "nopqrs"))) (vLook 4)))) (fK (rt (.int 8)))))))
def F__law_more_14 (C : Cl) : M Fl := (sSet 0 (fD (fS (f2 dAdd (vLook 0) (fK (fS (fLst (aCons (fS (f2 dIx (fK (fS (fLst (aCons (fTup (aCons (rt (.str "sum")) (aCons (fS (f2 dMod (vLook 2) (fK (rt (.int 5))))) aNil))) (aCons (fTup (aCons (rt (.str "most")) (aCons (fS (f2 dMod (vLook 2) (fK (rt (.int 3))))) aNil))) aNil))))) (fK (fS (f2 dMod (vLook 2) (fK (rt (.int 2)))))))) aNil))))))))
def F__law_more_15 (C : Cl) : M Fl := (sSet 1 (fD (fS (f2 dAdd (fK (fS (f2 dAdd (fK (fS (fSl (vLook 1) oNone (oSome (vGet 5))))) (fK (fS (fLst (aCons (fTup (aCons (vGet 9) (aCons (vGet 6) (aCons (vGet 11) aNil)))) (aCons (fTup (aCons (vGet 6) (aCons (vGet 10) (aCons (rt (.int 0)) aNil)))) aNil)))))))) (fK (fS (fSl (vLook 1) (oSome (fS (f2 dAdd (vLook 5) (fK (rt (.int 1)))))) oNone)))))))
def F__law_more_13 (C : Cl) : M Fl := (sSeq (F__law_more_14 C) (sSeq (F__law_more_15 C) sNil))
def F__law_more_19 (C : Cl) : M Fl := (sSet 0 (fD (fS (f2 dAdd (vLook 0) (fK (fS (fLst (aCons (fTup (aCons (rt (.str "in")) (aCons (vGet 8) aNil))) aNil))))))))
def F__law_more_20 (C : Cl) : M Fl := (sSet 1 (fD (fS (f2 dAdd (vLook 1) (fK (fS (fLst (aCons (fTup (aCons (vGet 6) (aCons (fS (f2 dIx (vLook 7) (fK (fS (f2 dMod (vLook 2) (fK (fS (fN dLen (kCons (vLook 7) kNil))))))))) (aCons (vGet 11) aNil)))) aNil))))))))
def F__law_more_18 (C : Cl) : M Fl := (sSeq (F__law_more_19 C) (sSeq (F__law_more_20 C) sNil))
def F__law_more_22 (C : Cl) : M Fl := (sSet 0 (fD (fS (f2 dAdd (vLook 0) (fK (fS (fLst (aCons (fTup (aCons (rt (.str "out")) (aCons (vGet 8) aNil))) aNil))))))))
def F__law_more_23 (C : Cl) : M Fl := (sSet 1 (fD (fS (f2 dAdd (vLook 1) (fK (fS (fLst (aCons (fTup (aCons (fS (f2 dIx (vLook 7) (fK (fS (f2 dMod (vLook 2) (fK (fS (fN dLen (kCons (vLook 7) kNil))))))))) (aCons (vGet 6) (aCons (rt (.int 0)) aNil)))) aNil))))))))
def F__law_more_21 (C : Cl) : M Fl := (sSeq (F__law_more_22 C) (sSeq (F__law_more_23 C) sNil))
def F__law_more_17 (C : Cl) : M Fl := (sIf (c2 dEq (fK (fS (f2 dMod (vLook 4) (fK (rt (.int 2)))))) (fK (rt (.int 0)))) (F__law_more_18 C) (F__law_more_21 C))
def F__law_more_16 (C : Cl) : M Fl := (sSeq (F__law_more_17 C) sNil)
def F__law_more_12 (C : Cl) : M Fl := (sIf (c2 dEq (vLook 3) (fK (rt (.int 2)))) (F__law_more_13 C) (F__law_more_16 C))
def F__law_more_5 (C : Cl) : M Fl := (sSeq (F__law_more_6 C) (sSeq (F__law_more_7 C) (sSeq (F__law_more_8 C) (sSeq (F__law_more_9 C) (sSeq (F__law_more_10 C) (sSeq (F__law_more_11 C) (sSeq (F__law_more_12 C) sNil)))))))
def F__law_more_4 (C : Cl) : M Fl := (sIf (bAnd (c2 dLt (fK (fS (fN dLen (kCons (vLook 0) kNil)))) (fK (rt (.int 10)))) (c2 dLt (fK (fS (fN dLen (kCons (vLook 1) kNil)))) (fK (rt (.int 20))))) (F__law_more_5 C) sNil)
def F__law_more_3 (C : Cl) : M Fl := (sSeq (F__law_more_4 C) sNil)
def F__law_more_2 (C : Cl) : M Fl := (sFor (iRng1F (fS (f2 dMul (fK (rt (.int 6))) (fK (fS (fN dIntA (kCons (fK (fBl (c2 dIn (vLook 3) (fK (fTup (aCons (rt (.int 0)) (aCons (rt (.int 2)) aNil))))))) kNil))))))) (.nm 4) (F__law_more_3 C))
def F__law_more_24 (C : Cl) : M Fl := (sRet (fD (fTup (aCons (vGet 0) (aCons (vGet 1) aNil)))))
def F__law_more_0 (C : Cl) : M Fl := (sSeq (F__law_more_1 C) (sSeq (F__law_more_2 C) (sSeq (F__law_more_24 C) sNil)))
def F__law_more (C : Cl) : M Fl := (F__law_more_0 C)
def fn__law_more (C : Cl) : Fn := mkFn 3 13 [] (F__law_more C)
def F__law_desk_1 (C : Cl) : M Fl := (sSetT (.tp [(.nm 5), (.nm 4)]) (fS (fCall (fn__law_rows C) (kCons (vLook 0) (kCons (vLook 1) kNil)))))
def F__law_desk_2 (C : Cl) : M Fl := (sSetT (.tp [(.nm 5), (.nm 4)]) (fS (fCall (fn__law_more C) (kCons (vLook 5) (kCons (vLook 4) (kCons (fK (fS (f2 dDiv (fK (fS (f2 dIx (vLook 0) (fK (rt (.int 0)))))) (fK (rt (.int 7)))))) kNil))))))
def F__law_desk_3 (C : Cl) : M Fl := (sSet 2 (fD (fS (fCall (fn__law_mixed C) (kCons (vLook 0) (kCons (fK (fS (fLRg (fS (fN dLen (kCons (vLook 5) kNil)))))) kNil))))))
def F__law_desk_4 (C : Cl) : M Fl := (sSet 3 (fD (fS (fComp [6] (iRng1F (fS (fN dLen (kCons (vLook 5) kNil)))) (.nm 6) bYes (fS (fM "list" dIndex (vLook 2) (kCons (vLook 6) kNil)))))))
def F__law_desk_5 (C : Cl) : M Fl := (sSet 4 (fComp [7, 8, 9] (iSeq (vGet 4)) (.tp [(.nm 7), (.nm 8), (.nm 9)]) bYes (fTup (aCons (fS (f2 dIx (vLook 3) (vLook 7))) (aCons (fS (f2 dIx (vLook 3) (vLook 8))) (aCons (vGet 9) aNil))))))
def F__law_desk_6 (C : Cl) : M Fl := (sRet (fD (fTup (aCons (fS (fComp [6] (iSeq (vGet 2)) (.nm 6) bYes (fS (f2 dIx (vLook 5) (vLook 6))))) (aCons (fS (fCall (fn__law_mixed C) (kCons (vLook 0) (kCons (vLook 4) kNil)))) aNil)))))
def F__law_desk_0 (C : Cl) : M Fl := (sSeq (F__law_desk_1 C) (sSeq (F__law_desk_2 C) (sSeq (F__law_desk_3 C) (sSeq (F__law_desk_4 C) (sSeq (F__law_desk_5 C) (sSeq (F__law_desk_6 C) sNil))))))
def F__law_desk (C : Cl) : M Fl := (F__law_desk_0 C)
def fn__law_desk (C : Cl) : Fn := mkFn 2 10 [0] (F__law_desk C)
def F__law_ends_1 (C : Cl) : M Fl := (sRet (fComp [2] (iRng1F (fS (fN dLen (kCons (fK (fS (f2 dIx (vLook 0) (fK (rt (.int 0)))))) kNil)))) (.nm 2) (c2 dEq (fK (fS (f2 dIx (fK (fS (f2 dIx (fK (fS (f2 dIx (vLook 0) (fK (rt (.int 0)))))) (vLook 2)))) (fK (rt (.int 0)))))) (vLook 1)) (vGet 2)))
def F__law_ends_0 (C : Cl) : M Fl := (sSeq (F__law_ends_1 C) sNil)
def F__law_ends (C : Cl) : M Fl := (F__law_ends_0 C)
def fn__law_ends (C : Cl) : Fn := mkFn 2 3 [] (F__law_ends C)
def F__law_is_1 (C : Cl) (x : Xn) : M Fl := (sSet 2 (fD (fS (fLst (aCons (rt (.bl (decide (x.C = C.BadDesk)))) (aCons (rt (.bl (decide (x.C = C.TooLate)))) (aCons (rt (.bl (decide (x.C = C.BadDelays)))) (aCons (rt (.bl (decide (x.C = C.BadStreams)))) aNil))))))))
def F__law_is_2 (C : Cl) (x : Xn) : M Fl := (sSet 2 (fD (fS (f2 dAdd (vLook 2) (fK (fS (fLst (aCons (rt (.bl (decide (x.C = C.BadChange)))) (aCons (rt (.bl (decide (x.C = C.BadText)))) aNil)))))))))
def F__law_is_3 (C : Cl) (x : Xn) : M Fl := (sSet 3 (fD (fS (fLst (aCons (rt (.str "desk")) (aCons (rt (.str "late")) (aCons (rt (.str "delays")) (aCons (rt (.str "streams")) (aCons (rt (.str "change")) (aCons (rt (.str "text")) aNil))))))))))
def F__law_is_4 (C : Cl) (x : Xn) : M Fl := (sRet (fD (vAnd (rt (.bl true)) (fBl (c2 dEq (vLook 2) (fK (fS (fComp [4] (iLstF (vGet 3)) (.nm 4) bYes (fBl (c2 dEq (vLook 1) (vLook 4)))))))))))
def F__law_is_0 (C : Cl) (x : Xn) : M Fl := (sSeq (F__law_is_1 C x) (sSeq (F__law_is_2 C x) (sSeq (F__law_is_3 C x) (sSeq (F__law_is_4 C x) sNil))))
def F__law_is (C : Cl) (x : Xn) : M Fl := (F__law_is_0 C x)
def F__law_bad_box_1 (C : Cl) : M Fl := (sSet 2 (fD (fS (f2 dAdd (fK (rt (.int 10))) (fK (fS (fCall (fn__law_off C) (kCons (vLook 0) (kCons (fK (fS (f2 dIx (fK (fS (fLst (aCons (rt (.int 1)) (aCons (fS (f2 dPow (fK (rt (.int 10))) (fK (rt (.int 6))))) aNil))))) (fK (fS (fCall (fn__law_off C) (kCons (vLook 0) (kCons (fK (rt (.int 2))) kNil)))))))) kNil)))))))))
def F__law_bad_box_2 (C : Cl) : M Fl := (sSet 3 (fD (fS (f2 dIx (fK (fS (fComp [5] (iSeq (fS (f2 dIx (vLook 1) (fK (rt (.int 0)))))) (.nm 5) (c2 dEq (fK (fS (f2 dIx (vLook 5) (fK (rt (.int 0)))))) (fK (rt (.str "in")))) (fS (f2 dIx (vLook 5) (fK (rt (.int 1)))))))) (fK (rt (.int 0)))))))
def F__law_bad_box_3 (C : Cl) : M Fl := (sSet 4 (fD (fS (fLst (aCons (fTup (aCons (rt (.str "in")) (aCons (vGet 3) aNil))) (aCons (fTup (aCons (rt (.str "out")) (aCons (vGet 3) aNil))) (aCons (fTup (aCons (rt (.str "in")) (aCons (rt (.str "")) aNil))) (aCons (fTup (aCons (rt (.str "in")) (aCons (rt (.str "A")) aNil))) (aCons (fTup (aCons (rt (.str "out")) (aCons (rt (.str "abcdefghi")) aNil))) (aCons (fTup (aCons (rt (.str "in")) (aCons (rt (.str "a b")) aNil))) (aCons (fTup (aCons (rt (.str "in")) aNil)) aNil)))))))))))
def F__law_bad_box_4 (C : Cl) : M Fl := (sSet 4 (fD (fS (f2 dAdd (vLook 4) (fK (fS (fLst (aCons (fTup (aCons (rt (.str "sum")) (aCons (fS (f1 dNeg (fK (rt (.int 1))))) aNil))) (aCons (fTup (aCons (rt (.str "sum")) (aCons (vGet 2) aNil))) (aCons (fTup (aCons (rt (.str "most")) aNil)) (aCons (fTup (aCons (rt (.str "times")) (aCons (rt (.int 1)) aNil))) (aCons (fTup (aCons (rt (.str "times")) (aCons (vGet 2) (aCons (rt (.int 1)) aNil)))) (aCons (fTup (aCons (rt (.str "times")) (aCons (fS (f2 dSub (fK (rt (.int 0))) (vLook 2))) (aCons (rt (.int 1)) aNil)))) aNil)))))))))))))
def F__law_bad_box_5 (C : Cl) : M Fl := (sSet 4 (fD (fS (f2 dAdd (vLook 4) (fK (fS (fLst (aCons (fTup (aCons (rt (.str "part")) (aCons (rt (.int 0)) (aCons (rt (.int 1)) aNil)))) (aCons (fTup (aCons (rt (.str "part")) (aCons (vGet 2) (aCons (rt (.int 1)) aNil)))) (aCons (fTup (aCons (rt (.str "part")) (aCons (rt (.int 2)) (aCons (vGet 2) aNil)))) (aCons (fTup (aCons (rt (.str "times")) (aCons (rt (.int 2)) (aCons (fS (f1 dNeg (fK (rt (.int 1))))) aNil)))) (aCons (fTup (aCons (rt (.str "sums")) (aCons (rt (.int 1)) aNil))) (aCons (fTup (aCons (rt (.str "sum")) (aCons (rt (.int 1)) (aCons (rt (.int 1)) aNil)))) (aCons (fTup aNil) aNil))))))))))))))
def F__law_bad_box_6 (C : Cl) : M Fl := (sRet (f2 dIx (vLook 4) (fK (fS (fCall (fn__law_off C) (kCons (vLook 0) (kCons (fK (rt (.int 20))) kNil)))))))
def F__law_bad_box_0 (C : Cl) : M Fl := (sSeq (F__law_bad_box_1 C) (sSeq (F__law_bad_box_2 C) (sSeq (F__law_bad_box_3 C) (sSeq (F__law_bad_box_4 C) (sSeq (F__law_bad_box_5 C) (sSeq (F__law_bad_box_6 C) sNil))))))
def F__law_bad_box (C : Cl) : M Fl := (F__law_bad_box_0 C)
def fn__law_bad_box (C : Cl) : Fn := mkFn 2 6 [0] (F__law_bad_box C)
def F__law_mid_1 (C : Cl) : M Fl := (sRet (fComp [1] (iRng1F (fS (fN dLen (kCons (fK (fS (f2 dIx (vLook 0) (fK (rt (.int 0)))))) kNil)))) (.nm 1) (c2 dNotIn (fK (fS (f2 dIx (fK (fS (f2 dIx (fK (fS (f2 dIx (vLook 0) (fK (rt (.int 0)))))) (vLook 1)))) (fK (rt (.int 0)))))) (fK (fTup (aCons (rt (.str "in")) (aCons (rt (.str "out")) aNil))))) (vGet 1)))
def F__law_mid_0 (C : Cl) : M Fl := (sSeq (F__law_mid_1 C) sNil)
def F__law_mid (C : Cl) : M Fl := (F__law_mid_0 C)
def fn__law_mid (C : Cl) : Fn := mkFn 1 2 [] (F__law_mid C)
def F__law_apart_1 (C : Cl) : M Fl := (sSetT (.tp [(.nm 7), (.nm 8)]) (vGet 1))
def F__law_apart_2 (C : Cl) : M Fl := (sSet 2 (fD (fS (fN dLen (kCons (vLook 7) kNil)))))
def F__law_apart_3 (C : Cl) : M Fl := (sSet 3 (fD (fS (fCall (fn__law_mid C) (kCons (vLook 1) kNil)))))
def F__law_apart_4 (C : Cl) : M Fl := (sSet 4 (fD (fS (f2 dIx (vLook 3) (fK (fS (fCall (fn__law_off C) (kCons (vLook 0) (kCons (fK (fS (fN dLen (kCons (vLook 3) kNil)))) kNil)))))))))
def F__law_apart_5 (C : Cl) : M Fl := (sSet 5 (fD (fS (fCall (fn__law_off C) (kCons (vLook 0) (kCons (fK (rt (.int 2))) kNil))))))
def F__law_apart_6 (C : Cl) : M Fl := (sSet 6 (fPickL (lCons (fLst (aCons (fTup (aCons (vGet 2) (aCons (vGet 2) (aCons (rt (.int 1)) aNil)))) aNil)) (lCons (fLst (aCons (fTup (aCons (vGet 2) (aCons (fS (f2 dAdd (vLook 2) (fK (rt (.int 1))))) (aCons (rt (.int 1)) aNil)))) (aCons (fTup (aCons (fS (f2 dAdd (vLook 2) (fK (rt (.int 1))))) (aCons (vGet 2) (aCons (rt (.int 0)) aNil)))) aNil))) lNil)) (vGet 5)))
def F__law_apart_7 (C : Cl) : M Fl := (sExpr (fW 6 gAppend (aCons (fS (f2 dIx (fK (fS (fLst (aCons (fTup (aCons (vGet 2) (aCons (vGet 4) (aCons (rt (.int 0)) aNil)))) (aCons (fTup (aCons (vGet 4) (aCons (fS (f2 dAdd (vLook 2) (vLook 5))) (aCons (rt (.int 0)) aNil)))) aNil))))) (fK (fS (fCall (fn__law_off C) (kCons (vLook 0) (kCons (fK (rt (.int 2))) kNil))))))) aNil)))
def F__law_apart_10 (C : Cl) : M Fl := (sExpr (fW 6 gAppend (aCons (fTup (aCons (vGet 4) (aCons (vGet 4) (aCons (rt (.int 0)) aNil)))) aNil)))
def F__law_apart_9 (C : Cl) : M Fl := (sSeq (F__law_apart_10 C) sNil)
def F__law_apart_8 (C : Cl) : M Fl := (sIf (c2 dEq (fK (fS (fCall (fn__law_off C) (kCons (vLook 0) (kCons (fK (rt (.int 3))) kNil))))) (fK (rt (.int 0)))) (F__law_apart_9 C) sNil)
def F__law_apart_11 (C : Cl) : M Fl := (sRet (fD (fTup (aCons (fS (f2 dAdd (vLook 7) (fK (fS (f2 dMul (fK (fS (fLst (aCons (fTup (aCons (rt (.str "sum")) (aCons (rt (.int 1)) aNil))) aNil)))) (fK (fS (f2 dAdd (fK (rt (.int 1))) (vLook 5))))))))) (aCons (fS (f2 dAdd (vLook 8) (fK (fS (fSl (vLook 6) oNone (oSome (fS (f2 dSub (fK (rt (.int 20))) (fK (fS (fN dLen (kCons (vLook 8) kNil)))))))))))) (aCons (vGet 2) (aCons (rt (.str "lonely")) aNil)))))))
def F__law_apart_0 (C : Cl) : M Fl := (sSeq (F__law_apart_1 C) (sSeq (F__law_apart_2 C) (sSeq (F__law_apart_3 C) (sSeq (F__law_apart_4 C) (sSeq (F__law_apart_5 C) (sSeq (F__law_apart_6 C) (sSeq (F__law_apart_7 C) (sSeq (F__law_apart_8 C) (sSeq (F__law_apart_11 C) sNil)))))))))
def F__law_apart (C : Cl) : M Fl := (F__law_apart_0 C)
def fn__law_apart (C : Cl) : Fn := mkFn 2 9 [0] (F__law_apart C)
def F__law_ring_1 (C : Cl) : M Fl := (sSet 2 (fD (fS (fCall (fn__law_mid C) (kCons (vLook 1) kNil)))))
def F__law_ring_2 (C : Cl) : M Fl := (sSet 3 (fD (fS (f2 dIx (vLook 2) (fK (fS (fCall (fn__law_off C) (kCons (vLook 0) (kCons (fK (fS (fN dLen (kCons (vLook 2) kNil)))) kNil)))))))))
def F__law_ring_3 (C : Cl) : M Fl := (sSet 4 (fD (fS (f2 dIx (vLook 2) (fK (fS (fCall (fn__law_off C) (kCons (vLook 0) (kCons (fK (fS (fN dLen (kCons (vLook 2) kNil)))) kNil)))))))))
def F__law_ring_4 (C : Cl) : M Fl := (sSet 5 (fD (fS (f2 dIx (vLook 2) (fK (fS (fCall (fn__law_off C) (kCons (vLook 0) (kCons (fK (fS (fN dLen (kCons (vLook 2) kNil)))) kNil)))))))))
def F__law_ring_5 (C : Cl) : M Fl := (sSet 6 (fD (fS (f2 dAdd (fK (fS (f2 dAdd (fK (fS (fLst (aCons (vGet 3) aNil)))) (fK (fS (fComp [8] (iSeq (fS (fLst (aCons (vGet 4) aNil)))) (.nm 8) (c2 dNe (vLook 8) (vLook 3)) (vGet 8))))))) (fK (fS (fComp [8] (iSeq (fS (fLst (aCons (vGet 5) aNil)))) (.nm 8) (c2 dNotIn (vLook 8) (fK (fTup (aCons (vGet 3) (aCons (vGet 4) aNil))))) (vGet 8))))))))
def F__law_ring_6 (C : Cl) : M Fl := (sRet (fComp [7] (iRng1F (fS (fN dLen (kCons (vLook 6) kNil)))) (.nm 7) bYes (fTup (aCons (fS (f2 dIx (vLook 6) (vLook 7))) (aCons (fS (f2 dIx (vLook 6) (fK (fS (f2 dMod (fK (fS (f2 dAdd (vLook 7) (fK (rt (.int 1)))))) (fK (fS (fN dLen (kCons (vLook 6) kNil))))))))) (aCons (rt (.int 0)) aNil))))))
def F__law_ring_0 (C : Cl) : M Fl := (sSeq (F__law_ring_1 C) (sSeq (F__law_ring_2 C) (sSeq (F__law_ring_3 C) (sSeq (F__law_ring_4 C) (sSeq (F__law_ring_5 C) (sSeq (F__law_ring_6 C) sNil))))))
def F__law_ring (C : Cl) : M Fl := (F__law_ring_0 C)
def fn__law_ring (C : Cl) : Fn := mkFn 2 9 [0] (F__law_ring C)
def F__law_lonely_1 (C : Cl) : M Fl := (sSetT (.tp [(.nm 8), (.nm 9)]) (vGet 1))
def F__law_lonely_2 (C : Cl) : M Fl := (sSet 2 (fD (fS (fCall (fn__law_ends C) (kCons (vLook 1) (kCons (fK (rt (.str "out"))) kNil))))))
def F__law_lonely_3 (C : Cl) : M Fl := (sSet 3 (fD (fS (f2 dIx (vLook 2) (fK (fS (fCall (fn__law_off C) (kCons (vLook 0) (kCons (fK (fS (fN dLen (kCons (vLook 2) kNil)))) kNil)))))))))
def F__law_lonely_4 (C : Cl) : M Fl := (sSet 4 (fD (fS (fCall (fn__law_off C) (kCons (vLook 0) (kCons (fK (rt (.int 4))) kNil))))))
def F__law_lonely_7 (C : Cl) : M Fl := (sRet (fD (fTup (aCons (vGet 8) (aCons (fS (f2 dAdd (vLook 9) (fK (fS (fLst (aCons (fTup (aCons (fS (f2 dIx (fK (fS (fCall (fn__law_ends C) (kCons (vLook 1) (kCons (fK (rt (.str "in"))) kNil))))) (fK (rt (.int 0))))) (aCons (vGet 3) (aCons (rt (.int 1)) aNil)))) aNil)))))) (aCons (vGet 3) (aCons (rt (.str "lonely")) aNil)))))))
def F__law_lonely_6 (C : Cl) : M Fl := (sSeq (F__law_lonely_7 C) sNil)
def F__law_lonely_5 (C : Cl) : M Fl := (sIf (bAnd (c2 dEq (vLook 4) (fK (rt (.int 0)))) (c2 dLt (fK (fS (fN dLen (kCons (vLook 9) kNil)))) (fK (rt (.int 20))))) (F__law_lonely_6 C) sNil)
def F__law_lonely_10 (C : Cl) : M Fl := (sRet (fCall (fn__law_apart C) (kCons (vLook 0) (kCons (vLook 1) kNil))))
def F__law_lonely_9 (C : Cl) : M Fl := (sSeq (F__law_lonely_10 C) sNil)
def F__law_lonely_8 (C : Cl) : M Fl := (sIf (bAnd (c2 dGt (vLook 4) (fK (rt (.int 1)))) (bAnd (c2 dLt (fK (fS (fN dLen (kCons (vLook 8) kNil)))) (fK (rt (.int 9)))) (c2 dLt (fK (fS (fN dLen (kCons (vLook 9) kNil)))) (fK (rt (.int 18)))))) (F__law_lonely_9 C) sNil)
def F__law_lonely_11 (C : Cl) : M Fl := (sSet 5 (fD (fS (fCall (fn__law_off C) (kCons (vLook 0) (kCons (fK (fS (f2 dAdd (fK (fS (fN dLen (kCons (vLook 8) kNil)))) (fK (rt (.int 1)))))) kNil))))))
def F__law_lonely_12 (C : Cl) : M Fl := (sSet 6 (fComp [10, 11, 12] (iSeq (vGet 9)) (.tp [(.nm 10), (.nm 11), (.nm 12)]) bYes (fTup (aCons (fS (f2 dAdd (vLook 10) (fK (fS (fN dIntA (kCons (fK (fBl (c2 dGe (vLook 10) (vLook 5)))) kNil)))))) (aCons (fS (f2 dAdd (vLook 11) (fK (fS (fN dIntA (kCons (fK (fBl (c2 dGe (vLook 11) (vLook 5)))) kNil)))))) (aCons (vGet 12) aNil))))))
def F__law_lonely_13 (C : Cl) : M Fl := (sSet 7 (fD (fS (f2 dIx (fK (fS (fLst (aCons (fTup (aCons (rt (.str "sum")) (aCons (rt (.int 1)) aNil))) (aCons (fTup (aCons (rt (.str "in")) (aCons (rt (.str "lone")) aNil))) (aCons (fTup (aCons (rt (.str "out")) (aCons (rt (.str "lone")) aNil))) aNil)))))) (fK (fS (fCall (fn__law_off C) (kCons (vLook 0) (kCons (fK (rt (.int 3))) kNil)))))))))
def F__law_lonely_14 (C : Cl) : M Fl := (sRet (fD (fTup (aCons (fS (f2 dAdd (fK (fS (f2 dAdd (fK (fS (fSl (vLook 8) oNone (oSome (vGet 5))))) (fK (fS (fLst (aCons (vGet 7) aNil))))))) (fK (fS (fSl (vLook 8) (oSome (vGet 5)) oNone))))) (aCons (vGet 6) (aCons (vGet 5) (aCons (rt (.str "lonely")) aNil)))))))
def F__law_lonely_0 (C : Cl) : M Fl := (sSeq (F__law_lonely_1 C) (sSeq (F__law_lonely_2 C) (sSeq (F__law_lonely_3 C) (sSeq (F__law_lonely_4 C) (sSeq (F__law_lonely_5 C) (sSeq (F__law_lonely_8 C) (sSeq (F__law_lonely_11 C) (sSeq (F__law_lonely_12 C) (sSeq (F__law_lonely_13 C) (sSeq (F__law_lonely_14 C) sNil))))))))))
def F__law_lonely (C : Cl) : M Fl := (F__law_lonely_0 C)
def fn__law_lonely (C : Cl) : Fn := mkFn 2 13 [0] (F__law_lonely C)
def F__law_wrong_1 (C : Cl) : M Fl := (sSetT (.tp [(.nm 7), (.nm 8)]) (vGet 1))
def F__law_wrong_2 (C : Cl) : M Fl := (sSet 2 (fD (fS (fCall (fn__law_off C) (kCons (vLook 0) (kCons (fK (rt (.int 9))) kNil))))))
def F__law_wrong_3 (C : Cl) : M Fl := (sSet 3 (fD (fS (fN dLen (kCons (vLook 7) kNil)))))
def F__law_wrong_4 (C : Cl) : M Fl := (sSet 4 (fD (fS (fCall (fn__law_off C) (kCons (vLook 0) (kCons (fK (fS (f2 dIx (fK (fS (fLst (aCons (rt (.int 1)) (aCons (fS (f2 dPow (fK (rt (.int 10))) (fK (rt (.int 6))))) aNil))))) (fK (fS (fCall (fn__law_off C) (kCons (vLook 0) (kCons (fK (rt (.int 2))) kNil)))))))) kNil))))))
def F__law_wrong_7 (C : Cl) : M Fl := (sRet (fD (fTup (aCons (fS (f2 dIx (fK (fS (fLst (aCons (fS (fLst aNil)) (aCons (fS (f2 dAdd (vLook 7) (fK (fS (f2 dMul (fK (fS (fLst (aCons (fTup (aCons (rt (.str "sum")) (aCons (rt (.int 0)) aNil))) aNil)))) (fK (rt (.int 10)))))))) aNil))))) (fK (fS (fCall (fn__law_off C) (kCons (vLook 0) (kCons (fK (rt (.int 2))) kNil))))))) (aCons (fS (fLst (aCons (fTup (aCons (rt (.int 0)) (aCons (rt (.int 99)) (aCons (rt (.int 0)) aNil)))) aNil))) (aCons (rt (.int 0)) (aCons (rt (.str "boxes")) aNil)))))))
def F__law_wrong_6 (C : Cl) : M Fl := (sSeq (F__law_wrong_7 C) sNil)
def F__law_wrong_5 (C : Cl) : M Fl := (sIf (c2 dEq (vLook 2) (fK (rt (.int 0)))) (F__law_wrong_6 C) sNil)
def F__law_wrong_10 (C : Cl) : M Fl := (sSet 9 (fD (fS (fN dMin (kCons (fK (fS (fComp [5] (iRng1F (vGet 3)) (.nm 5) (c2 dEq (fK (fS (f2 dIx (fK (fS (f2 dIx (vLook 7) (vLook 5)))) (fK (rt (.int 0)))))) (fK (rt (.str "in")))) (vGet 5)))) kNil)))))
def F__law_wrong_11 (C : Cl) : M Fl := (sSet 5 (fD (fS (f2 dAdd (fK (fS (f2 dAdd (vLook 9) (fK (rt (.int 1)))))) (fK (fS (fCall (fn__law_off C) (kCons (vLook 0) (kCons (fK (fS (f2 dSub (vLook 3) (vLook 9)))) kNil)))))))))
def F__law_wrong_12 (C : Cl) : M Fl := (sRet (fD (fTup (aCons (fS (f2 dAdd (fK (fS (f2 dAdd (fK (fS (fSl (vLook 7) oNone (oSome (vGet 5))))) (fK (fS (fLst (aCons (fS (fCall (fn__law_bad_box C) (kCons (vLook 0) (kCons (vLook 1) kNil)))) aNil))))))) (fK (fS (fSl (vLook 7) (oSome (vGet 5)) oNone))))) (aCons (fS (f2 dMul (fK (fS (fLst (aCons (fTup (aCons (rt (.int 0)) (aCons (rt (.int 99)) (aCons (rt (.int 0)) aNil)))) aNil)))) (fK (fS (fCall (fn__law_off C) (kCons (vLook 0) (kCons (fK (rt (.int 2))) kNil))))))) (aCons (vGet 5) (aCons (rt (.str "box")) aNil)))))))
def F__law_wrong_9 (C : Cl) : M Fl := (sSeq (F__law_wrong_10 C) (sSeq (F__law_wrong_11 C) (sSeq (F__law_wrong_12 C) sNil)))
def F__law_wrong_8 (C : Cl) : M Fl := (sIf (bAnd (c2 dEq (vLook 2) (fK (rt (.int 1)))) (c2 dLt (vLook 3) (fK (rt (.int 10))))) (F__law_wrong_9 C) sNil)
def F__law_wrong_15 (C : Cl) : M Fl := (sRet (fD (fTup (aCons (vGet 7) (aCons (fS (fSl (fK (fS (f2 dMul (vLook 8) (fK (rt (.int 21)))))) oNone (oSome (rt (.int 21))))) (aCons (rt (.int 0)) (aCons (rt (.str "cables")) aNil)))))))
def F__law_wrong_14 (C : Cl) : M Fl := (sSeq (F__law_wrong_15 C) sNil)
def F__law_wrong_13 (C : Cl) : M Fl := (sIf (c2 dEq (vLook 2) (fK (rt (.int 2)))) (F__law_wrong_14 C) sNil)
def F__law_wrong_16 (C : Cl) : M Fl := (sSet 5 (fD (fS (fCall (fn__law_off C) (kCons (vLook 0) (kCons (fK (fS (f2 dAdd (fK (fS (fN dMin (kCons (fK (rt (.int 19))) (kCons (fK (fS (fN dLen (kCons (vLook 8) kNil)))) kNil))))) (fK (rt (.int 1)))))) kNil))))))
def F__law_wrong_17 (C : Cl) : M Fl := (sPar 10 11 (aCons (fS (fCall (fn__law_ends C) (kCons (vLook 1) (kCons (fK (rt (.str "in"))) kNil)))) (aCons (fS (fCall (fn__law_ends C) (kCons (vLook 1) (kCons (fK (rt (.str "out"))) kNil)))) aNil)))
def F__law_wrong_20 (C : Cl) : M Fl := (sSet 12 (fD (fS (fLst (aCons (fTup (aCons (fS (f2 dSub (fK (fS (f1 dNeg (fK (rt (.int 1)))))) (vLook 4))) (aCons (fS (f2 dIx (vLook 11) (fK (rt (.int 0))))) (aCons (rt (.int 0)) aNil)))) (aCons (fTup (aCons (fS (f2 dAdd (vLook 3) (vLook 4))) (aCons (fS (f2 dIx (vLook 11) (fK (rt (.int 0))))) (aCons (rt (.int 0)) aNil)))) (aCons (fTup (aCons (fS (f2 dIx (vLook 10) (fK (rt (.int 0))))) (aCons (fS (f2 dAdd (vLook 3) (vLook 4))) (aCons (rt (.int 0)) aNil)))) (aCons (fTup (aCons (fS (f2 dIx (vLook 10) (fK (rt (.int 0))))) (aCons (fS (f2 dSub (fK (fS (f1 dNeg (fK (rt (.int 1)))))) (vLook 4))) (aCons (rt (.int 0)) aNil)))) aNil))))))))
def F__law_wrong_21 (C : Cl) : M Fl := (sSet 12 (fD (fS (f2 dAdd (vLook 12) (fK (fS (fLst (aCons (fTup (aCons (fS (f2 dIx (vLook 11) (fK (rt (.int 0))))) (aCons (fS (f2 dIx (vLook 11) (fK (rt (.int 0))))) (aCons (rt (.int 1)) aNil)))) (aCons (fTup (aCons (fS (f2 dIx (vLook 10) (fK (rt (.int 0))))) (aCons (fS (f2 dIx (vLook 10) (fK (rt (.int 0))))) (aCons (rt (.int 1)) aNil)))) aNil)))))))))
def F__law_wrong_22 (C : Cl) : M Fl := (sSet 12 (fD (fS (f2 dAdd (vLook 12) (fK (fS (fLst (aCons (fTup (aCons (fS (f2 dIx (vLook 10) (fK (rt (.int 0))))) (aCons (fS (f2 dIx (vLook 11) (fK (rt (.int 0))))) (aCons (fS (f2 dSub (fK (fS (f1 dNeg (fK (rt (.int 1)))))) (vLook 4))) aNil)))) (aCons (fTup (aCons (fS (f2 dIx (vLook 10) (fK (rt (.int 0))))) (aCons (fS (f2 dIx (vLook 11) (fK (rt (.int 0))))) (aCons (fS (f2 dAdd (fK (rt (.int 100))) (vLook 4))) aNil)))) aNil)))))))))
def F__law_wrong_23 (C : Cl) : M Fl := (sSet 13 (fD (fS (f2 dIx (vLook 12) (fK (fS (fCall (fn__law_off C) (kCons (vLook 0) (kCons (fK (rt (.int 8))) kNil)))))))))
def F__law_wrong_24 (C : Cl) : M Fl := (sRet (fD (fTup (aCons (vGet 7) (aCons (fS (f2 dAdd (fK (fS (f2 dAdd (fK (fS (f2 dAdd (fK (fS (fSl (vLook 8) oNone (oSome (vGet 5))))) (fK (fS (fLst (aCons (vGet 13) aNil))))))) (fK (fS (f2 dMul (fK (fS (fLst (aCons (fTup (aCons (rt (.int 0)) (aCons (rt (.int 99)) (aCons (rt (.int 0)) aNil)))) aNil)))) (fK (fS (fN dIntA (kCons (fK (fBl (c2 dLt (fK (fS (fN dLen (kCons (vLook 8) kNil)))) (fK (rt (.int 19)))))) kNil)))))))))) (fK (fS (fSl (vLook 8) (oSome (vGet 5)) oNone))))) (aCons (vGet 5) (aCons (rt (.str "cable")) aNil)))))))
def F__law_wrong_19 (C : Cl) : M Fl := (sSeq (F__law_wrong_20 C) (sSeq (F__law_wrong_21 C) (sSeq (F__law_wrong_22 C) (sSeq (F__law_wrong_23 C) (sSeq (F__law_wrong_24 C) sNil)))))
def F__law_wrong_18 (C : Cl) : M Fl := (sIf (bAnd (c2 dLt (vLook 2) (fK (rt (.int 5)))) (c2 dLt (fK (fS (fN dLen (kCons (vLook 8) kNil)))) (fK (rt (.int 20))))) (F__law_wrong_19 C) sNil)
def F__law_wrong_27 (C : Cl) : M Fl := (sRet (fCall (fn__law_lonely C) (kCons (vLook 0) (kCons (vLook 1) kNil))))
def F__law_wrong_26 (C : Cl) : M Fl := (sSeq (F__law_wrong_27 C) sNil)
def F__law_wrong_25 (C : Cl) : M Fl := (sIf (bAnd (c2 dLt (vLook 2) (fK (rt (.int 7)))) (c2 dLt (vLook 3) (fK (rt (.int 10))))) (F__law_wrong_26 C) sNil)
def F__law_wrong_28 (C : Cl) : M Fl := (sSet 6 (fD (fS (fCall (fn__law_ring C) (kCons (vLook 0) (kCons (vLook 1) kNil))))))
def F__law_wrong_31 (C : Cl) : M Fl := (sRet (fD (fTup (aCons (vGet 7) (aCons (fS (fSl (fK (fS (f2 dAdd (vLook 8) (fK (fS (f2 dMul (vLook 6) (fK (rt (.int 20))))))))) oNone (oSome (rt (.int 21))))) (aCons (rt (.int 0)) (aCons (rt (.str "cables")) aNil)))))))
def F__law_wrong_30 (C : Cl) : M Fl := (sSeq (F__law_wrong_31 C) sNil)
def F__law_wrong_29 (C : Cl) : M Fl := (sIf (c2 dGt (fK (fS (f2 dAdd (fK (fS (fN dLen (kCons (vLook 8) kNil)))) (fK (fS (fN dLen (kCons (vLook 6) kNil))))))) (fK (rt (.int 20)))) (F__law_wrong_30 C) sNil)
def F__law_wrong_32 (C : Cl) : M Fl := (sRet (fD (fTup (aCons (vGet 7) (aCons (fS (f2 dAdd (vLook 8) (vLook 6))) (aCons (rt (.int 0)) (aCons (rt (.str "ring")) aNil)))))))
def F__law_wrong_0 (C : Cl) : M Fl := (sSeq (F__law_wrong_1 C) (sSeq (F__law_wrong_2 C) (sSeq (F__law_wrong_3 C) (sSeq (F__law_wrong_4 C) (sSeq (F__law_wrong_5 C) (sSeq (F__law_wrong_8 C) (sSeq (F__law_wrong_13 C) (sSeq (F__law_wrong_16 C) (sSeq (F__law_wrong_17 C) (sSeq (F__law_wrong_18 C) (sSeq (F__law_wrong_25 C) (sSeq (F__law_wrong_28 C) (sSeq (F__law_wrong_29 C) (sSeq (F__law_wrong_32 C) sNil))))))))))))))
def F__law_wrong (C : Cl) : M Fl := (F__law_wrong_0 C)
def fn__law_wrong (C : Cl) : Fn := mkFn 2 14 [0] (F__law_wrong C)
def F__law_refused_3 (C : Cl) : M Fl := (sExpr (fS (fMake C.Desk (fn_Desk___init__ C) (kCons (fK (fS (f2 dIx (vLook 0) (fK (rt (.int 0)))))) (kCons (fK (fS (f2 dIx (vLook 0) (fK (rt (.int 1)))))) kNil)))))
def F__law_refused_2 (C : Cl) : M Fl := (sSeq (F__law_refused_3 C) sNil)
def F__law_refused_5 (C : Cl) (x : Xn) : M Fl := (sRet (fD (vAnd (fAskE (fun x => mkRun 2 5 [] (F__law_is C x)) x (rt (.str "desk"))) (fS (fCall (fn__law_alike C) (kCons (fK (fTup (aCons (fXf x "at") (aCons (fXf x "why") aNil)))) (kCons (fK (fTup (aCons (fS (f2 dIx (vLook 0) (fK (rt (.int 2))))) (aCons (fS (f2 dIx (vLook 0) (fK (rt (.int 3))))) aNil)))) kNil)))))))
def F__law_refused_4 (C : Cl) (x : Xn) : M Fl := (sSeq (F__law_refused_5 C x) sNil)
def F__law_refused_1 (C : Cl) : M Fl := (sTry (exs C) 1 (F__law_refused_2 C) (fun x => (F__law_refused_4 C x)))
def F__law_refused_6 (C : Cl) : M Fl := (sRet (fD (rt (.bl false))))
def F__law_refused_0 (C : Cl) : M Fl := (sSeq (F__law_refused_1 C) (sSeq (F__law_refused_6 C) sNil))
def F__law_refused (C : Cl) : M Fl := (F__law_refused_0 C)
def fn__law_refused (C : Cl) : Fn := mkFn 1 2 [] (F__law_refused C)
def F_law_1 (C : Cl) : M Fl := (sSet 1 (fCall (fn__law_dice C) (kCons (vLook 0) (kCons (fK (rt (.int 0))) kNil))))
def F_law_2 (C : Cl) : M Fl := (sSet 2 (fD (fS (fCall (fn__law_desk C) (kCons (vLook 1) (kCons (fK (rt (.int 5))) kNil))))))
def F_law_3 (C : Cl) : M Fl := (sSet 3 (fLstL (lCons (fN dList (kCons (fK (fS (f2 dIx (vLook 2) (fK (rt (.int 0)))))) kNil)) (lCons (fN dList (kCons (fK (fS (f2 dIx (vLook 2) (fK (rt (.int 1)))))) kNil)) lNil))))
def F_law_4 (C : Cl) : M Fl := (sSet 4 (fD (fS (fMakeN 3 C.Desk (fn_Desk___init__ C)))))
def F_law_7 (C : Cl) : M Fl := (sRet (fD (rt (.bl false))))
def F_law_6 (C : Cl) : M Fl := (sSeq (F_law_7 C) sNil)
def F_law_5 (C : Cl) : M Fl := (sIf (cNeS 3 (fS (fLst (aCons (fS (f2 dIx (vLook 2) (fK (rt (.int 0))))) (aCons (fS (f2 dIx (vLook 2) (fK (rt (.int 1))))) aNil))))) (F_law_6 C) sNil)
def F_law_12 (C : Cl) : M Fl := (sRet (fD (rt (.bl false))))
def F_law_11 (C : Cl) : M Fl := (sSeq (F_law_12 C) sNil)
def F_law_10 (C : Cl) : M Fl := (sIf (bNot (fTest (fS (fCall (fn__law_alike C) (kCons (fK (fS (fLst (aCons (fS (fMeth C.Desk "boxes" (fn_Desk_boxes C) (vLook 4) kNil)) (aCons (fS (fMeth C.Desk "cables" (fn_Desk_cables C) (vLook 4) kNil)) aNil))))) (kCons (fK (fS (fLst (aCons (fS (f2 dIx (vLook 2) (fK (rt (.int 0))))) (aCons (fS (f2 dIx (vLook 2) (fK (rt (.int 1))))) aNil))))) kNil)))))) (F_law_11 C) sNil)
def F_law_13 (C : Cl) : M Fl := (sClearN 3 7 (lCons (fMeth C.Desk "boxes" (fn_Desk_boxes C) (vLook 4) kNil) (lCons (fMeth C.Desk "cables" (fn_Desk_cables C) (vLook 4) kNil) lNil)))
def F_law_9 (C : Cl) : M Fl := (sSeq (F_law_10 C) (sSeq (F_law_13 C) sNil))
def F_law_8 (C : Cl) : M Fl := (sFor (iRng1F (rt (.int 2))) (.nm 5) (F_law_9 C))
def F_law_14 (C : Cl) : M Fl := (sSet 6 (fComp [8] (iRng1F (rt (.int 9))) (.nm 8) bYes (fTup (aCons (vGet 8) (aCons (fS (f2 dAdd (vLook 8) (fK (rt (.int 1))))) (aCons (rt (.int 99)) aNil))))))
def F_law_15 (C : Cl) : M Fl := (sExpr (fS (fMake C.Desk (fn_Desk___init__ C) (kCons (fK (fS (f2 dAdd (fK (fS (f2 dAdd (fK (fS (fLst (aCons (fTup (aCons (rt (.str "in")) (aCons (rt (.str "a")) aNil))) aNil)))) (fK (fS (f2 dMul (fK (fS (fLst (aCons (fTup (aCons (rt (.str "sum")) (aCons (rt (.int 9)) aNil))) aNil)))) (fK (rt (.int 8))))))))) (fK (fS (fLst (aCons (fTup (aCons (rt (.str "out")) (aCons (rt (.str "abcdefgh")) aNil))) aNil))))))) (kCons (fK (fS (f2 dAdd (vLook 6) (fK (fS (f2 dMul (fK (fS (fLst (aCons (fTup (aCons (rt (.int 0)) (aCons (rt (.int 1)) (aCons (rt (.int 0)) aNil)))) aNil)))) (fK (rt (.int 11))))))))) kNil)))))
def F_law_16 (C : Cl) : M Fl := (sRet (fCall (fn__law_refused C) (kCons (fK (fS (fCall (fn__law_wrong C) (kCons (vLook 1) (kCons (vLook 2) kNil))))) kNil)))
def F_law_0 (C : Cl) : M Fl := (sSeq (F_law_1 C) (sSeq (F_law_2 C) (sSeq (F_law_3 C) (sSeq (F_law_4 C) (sSeq (F_law_5 C) (sSeq (F_law_8 C) (sSeq (F_law_14 C) (sSeq (F_law_15 C) (sSeq (F_law_16 C) sNil)))))))))
def F_law (C : Cl) : M Fl := (F_law_0 C)
def fn_law (C : Cl) : Fn := mkFn 1 9 [] (F_law C)
end Hd
namespace Hd
open PySem PySem.Spec PyProof.Rows L2 Ev
structure Tx (P : Program) (w : World) (K : PySem.W.Frag) (mg : Str → Option Value) (base : Heap) (C : Cl) : Prop where
  n_ValueError : mg "ValueError" = none
  n_abs : mg "abs" = none
  n_all : mg "all" = none
  n_bool : mg "bool" = none
  n_dict : mg "dict" = none
  n_int : mg "int" = none
  n_isinstance : mg "isinstance" = none
  n_len : mg "len" = none
  n_list : mg "list" = none
  n_min : mg "min" = none
  n_range : mg "range" = none
  n_str : mg "str" = none
  n_tuple : mg "tuple" = none
  g_SMALL : GStr mg "SMALL" "abcdefghijklmnopqrstuvwxyz"
  t_SIZES : Tab K w mg "SIZES" t_SIZES
  g_MOST_BOXES : GInt mg "MOST_BOXES" 10
  g_MOST_CABLES : GInt mg "MOST_CABLES" 20
  g_MOST_LATE : GInt mg "MOST_LATE" 9
  g_MOST_BY : GInt mg "MOST_BY" 9
  g_MOST_HOLD : GInt mg "MOST_HOLD" 99
  cls_Desk : Cls K C.Desk
  na_Desk_kept : NoAttr K C.Desk "kept"
  na_Desk_order : NoAttr K C.Desk "order"
  na_Desk_wires : NoAttr K C.Desk "wires"
  g_LateError : mg "LateError" = some (.ref C.LateError)
  g_BadDesk : mg "BadDesk" = some (.ref C.BadDesk)
  fx_BadDesk : FunX K mg "BadDesk" C.BadDesk "BadDesk.__init__" ["self", "at", "why"] s_X_BadDesk
  exm_BadDesk : ∀ D ∈ [C.BadDesk], PySem.W.exmOne K (.ref D) (.ref C.BadDesk) = some true
  g_TooLate : mg "TooLate" = some (.ref C.TooLate)
  fx_TooLate : FunX K mg "TooLate" C.TooLate "TooLate.__init__" ["self", "ring"] s_X_TooLate
  exm_TooLate : ∀ D ∈ [C.TooLate], PySem.W.exmOne K (.ref D) (.ref C.TooLate) = some true
  g_BadDelays : mg "BadDelays" = some (.ref C.BadDelays)
  x0_BadDelays : X0At K mg "BadDelays" C.BadDelays
  exm_BadDelays : ∀ D ∈ [C.BadDelays], PySem.W.exmOne K (.ref D) (.ref C.BadDelays) = some true
  g_BadStreams : mg "BadStreams" = some (.ref C.BadStreams)
  x0_BadStreams : X0At K mg "BadStreams" C.BadStreams
  exm_BadStreams : ∀ D ∈ [C.BadStreams], PySem.W.exmOne K (.ref D) (.ref C.BadStreams) = some true
  g_BadChange : mg "BadChange" = some (.ref C.BadChange)
  x0_BadChange : X0At K mg "BadChange" C.BadChange
  exm_BadChange : ∀ D ∈ [C.BadChange], PySem.W.exmOne K (.ref D) (.ref C.BadChange) = some true
  g_BadText : mg "BadText" = some (.ref C.BadText)
  fx_BadText : FunX K mg "BadText" C.BadText "BadText.__init__" ["self", "row"] s_X_BadText
  exm_BadText : ∀ D ∈ [C.BadText], PySem.W.exmOne K (.ref D) (.ref C.BadText) = some true
  exm_LateError : ∀ D ∈ exs C, PySem.W.exmOne K (.ref D) (.ref C.LateError) = some true
  bas : BasAt K mg "LateError" C.LateError
  excc : ∀ D ∈ exs C, ExcC K D
  xfc : ∀ D ∈ exs C, XfC K D
  kit : ∀ D ∈ exs C, ∀ D2 ∈ exs C, PySem.W.kitOne K (.ref D) (.ref D2) = some (decide (D = D2))
  kiv : ∀ D ∈ exs C, PySem.W.kitOne K (.ref D) (.type "ValueError") = some true
  xna_at : ∀ D ∈ exs C, PySem.W.findIn K (.ref D) "at" = some none
  xna_ring : ∀ D ∈ exs C, PySem.W.findIn K (.ref D) "ring" = some none
  xna_row : ∀ D ∈ exs C, PySem.W.findIn K (.ref D) "row" = some none
  xna_why : ∀ D ∈ exs C, PySem.W.findIn K (.ref D) "why" = some none
  f_must : FunG K mg "must" ["good", "at", "why"] s_must
  f_is_name : FunG K mg "is_name" ["word"] s_is_name
  i_Desk___init__ : FunI K mg "Desk" C.Desk "Desk.__init__" ["self", "boxes", "cables"] s_Desk___init__
  m_Desk_is_box : FunM K C.Desk "is_box" "Desk.is_box" ["self", "at"] s_Desk_is_box
  m_Desk_names : FunM K C.Desk "names" "Desk.names" ["self", "until"] s_Desk_names
  m_Desk_is_cable : FunM K C.Desk "is_cable" "Desk.is_cable" ["self", "cable"] s_Desk_is_cable
  m_Desk_led_from : FunM K C.Desk "led_from" "Desk.led_from" ["self", "some", "side"] s_Desk_led_from
  m_Desk_is_twice : FunM K C.Desk "is_twice" "Desk.is_twice" ["self", "at"] s_Desk_is_twice
  m_Desk_in_order : FunM K C.Desk "in_order" "Desk.in_order" ["self"] s_Desk_in_order
  m_Desk_boxes : FunM K C.Desk "boxes" "Desk.boxes" ["self"] s_Desk_boxes
  m_Desk_cables : FunM K C.Desk "cables" "Desk.cables" ["self"] s_Desk_cables
  m_Desk_ends : FunM K C.Desk "ends" "Desk.ends" ["self", "word"] s_Desk_ends
  f__law_dice : FunG K mg "_law_dice" ["_law_script", "_law_k"] s__law_dice
  f__law_off : FunG K mg "_law_off" ["_law_d", "_law_most"] s__law_off
  f__law_alike : FunG K mg "_law_alike" ["_law_found", "_law_due"] s__law_alike
  f__law_mixed : FunG K mg "_law_mixed" ["_law_d", "_law_row"] s__law_mixed
  f__law_box : FunG K mg "_law_box" ["_law_d"] s__law_box
  f__law_hold : FunG K mg "_law_hold" ["_law_d"] s__law_hold
  f__law_names : FunG K mg "_law_names" ["_law_d"] s__law_names
  f__law_rows : FunG K mg "_law_rows" ["_law_d", "_law_many"] s__law_rows
  f__law_more : FunG K mg "_law_more" ["_law_boxes", "_law_cables", "_law_number"] s__law_more
  f__law_desk : FunG K mg "_law_desk" ["_law_d", "_law_many"] s__law_desk
  f__law_ends : FunG K mg "_law_ends" ["_law_t", "_law_word"] s__law_ends
  f__law_is : FunG K mg "_law_is" ["_law_e", "_law_word"] s__law_is
  f__law_bad_box : FunG K mg "_law_bad_box" ["_law_d", "_law_t"] s__law_bad_box
  f__law_mid : FunG K mg "_law_mid" ["_law_t"] s__law_mid
  f__law_apart : FunG K mg "_law_apart" ["_law_d", "_law_t"] s__law_apart
  f__law_ring : FunG K mg "_law_ring" ["_law_d", "_law_t"] s__law_ring
  f__law_lonely : FunG K mg "_law_lonely" ["_law_d", "_law_t"] s__law_lonely
  f__law_wrong : FunG K mg "_law_wrong" ["_law_d", "_law_t"] s__law_wrong
  f__law_refused : FunG K mg "_law_refused" ["_law_bad"] s__law_refused
theorem sc_X_BadDesk : FnScope ["self", "at", "why"] ["self", "at", "why"] (defScope s_X_BadDesk) := ⟨rfl, rfl, rfl, by decide +kernel, rfl, by decide +kernel, by decide +kernel⟩
theorem at_X_BadDesk {P : Program} {w : World} {K : PySem.W.Frag} {mg : Str → Option Value} {base : Heap} {C : Cl} (T : Tx P w K mg base C) : XkAt P w K mg base 1 "BadDesk" C.BadDesk 2 ["why", "at"] [1, 0] := by
  refine xk2_at (k := 0) T.fx_BadDesk sc_X_BadDesk (T.xna_at _ (by simp [exs])) (T.xna_why _ (by simp [exs])) ?_
  intro f cdv A outer s H E hr
  exact pss_cons (ps_expr (pe_binit rfl T.bas.g T.bas.ga T.bas.rd T.bas.fi (pa_cons (pv 0) (pa_cons (pv 2) pa_nil)) (by decide) rfl rfl rfl)) (pss_cons (ps_ost (pv 0) (pv 1)) (pss_one (ps_ost (pv 0) (pv 2))))
theorem sc_X_TooLate : FnScope ["self", "ring"] ["self", "ring"] (defScope s_X_TooLate) := ⟨rfl, rfl, rfl, by decide +kernel, rfl, by decide +kernel, by decide +kernel⟩
theorem at_X_TooLate {P : Program} {w : World} {K : PySem.W.Frag} {mg : Str → Option Value} {base : Heap} {C : Cl} (T : Tx P w K mg base C) : XkAt P w K mg base 1 "TooLate" C.TooLate 1 ["ring"] [0] := by
  refine xk1_at (k := 0) (m := "a ring is too late") T.fx_TooLate sc_X_TooLate (T.xna_ring _ (by simp [exs])) ?_
  intro f cdv A outer s H E hr
  exact pss_cons (ps_expr (pe_binit rfl T.bas.g T.bas.ga T.bas.rd T.bas.fi (pa_cons (pv 0) (pa_cons pe_str pa_nil)) (by decide) rfl rfl rfl)) (pss_one (ps_ost (pv 0) (pv 1)))
theorem sc_X_BadText : FnScope ["self", "row"] ["self", "row"] (defScope s_X_BadText) := ⟨rfl, rfl, rfl, by decide +kernel, rfl, by decide +kernel, by decide +kernel⟩
theorem at_X_BadText {P : Program} {w : World} {K : PySem.W.Frag} {mg : Str → Option Value} {base : Heap} {C : Cl} (T : Tx P w K mg base C) : XkAt P w K mg base 1 "BadText" C.BadText 1 ["row"] [0] := by
  refine xk1_at (k := 0) (m := "a bad row") T.fx_BadText sc_X_BadText (T.xna_row _ (by simp [exs])) ?_
  intro f cdv A outer s H E hr
  exact pss_cons (ps_expr (pe_binit rfl T.bas.g T.bas.ga T.bas.rd T.bas.fi (pa_cons (pv 0) (pa_cons pe_str pa_nil)) (by decide) rfl rfl rfl)) (pss_one (ps_ost (pv 0) (pv 1)))
theorem sc_must : FnScope ["good", "at", "why"] ["good", "at", "why"] (defScope s_must) := ⟨rfl, rfl, rfl, by decide +kernel, rfl, by decide +kernel, by decide +kernel⟩
theorem b_must {P : Program} {w : World} {K : PySem.W.Frag} {mg : Str → Option Value} {base : Heap} {C : Cl} (T : Tx P w K mg base C) : BodyOk P w K mg base ["good", "at", "why"] "must" s_must 2 [] (F_must C) := by
  intro f cdv A outer s H E hr
  have tk := L2N.takes_of (X := cxOf (L2N.CX P w) P w K mg base ["good", "at", "why"] "must" (defScope s_must) f cdv A outer s H E) (E := E) rfl rfl rfl rfl
  exact (dss_cons (ds_if (dt_not (gt_val (de_var (pv 0)))) (dss_cons (ds_raise (at_X_BadDesk T) (hr.mono (by decide)) tk (ga_cons (de_var (pv 1)) (ga_cons (de_var (pv 2)) das_nil)))
    dss_nil) dss_nil)
    dss_nil)
theorem at_must {P : Program} {w : World} {K : PySem.W.Frag} {mg : Str → Option Value} {base : Heap} {C : Cl} (T : Tx P w K mg base C) : FnAt P w K mg base 3 "must" (fn_must C) := fn_at T.f_must sc_must (by decide) (b_must T)
theorem sc_is_name : FnScope ["word", "sign"] ["word"] (defScope s_is_name) := ⟨rfl, rfl, rfl, by decide +kernel, rfl, by decide +kernel, by decide +kernel⟩
theorem b_is_name {P : Program} {w : World} {K : PySem.W.Frag} {mg : Str → Option Value} {base : Heap} {C : Cl} (T : Tx P w K mg base C) : BodyOk P w K mg base ["word", "sign"] "is_name" s_is_name 0 [] (F_is_name C) := by
  intro f cdv A outer s H E hr
  have tk := L2N.takes_of (X := cxOf (L2N.CX P w) P w K mg base ["word", "sign"] "is_name" (defScope s_is_name) f cdv A outer s H E) (E := E) rfl rfl rfl rfl
  exact (dss_cons (ds_ret (de_L (de_and (ge_chain op_le op_le (ok_cmp _) (ok_cmp _) (de_K de_int) (de_K (de_S (g_callB cr_lenA ok_len rfl T.n_len (gk_cons (dk_var (pv 0)) dks_nil)))) (de_K de_int)) (pe_one (ge_cmp (op_eqA hr.units) ok_eq (de_K (de_S (dl_comp (own := [("sign", 1)]) (by decide) (by decide) rfl sc_is_name.nd (di_seq (de_var (pv 0))) (blkOk_by rfl) (fun _ _ _ _ _ => (g_name (by decide) sc_is_name.nd)) (fun _ _ _ _ _ => (pts_one (gt_cmp op_notInA ok_notIn (dk_var (pv 1)) (de_K (de_gstr T.g_SMALL))))) (fun _ _ _ _ _ => (de_var (pv 1))) (fun _ => rfl)))) (de_K (de_S (dl_lst das_nil))))))))
    dss_nil)
theorem at_is_name {P : Program} {w : World} {K : PySem.W.Frag} {mg : Str → Option Value} {base : Heap} {C : Cl} (T : Tx P w K mg base C) : FnAt P w K mg base 1 "is_name" (fn_is_name C) := fn_at T.f_is_name sc_is_name (by decide) (b_is_name T)
theorem sc_Desk_ends : FnScope ["self", "word", "at"] ["self", "word"] (defScope s_Desk_ends) := ⟨rfl, rfl, rfl, by decide +kernel, rfl, by decide +kernel, by decide +kernel⟩
theorem b_Desk_ends {P : Program} {w : World} {K : PySem.W.Frag} {mg : Str → Option Value} {base : Heap} {C : Cl} (T : Tx P w K mg base C) : BodyOk P w K mg base ["self", "word", "at"] "Desk.ends" s_Desk_ends 0 [0] (F_Desk_ends C) := by
  intro f cdv A outer s H E hr
  have tk := L2N.takes_of (X := cxOf (L2N.CX P w) P w K mg base ["self", "word", "at"] "Desk.ends" (defScope s_Desk_ends) f cdv A outer s H E) (E := E) rfl rfl rfl rfl
  exact (dss_cons (ds_ret (dl_comp (own := [("at", 2)]) (by decide) (by decide) rfl sc_Desk_ends.nd (gi_rng1 T.n_range (de_S (g_callB cr_lenA ok_len rfl T.n_len (gk_cons (de_K (g_fld T.cls_Desk T.na_Desk_kept (dk_var (pv 0)))) dks_nil)))) (blkOk_by rfl) (fun _ _ _ _ _ => (g_name (by decide) sc_Desk_ends.nd)) (fun _ _ _ _ _ => (pts_one (gt_cmp (op_eqA hr.units) ok_eq (de_K (de_S (g_ix ix_seq ok_ix (de_K (de_S (g_ix ix_seq ok_ix (de_K (g_fld T.cls_Desk T.na_Desk_kept (dk_var (pv 0)))) (dk_var (pv 2))))) (de_K de_int)))) (dk_var (pv 1))))) (fun _ _ _ _ _ => (de_var (pv 2))) (fun _ => rfl)))
    dss_nil)
theorem at_Desk_ends {P : Program} {w : World} {K : PySem.W.Frag} {mg : Str → Option Value} {base : Heap} {C : Cl} (T : Tx P w K mg base C) : MtAt P w K mg base 1 C.Desk "ends" (fn_Desk_ends C) := mt_at T.cls_Desk T.m_Desk_ends sc_Desk_ends (by decide) (b_Desk_ends T)
theorem sc_Desk_in_order : FnScope ["self", "found", "many", "at", "ahead", "cable", "one"] ["self"] (defScope s_Desk_in_order) := ⟨rfl, rfl, rfl, by decide +kernel, rfl, by decide +kernel, by decide +kernel⟩
theorem b_Desk_in_order {P : Program} {w : World} {K : PySem.W.Frag} {mg : Str → Option Value} {base : Heap} {C : Cl} (T : Tx P w K mg base C) : BodyOk P w K mg base ["self", "found", "many", "at", "ahead", "cable", "one"] "Desk.in_order" s_Desk_in_order 0 [0] (F_Desk_in_order C) := by
  intro f cdv A outer s H E hr
  have tk := L2N.takes_of (X := cxOf (L2N.CX P w) P w K mg base ["self", "found", "many", "at", "ahead", "cable", "one"] "Desk.in_order" (defScope s_Desk_in_order) f cdv A outer s H E) (E := E) rfl rfl rfl rfl
  exact (dss_cons (g_set (by decide) sc_Desk_in_order.nd (dl_lst das_nil))
    (dss_cons (g_set (by decide) sc_Desk_in_order.nd (de_L (de_S (dl_un un_neg ok_neg (de_K de_int)))))
    (dss_cons (ds_while 1000 (passes_of rfl) (gt_cmp op_lt (ok_cmp _) (dk_var (pv 2)) (de_K (de_S (g_callB cr_lenA ok_len rfl T.n_len (gk_cons (dk_var (pv 1)) dks_nil))))) (dss_cons (g_set (by decide) sc_Desk_in_order.nd (de_L (de_S (g_callB cr_lenA ok_len rfl T.n_len (gk_cons (dk_var (pv 1)) dks_nil)))))
    (dss_cons (g_for (passes_of rfl) (gi_rng1 T.n_range (de_S (g_callB cr_lenA ok_len rfl T.n_len (gk_cons (de_K (g_fld T.cls_Desk T.na_Desk_kept (dk_var (pv 0)))) dks_nil)))) (g_name (by decide) sc_Desk_in_order.nd) (dss_cons (ds_setLc (own := [("cable", 5)]) (by decide) rfl rfl (sw_true rfl rfl rfl rfl) (by decide) (by decide) rfl sc_Desk_in_order.nd (di_seq (g_fld T.cls_Desk T.na_Desk_wires (dk_var (pv 0)))) (blkOk_by rfl) (fun _ _ _ _ _ => (g_name (by decide) sc_Desk_in_order.nd)) (fun _ _ _ _ _ => (pts_one (PW.pt (dw_and (gt_cmp (op_eqA hr.units) ok_eq (de_K (de_S (g_ix ix_seq ok_ix (dk_var (pv 5)) (de_K de_int)))) (dk_var (pv 3))) (pw_and1 (gt_cmp (op_eqA hr.units) ok_eq (de_K (de_S (g_ix ix_seq ok_ix (dk_var (pv 5)) (de_K de_int)))) (de_K de_int))))))) (fun _ _ _ _ _ => (de_S (g_ix ix_seq ok_ix (dk_var (pv 5)) (de_K de_int)))) (fun _ => rfl))
    (dss_cons (ds_if (PW.pt (dw_and (gt_cmp op_notInA ok_notIn (dk_var (pv 3)) (dk_var (pv 1))) (pw_and1 (gt_cmp (op_eqA hr.units) ok_eq (de_K (de_S (dl_comp (own := [("one", 6)]) (by decide) (by decide) rfl sc_Desk_in_order.nd (di_seq (de_var (pv 4))) (blkOk_by rfl) (fun _ _ _ _ _ => (g_name (by decide) sc_Desk_in_order.nd)) (fun _ _ _ _ _ => (pts_one (gt_cmp op_notInA ok_notIn (dk_var (pv 6)) (dk_var (pv 1))))) (fun _ _ _ _ _ => (de_var (pv 6))) (fun _ => rfl)))) (de_K (de_S (dl_lst das_nil))))))) (dss_cons (g_expr (g_append (de_var (pv 3)) (pv 1)))
    dss_nil) dss_nil)
    dss_nil)))
    dss_nil)))
    (dss_cons (ds_ret (dl_move (pv 1)))
    dss_nil))))
theorem at_Desk_in_order {P : Program} {w : World} {K : PySem.W.Frag} {mg : Str → Option Value} {base : Heap} {C : Cl} (T : Tx P w K mg base C) : MtAt P w K mg base 1 C.Desk "in_order" (fn_Desk_in_order C) := mt_at T.cls_Desk T.m_Desk_in_order sc_Desk_in_order (by decide) (b_Desk_in_order T)
theorem sc_Desk_names : FnScope ["self", "until", "box"] ["self", "until"] (defScope s_Desk_names) := ⟨rfl, rfl, rfl, by decide +kernel, rfl, by decide +kernel, by decide +kernel⟩
theorem b_Desk_names {P : Program} {w : World} {K : PySem.W.Frag} {mg : Str → Option Value} {base : Heap} {C : Cl} (T : Tx P w K mg base C) : BodyOk P w K mg base ["self", "until", "box"] "Desk.names" s_Desk_names 0 [0] (F_Desk_names C) := by
  intro f cdv A outer s H E hr
  have tk := L2N.takes_of (X := cxOf (L2N.CX P w) P w K mg base ["self", "until", "box"] "Desk.names" (defScope s_Desk_names) f cdv A outer s H E) (E := E) rfl rfl rfl rfl
  exact (dss_cons (ds_ret (dl_comp (own := [("box", 2)]) (by decide) (by decide) rfl sc_Desk_names.nd (di_seq (de_S (dl_slice (de_K (g_fld T.cls_Desk T.na_Desk_kept (dk_var (pv 0)))) do_none (do_some (de_var (pv 1)))))) (blkOk_by rfl) (fun _ _ _ _ _ => (g_name (by decide) sc_Desk_names.nd)) (fun _ _ _ _ _ => (pts_one (gt_cmp op_inA ok_in (de_K (de_S (g_ix ix_seq ok_ix (dk_var (pv 2)) (de_K de_int)))) (de_K (de_tup (ga_cons de_str (ga_cons de_str das_nil))))))) (fun _ _ _ _ _ => (de_S (g_ix ix_seq ok_ix (dk_var (pv 2)) (de_K de_int)))) (fun _ => rfl)))
    dss_nil)
theorem at_Desk_names {P : Program} {w : World} {K : PySem.W.Frag} {mg : Str → Option Value} {base : Heap} {C : Cl} (T : Tx P w K mg base C) : MtAt P w K mg base 1 C.Desk "names" (fn_Desk_names C) := mt_at T.cls_Desk T.m_Desk_names sc_Desk_names (by decide) (b_Desk_names T)
theorem sc_Desk_is_box : FnScope ["self", "at", "box"] ["self", "at"] (defScope s_Desk_is_box) := ⟨rfl, rfl, rfl, by decide +kernel, rfl, by decide +kernel, by decide +kernel⟩
theorem b_Desk_is_box {P : Program} {w : World} {K : PySem.W.Frag} {mg : Str → Option Value} {base : Heap} {C : Cl} (T : Tx P w K mg base C) : BodyOk P w K mg base ["self", "at", "box"] "Desk.is_box" s_Desk_is_box 1 [0] (F_Desk_is_box C) := by
  intro f cdv A outer s H E hr
  have tk := L2N.takes_of (X := cxOf (L2N.CX P w) P w K mg base ["self", "at", "box"] "Desk.is_box" (defScope s_Desk_is_box) f cdv A outer s H E) (E := E) rfl rfl rfl rfl
  exact (dss_cons (g_set (by decide) sc_Desk_is_box.nd (de_L (de_S (g_ix ix_seq ok_ix (de_K (g_fld T.cls_Desk T.na_Desk_kept (dk_var (pv 0)))) (dk_var (pv 1))))))
    (dss_cons (ds_if (PW.pt (dw_or (gt_cmp (op_eqA hr.units) ok_eq (de_K (de_S (g_callB cr_lenA ok_len rfl T.n_len (gk_cons (dk_var (pv 2)) dks_nil)))) (de_K de_int)) (pw_or1 (gt_cmp (op_neA hr.units) ok_ne (de_K (g_tab T.t_SIZES (de_S (g_ix ix_seq ok_ix (dk_var (pv 2)) (de_K de_int))) de_int)) (de_K (de_S (g_callB cr_lenA ok_len rfl T.n_len (gk_cons (dk_var (pv 2)) dks_nil)))))))) (dss_cons (ds_ret (de_L de_bl))
    dss_nil) dss_nil)
    (dss_cons (ds_if (gt_cmp op_inA ok_in (de_K (de_S (g_ix ix_seq ok_ix (dk_var (pv 2)) (de_K de_int)))) (de_K (de_tup (ga_cons de_str (ga_cons de_str das_nil))))) (dss_cons (ds_ret (de_L (de_and (de_S (g_call ((at_is_name T).mono (by decide)) hr tk (gk_cons (de_K (de_S (g_ix ix_seq ok_ix (dk_var (pv 2)) (de_K de_int)))) dks_nil))) (pe_one (ge_cmp op_notInA ok_notIn (de_K (de_S (g_ix ix_seq ok_ix (dk_var (pv 2)) (de_K de_int)))) (de_K (de_S (g_meth ((at_Desk_names T).mono (by decide)) hr tk (dk_var (pv 0)) (gk_cons (dk_var (pv 1)) dks_nil)))))))))
    dss_nil) dss_nil)
    (dss_cons (ds_if (PW.pt (dw_and (gt_cmp (op_eqA hr.units) ok_eq (de_K (de_S (g_ix ix_seq ok_ix (dk_var (pv 2)) (de_K de_int)))) (de_K de_str)) (pw_and1 (dt_not (gt_chain op_le op_le (ok_cmp _) (ok_cmp _) (de_K (de_S (dl_op op_sub ok_sub (de_K de_int) (de_K (de_gint T.g_MOST_BY))))) (de_K (de_S (g_ix ix_seq ok_ix (dk_var (pv 2)) (de_K de_int)))) (de_K (de_gint T.g_MOST_BY))))))) (dss_cons (ds_ret (de_L de_bl))
    dss_nil) dss_nil)
    (dss_cons (ds_if (PW.pt (dw_and (gt_cmp (op_eqA hr.units) ok_eq (de_K (de_S (g_ix ix_seq ok_ix (dk_var (pv 2)) (de_K de_int)))) (de_K de_str)) (pw_and1 (dt_not (gt_chain op_le op_le (ok_cmp _) (ok_cmp _) (de_K de_int) (de_K (de_S (g_ix ix_seq ok_ix (dk_var (pv 2)) (de_K de_int)))) (de_K (de_gint T.g_MOST_BY))))))) (dss_cons (ds_ret (de_L de_bl))
    dss_nil) dss_nil)
    (dss_cons (ds_ret (de_L (ge_chain op_le op_le (ok_cmp _) (ok_cmp _) (de_K de_int) (de_K (de_S (g_ix ix_seq ok_ix (dk_var (pv 2)) (de_K (de_S (dl_un un_neg ok_neg (de_K de_int))))))) (de_K (de_gint T.g_MOST_LATE)))))
    dss_nil))))))
theorem at_Desk_is_box {P : Program} {w : World} {K : PySem.W.Frag} {mg : Str → Option Value} {base : Heap} {C : Cl} (T : Tx P w K mg base C) : MtAt P w K mg base 2 C.Desk "is_box" (fn_Desk_is_box C) := mt_at T.cls_Desk T.m_Desk_is_box sc_Desk_is_box (by decide) (b_Desk_is_box T)
theorem sc_Desk_is_cable : FnScope ["self", "cable", "one", "other", "hold"] ["self", "cable"] (defScope s_Desk_is_cable) := ⟨rfl, rfl, rfl, by decide +kernel, rfl, by decide +kernel, by decide +kernel⟩
theorem b_Desk_is_cable {P : Program} {w : World} {K : PySem.W.Frag} {mg : Str → Option Value} {base : Heap} {C : Cl} (T : Tx P w K mg base C) : BodyOk P w K mg base ["self", "cable", "one", "other", "hold"] "Desk.is_cable" s_Desk_is_cable 0 [0] (F_Desk_is_cable C) := by
  intro f cdv A outer s H E hr
  have tk := L2N.takes_of (X := cxOf (L2N.CX P w) P w K mg base ["self", "cable", "one", "other", "hold"] "Desk.is_cable" (defScope s_Desk_is_cable) f cdv A outer s H E) (E := E) rfl rfl rfl rfl
  exact (dss_cons (g_setT (gg_tup (gg_cons (g_name (by decide) sc_Desk_is_cable.nd) (gg_cons (g_name (by decide) sc_Desk_is_cable.nd) (gg_cons (g_name (by decide) sc_Desk_is_cable.nd) dgs_nil)))) (de_var (pv 1)))
    (dss_cons (ds_if (PW.pt (dw_or (dt_not (gt_chain op_le op_lt (ok_cmp _) (ok_cmp _) (de_K de_int) (dk_var (pv 2)) (de_K (de_S (g_callB cr_lenA ok_len rfl T.n_len (gk_cons (de_K (g_fld T.cls_Desk T.na_Desk_kept (dk_var (pv 0)))) dks_nil)))))) (dw_or (dt_not (gt_chain op_le op_lt (ok_cmp _) (ok_cmp _) (de_K de_int) (dk_var (pv 3)) (de_K (de_S (g_callB cr_lenA ok_len rfl T.n_len (gk_cons (de_K (g_fld T.cls_Desk T.na_Desk_kept (dk_var (pv 0)))) dks_nil)))))) (pw_or1 (dt_not (gt_chain op_le op_le (ok_cmp _) (ok_cmp _) (de_K de_int) (dk_var (pv 4)) (de_K (de_gint T.g_MOST_HOLD)))))))) (dss_cons (ds_ret (de_L de_bl))
    dss_nil) dss_nil)
    (dss_cons (ds_ret (de_L (de_and (ge_cmp (op_neA hr.units) ok_ne (de_K (de_S (g_ix ix_seq ok_ix (de_K (de_S (g_ix ix_seq ok_ix (de_K (g_fld T.cls_Desk T.na_Desk_kept (dk_var (pv 0)))) (dk_var (pv 2))))) (de_K de_int)))) (de_K de_str)) (pe_one (ge_cmp (op_neA hr.units) ok_ne (de_K (de_S (g_ix ix_seq ok_ix (de_K (de_S (g_ix ix_seq ok_ix (de_K (g_fld T.cls_Desk T.na_Desk_kept (dk_var (pv 0)))) (dk_var (pv 3))))) (de_K de_int)))) (de_K de_str))))))
    dss_nil)))
theorem at_Desk_is_cable {P : Program} {w : World} {K : PySem.W.Frag} {mg : Str → Option Value} {base : Heap} {C : Cl} (T : Tx P w K mg base C) : MtAt P w K mg base 1 C.Desk "is_cable" (fn_Desk_is_cable C) := mt_at T.cls_Desk T.m_Desk_is_cable sc_Desk_is_cable (by decide) (b_Desk_is_cable T)
theorem sc_Desk_is_twice : FnScope ["self", "at", "cable"] ["self", "at"] (defScope s_Desk_is_twice) := ⟨rfl, rfl, rfl, by decide +kernel, rfl, by decide +kernel, by decide +kernel⟩
theorem b_Desk_is_twice {P : Program} {w : World} {K : PySem.W.Frag} {mg : Str → Option Value} {base : Heap} {C : Cl} (T : Tx P w K mg base C) : BodyOk P w K mg base ["self", "at", "cable"] "Desk.is_twice" s_Desk_is_twice 0 [0] (F_Desk_is_twice C) := by
  intro f cdv A outer s H E hr
  have tk := L2N.takes_of (X := cxOf (L2N.CX P w) P w K mg base ["self", "at", "cable"] "Desk.is_twice" (defScope s_Desk_is_twice) f cdv A outer s H E) (E := E) rfl rfl rfl rfl
  exact (dss_cons (ds_ret (de_L (de_and (ge_cmp (op_eqA hr.units) ok_eq (de_K (de_S (g_ix ix_seq ok_ix (de_K (de_S (g_ix ix_seq ok_ix (de_K (g_fld T.cls_Desk T.na_Desk_kept (dk_var (pv 0)))) (dk_var (pv 1))))) (de_K de_int)))) (de_K de_str)) (pe_one (ge_cmp op_gt (ok_cmp _) (de_K (de_S (g_callB cr_lenA ok_len rfl T.n_len (gk_cons (de_K (de_S (dl_comp (own := [("cable", 2)]) (by decide) (by decide) rfl sc_Desk_is_twice.nd (di_seq (g_fld T.cls_Desk T.na_Desk_wires (dk_var (pv 0)))) (blkOk_by rfl) (fun _ _ _ _ _ => (g_name (by decide) sc_Desk_is_twice.nd)) (fun _ _ _ _ _ => (pts_one (gt_cmp (op_eqA hr.units) ok_eq (de_K (de_S (g_ix ix_seq ok_ix (dk_var (pv 2)) (de_K de_int)))) (dk_var (pv 1))))) (fun _ _ _ _ _ => (de_var (pv 2))) (fun _ => rfl)))) dks_nil)))) (de_K de_int))))))
    dss_nil)
theorem at_Desk_is_twice {P : Program} {w : World} {K : PySem.W.Frag} {mg : Str → Option Value} {base : Heap} {C : Cl} (T : Tx P w K mg base C) : MtAt P w K mg base 1 C.Desk "is_twice" (fn_Desk_is_twice C) := mt_at T.cls_Desk T.m_Desk_is_twice sc_Desk_is_twice (by decide) (b_Desk_is_twice T)
theorem sc_Desk_led_from : FnScope ["self", "some", "side", "found", "waiting", "at", "cable"] ["self", "some", "side"] (defScope s_Desk_led_from) := ⟨rfl, rfl, rfl, by decide +kernel, rfl, by decide +kernel, by decide +kernel⟩
theorem b_Desk_led_from {P : Program} {w : World} {K : PySem.W.Frag} {mg : Str → Option Value} {base : Heap} {C : Cl} (T : Tx P w K mg base C) : BodyOk P w K mg base ["self", "some", "side", "found", "waiting", "at", "cable"] "Desk.led_from" s_Desk_led_from 0 [0] (F_Desk_led_from C) := by
  intro f cdv A outer s H E hr
  have tk := L2N.takes_of (X := cxOf (L2N.CX P w) P w K mg base ["self", "some", "side", "found", "waiting", "at", "cable"] "Desk.led_from" (defScope s_Desk_led_from) f cdv A outer s H E) (E := E) rfl rfl rfl rfl
  exact (dss_cons (g_set (by decide) sc_Desk_led_from.nd (g_callT call_list_of ok_list rfl T.n_list (gk_cons (dk_var (pv 1)) dks_nil)))
    (dss_cons (g_set (by decide) sc_Desk_led_from.nd (g_callT call_list_of ok_list rfl T.n_list (gk_cons (dk_var (pv 1)) dks_nil)))
    (dss_cons (ds_while 1000 (passes_of rfl) (gt_cmp (op_neA hr.units) ok_ne (dk_var (pv 4)) (de_K (de_S (dl_lst das_nil)))) (dss_cons (g_set (by decide) sc_Desk_led_from.nd (de_L (g_pop0 (pv 4))))
    (dss_cons (g_for (passes_of rfl) (di_seq (g_fld T.cls_Desk T.na_Desk_wires (dk_var (pv 0)))) (g_name (by decide) sc_Desk_led_from.nd) (dss_cons (ds_if (PW.pt (dw_and (gt_cmp (op_eqA hr.units) ok_eq (de_K (de_S (g_ix ix_seq ok_ix (dk_var (pv 6)) (dk_var (pv 2))))) (dk_var (pv 5))) (pw_and1 (gt_cmp op_notInA ok_notIn (de_K (de_S (g_ix ix_seq ok_ix (dk_var (pv 6)) (de_K (de_S (dl_op op_sub ok_sub (de_K de_int) (dk_var (pv 2)))))))) (dk_var (pv 3)))))) (dss_cons (g_expr (g_append (de_S (g_ix ix_seq ok_ix (dk_var (pv 6)) (de_K (de_S (dl_op op_sub ok_sub (de_K de_int) (dk_var (pv 2))))))) (pv 3)))
    (dss_cons (g_expr (g_append (de_S (g_ix ix_seq ok_ix (dk_var (pv 6)) (de_K (de_S (dl_op op_sub ok_sub (de_K de_int) (dk_var (pv 2))))))) (pv 4)))
    dss_nil)) dss_nil)
    dss_nil))
    dss_nil)))
    (dss_cons (ds_ret (dl_move (pv 3)))
    dss_nil))))
theorem at_Desk_led_from {P : Program} {w : World} {K : PySem.W.Frag} {mg : Str → Option Value} {base : Heap} {C : Cl} (T : Tx P w K mg base C) : MtAt P w K mg base 1 C.Desk "led_from" (fn_Desk_led_from C) := mt_at T.cls_Desk T.m_Desk_led_from sc_Desk_led_from (by decide) (b_Desk_led_from T)
theorem sc_Desk___init__ : FnScope ["self", "boxes", "cables", "at", "fed", "used"] ["self", "boxes", "cables"] (defScope s_Desk___init__) := ⟨rfl, rfl, rfl, by decide +kernel, rfl, by decide +kernel, by decide +kernel⟩
theorem b_Desk___init__ {P : Program} {w : World} {K : PySem.W.Frag} {mg : Str → Option Value} {base : Heap} {C : Cl} (T : Tx P w K mg base C) : BodyOk P w K mg base ["self", "boxes", "cables", "at", "fed", "used"] "Desk.__init__" s_Desk___init__ 3 [0, 1, 2] (F_Desk___init__ C) := by
  intro f cdv A outer s H E hr
  have tk := L2N.takes_of (X := cxOf (L2N.CX P w) P w K mg base ["self", "boxes", "cables", "at", "fed", "used"] "Desk.__init__" (defScope s_Desk___init__) f cdv A outer s H E) (E := E) rfl rfl rfl rfl
  exact (dss_cons (g_expr (de_S (g_call ((at_must T).mono (by decide)) hr tk (gk_cons (de_K (ge_chain op_le op_le (ok_cmp _) (ok_cmp _) (de_K de_int) (de_K (de_S (g_callB cr_lenA ok_len rfl T.n_len (gk_cons (dk_var (pv 1)) dks_nil)))) (de_K (de_gint T.g_MOST_BOXES)))) (gk_cons (de_K de_int) (gk_cons (de_K de_str) dks_nil))))))
    (dss_cons (ds_fld T.cls_Desk T.na_Desk_kept (pv 0) (de_L (de_S (g_callT call_list_of ok_list rfl T.n_list (gk_cons (dk_var (pv 1)) dks_nil)))) rfl)
    (dss_cons (g_for (passes_of rfl) (gi_rng1 T.n_range (de_S (g_callB cr_lenA ok_len rfl T.n_len (gk_cons (dk_var (pv 1)) dks_nil)))) (g_name (by decide) sc_Desk___init__.nd) (dss_cons (g_expr (de_S (g_call ((at_must T).mono (by decide)) hr tk (gk_cons (de_K (de_S (g_meth ((at_Desk_is_box T).mono (by decide)) hr tk (dk_var (pv 0)) (gk_cons (dk_var (pv 3)) dks_nil)))) (gk_cons (dk_var (pv 3)) (gk_cons (de_K de_str) dks_nil))))))
    dss_nil))
    (dss_cons (g_expr (de_S (g_call ((at_must T).mono (by decide)) hr tk (gk_cons (de_K (ge_cmp op_le (ok_cmp _) (de_K (de_S (g_callB cr_lenA ok_len rfl T.n_len (gk_cons (dk_var (pv 2)) dks_nil)))) (de_K (de_gint T.g_MOST_CABLES)))) (gk_cons (de_K de_int) (gk_cons (de_K de_str) dks_nil))))))
    (dss_cons (ds_fld T.cls_Desk T.na_Desk_wires (pv 0) (de_L (de_S (g_callT call_list_of ok_list rfl T.n_list (gk_cons (dk_var (pv 2)) dks_nil)))) rfl)
    (dss_cons (g_for (passes_of rfl) (gi_rng1 T.n_range (de_S (g_callB cr_lenA ok_len rfl T.n_len (gk_cons (dk_var (pv 2)) dks_nil)))) (g_name (by decide) sc_Desk___init__.nd) (dss_cons (g_expr (de_S (g_call ((at_must T).mono (by decide)) hr tk (gk_cons (de_K (de_S (g_meth ((at_Desk_is_cable T).mono (by decide)) hr tk (dk_var (pv 0)) (gk_cons (de_K (de_S (g_ix ix_seq ok_ix (dk_var (pv 2)) (dk_var (pv 3))))) dks_nil)))) (gk_cons (dk_var (pv 3)) (gk_cons (de_K de_str) dks_nil))))))
    dss_nil))
    (dss_cons (g_set (by decide) sc_Desk___init__.nd (de_L (de_S (g_meth ((at_Desk_led_from T).mono (by decide)) hr tk (dk_var (pv 0)) (gk_cons (de_K (de_S (g_meth ((at_Desk_ends T).mono (by decide)) hr tk (dk_var (pv 0)) (gk_cons (de_K de_str) dks_nil)))) (gk_cons (de_K de_int) dks_nil))))))
    (dss_cons (g_set (by decide) sc_Desk___init__.nd (de_L (de_S (g_meth ((at_Desk_led_from T).mono (by decide)) hr tk (dk_var (pv 0)) (gk_cons (de_K (de_S (g_meth ((at_Desk_ends T).mono (by decide)) hr tk (dk_var (pv 0)) (gk_cons (de_K de_str) dks_nil)))) (gk_cons (de_K de_int) dks_nil))))))
    (dss_cons (g_for (passes_of rfl) (gi_rng1 T.n_range (de_S (g_callB cr_lenA ok_len rfl T.n_len (gk_cons (dk_var (pv 1)) dks_nil)))) (g_name (by decide) sc_Desk___init__.nd) (dss_cons (g_expr (de_S (g_call ((at_must T).mono (by decide)) hr tk (gk_cons (de_K (de_and (ge_cmp op_inA ok_in (dk_var (pv 3)) (dk_var (pv 4))) (de_and (ge_cmp op_inA ok_in (dk_var (pv 3)) (dk_var (pv 5))) (pe_one (de_not (de_S (g_meth ((at_Desk_is_twice T).mono (by decide)) hr tk (dk_var (pv 0)) (gk_cons (dk_var (pv 3)) dks_nil)))))))) (gk_cons (dk_var (pv 3)) (gk_cons (de_K de_str) dks_nil))))))
    dss_nil))
    (dss_cons (ds_fld T.cls_Desk T.na_Desk_order (pv 0) (de_L (de_S (g_meth0 ((at_Desk_in_order T).mono (by decide)) hr tk (dk_var (pv 0))))) rfl)
    (dss_cons (g_expr (de_S (g_call ((at_must T).mono (by decide)) hr tk (gk_cons (de_K (ge_cmp (op_eqA hr.units) ok_eq (de_K (de_S (g_callB cr_lenA ok_len rfl T.n_len (gk_cons (de_K (g_fld T.cls_Desk T.na_Desk_order (dk_var (pv 0)))) dks_nil)))) (de_K (de_S (g_callB cr_lenA ok_len rfl T.n_len (gk_cons (dk_var (pv 1)) dks_nil)))))) (gk_cons (de_K de_int) (gk_cons (de_K de_str) dks_nil))))))
    dss_nil)))))))))))
theorem at_Desk___init__ {P : Program} {w : World} {K : PySem.W.Frag} {mg : Str → Option Value} {base : Heap} {C : Cl} (T : Tx P w K mg base C) : MkAt P w K mg base 4 "Desk" C.Desk (fn_Desk___init__ C) := mk_at T.i_Desk___init__ sc_Desk___init__ (by decide) (b_Desk___init__ T)
theorem sc_Desk_boxes : FnScope ["self"] ["self"] (defScope s_Desk_boxes) := ⟨rfl, rfl, rfl, by decide +kernel, rfl, by decide +kernel, by decide +kernel⟩
theorem b_Desk_boxes {P : Program} {w : World} {K : PySem.W.Frag} {mg : Str → Option Value} {base : Heap} {C : Cl} (T : Tx P w K mg base C) : BodyOk P w K mg base ["self"] "Desk.boxes" s_Desk_boxes 0 [0] (F_Desk_boxes C) := by
  intro f cdv A outer s H E hr
  have tk := L2N.takes_of (X := cxOf (L2N.CX P w) P w K mg base ["self"] "Desk.boxes" (defScope s_Desk_boxes) f cdv A outer s H E) (E := E) rfl rfl rfl rfl
  exact (dss_cons (ds_ret (g_callT call_list_of ok_list rfl T.n_list (gk_cons (de_K (g_fld T.cls_Desk T.na_Desk_kept (dk_var (pv 0)))) dks_nil)))
    dss_nil)
theorem at_Desk_boxes {P : Program} {w : World} {K : PySem.W.Frag} {mg : Str → Option Value} {base : Heap} {C : Cl} (T : Tx P w K mg base C) : MtAt P w K mg base 1 C.Desk "boxes" (fn_Desk_boxes C) := mt_at T.cls_Desk T.m_Desk_boxes sc_Desk_boxes (by decide) (b_Desk_boxes T)
theorem sc_Desk_cables : FnScope ["self"] ["self"] (defScope s_Desk_cables) := ⟨rfl, rfl, rfl, by decide +kernel, rfl, by decide +kernel, by decide +kernel⟩
theorem b_Desk_cables {P : Program} {w : World} {K : PySem.W.Frag} {mg : Str → Option Value} {base : Heap} {C : Cl} (T : Tx P w K mg base C) : BodyOk P w K mg base ["self"] "Desk.cables" s_Desk_cables 0 [0] (F_Desk_cables C) := by
  intro f cdv A outer s H E hr
  have tk := L2N.takes_of (X := cxOf (L2N.CX P w) P w K mg base ["self"] "Desk.cables" (defScope s_Desk_cables) f cdv A outer s H E) (E := E) rfl rfl rfl rfl
  exact (dss_cons (ds_ret (g_callT call_list_of ok_list rfl T.n_list (gk_cons (de_K (g_fld T.cls_Desk T.na_Desk_wires (dk_var (pv 0)))) dks_nil)))
    dss_nil)
theorem at_Desk_cables {P : Program} {w : World} {K : PySem.W.Frag} {mg : Str → Option Value} {base : Heap} {C : Cl} (T : Tx P w K mg base C) : MtAt P w K mg base 1 C.Desk "cables" (fn_Desk_cables C) := mt_at T.cls_Desk T.m_Desk_cables sc_Desk_cables (by decide) (b_Desk_cables T)
theorem sc__law_dice : FnScope ["_law_script", "_law_k", "_law_found", "_law_cell"] ["_law_script", "_law_k"] (defScope s__law_dice) := ⟨rfl, rfl, rfl, by decide +kernel, rfl, by decide +kernel, by decide +kernel⟩
theorem b__law_dice {P : Program} {w : World} {K : PySem.W.Frag} {mg : Str → Option Value} {base : Heap} {C : Cl} (T : Tx P w K mg base C) : BodyOk P w K mg base ["_law_script", "_law_k", "_law_found", "_law_cell"] "_law_dice" s__law_dice 0 [] (F__law_dice C) := by
  intro f cdv A outer s H E hr
  have tk := L2N.takes_of (X := cxOf (L2N.CX P w) P w K mg base ["_law_script", "_law_k", "_law_found", "_law_cell"] "_law_dice" (defScope s__law_dice) f cdv A outer s H E) (E := E) rfl rfl rfl rfl
  exact (dss_cons (g_set (by decide) sc__law_dice.nd (de_L (de_var (pv 1))))
    (dss_cons (g_for (passes_of rfl) (di_seq (de_var (pv 0))) (g_name (by decide) sc__law_dice.nd) (dss_cons (g_set (by decide) sc__law_dice.nd (de_L (de_S (dl_op op_mod ok_mod (de_K (de_S (dl_op op_addA ok_add (de_K (de_S (dl_op op_mulA ok_mul (dk_var (pv 2)) (de_K de_int)))) (de_K (de_S (g_callB call_abs ok_abs rfl T.n_abs (gk_cons (dk_var (pv 3)) dks_nil))))))) (de_K de_int)))))
    dss_nil))
    (dss_cons (ds_ret (dl_op op_addA ok_add (de_K (de_S (dl_lst (ga_cons (de_var (pv 2)) (ga_cons de_int das_nil))))) (de_K (de_S (dl_comp (own := [("_law_cell", 3)]) (by decide) (by decide) rfl sc__law_dice.nd (di_seq (de_var (pv 0))) (blkOk_by rfl) (fun _ _ _ _ _ => (g_name (by decide) sc__law_dice.nd)) (fun _ _ _ _ _ => (pts_one (gt_cmp op_ge (ok_cmp _) (dk_var (pv 3)) (de_K (de_S (dl_op op_pow ok_pow (de_K de_int) (de_K de_int))))))) (fun _ _ _ _ _ => (de_var (pv 3))) (fun _ => rfl))))))
    dss_nil)))
theorem at__law_dice {P : Program} {w : World} {K : PySem.W.Frag} {mg : Str → Option Value} {base : Heap} {C : Cl} (T : Tx P w K mg base C) : FnAt P w K mg base 1 "_law_dice" (fn__law_dice C) := fn_at T.f__law_dice sc__law_dice (by decide) (b__law_dice T)
theorem sc__law_off : FnScope ["_law_d", "_law_most", "_law_found"] ["_law_d", "_law_most"] (defScope s__law_off) := ⟨rfl, rfl, rfl, by decide +kernel, rfl, by decide +kernel, by decide +kernel⟩
theorem b__law_off {P : Program} {w : World} {K : PySem.W.Frag} {mg : Str → Option Value} {base : Heap} {C : Cl} (T : Tx P w K mg base C) : BodyOk P w K mg base ["_law_d", "_law_most", "_law_found"] "_law_off" s__law_off 0 [0] (F__law_off C) := by
  intro f cdv A outer s H E hr
  have tk := L2N.takes_of (X := cxOf (L2N.CX P w) P w K mg base ["_law_d", "_law_most", "_law_found"] "_law_off" (defScope s__law_off) f cdv A outer s H E) (E := E) rfl rfl rfl rfl
  exact (dss_cons (ds_if (PW.pt (dw_and (gt_cmp (op_eqA hr.units) ok_eq (de_K (de_S (g_ix ix_seq ok_ix (dk_var (pv 0)) (de_K de_int)))) (de_K de_int)) (pw_and1 (gt_cmp op_gt (ok_cmp _) (de_K (de_S (g_callB cr_lenA ok_len rfl T.n_len (gk_cons (dk_var (pv 0)) dks_nil)))) (de_K de_int))))) (dss_cons (ds_setI (pv 0) de_int (g_pop1 de_int (pv 0)) rfl rfl rfl (fun _ => rfl))
    dss_nil) dss_nil)
    (dss_cons (ds_if (gt_cmp op_gt (ok_cmp _) (de_K (de_S (g_ix ix_seq ok_ix (dk_var (pv 0)) (de_K de_int)))) (de_K de_int)) (dss_cons (g_set (by decide) sc__law_off.nd (de_L (de_S (dl_op op_mod ok_mod (de_K (de_S (g_ix ix_seq ok_ix (dk_var (pv 0)) (de_K de_int)))) (dk_var (pv 1))))))
    (dss_cons (ds_setI (pv 0) de_int (de_S (dl_op op_fdiv ok_div (de_K (de_S (g_ix ix_seq ok_ix (dk_var (pv 0)) (de_K de_int)))) (dk_var (pv 1)))) rfl rfl rfl (fun _ => rfl))
    (dss_cons (ds_ret (dl_move (pv 2)))
    dss_nil))) dss_nil)
    (dss_cons (ds_setI (pv 0) de_int (de_S (dl_op op_mod ok_mod (de_K (de_S (dl_op op_addA ok_add (de_K (de_S (dl_op op_mulA ok_mul (de_K (de_S (g_ix ix_seq ok_ix (dk_var (pv 0)) (de_K de_int)))) (de_K de_int)))) (de_K de_int)))) (de_K de_int))) rfl rfl rfl (fun _ => rfl))
    (dss_cons (ds_ret (dl_op op_mod ok_mod (de_K (de_S (dl_op op_fdiv ok_div (de_K (de_S (g_ix ix_seq ok_ix (dk_var (pv 0)) (de_K de_int)))) (de_K de_int)))) (dk_var (pv 1))))
    dss_nil))))
theorem at__law_off {P : Program} {w : World} {K : PySem.W.Frag} {mg : Str → Option Value} {base : Heap} {C : Cl} (T : Tx P w K mg base C) : FnAt P w K mg base 1 "_law_off" (fn__law_off C) := fn_at T.f__law_off sc__law_off (by decide) (b__law_off T)
theorem sc__law_alike : FnScope ["_law_found", "_law_due", "_law_k", "_law_name"] ["_law_found", "_law_due"] (defScope s__law_alike) := ⟨rfl, rfl, rfl, by decide +kernel, rfl, by decide +kernel, by decide +kernel⟩
theorem b__law_alike {P : Program} {w : World} {K : PySem.W.Frag} {mg : Str → Option Value} {base : Heap} {C : Cl} (T : Tx P w K mg base C) {fr : Fn} {k : Nat} (hk : 0 ≤ k) (Fr : FnAt P w K mg base k "_law_alike" fr) : BodyOk P w K mg base ["_law_found", "_law_due", "_law_k", "_law_name"] "_law_alike" s__law_alike k [] (F__law_alike C fr) := by
  intro f cdv A outer s H E hr
  have tk := L2N.takes_of (X := cxOf (L2N.CX P w) P w K mg base ["_law_found", "_law_due", "_law_k", "_law_name"] "_law_alike" (defScope s__law_alike) f cdv A outer s H E) (E := E) rfl rfl rfl rfl
  exact (dss_cons (ds_if (gt_cmp op_isA ok_is (dk_var (pv 1)) (de_K de_non)) (dss_cons (ds_ret (de_L (ge_cmp op_isA ok_is (dk_var (pv 0)) (de_K de_non))))
    dss_nil) dss_nil)
    (dss_cons (ds_if (gt_val (de_isi T.n_isinstance T.n_bool rfl (dk_var (pv 1)))) (dss_cons (ds_ret (de_L (de_and (de_isi T.n_isinstance T.n_bool rfl (dk_var (pv 0))) (pe_one (ge_cmp (op_eqA hr.units) ok_eq (dk_var (pv 0)) (dk_var (pv 1)))))))
    dss_nil) dss_nil)
    (dss_cons (ds_if (gt_val (de_isi T.n_isinstance T.n_int rfl (dk_var (pv 1)))) (dss_cons (ds_ret (de_L (de_and (de_isi T.n_isinstance T.n_int rfl (dk_var (pv 0))) (de_and (de_not (de_isi T.n_isinstance T.n_bool rfl (dk_var (pv 0)))) (pe_one (ge_cmp (op_eqA hr.units) ok_eq (dk_var (pv 0)) (dk_var (pv 1))))))))
    dss_nil) dss_nil)
    (dss_cons (ds_if (gt_val (de_isi T.n_isinstance T.n_str rfl (dk_var (pv 1)))) (dss_cons (ds_ret (de_L (de_and (de_isi T.n_isinstance T.n_str rfl (dk_var (pv 0))) (pe_one (ge_cmp (op_eqA hr.units) ok_eq (dk_var (pv 0)) (dk_var (pv 1)))))))
    dss_nil) dss_nil)
    (dss_cons (ds_if (gt_val (de_isi T.n_isinstance T.n_dict rfl (dk_var (pv 1)))) (dss_cons (ds_if (PW.pt (dw_or (dt_not (gt_val (de_isi T.n_isinstance T.n_dict rfl (dk_var (pv 0))))) (pw_or1 (gt_cmp (op_neA hr.units) ok_ne (de_K (de_S (g_callB cr_lenA ok_len rfl T.n_len (gk_cons (dk_var (pv 0)) dks_nil)))) (de_K (de_S (g_callB cr_lenA ok_len rfl T.n_len (gk_cons (dk_var (pv 1)) dks_nil)))))))) (dss_cons (ds_ret (de_L de_bl))
    dss_nil) dss_nil)
    (dss_cons (ds_ret (g_callB (cr_all rfl) ok_all rfl T.n_all (gk_cons (de_K (de_S (dl_comp (own := [("_law_name", 3)]) (by decide) (by decide) rfl sc__law_alike.nd (di_listC (de_var (pv 1))) (blkOk_by rfl) (fun _ _ _ _ _ => (g_name (by decide) sc__law_alike.nd)) (fun _ _ _ _ _ => dts_nil) (fun _ _ _ _ _ => (de_and (ge_cmp op_inA ok_in (dk_var (pv 3)) (dk_var (pv 0))) (pe_one (de_S (g_call Fr hr takesN (gk_cons (de_K (de_S (g_ix ix_seq ok_ix (dk_var (pv 0)) (dk_var (pv 3))))) (gk_cons (de_K (de_S (g_ix ix_seq ok_ix (dk_var (pv 1)) (dk_var (pv 3))))) dks_nil))))))) (fun _ => rfl)))) dks_nil)))
    dss_nil)) dss_nil)
    (dss_cons (ds_if (PW.pt (dw_or (gt_cmp (op_neA hr.units) ok_ne (de_K (de_isi T.n_isinstance T.n_tuple rfl (dk_var (pv 1)))) (de_K (de_isi T.n_isinstance T.n_tuple rfl (dk_var (pv 0))))) (pw_or1 (gt_cmp (op_neA hr.units) ok_ne (de_K (de_isi T.n_isinstance T.n_list rfl (dk_var (pv 1)))) (de_K (de_isi T.n_isinstance T.n_list rfl (dk_var (pv 0)))))))) (dss_cons (ds_ret (de_L de_bl))
    dss_nil) dss_nil)
    (dss_cons (ds_if (gt_cmp (op_neA hr.units) ok_ne (de_K (de_S (g_callB cr_lenA ok_len rfl T.n_len (gk_cons (dk_var (pv 0)) dks_nil)))) (de_K (de_S (g_callB cr_lenA ok_len rfl T.n_len (gk_cons (dk_var (pv 1)) dks_nil))))) (dss_cons (ds_ret (de_L de_bl))
    dss_nil) dss_nil)
    (dss_cons (ds_ret (g_callB (cr_all rfl) ok_all rfl T.n_all (gk_cons (de_K (de_S (dl_comp (own := [("_law_k", 2)]) (by decide) (by decide) rfl sc__law_alike.nd (gi_rng1 T.n_range (de_S (g_callB cr_lenA ok_len rfl T.n_len (gk_cons (dk_var (pv 1)) dks_nil)))) (blkOk_by rfl) (fun _ _ _ _ _ => (g_name (by decide) sc__law_alike.nd)) (fun _ _ _ _ _ => dts_nil) (fun _ _ _ _ _ => (de_S (g_call Fr hr takesN (gk_cons (de_K (de_S (g_ix ix_seq ok_ix (dk_var (pv 0)) (dk_var (pv 2))))) (gk_cons (de_K (de_S (g_ix ix_seq ok_ix (dk_var (pv 1)) (dk_var (pv 2))))) dks_nil))))) (fun _ => rfl)))) dks_nil)))
    dss_nil))))))))
theorem at__law_alikeN {P : Program} {w : World} {K : PySem.W.Frag} {mg : Str → Option Value} {base : Heap} {C : Cl} (T : Tx P w K mg base C) : ∀ n, FnAt P w K mg base (n + 1) "_law_alike" (fn__law_alikeN C n)
  | 0 => fn_at (k := 0) T.f__law_alike sc__law_alike (by decide) fun _ _ _ _ _ _ _ _ => dss_never
  | n + 1 => fn_at T.f__law_alike sc__law_alike (by decide) (b__law_alike T (Nat.zero_le _) (at__law_alikeN T n))
theorem at__law_alike {P : Program} {w : World} {K : PySem.W.Frag} {mg : Str → Option Value} {base : Heap} {C : Cl} (T : Tx P w K mg base C) : FnAt P w K mg base 7 "_law_alike" (fn__law_alike C) := at__law_alikeN T 6
theorem bh__law_alike {P : Program} {w : World} {K : PySem.W.Frag} {mg : Str → Option Value} {base : Heap} {C : Cl} (T : Tx P w K mg base C) {fr : Fn} {k : Nat} (Fr : FnAtH P w K mg base k "_law_alike" fr) : BodyOkH P w K mg base ["_law_found", "_law_due", "_law_k", "_law_name"] "_law_alike" s__law_alike k [] (F__law_alike C fr) := by
  intro f cdv A outer s H E p c d hot hz hr
  have tk := L2N.takes_of (X := L2H.cxH (L2N.CX P w) P w K mg base ["_law_found", "_law_due", "_law_k", "_law_name"] "_law_alike" (defScope s__law_alike) f cdv A outer s H E p) (E := E) rfl rfl rfl rfl
  have hx : Hx (L2H.cxH (L2N.CX P w) P w K mg base ["_law_found", "_law_due", "_law_k", "_law_name"] "_law_alike" (defScope s__law_alike) f cdv A outer s H E p) p c d := ⟨⟨hot.1, hot.2⟩, List.mem_singleton.mpr rfl, hz⟩
  exact (dss_cons (ds_if (gt_cmp op_isA ok_is (dk_var (pv 1)) (de_K de_non)) (dss_cons (ds_ret (de_L (ge_cmp op_isA ok_is (dk_var (pv 0)) (de_K de_non))))
    dss_nil) dss_nil)
    (dss_cons (ds_if (gt_val (de_isi T.n_isinstance T.n_bool rfl (dk_var (pv 1)))) (dss_cons (ds_ret (de_L (de_and (de_isi T.n_isinstance T.n_bool rfl (dk_var (pv 0))) (pe_one (ge_cmp (op_eqA (unitsH hr)) ok_eq (dk_var (pv 0)) (dk_var (pv 1)))))))
    dss_nil) dss_nil)
    (dss_cons (ds_if (gt_val (de_isi T.n_isinstance T.n_int rfl (dk_var (pv 1)))) (dss_cons (ds_ret (de_L (de_and (de_isi T.n_isinstance T.n_int rfl (dk_var (pv 0))) (de_and (de_not (de_isi T.n_isinstance T.n_bool rfl (dk_var (pv 0)))) (pe_one (ge_cmp (op_eqA (unitsH hr)) ok_eq (dk_var (pv 0)) (dk_var (pv 1))))))))
    dss_nil) dss_nil)
    (dss_cons (ds_if (gt_val (de_isi T.n_isinstance T.n_str rfl (dk_var (pv 1)))) (dss_cons (ds_ret (de_L (de_and (de_isi T.n_isinstance T.n_str rfl (dk_var (pv 0))) (pe_one (ge_cmp (op_eqA (unitsH hr)) ok_eq (dk_var (pv 0)) (dk_var (pv 1)))))))
    dss_nil) dss_nil)
    (dss_cons (ds_if (gt_val (de_isi T.n_isinstance T.n_dict rfl (dk_var (pv 1)))) (dss_cons (ds_if (PW.pt (dw_or (dt_not (gt_val (de_isi T.n_isinstance T.n_dict rfl (dk_var (pv 0))))) (pw_or1 (gt_cmp (op_neA (unitsH hr)) ok_ne (de_K (de_S (g_callB cr_lenA ok_len rfl T.n_len (gk_cons (dk_var (pv 0)) dks_nil)))) (de_K (de_S (g_callB cr_lenA ok_len rfl T.n_len (gk_cons (dk_var (pv 1)) dks_nil)))))))) (dss_cons (ds_ret (de_L de_bl))
    dss_nil) dss_nil)
    (dss_cons (ds_ret (g_callB (Ht.cr_allH (Hx.c hx)) ok_all rfl T.n_all (gk_cons (de_K (de_S (dl_compH (own := [("_law_name", 3)]) (by decide) (by decide) (Hx.c hx) sc__law_alike.nd (di_listH (de_var (pv 1))) (blkOk_by rfl) (fun _ _ _ _ _ => (g_name (by decide) sc__law_alike.nd)) (fun _ _ _ _ _ => dts_nil) (fun _ _ _ _ _ => (de_and (ge_cmp op_inA ok_in (dk_var (pv 3)) (dk_var (pv 0))) (pe_one (de_S (dl_callH Fr hr (Hx.blk hx) takesN (gk_cons (de_K (de_S (g_ix ix_seq ok_ix (dk_var (pv 0)) (dk_var (pv 3))))) (gk_cons (de_K (de_S (g_ix ix_seq ok_ix (dk_var (pv 1)) (dk_var (pv 3))))) dks_nil)))))))))) dks_nil)))
    dss_nil)) dss_nil)
    (dss_cons (ds_if (PW.pt (dw_or (gt_cmp (op_neA (unitsH hr)) ok_ne (de_K (de_isi T.n_isinstance T.n_tuple rfl (dk_var (pv 1)))) (de_K (de_isi T.n_isinstance T.n_tuple rfl (dk_var (pv 0))))) (pw_or1 (gt_cmp (op_neA (unitsH hr)) ok_ne (de_K (de_isi T.n_isinstance T.n_list rfl (dk_var (pv 1)))) (de_K (de_isi T.n_isinstance T.n_list rfl (dk_var (pv 0)))))))) (dss_cons (ds_ret (de_L de_bl))
    dss_nil) dss_nil)
    (dss_cons (ds_if (gt_cmp (op_neA (unitsH hr)) ok_ne (de_K (de_S (g_callB cr_lenA ok_len rfl T.n_len (gk_cons (dk_var (pv 0)) dks_nil)))) (de_K (de_S (g_callB cr_lenA ok_len rfl T.n_len (gk_cons (dk_var (pv 1)) dks_nil))))) (dss_cons (ds_ret (de_L de_bl))
    dss_nil) dss_nil)
    (dss_cons (ds_ret (g_callB (Ht.cr_allH (Hx.c hx)) ok_all rfl T.n_all (gk_cons (de_K (de_S (dl_compH (own := [("_law_k", 2)]) (by decide) (by decide) (Hx.c hx) sc__law_alike.nd (di_rng1H T.n_range (de_S (g_callB cr_lenA ok_len rfl T.n_len (gk_cons (dk_var (pv 1)) dks_nil)))) (blkOk_by rfl) (fun _ _ _ _ _ => (g_name (by decide) sc__law_alike.nd)) (fun _ _ _ _ _ => dts_nil) (fun _ _ _ _ _ => (de_S (dl_callH Fr hr (Hx.blk hx) takesN (gk_cons (de_K (de_S (g_ix ix_seq ok_ix (dk_var (pv 0)) (dk_var (pv 2))))) (gk_cons (de_K (de_S (g_ix ix_seq ok_ix (dk_var (pv 1)) (dk_var (pv 2))))) dks_nil)))))))) dks_nil)))
    dss_nil))))))))
theorem atH__law_alikeN {P : Program} {w : World} {K : PySem.W.Frag} {mg : Str → Option Value} {base : Heap} {C : Cl} (T : Tx P w K mg base C) : ∀ n, FnAtH P w K mg base (n + 1) "_law_alike" (fn__law_alikeN C n)
  | 0 => fn_atH (k := 0) T.f__law_alike sc__law_alike (by decide) fun _ _ _ _ _ _ _ _ _ _ _ _ _ => dss_never
  | n + 1 => fn_atH T.f__law_alike sc__law_alike (by decide) (bh__law_alike T (atH__law_alikeN T n))
theorem atH__law_alike {P : Program} {w : World} {K : PySem.W.Frag} {mg : Str → Option Value} {base : Heap} {C : Cl} (T : Tx P w K mg base C) : FnAtH P w K mg base 7 "_law_alike" (fn__law_alike C) := atH__law_alikeN T 6
theorem sc__law_mixed : FnScope ["_law_d", "_law_row", "_law_left", "_law_found"] ["_law_d", "_law_row"] (defScope s__law_mixed) := ⟨rfl, rfl, rfl, by decide +kernel, rfl, by decide +kernel, by decide +kernel⟩
theorem b__law_mixed {P : Program} {w : World} {K : PySem.W.Frag} {mg : Str → Option Value} {base : Heap} {C : Cl} (T : Tx P w K mg base C) : BodyOk P w K mg base ["_law_d", "_law_row", "_law_left", "_law_found"] "_law_mixed" s__law_mixed 1 [0] (F__law_mixed C) := by
  intro f cdv A outer s H E hr
  have tk := L2N.takes_of (X := cxOf (L2N.CX P w) P w K mg base ["_law_d", "_law_row", "_law_left", "_law_found"] "_law_mixed" (defScope s__law_mixed) f cdv A outer s H E) (E := E) rfl rfl rfl rfl
  exact (dss_cons (g_set (by decide) sc__law_mixed.nd (g_callT call_list_of ok_list rfl T.n_list (gk_cons (dk_var (pv 1)) dks_nil)))
    (dss_cons (g_set (by decide) sc__law_mixed.nd (dl_lst das_nil))
    (dss_cons (ds_while 1000 (passes_of rfl) (gt_cmp (op_neA hr.units) ok_ne (dk_var (pv 2)) (de_K (de_S (dl_lst das_nil)))) (dss_cons (g_expr (g_append (g_pop1 (de_S (g_call ((at__law_off T).mono (by decide)) hr tk (gk_cons (dk_var (pv 0)) (gk_cons (de_K (de_S (g_callB cr_lenA ok_len rfl T.n_len (gk_cons (dk_var (pv 2)) dks_nil)))) dks_nil)))) (pv 2)) (pv 3)))
    dss_nil))
    (dss_cons (ds_ret (dl_move (pv 3)))
    dss_nil))))
theorem at__law_mixed {P : Program} {w : World} {K : PySem.W.Frag} {mg : Str → Option Value} {base : Heap} {C : Cl} (T : Tx P w K mg base C) : FnAt P w K mg base 2 "_law_mixed" (fn__law_mixed C) := fn_at T.f__law_mixed sc__law_mixed (by decide) (b__law_mixed T)
theorem sc__law_box : FnScope ["_law_d", "_law_word", "_law_late"] ["_law_d"] (defScope s__law_box) := ⟨rfl, rfl, rfl, by decide +kernel, rfl, by decide +kernel, by decide +kernel⟩
theorem b__law_box {P : Program} {w : World} {K : PySem.W.Frag} {mg : Str → Option Value} {base : Heap} {C : Cl} (T : Tx P w K mg base C) : BodyOk P w K mg base ["_law_d", "_law_word", "_law_late"] "_law_box" s__law_box 1 [0] (F__law_box C) := by
  intro f cdv A outer s H E hr
  have tk := L2N.takes_of (X := cxOf (L2N.CX P w) P w K mg base ["_law_d", "_law_word", "_law_late"] "_law_box" (defScope s__law_box) f cdv A outer s H E) (E := E) rfl rfl rfl rfl
  exact (dss_cons (g_set (by decide) sc__law_box.nd (de_L (de_S (g_ix ix_seq ok_ix (de_K (de_S (dl_lst (ga_cons de_str (ga_cons de_str (ga_cons de_str (ga_cons de_str (ga_cons de_str das_nil)))))))) (de_K (de_S (g_call ((at__law_off T).mono (by decide)) hr tk (gk_cons (dk_var (pv 0)) (gk_cons (de_K de_int) dks_nil)))))))))
    (dss_cons (g_set (by decide) sc__law_box.nd (de_L (de_S (g_ix ix_seq ok_ix (de_K (de_S (dl_lst (ga_cons (de_S (g_call ((at__law_off T).mono (by decide)) hr tk (gk_cons (dk_var (pv 0)) (gk_cons (de_K de_int) dks_nil)))) (ga_cons (de_S (g_call ((at__law_off T).mono (by decide)) hr tk (gk_cons (dk_var (pv 0)) (gk_cons (de_K de_int) dks_nil)))) das_nil))))) (de_K (de_S (g_call ((at__law_off T).mono (by decide)) hr tk (gk_cons (dk_var (pv 0)) (gk_cons (de_K de_int) dks_nil)))))))))
    (dss_cons (ds_if (gt_cmp (op_eqA hr.units) ok_eq (dk_var (pv 1)) (de_K de_str)) (dss_cons (ds_ret (de_L (de_tup (ga_cons (de_var (pv 1)) (ga_cons (de_S (dl_op op_sub ok_sub (de_K (de_S (g_call ((at__law_off T).mono (by decide)) hr tk (gk_cons (dk_var (pv 0)) (gk_cons (de_K de_int) dks_nil))))) (de_K de_int))) (ga_cons (de_var (pv 2)) das_nil))))))
    dss_nil) dss_nil)
    (dss_cons (ds_if (gt_cmp (op_eqA hr.units) ok_eq (dk_var (pv 1)) (de_K de_str)) (dss_cons (ds_ret (de_L (de_tup (ga_cons (de_var (pv 1)) (ga_cons (de_S (dl_op op_addA ok_add (de_K de_int) (de_K (de_S (g_call ((at__law_off T).mono (by decide)) hr tk (gk_cons (dk_var (pv 0)) (gk_cons (de_K de_int) dks_nil))))))) (ga_cons (de_var (pv 2)) das_nil))))))
    dss_nil) dss_nil)
    (dss_cons (ds_ret (de_L (de_tup (ga_cons (de_var (pv 1)) (ga_cons (de_var (pv 2)) das_nil)))))
    dss_nil)))))
theorem at__law_box {P : Program} {w : World} {K : PySem.W.Frag} {mg : Str → Option Value} {base : Heap} {C : Cl} (T : Tx P w K mg base C) : FnAt P w K mg base 2 "_law_box" (fn__law_box C) := fn_at T.f__law_box sc__law_box (by decide) (b__law_box T)
theorem sc__law_hold : FnScope ["_law_d"] ["_law_d"] (defScope s__law_hold) := ⟨rfl, rfl, rfl, by decide +kernel, rfl, by decide +kernel, by decide +kernel⟩
theorem b__law_hold {P : Program} {w : World} {K : PySem.W.Frag} {mg : Str → Option Value} {base : Heap} {C : Cl} (T : Tx P w K mg base C) : BodyOk P w K mg base ["_law_d"] "_law_hold" s__law_hold 1 [0] (F__law_hold C) := by
  intro f cdv A outer s H E hr
  have tk := L2N.takes_of (X := cxOf (L2N.CX P w) P w K mg base ["_law_d"] "_law_hold" (defScope s__law_hold) f cdv A outer s H E) (E := E) rfl rfl rfl rfl
  exact (dss_cons (ds_ret (g_ix ix_seq ok_ix (de_K (de_S (dl_lst (ga_cons de_int (ga_cons de_int (ga_cons de_int (ga_cons de_int (ga_cons (de_S (g_call ((at__law_off T).mono (by decide)) hr tk (gk_cons (dk_var (pv 0)) (gk_cons (de_K de_int) dks_nil)))) (ga_cons (de_S (g_call ((at__law_off T).mono (by decide)) hr tk (gk_cons (dk_var (pv 0)) (gk_cons (de_K de_int) dks_nil)))) das_nil))))))))) (de_K (de_S (g_call ((at__law_off T).mono (by decide)) hr tk (gk_cons (dk_var (pv 0)) (gk_cons (de_K de_int) dks_nil)))))))
    dss_nil)
theorem at__law_hold {P : Program} {w : World} {K : PySem.W.Frag} {mg : Str → Option Value} {base : Heap} {C : Cl} (T : Tx P w K mg base C) : FnAt P w K mg base 2 "_law_hold" (fn__law_hold C) := fn_at T.f__law_hold sc__law_hold (by decide) (b__law_hold T)
theorem sc__law_names : FnScope ["_law_d", "_law_turn", "_law_signs", "_law_third"] ["_law_d"] (defScope s__law_names) := ⟨rfl, rfl, rfl, by decide +kernel, rfl, by decide +kernel, by decide +kernel⟩
theorem b__law_names {P : Program} {w : World} {K : PySem.W.Frag} {mg : Str → Option Value} {base : Heap} {C : Cl} (T : Tx P w K mg base C) : BodyOk P w K mg base ["_law_d", "_law_turn", "_law_signs", "_law_third"] "_law_names" s__law_names 1 [0] (F__law_names C) := by
  intro f cdv A outer s H E hr
  have tk := L2N.takes_of (X := cxOf (L2N.CX P w) P w K mg base ["_law_d", "_law_turn", "_law_signs", "_law_third"] "_law_names" (defScope s__law_names) f cdv A outer s H E) (E := E) rfl rfl rfl rfl
  exact (dss_cons (g_set (by decide) sc__law_names.nd (de_L (de_S (g_call ((at__law_off T).mono (by decide)) hr tk (gk_cons (dk_var (pv 0)) (gk_cons (de_K de_int) dks_nil))))))
    (dss_cons (g_set (by decide) sc__law_names.nd (de_L de_str))
    (dss_cons (g_set (by decide) sc__law_names.nd (de_L (de_S (dl_op op_addA ok_add (de_K (de_S (dl_slice (dk_var (pv 2)) (do_some (de_var (pv 1))) do_none))) (de_K (de_S (dl_slice (dk_var (pv 2)) do_none (do_some (de_var (pv 1))))))))))
    (dss_cons (g_set (by decide) sc__law_names.nd (de_L (de_S (dl_op op_mulA ok_mul (de_K (de_S (g_ix ix_seq ok_ix (dk_var (pv 2)) (de_K de_int)))) (de_K (de_S (dl_op op_addA ok_add (de_K de_int) (de_K (de_S (g_call ((at__law_off T).mono (by decide)) hr tk (gk_cons (dk_var (pv 0)) (gk_cons (de_K de_int) dks_nil))))))))))))
    (dss_cons (ds_ret (dl_lst (ga_cons (de_S (g_ix ix_seq ok_ix (dk_var (pv 2)) (de_K de_int))) (ga_cons (de_S (g_ix ix_seq ok_ix (de_K (de_S (dl_lst (ga_cons (de_S (dl_op op_addA ok_add (de_K (de_S (g_ix ix_seq ok_ix (dk_var (pv 2)) (de_K de_int)))) (de_K (de_S (g_ix ix_seq ok_ix (dk_var (pv 2)) (de_K de_int)))))) (ga_cons (de_S (dl_op op_addA ok_add (de_K (de_S (g_ix ix_seq ok_ix (dk_var (pv 2)) (de_K de_int)))) (de_K (de_S (g_ix ix_seq ok_ix (dk_var (pv 2)) (de_K de_int)))))) das_nil))))) (de_K (de_S (g_call ((at__law_off T).mono (by decide)) hr tk (gk_cons (dk_var (pv 0)) (gk_cons (de_K de_int) dks_nil))))))) (ga_cons (de_var (pv 3)) (ga_cons (de_S (dl_op op_addA ok_add (dk_var (pv 3)) (de_K (de_S (g_ix ix_seq ok_ix (dk_var (pv 2)) (de_K (de_S (g_call ((at__law_off T).mono (by decide)) hr tk (gk_cons (dk_var (pv 0)) (gk_cons (de_K de_int) dks_nil)))))))))) das_nil))))))
    dss_nil)))))
theorem at__law_names {P : Program} {w : World} {K : PySem.W.Frag} {mg : Str → Option Value} {base : Heap} {C : Cl} (T : Tx P w K mg base C) : FnAt P w K mg base 2 "_law_names" (fn__law_names C) := fn_at T.f__law_names sc__law_names (by decide) (b__law_names T)
theorem sc__law_rows : FnScope ["_law_d", "_law_many", "_law_names_here", "_law_ins", "_law_mid_here", "_law_boxes", "_law_last", "_law_cables", "_law_at", "_law_k", "_law_cable"] ["_law_d", "_law_many"] (defScope s__law_rows) := ⟨rfl, rfl, rfl, by decide +kernel, rfl, by decide +kernel, by decide +kernel⟩
theorem b__law_rows {P : Program} {w : World} {K : PySem.W.Frag} {mg : Str → Option Value} {base : Heap} {C : Cl} (T : Tx P w K mg base C) : BodyOk P w K mg base ["_law_d", "_law_many", "_law_names_here", "_law_ins", "_law_mid_here", "_law_boxes", "_law_last", "_law_cables", "_law_at", "_law_k", "_law_cable"] "_law_rows" s__law_rows 2 [0] (F__law_rows C) := by
  intro f cdv A outer s H E hr
  have tk := L2N.takes_of (X := cxOf (L2N.CX P w) P w K mg base ["_law_d", "_law_many", "_law_names_here", "_law_ins", "_law_mid_here", "_law_boxes", "_law_last", "_law_cables", "_law_at", "_law_k", "_law_cable"] "_law_rows" (defScope s__law_rows) f cdv A outer s H E) (E := E) rfl rfl rfl rfl
  exact (dss_cons (g_set (by decide) sc__law_rows.nd (de_L (de_S (g_call ((at__law_names T).mono (by decide)) hr tk (gk_cons (dk_var (pv 0)) dks_nil)))))
    (dss_cons (g_set (by decide) sc__law_rows.nd (de_L (de_S (dl_op op_addA ok_add (de_K de_int) (de_K (de_S (g_call ((at__law_off T).mono (by decide)) hr tk (gk_cons (dk_var (pv 0)) (gk_cons (de_K de_int) dks_nil)))))))))
    (dss_cons (g_set (by decide) sc__law_rows.nd (de_L (de_S (dl_op op_addA ok_add (de_K de_int) (de_K (de_S (g_call ((at__law_off T).mono (by decide)) hr tk (gk_cons (dk_var (pv 0)) (gk_cons (dk_var (pv 1)) dks_nil)))))))))
    (dss_cons (g_set (by decide) sc__law_rows.nd (dl_op op_addA ok_add (de_K (de_S (dl_comp (own := [("_law_k", 9)]) (by decide) (by decide) rfl sc__law_rows.nd (gi_rng1 T.n_range (de_var (pv 3))) (blkOk_by rfl) (fun _ _ _ _ _ => (g_name (by decide) sc__law_rows.nd)) (fun _ _ _ _ _ => dts_nil) (fun _ _ _ _ _ => (de_tup (ga_cons de_str (ga_cons (de_S (g_ix ix_seq ok_ix (dk_var (pv 2)) (dk_var (pv 9)))) das_nil)))) (fun _ => rfl)))) (de_K (de_S (dl_comp (own := [("_law_k", 9)]) (by decide) (by decide) rfl sc__law_rows.nd (gi_rng1 T.n_range (de_var (pv 4))) (blkOk_by rfl) (fun _ _ _ _ _ => (g_name (by decide) sc__law_rows.nd)) (fun _ _ _ _ _ => dts_nil) (fun _ _ _ _ _ => (de_S (g_call ((at__law_box T).mono (by decide)) hr takesN (gk_cons (dk_var (pv 0)) dks_nil)))) (fun _ => rfl))))))
    (dss_cons (g_set (by decide) sc__law_rows.nd (de_L (de_S (dl_op op_sub ok_sub (de_K (de_S (g_callB cr_lenA ok_len rfl T.n_len (gk_cons (dk_var (pv 5)) dks_nil)))) (de_K de_int)))))
    (dss_cons (g_set (by decide) sc__law_rows.nd (dl_lst das_nil))
    (dss_cons (g_for (passes_of rfl) (gi_rng2 T.n_range (de_var (pv 3)) (de_S (g_callB cr_lenA ok_len rfl T.n_len (gk_cons (dk_var (pv 5)) dks_nil)))) (g_name (by decide) sc__law_rows.nd) (dss_cons (g_for (passes_of rfl) (gi_rng1 T.n_range (de_S (dl_op op_addA ok_add (de_K de_int) (de_K (de_S (dl_op op_mulA ok_mul (de_K (de_S (g_call ((at__law_off T).mono (by decide)) hr tk (gk_cons (dk_var (pv 0)) (gk_cons (de_K de_int) dks_nil))))) (de_K (de_S (g_callT cr_intA ok_intA rfl T.n_int (gk_cons (de_K (ge_cmp op_lt (ok_cmp _) (de_K (de_S (g_callB cr_lenA ok_len rfl T.n_len (gk_cons (dk_var (pv 7)) dks_nil)))) (de_K de_int))) dks_nil)))))))))) (g_name (by decide) sc__law_rows.nd) (dss_cons (g_expr (g_append (de_tup (ga_cons (de_S (g_call ((at__law_off T).mono (by decide)) hr tk (gk_cons (dk_var (pv 0)) (gk_cons (dk_var (pv 8)) dks_nil)))) (ga_cons (de_var (pv 8)) (ga_cons (de_S (g_call ((at__law_hold T).mono (by decide)) hr tk (gk_cons (dk_var (pv 0)) dks_nil))) das_nil)))) (pv 7)))
    dss_nil))
    dss_nil))
    (dss_cons (g_for (passes_of rfl) (gi_rng1 T.n_range (de_var (pv 6))) (g_name (by decide) sc__law_rows.nd) (dss_cons (ds_if (gt_cmp (op_eqA hr.units) ok_eq (de_K (de_S (dl_compO (own := [("_law_cable", 10)]) (by decide) (by decide) rfl sc__law_rows.nd (pv 7) (blkOk_by rfl) (fun _ _ _ _ _ => (g_name (by decide) sc__law_rows.nd)) (fun _ _ _ _ _ => (pts_one (gt_cmp (op_eqA hr.units) ok_eq (de_K (de_S (g_ix ix_seq ok_ix (dk_var (pv 10)) (de_K de_int)))) (dk_var (pv 8))))) (fun _ _ _ _ _ => (de_var (pv 10)))))) (de_K (de_S (dl_lst das_nil)))) (dss_cons (g_expr (g_append (de_tup (ga_cons (de_var (pv 8)) (ga_cons (de_var (pv 6)) (ga_cons (de_S (g_call ((at__law_hold T).mono (by decide)) hr tk (gk_cons (dk_var (pv 0)) dks_nil))) das_nil)))) (pv 7)))
    dss_nil) dss_nil)
    dss_nil))
    (dss_cons (g_for (passes_of rfl) (gi_rng1 T.n_range (de_S (g_call ((at__law_off T).mono (by decide)) hr tk (gk_cons (dk_var (pv 0)) (gk_cons (de_K de_int) dks_nil))))) (g_name (by decide) sc__law_rows.nd) (dss_cons (g_set (by decide) sc__law_rows.nd (de_L (de_S (dl_op op_addA ok_add (dk_var (pv 3)) (de_K (de_S (g_call ((at__law_off T).mono (by decide)) hr tk (gk_cons (dk_var (pv 0)) (gk_cons (dk_var (pv 4)) dks_nil)))))))))
    (dss_cons (g_expr (g_append (de_tup (ga_cons (de_var (pv 8)) (ga_cons (de_S (dl_op op_addA ok_add (dk_var (pv 3)) (de_K (de_S (g_call ((at__law_off T).mono (by decide)) hr tk (gk_cons (dk_var (pv 0)) (gk_cons (de_K (de_S (dl_op op_addA ok_add (de_K (de_S (dl_op op_sub ok_sub (dk_var (pv 8)) (dk_var (pv 3))))) (de_K de_int)))) dks_nil))))))) (ga_cons (de_S (dl_op op_addA ok_add (de_K de_int) (de_K (de_S (g_call ((at__law_off T).mono (by decide)) hr tk (gk_cons (dk_var (pv 0)) (gk_cons (de_K (de_S (g_ix ix_seq ok_ix (de_K (de_S (dl_lst (ga_cons de_int (ga_cons de_int das_nil))))) (de_K (de_S (g_call ((at__law_off T).mono (by decide)) hr tk (gk_cons (dk_var (pv 0)) (gk_cons (de_K de_int) dks_nil)))))))) dks_nil))))))) das_nil)))) (pv 7)))
    dss_nil)))
    (dss_cons (g_for (passes_of rfl) (gi_rng1 T.n_range (de_S (dl_op op_addA ok_add (de_K de_int) (de_K (de_S (g_call ((at__law_off T).mono (by decide)) hr tk (gk_cons (dk_var (pv 0)) (gk_cons (de_K de_int) dks_nil)))))))) (g_name (by decide) sc__law_rows.nd) (dss_cons (g_expr (g_append (de_tup (ga_cons de_str (ga_cons (de_S (g_ix ix_seq ok_ix (dk_var (pv 2)) (de_K (de_S (dl_op op_addA ok_add (de_K de_int) (dk_var (pv 9))))))) das_nil))) (pv 5)))
    (dss_cons (g_expr (g_append (de_tup (ga_cons (de_S (g_ix ix_seq ok_ix (de_K (de_S (dl_lst (ga_cons (de_var (pv 6)) (ga_cons (de_S (g_call ((at__law_off T).mono (by decide)) hr tk (gk_cons (dk_var (pv 0)) (gk_cons (de_K (de_S (dl_op op_addA ok_add (dk_var (pv 6)) (de_K de_int)))) dks_nil)))) das_nil))))) (dk_var (pv 9)))) (ga_cons (de_S (dl_op op_sub ok_sub (de_K (de_S (g_callB cr_lenA ok_len rfl T.n_len (gk_cons (dk_var (pv 5)) dks_nil)))) (de_K de_int))) (ga_cons (de_S (g_call ((at__law_hold T).mono (by decide)) hr tk (gk_cons (dk_var (pv 0)) dks_nil))) das_nil)))) (pv 7)))
    dss_nil)))
    (dss_cons (ds_ret (de_L (de_tup (ga_cons (de_var (pv 5)) (ga_cons (de_var (pv 7)) das_nil)))))
    dss_nil)))))))))))
theorem at__law_rows {P : Program} {w : World} {K : PySem.W.Frag} {mg : Str → Option Value} {base : Heap} {C : Cl} (T : Tx P w K mg base C) : FnAt P w K mg base 3 "_law_rows" (fn__law_rows C) := fn_at T.f__law_rows sc__law_rows (by decide) (b__law_rows T)
theorem sc__law_more : FnScope ["_law_boxes", "_law_cables", "_law_number", "_law_way", "_law_turn", "_law_at", "_law_fresh", "_law_mid_here", "_law_name", "_law_one", "_law_other", "_law_hold_here", "_law_k"] ["_law_boxes", "_law_cables", "_law_number"] (defScope s__law_more) := ⟨rfl, rfl, rfl, by decide +kernel, rfl, by decide +kernel, by decide +kernel⟩
theorem b__law_more {P : Program} {w : World} {K : PySem.W.Frag} {mg : Str → Option Value} {base : Heap} {C : Cl} (T : Tx P w K mg base C) : BodyOk P w K mg base ["_law_boxes", "_law_cables", "_law_number", "_law_way", "_law_turn", "_law_at", "_law_fresh", "_law_mid_here", "_law_name", "_law_one", "_law_other", "_law_hold_here", "_law_k"] "_law_more" s__law_more 0 [] (F__law_more C) := by
  intro f cdv A outer s H E hr
  have tk := L2N.takes_of (X := cxOf (L2N.CX P w) P w K mg base ["_law_boxes", "_law_cables", "_law_number", "_law_way", "_law_turn", "_law_at", "_law_fresh", "_law_mid_here", "_law_name", "_law_one", "_law_other", "_law_hold_here", "_law_k"] "_law_more" (defScope s__law_more) f cdv A outer s H E) (E := E) rfl rfl rfl rfl
  exact (dss_cons (g_set (by decide) sc__law_more.nd (de_L (de_S (dl_op op_mod ok_mod (dk_var (pv 2)) (de_K de_int)))))
    (dss_cons (g_for (passes_of rfl) (gi_rng1 T.n_range (de_S (dl_op op_mulA ok_mul (de_K de_int) (de_K (de_S (g_callT cr_intA ok_intA rfl T.n_int (gk_cons (de_K (ge_cmp op_inA ok_in (dk_var (pv 3)) (de_K (de_tup (ga_cons de_int (ga_cons de_int das_nil)))))) dks_nil))))))) (g_name (by decide) sc__law_more.nd) (dss_cons (ds_if (PW.pt (dw_and (gt_cmp op_lt (ok_cmp _) (de_K (de_S (g_callB cr_lenA ok_len rfl T.n_len (gk_cons (dk_var (pv 0)) dks_nil)))) (de_K de_int)) (pw_and1 (gt_cmp op_lt (ok_cmp _) (de_K (de_S (g_callB cr_lenA ok_len rfl T.n_len (gk_cons (dk_var (pv 1)) dks_nil)))) (de_K de_int))))) (dss_cons (g_set (by decide) sc__law_more.nd (de_L (de_S (dl_op op_addA ok_add (de_K (de_S (dl_op op_fdiv ok_div (dk_var (pv 2)) (de_K de_int)))) (de_K (de_S (dl_op op_mulA ok_mul (de_K de_int) (dk_var (pv 4)))))))))
    (dss_cons (g_set (by decide) sc__law_more.nd (de_L (de_S (dl_op op_mod ok_mod (dk_var (pv 2)) (de_K (de_S (g_callB cr_lenA ok_len rfl T.n_len (gk_cons (dk_var (pv 1)) dks_nil))))))))
    (dss_cons (g_setT (gg_tup (gg_cons (g_name (by decide) sc__law_more.nd) (gg_cons (g_name (by decide) sc__law_more.nd) (gg_cons (g_name (by decide) sc__law_more.nd) dgs_nil)))) (de_S (g_ix ix_seq ok_ix (dk_var (pv 1)) (dk_var (pv 5)))))
    (dss_cons (g_set (by decide) sc__law_more.nd (de_L (de_S (g_callB cr_lenA ok_len rfl T.n_len (gk_cons (dk_var (pv 0)) dks_nil)))))
    (dss_cons (ds_setLc (own := [("_law_k", 12)]) (by decide) rfl rfl (sw_true rfl rfl rfl rfl) (by decide) (by decide) rfl sc__law_more.nd (gi_rng1 T.n_range (de_var (pv 6))) (blkOk_by rfl) (fun _ _ _ _ _ => (g_name (by decide) sc__law_more.nd)) (fun _ _ _ _ _ => (pts_one (gt_cmp op_notInA ok_notIn (de_K (de_S (g_ix ix_seq ok_ix (de_K (de_S (g_ix ix_seq ok_ix (dk_var (pv 0)) (dk_var (pv 12))))) (de_K de_int)))) (de_K (de_tup (ga_cons de_str (ga_cons de_str das_nil))))))) (fun _ _ _ _ _ => (de_var (pv 12))) (fun _ => rfl))
    (dss_cons (g_set (by decide) sc__law_more.nd (de_L (de_S (dl_op op_mulA ok_mul (de_K (de_S (g_ix ix_seq ok_ix (de_K de_str) (dk_var (pv 4))))) (de_K de_int)))))
    (dss_cons (ds_if (gt_cmp (op_eqA hr.units) ok_eq (dk_var (pv 3)) (de_K de_int)) (dss_cons (g_set (by decide) sc__law_more.nd (de_L (de_S (dl_op op_addA ok_add (dk_var (pv 0)) (de_K (de_S (dl_lst (ga_cons (de_S (g_ix ix_seq ok_ix (de_K (de_S (dl_lst (ga_cons (de_tup (ga_cons de_str (ga_cons (de_S (dl_op op_mod ok_mod (dk_var (pv 2)) (de_K de_int))) das_nil))) (ga_cons (de_tup (ga_cons de_str (ga_cons (de_S (dl_op op_mod ok_mod (dk_var (pv 2)) (de_K de_int))) das_nil))) das_nil))))) (de_K (de_S (dl_op op_mod ok_mod (dk_var (pv 2)) (de_K de_int)))))) das_nil))))))))
    (dss_cons (g_set (by decide) sc__law_more.nd (de_L (de_S (dl_op op_addA ok_add (de_K (de_S (dl_op op_addA ok_add (de_K (de_S (dl_slice (dk_var (pv 1)) do_none (do_some (de_var (pv 5)))))) (de_K (de_S (dl_lst (ga_cons (de_tup (ga_cons (de_var (pv 9)) (ga_cons (de_var (pv 6)) (ga_cons (de_var (pv 11)) das_nil)))) (ga_cons (de_tup (ga_cons (de_var (pv 6)) (ga_cons (de_var (pv 10)) (ga_cons de_int das_nil)))) das_nil)))))))) (de_K (de_S (dl_slice (dk_var (pv 1)) (do_some (de_S (dl_op op_addA ok_add (dk_var (pv 5)) (de_K de_int)))) do_none)))))))
    dss_nil)) (dss_cons (ds_if (gt_cmp (op_eqA hr.units) ok_eq (de_K (de_S (dl_op op_mod ok_mod (dk_var (pv 4)) (de_K de_int)))) (de_K de_int)) (dss_cons (g_set (by decide) sc__law_more.nd (de_L (de_S (dl_op op_addA ok_add (dk_var (pv 0)) (de_K (de_S (dl_lst (ga_cons (de_tup (ga_cons de_str (ga_cons (de_var (pv 8)) das_nil))) das_nil))))))))
    (dss_cons (g_set (by decide) sc__law_more.nd (de_L (de_S (dl_op op_addA ok_add (dk_var (pv 1)) (de_K (de_S (dl_lst (ga_cons (de_tup (ga_cons (de_var (pv 6)) (ga_cons (de_S (g_ix ix_seq ok_ix (dk_var (pv 7)) (de_K (de_S (dl_op op_mod ok_mod (dk_var (pv 2)) (de_K (de_S (g_callB cr_lenA ok_len rfl T.n_len (gk_cons (dk_var (pv 7)) dks_nil))))))))) (ga_cons (de_var (pv 11)) das_nil)))) das_nil))))))))
    dss_nil)) (dss_cons (g_set (by decide) sc__law_more.nd (de_L (de_S (dl_op op_addA ok_add (dk_var (pv 0)) (de_K (de_S (dl_lst (ga_cons (de_tup (ga_cons de_str (ga_cons (de_var (pv 8)) das_nil))) das_nil))))))))
    (dss_cons (g_set (by decide) sc__law_more.nd (de_L (de_S (dl_op op_addA ok_add (dk_var (pv 1)) (de_K (de_S (dl_lst (ga_cons (de_tup (ga_cons (de_S (g_ix ix_seq ok_ix (dk_var (pv 7)) (de_K (de_S (dl_op op_mod ok_mod (dk_var (pv 2)) (de_K (de_S (g_callB cr_lenA ok_len rfl T.n_len (gk_cons (dk_var (pv 7)) dks_nil))))))))) (ga_cons (de_var (pv 6)) (ga_cons de_int das_nil)))) das_nil))))))))
    dss_nil)))
    dss_nil))
    dss_nil))))))) dss_nil)
    dss_nil))
    (dss_cons (ds_ret (de_L (de_tup (ga_cons (de_var (pv 0)) (ga_cons (de_var (pv 1)) das_nil)))))
    dss_nil)))
theorem at__law_more {P : Program} {w : World} {K : PySem.W.Frag} {mg : Str → Option Value} {base : Heap} {C : Cl} (T : Tx P w K mg base C) : FnAt P w K mg base 1 "_law_more" (fn__law_more C) := fn_at T.f__law_more sc__law_more (by decide) (b__law_more T)
theorem sc__law_desk : FnScope ["_law_d", "_law_many", "_law_order", "_law_number", "_law_cables", "_law_boxes", "_law_at", "_law_one", "_law_other", "_law_hold_here"] ["_law_d", "_law_many"] (defScope s__law_desk) := ⟨rfl, rfl, rfl, by decide +kernel, rfl, by decide +kernel, by decide +kernel⟩
theorem b__law_desk {P : Program} {w : World} {K : PySem.W.Frag} {mg : Str → Option Value} {base : Heap} {C : Cl} (T : Tx P w K mg base C) : BodyOk P w K mg base ["_law_d", "_law_many", "_law_order", "_law_number", "_law_cables", "_law_boxes", "_law_at", "_law_one", "_law_other", "_law_hold_here"] "_law_desk" s__law_desk 3 [0] (F__law_desk C) := by
  intro f cdv A outer s H E hr
  have tk := L2N.takes_of (X := cxOf (L2N.CX P w) P w K mg base ["_law_d", "_law_many", "_law_order", "_law_number", "_law_cables", "_law_boxes", "_law_at", "_law_one", "_law_other", "_law_hold_here"] "_law_desk" (defScope s__law_desk) f cdv A outer s H E) (E := E) rfl rfl rfl rfl
  exact (dss_cons (g_setT (gg_tup (gg_cons (g_name (by decide) sc__law_desk.nd) (gg_cons (g_name (by decide) sc__law_desk.nd) dgs_nil))) (de_S (g_call ((at__law_rows T).mono (by decide)) hr tk (gk_cons (dk_var (pv 0)) (gk_cons (dk_var (pv 1)) dks_nil)))))
    (dss_cons (g_setT (gg_tup (gg_cons (g_name (by decide) sc__law_desk.nd) (gg_cons (g_name (by decide) sc__law_desk.nd) dgs_nil))) (de_S (g_call ((at__law_more T).mono (by decide)) hr tk (gk_cons (dk_var (pv 5)) (gk_cons (dk_var (pv 4)) (gk_cons (de_K (de_S (dl_op op_fdiv ok_div (de_K (de_S (g_ix ix_seq ok_ix (dk_var (pv 0)) (de_K de_int)))) (de_K de_int)))) dks_nil))))))
    (dss_cons (g_set (by decide) sc__law_desk.nd (de_L (de_S (g_call ((at__law_mixed T).mono (by decide)) hr tk (gk_cons (dk_var (pv 0)) (gk_cons (de_K (de_S (g_listRg T.n_list T.n_range (de_S (g_callB cr_lenA ok_len rfl T.n_len (gk_cons (dk_var (pv 5)) dks_nil)))))) dks_nil))))))
    (dss_cons (g_set (by decide) sc__law_desk.nd (de_L (de_S (dl_comp (own := [("_law_at", 6)]) (by decide) (by decide) rfl sc__law_desk.nd (gi_rng1 T.n_range (de_S (g_callB cr_lenA ok_len rfl T.n_len (gk_cons (dk_var (pv 5)) dks_nil)))) (blkOk_by rfl) (fun _ _ _ _ _ => (g_name (by decide) sc__law_desk.nd)) (fun _ _ _ _ _ => dts_nil) (fun _ _ _ _ _ => (de_S (g_index (dk_var (pv 2)) (gk_cons (dk_var (pv 6)) dks_nil)))) (fun _ => rfl)))))
    (dss_cons (ds_setLc (own := [("_law_one", 7), ("_law_other", 8), ("_law_hold_here", 9)]) (by decide) rfl rfl (sw_true rfl rfl rfl rfl) (by decide) (by decide) rfl sc__law_desk.nd (di_seq (de_var (pv 4))) (blkOk_by rfl) (fun _ _ _ _ _ => (gg_tup (gg_cons (g_name (by decide) sc__law_desk.nd) (gg_cons (g_name (by decide) sc__law_desk.nd) (gg_cons (g_name (by decide) sc__law_desk.nd) dgs_nil))))) (fun _ _ _ _ _ => dts_nil) (fun _ _ _ _ _ => (de_tup (ga_cons (de_S (g_ix ix_seq ok_ix (dk_var (pv 3)) (dk_var (pv 7)))) (ga_cons (de_S (g_ix ix_seq ok_ix (dk_var (pv 3)) (dk_var (pv 8)))) (ga_cons (de_var (pv 9)) das_nil))))) (fun _ => rfl))
    (dss_cons (ds_ret (de_L (de_tup (ga_cons (de_S (dl_comp (own := [("_law_at", 6)]) (by decide) (by decide) rfl sc__law_desk.nd (di_seq (de_var (pv 2))) (blkOk_by rfl) (fun _ _ _ _ _ => (g_name (by decide) sc__law_desk.nd)) (fun _ _ _ _ _ => dts_nil) (fun _ _ _ _ _ => (de_S (g_ix ix_seq ok_ix (dk_var (pv 5)) (dk_var (pv 6))))) (fun _ => rfl))) (ga_cons (de_S (g_call ((at__law_mixed T).mono (by decide)) hr tk (gk_cons (dk_var (pv 0)) (gk_cons (dk_var (pv 4)) dks_nil)))) das_nil)))))
    dss_nil))))))
theorem at__law_desk {P : Program} {w : World} {K : PySem.W.Frag} {mg : Str → Option Value} {base : Heap} {C : Cl} (T : Tx P w K mg base C) : FnAt P w K mg base 4 "_law_desk" (fn__law_desk C) := fn_at T.f__law_desk sc__law_desk (by decide) (b__law_desk T)
theorem sc__law_ends : FnScope ["_law_t", "_law_word", "_law_at"] ["_law_t", "_law_word"] (defScope s__law_ends) := ⟨rfl, rfl, rfl, by decide +kernel, rfl, by decide +kernel, by decide +kernel⟩
theorem b__law_ends {P : Program} {w : World} {K : PySem.W.Frag} {mg : Str → Option Value} {base : Heap} {C : Cl} (T : Tx P w K mg base C) : BodyOk P w K mg base ["_law_t", "_law_word", "_law_at"] "_law_ends" s__law_ends 0 [] (F__law_ends C) := by
  intro f cdv A outer s H E hr
  have tk := L2N.takes_of (X := cxOf (L2N.CX P w) P w K mg base ["_law_t", "_law_word", "_law_at"] "_law_ends" (defScope s__law_ends) f cdv A outer s H E) (E := E) rfl rfl rfl rfl
  exact (dss_cons (ds_ret (dl_comp (own := [("_law_at", 2)]) (by decide) (by decide) rfl sc__law_ends.nd (gi_rng1 T.n_range (de_S (g_callB cr_lenA ok_len rfl T.n_len (gk_cons (de_K (de_S (g_ix ix_seq ok_ix (dk_var (pv 0)) (de_K de_int)))) dks_nil)))) (blkOk_by rfl) (fun _ _ _ _ _ => (g_name (by decide) sc__law_ends.nd)) (fun _ _ _ _ _ => (pts_one (gt_cmp (op_eqA hr.units) ok_eq (de_K (de_S (g_ix ix_seq ok_ix (de_K (de_S (g_ix ix_seq ok_ix (de_K (de_S (g_ix ix_seq ok_ix (dk_var (pv 0)) (de_K de_int)))) (dk_var (pv 2))))) (de_K de_int)))) (dk_var (pv 1))))) (fun _ _ _ _ _ => (de_var (pv 2))) (fun _ => rfl)))
    dss_nil)
theorem at__law_ends {P : Program} {w : World} {K : PySem.W.Frag} {mg : Str → Option Value} {base : Heap} {C : Cl} (T : Tx P w K mg base C) : FnAt P w K mg base 1 "_law_ends" (fn__law_ends C) := fn_at T.f__law_ends sc__law_ends (by decide) (b__law_ends T)
theorem sc__law_is : FnScope ["_law_e", "_law_word", "_law_kinds", "_law_words", "_law_one"] ["_law_e", "_law_word"] (defScope s__law_is) := ⟨rfl, rfl, rfl, by decide +kernel, rfl, by decide +kernel, by decide +kernel⟩
theorem ati__law_is {P : Program} {w : World} {K : PySem.W.Frag} {mg : Str → Option Value} {base : Heap} {C : Cl} (T : Tx P w K mg base C) : FnAtI P w K mg base 1 "_law_is" (exs C) (fun x => mkRun 2 5 [] (F__law_is C x)) := by
  refine fn_atI (k := 0) T.f__law_is sc__law_is rfl ?_
  intro f cdv A outer s H E p d x hin hd hot hz hr
  have tk := L2N.takes_of (X := L2H.cxH (L2N.CX P w) P w K mg base ["_law_e", "_law_word", "_law_kinds", "_law_words", "_law_one"] "_law_is" (defScope s__law_is) f cdv A outer s H E p) (E := E) rfl rfl rfl rfl
  have hx : Hx (L2H.cxH (L2N.CX P w) P w K mg base ["_law_e", "_law_word", "_law_kinds", "_law_words", "_law_one"] "_law_is" (defScope s__law_is) f cdv A outer s H E p) p (.ref x.C) d := ⟨⟨hot.1, hot.2⟩, List.mem_singleton.mpr rfl, hz⟩
  exact (dss_cons (g_set (by show (2 : Nat) ∉ [0]; decide) sc__law_is.nd (de_L (de_S (dl_lst (ga_cons (de_isE (T.excc _ hin) hx rfl hd (pv 0) T.g_BadDesk (T.kit _ hin _ (by simp [exs])) T.n_isinstance) (ga_cons (de_isE (T.excc _ hin) hx rfl hd (pv 0) T.g_TooLate (T.kit _ hin _ (by simp [exs])) T.n_isinstance) (ga_cons (de_isE (T.excc _ hin) hx rfl hd (pv 0) T.g_BadDelays (T.kit _ hin _ (by simp [exs])) T.n_isinstance) (ga_cons (de_isE (T.excc _ hin) hx rfl hd (pv 0) T.g_BadStreams (T.kit _ hin _ (by simp [exs])) T.n_isinstance) das_nil))))))))
    (dss_cons (g_set (by show (2 : Nat) ∉ [0]; decide) sc__law_is.nd (de_L (de_S (dl_op op_addA ok_add (dk_var (pv 2)) (de_K (de_S (dl_lst (ga_cons (de_isE (T.excc _ hin) hx rfl hd (pv 0) T.g_BadChange (T.kit _ hin _ (by simp [exs])) T.n_isinstance) (ga_cons (de_isE (T.excc _ hin) hx rfl hd (pv 0) T.g_BadText (T.kit _ hin _ (by simp [exs])) T.n_isinstance) das_nil)))))))))
    (dss_cons (g_set (by show (3 : Nat) ∉ [0]; decide) sc__law_is.nd (de_L (de_S (dl_lst (ga_cons de_str (ga_cons de_str (ga_cons de_str (ga_cons de_str (ga_cons de_str (ga_cons de_str das_nil))))))))))
    (dss_cons (ds_ret (de_L (de_and (de_isV (T.excc _ hin) hx rfl hd (pv 0) T.n_ValueError (T.kiv _ hin) T.n_isinstance) (pe_one (ge_cmp (op_eqA (unitsH hr)) ok_eq (dk_var (pv 2)) (de_K (de_S (dl_compH (own := [("_law_one", 4)]) (by decide) (by show ∀ i ∈ [4], i ∉ [0]; decide) (Hx.c hx) sc__law_is.nd (di_listH (de_var (pv 3))) (blkOk_by rfl) (fun _ _ _ _ _ => (g_name (by show (4 : Nat) ∉ [0]; decide) sc__law_is.nd)) (fun _ _ _ _ _ => dts_nil) (fun _ _ _ _ _ => (ge_cmp (op_eqA (unitsH hr)) ok_eq (dk_var (pv 1)) (dk_var (pv 4))))))))))))
    dss_nil))))
theorem sc__law_bad_box : FnScope ["_law_d", "_law_t", "_law_far", "_law_name", "_law_some", "_law_box_here"] ["_law_d", "_law_t"] (defScope s__law_bad_box) := ⟨rfl, rfl, rfl, by decide +kernel, rfl, by decide +kernel, by decide +kernel⟩
theorem b__law_bad_box {P : Program} {w : World} {K : PySem.W.Frag} {mg : Str → Option Value} {base : Heap} {C : Cl} (T : Tx P w K mg base C) : BodyOk P w K mg base ["_law_d", "_law_t", "_law_far", "_law_name", "_law_some", "_law_box_here"] "_law_bad_box" s__law_bad_box 1 [0] (F__law_bad_box C) := by
  intro f cdv A outer s H E hr
  have tk := L2N.takes_of (X := cxOf (L2N.CX P w) P w K mg base ["_law_d", "_law_t", "_law_far", "_law_name", "_law_some", "_law_box_here"] "_law_bad_box" (defScope s__law_bad_box) f cdv A outer s H E) (E := E) rfl rfl rfl rfl
  exact (dss_cons (g_set (by decide) sc__law_bad_box.nd (de_L (de_S (dl_op op_addA ok_add (de_K de_int) (de_K (de_S (g_call ((at__law_off T).mono (by decide)) hr tk (gk_cons (dk_var (pv 0)) (gk_cons (de_K (de_S (g_ix ix_seq ok_ix (de_K (de_S (dl_lst (ga_cons de_int (ga_cons (de_S (dl_op op_pow ok_pow (de_K de_int) (de_K de_int))) das_nil))))) (de_K (de_S (g_call ((at__law_off T).mono (by decide)) hr tk (gk_cons (dk_var (pv 0)) (gk_cons (de_K de_int) dks_nil)))))))) dks_nil)))))))))
    (dss_cons (g_set (by decide) sc__law_bad_box.nd (de_L (de_S (g_ix ix_seq ok_ix (de_K (de_S (dl_comp (own := [("_law_box_here", 5)]) (by decide) (by decide) rfl sc__law_bad_box.nd (di_seq (de_S (g_ix ix_seq ok_ix (dk_var (pv 1)) (de_K de_int)))) (blkOk_by rfl) (fun _ _ _ _ _ => (g_name (by decide) sc__law_bad_box.nd)) (fun _ _ _ _ _ => (pts_one (gt_cmp (op_eqA hr.units) ok_eq (de_K (de_S (g_ix ix_seq ok_ix (dk_var (pv 5)) (de_K de_int)))) (de_K de_str)))) (fun _ _ _ _ _ => (de_S (g_ix ix_seq ok_ix (dk_var (pv 5)) (de_K de_int)))) (fun _ => rfl)))) (de_K de_int)))))
    (dss_cons (g_set (by decide) sc__law_bad_box.nd (de_L (de_S (dl_lst (ga_cons (de_tup (ga_cons de_str (ga_cons (de_var (pv 3)) das_nil))) (ga_cons (de_tup (ga_cons de_str (ga_cons (de_var (pv 3)) das_nil))) (ga_cons (de_tup (ga_cons de_str (ga_cons de_str das_nil))) (ga_cons (de_tup (ga_cons de_str (ga_cons de_str das_nil))) (ga_cons (de_tup (ga_cons de_str (ga_cons de_str das_nil))) (ga_cons (de_tup (ga_cons de_str (ga_cons de_str das_nil))) (ga_cons (de_tup (ga_cons de_str das_nil)) das_nil)))))))))))
    (dss_cons (g_set (by decide) sc__law_bad_box.nd (de_L (de_S (dl_op op_addA ok_add (dk_var (pv 4)) (de_K (de_S (dl_lst (ga_cons (de_tup (ga_cons de_str (ga_cons (de_S (dl_un un_neg ok_neg (de_K de_int))) das_nil))) (ga_cons (de_tup (ga_cons de_str (ga_cons (de_var (pv 2)) das_nil))) (ga_cons (de_tup (ga_cons de_str das_nil)) (ga_cons (de_tup (ga_cons de_str (ga_cons de_int das_nil))) (ga_cons (de_tup (ga_cons de_str (ga_cons (de_var (pv 2)) (ga_cons de_int das_nil)))) (ga_cons (de_tup (ga_cons de_str (ga_cons (de_S (dl_op op_sub ok_sub (de_K de_int) (dk_var (pv 2)))) (ga_cons de_int das_nil)))) das_nil)))))))))))))
    (dss_cons (g_set (by decide) sc__law_bad_box.nd (de_L (de_S (dl_op op_addA ok_add (dk_var (pv 4)) (de_K (de_S (dl_lst (ga_cons (de_tup (ga_cons de_str (ga_cons de_int (ga_cons de_int das_nil)))) (ga_cons (de_tup (ga_cons de_str (ga_cons (de_var (pv 2)) (ga_cons de_int das_nil)))) (ga_cons (de_tup (ga_cons de_str (ga_cons de_int (ga_cons (de_var (pv 2)) das_nil)))) (ga_cons (de_tup (ga_cons de_str (ga_cons de_int (ga_cons (de_S (dl_un un_neg ok_neg (de_K de_int))) das_nil)))) (ga_cons (de_tup (ga_cons de_str (ga_cons de_int das_nil))) (ga_cons (de_tup (ga_cons de_str (ga_cons de_int (ga_cons de_int das_nil)))) (ga_cons (de_tup das_nil) das_nil))))))))))))))
    (dss_cons (ds_ret (g_ix ix_seq ok_ix (dk_var (pv 4)) (de_K (de_S (g_call ((at__law_off T).mono (by decide)) hr tk (gk_cons (dk_var (pv 0)) (gk_cons (de_K de_int) dks_nil)))))))
    dss_nil))))))
theorem at__law_bad_box {P : Program} {w : World} {K : PySem.W.Frag} {mg : Str → Option Value} {base : Heap} {C : Cl} (T : Tx P w K mg base C) : FnAt P w K mg base 2 "_law_bad_box" (fn__law_bad_box C) := fn_at T.f__law_bad_box sc__law_bad_box (by decide) (b__law_bad_box T)
theorem sc__law_mid : FnScope ["_law_t", "_law_at"] ["_law_t"] (defScope s__law_mid) := ⟨rfl, rfl, rfl, by decide +kernel, rfl, by decide +kernel, by decide +kernel⟩
theorem b__law_mid {P : Program} {w : World} {K : PySem.W.Frag} {mg : Str → Option Value} {base : Heap} {C : Cl} (T : Tx P w K mg base C) : BodyOk P w K mg base ["_law_t", "_law_at"] "_law_mid" s__law_mid 0 [] (F__law_mid C) := by
  intro f cdv A outer s H E hr
  have tk := L2N.takes_of (X := cxOf (L2N.CX P w) P w K mg base ["_law_t", "_law_at"] "_law_mid" (defScope s__law_mid) f cdv A outer s H E) (E := E) rfl rfl rfl rfl
  exact (dss_cons (ds_ret (dl_comp (own := [("_law_at", 1)]) (by decide) (by decide) rfl sc__law_mid.nd (gi_rng1 T.n_range (de_S (g_callB cr_lenA ok_len rfl T.n_len (gk_cons (de_K (de_S (g_ix ix_seq ok_ix (dk_var (pv 0)) (de_K de_int)))) dks_nil)))) (blkOk_by rfl) (fun _ _ _ _ _ => (g_name (by decide) sc__law_mid.nd)) (fun _ _ _ _ _ => (pts_one (gt_cmp op_notInA ok_notIn (de_K (de_S (g_ix ix_seq ok_ix (de_K (de_S (g_ix ix_seq ok_ix (de_K (de_S (g_ix ix_seq ok_ix (dk_var (pv 0)) (de_K de_int)))) (dk_var (pv 1))))) (de_K de_int)))) (de_K (de_tup (ga_cons de_str (ga_cons de_str das_nil))))))) (fun _ _ _ _ _ => (de_var (pv 1))) (fun _ => rfl)))
    dss_nil)
theorem at__law_mid {P : Program} {w : World} {K : PySem.W.Frag} {mg : Str → Option Value} {base : Heap} {C : Cl} (T : Tx P w K mg base C) : FnAt P w K mg base 1 "_law_mid" (fn__law_mid C) := fn_at T.f__law_mid sc__law_mid (by decide) (b__law_mid T)
theorem sc__law_apart : FnScope ["_law_d", "_law_t", "_law_many", "_law_mid_here", "_law_one", "_law_more_here", "_law_ring_here", "_law_boxes", "_law_cables"] ["_law_d", "_law_t"] (defScope s__law_apart) := ⟨rfl, rfl, rfl, by decide +kernel, rfl, by decide +kernel, by decide +kernel⟩
theorem b__law_apart {P : Program} {w : World} {K : PySem.W.Frag} {mg : Str → Option Value} {base : Heap} {C : Cl} (T : Tx P w K mg base C) : BodyOk P w K mg base ["_law_d", "_law_t", "_law_many", "_law_mid_here", "_law_one", "_law_more_here", "_law_ring_here", "_law_boxes", "_law_cables"] "_law_apart" s__law_apart 1 [0] (F__law_apart C) := by
  intro f cdv A outer s H E hr
  have tk := L2N.takes_of (X := cxOf (L2N.CX P w) P w K mg base ["_law_d", "_law_t", "_law_many", "_law_mid_here", "_law_one", "_law_more_here", "_law_ring_here", "_law_boxes", "_law_cables"] "_law_apart" (defScope s__law_apart) f cdv A outer s H E) (E := E) rfl rfl rfl rfl
  exact (dss_cons (g_setT (gg_tup (gg_cons (g_name (by decide) sc__law_apart.nd) (gg_cons (g_name (by decide) sc__law_apart.nd) dgs_nil))) (de_var (pv 1)))
    (dss_cons (g_set (by decide) sc__law_apart.nd (de_L (de_S (g_callB cr_lenA ok_len rfl T.n_len (gk_cons (dk_var (pv 7)) dks_nil)))))
    (dss_cons (g_set (by decide) sc__law_apart.nd (de_L (de_S (g_call ((at__law_mid T).mono (by decide)) hr tk (gk_cons (dk_var (pv 1)) dks_nil)))))
    (dss_cons (g_set (by decide) sc__law_apart.nd (de_L (de_S (g_ix ix_seq ok_ix (dk_var (pv 3)) (de_K (de_S (g_call ((at__law_off T).mono (by decide)) hr tk (gk_cons (dk_var (pv 0)) (gk_cons (de_K (de_S (g_callB cr_lenA ok_len rfl T.n_len (gk_cons (dk_var (pv 3)) dks_nil)))) dks_nil)))))))))
    (dss_cons (g_set (by decide) sc__law_apart.nd (de_L (de_S (g_call ((at__law_off T).mono (by decide)) hr tk (gk_cons (dk_var (pv 0)) (gk_cons (de_K de_int) dks_nil))))))
    (dss_cons (g_set (by decide) sc__law_apart.nd (dl_pickL (dls_cons (dl_lst (ga_cons (de_tup (ga_cons (de_var (pv 2)) (ga_cons (de_var (pv 2)) (ga_cons de_int das_nil)))) das_nil)) (dls_cons (dl_lst (ga_cons (de_tup (ga_cons (de_var (pv 2)) (ga_cons (de_S (dl_op op_addA ok_add (dk_var (pv 2)) (de_K de_int))) (ga_cons de_int das_nil)))) (ga_cons (de_tup (ga_cons (de_S (dl_op op_addA ok_add (dk_var (pv 2)) (de_K de_int))) (ga_cons (de_var (pv 2)) (ga_cons de_int das_nil)))) das_nil))) dls_nil)) (de_var (pv 5))))
    (dss_cons (g_expr (g_append (de_S (g_ix ix_seq ok_ix (de_K (de_S (dl_lst (ga_cons (de_tup (ga_cons (de_var (pv 2)) (ga_cons (de_var (pv 4)) (ga_cons de_int das_nil)))) (ga_cons (de_tup (ga_cons (de_var (pv 4)) (ga_cons (de_S (dl_op op_addA ok_add (dk_var (pv 2)) (dk_var (pv 5)))) (ga_cons de_int das_nil)))) das_nil))))) (de_K (de_S (g_call ((at__law_off T).mono (by decide)) hr tk (gk_cons (dk_var (pv 0)) (gk_cons (de_K de_int) dks_nil))))))) (pv 6)))
    (dss_cons (ds_if (gt_cmp (op_eqA hr.units) ok_eq (de_K (de_S (g_call ((at__law_off T).mono (by decide)) hr tk (gk_cons (dk_var (pv 0)) (gk_cons (de_K de_int) dks_nil))))) (de_K de_int)) (dss_cons (g_expr (g_append (de_tup (ga_cons (de_var (pv 4)) (ga_cons (de_var (pv 4)) (ga_cons de_int das_nil)))) (pv 6)))
    dss_nil) dss_nil)
    (dss_cons (ds_ret (de_L (de_tup (ga_cons (de_S (dl_op op_addA ok_add (dk_var (pv 7)) (de_K (de_S (dl_op op_mulA ok_mul (de_K (de_S (dl_lst (ga_cons (de_tup (ga_cons de_str (ga_cons de_int das_nil))) das_nil)))) (de_K (de_S (dl_op op_addA ok_add (de_K de_int) (dk_var (pv 5)))))))))) (ga_cons (de_S (dl_op op_addA ok_add (dk_var (pv 8)) (de_K (de_S (dl_slice (dk_var (pv 6)) do_none (do_some (de_S (dl_op op_sub ok_sub (de_K de_int) (de_K (de_S (g_callB cr_lenA ok_len rfl T.n_len (gk_cons (dk_var (pv 8)) dks_nil)))))))))))) (ga_cons (de_var (pv 2)) (ga_cons de_str das_nil)))))))
    dss_nil)))))))))
theorem at__law_apart {P : Program} {w : World} {K : PySem.W.Frag} {mg : Str → Option Value} {base : Heap} {C : Cl} (T : Tx P w K mg base C) : FnAt P w K mg base 2 "_law_apart" (fn__law_apart C) := fn_at T.f__law_apart sc__law_apart (by decide) (b__law_apart T)
theorem sc__law_ring : FnScope ["_law_d", "_law_t", "_law_mid_here", "_law_one", "_law_two", "_law_three", "_law_row", "_law_k", "_law_at"] ["_law_d", "_law_t"] (defScope s__law_ring) := ⟨rfl, rfl, rfl, by decide +kernel, rfl, by decide +kernel, by decide +kernel⟩
theorem b__law_ring {P : Program} {w : World} {K : PySem.W.Frag} {mg : Str → Option Value} {base : Heap} {C : Cl} (T : Tx P w K mg base C) : BodyOk P w K mg base ["_law_d", "_law_t", "_law_mid_here", "_law_one", "_law_two", "_law_three", "_law_row", "_law_k", "_law_at"] "_law_ring" s__law_ring 1 [0] (F__law_ring C) := by
  intro f cdv A outer s H E hr
  have tk := L2N.takes_of (X := cxOf (L2N.CX P w) P w K mg base ["_law_d", "_law_t", "_law_mid_here", "_law_one", "_law_two", "_law_three", "_law_row", "_law_k", "_law_at"] "_law_ring" (defScope s__law_ring) f cdv A outer s H E) (E := E) rfl rfl rfl rfl
  exact (dss_cons (g_set (by decide) sc__law_ring.nd (de_L (de_S (g_call ((at__law_mid T).mono (by decide)) hr tk (gk_cons (dk_var (pv 1)) dks_nil)))))
    (dss_cons (g_set (by decide) sc__law_ring.nd (de_L (de_S (g_ix ix_seq ok_ix (dk_var (pv 2)) (de_K (de_S (g_call ((at__law_off T).mono (by decide)) hr tk (gk_cons (dk_var (pv 0)) (gk_cons (de_K (de_S (g_callB cr_lenA ok_len rfl T.n_len (gk_cons (dk_var (pv 2)) dks_nil)))) dks_nil)))))))))
    (dss_cons (g_set (by decide) sc__law_ring.nd (de_L (de_S (g_ix ix_seq ok_ix (dk_var (pv 2)) (de_K (de_S (g_call ((at__law_off T).mono (by decide)) hr tk (gk_cons (dk_var (pv 0)) (gk_cons (de_K (de_S (g_callB cr_lenA ok_len rfl T.n_len (gk_cons (dk_var (pv 2)) dks_nil)))) dks_nil)))))))))
    (dss_cons (g_set (by decide) sc__law_ring.nd (de_L (de_S (g_ix ix_seq ok_ix (dk_var (pv 2)) (de_K (de_S (g_call ((at__law_off T).mono (by decide)) hr tk (gk_cons (dk_var (pv 0)) (gk_cons (de_K (de_S (g_callB cr_lenA ok_len rfl T.n_len (gk_cons (dk_var (pv 2)) dks_nil)))) dks_nil)))))))))
    (dss_cons (g_set (by decide) sc__law_ring.nd (de_L (de_S (dl_op op_addA ok_add (de_K (de_S (dl_op op_addA ok_add (de_K (de_S (dl_lst (ga_cons (de_var (pv 3)) das_nil)))) (de_K (de_S (dl_comp (own := [("_law_at", 8)]) (by decide) (by decide) rfl sc__law_ring.nd (di_seq (de_S (dl_lst (ga_cons (de_var (pv 4)) das_nil)))) (blkOk_by rfl) (fun _ _ _ _ _ => (g_name (by decide) sc__law_ring.nd)) (fun _ _ _ _ _ => (pts_one (gt_cmp (op_neA hr.units) ok_ne (dk_var (pv 8)) (dk_var (pv 3))))) (fun _ _ _ _ _ => (de_var (pv 8))) (fun _ => rfl))))))) (de_K (de_S (dl_comp (own := [("_law_at", 8)]) (by decide) (by decide) rfl sc__law_ring.nd (di_seq (de_S (dl_lst (ga_cons (de_var (pv 5)) das_nil)))) (blkOk_by rfl) (fun _ _ _ _ _ => (g_name (by decide) sc__law_ring.nd)) (fun _ _ _ _ _ => (pts_one (gt_cmp op_notInA ok_notIn (dk_var (pv 8)) (de_K (de_tup (ga_cons (de_var (pv 3)) (ga_cons (de_var (pv 4)) das_nil))))))) (fun _ _ _ _ _ => (de_var (pv 8))) (fun _ => rfl))))))))
    (dss_cons (ds_ret (dl_comp (own := [("_law_k", 7)]) (by decide) (by decide) rfl sc__law_ring.nd (gi_rng1 T.n_range (de_S (g_callB cr_lenA ok_len rfl T.n_len (gk_cons (dk_var (pv 6)) dks_nil)))) (blkOk_by rfl) (fun _ _ _ _ _ => (g_name (by decide) sc__law_ring.nd)) (fun _ _ _ _ _ => dts_nil) (fun _ _ _ _ _ => (de_tup (ga_cons (de_S (g_ix ix_seq ok_ix (dk_var (pv 6)) (dk_var (pv 7)))) (ga_cons (de_S (g_ix ix_seq ok_ix (dk_var (pv 6)) (de_K (de_S (dl_op op_mod ok_mod (de_K (de_S (dl_op op_addA ok_add (dk_var (pv 7)) (de_K de_int)))) (de_K (de_S (g_callB cr_lenA ok_len rfl T.n_len (gk_cons (dk_var (pv 6)) dks_nil))))))))) (ga_cons de_int das_nil))))) (fun _ => rfl)))
    dss_nil))))))
theorem at__law_ring {P : Program} {w : World} {K : PySem.W.Frag} {mg : Str → Option Value} {base : Heap} {C : Cl} (T : Tx P w K mg base C) : FnAt P w K mg base 2 "_law_ring" (fn__law_ring C) := fn_at T.f__law_ring sc__law_ring (by decide) (b__law_ring T)
theorem sc__law_lonely : FnScope ["_law_d", "_law_t", "_law_outs", "_law_out", "_law_way", "_law_at", "_law_later", "_law_lone", "_law_boxes", "_law_cables", "_law_one", "_law_other", "_law_hold_here"] ["_law_d", "_law_t"] (defScope s__law_lonely) := ⟨rfl, rfl, rfl, by decide +kernel, rfl, by decide +kernel, by decide +kernel⟩
theorem b__law_lonely {P : Program} {w : World} {K : PySem.W.Frag} {mg : Str → Option Value} {base : Heap} {C : Cl} (T : Tx P w K mg base C) : BodyOk P w K mg base ["_law_d", "_law_t", "_law_outs", "_law_out", "_law_way", "_law_at", "_law_later", "_law_lone", "_law_boxes", "_law_cables", "_law_one", "_law_other", "_law_hold_here"] "_law_lonely" s__law_lonely 2 [0] (F__law_lonely C) := by
  intro f cdv A outer s H E hr
  have tk := L2N.takes_of (X := cxOf (L2N.CX P w) P w K mg base ["_law_d", "_law_t", "_law_outs", "_law_out", "_law_way", "_law_at", "_law_later", "_law_lone", "_law_boxes", "_law_cables", "_law_one", "_law_other", "_law_hold_here"] "_law_lonely" (defScope s__law_lonely) f cdv A outer s H E) (E := E) rfl rfl rfl rfl
  exact (dss_cons (g_setT (gg_tup (gg_cons (g_name (by decide) sc__law_lonely.nd) (gg_cons (g_name (by decide) sc__law_lonely.nd) dgs_nil))) (de_var (pv 1)))
    (dss_cons (g_set (by decide) sc__law_lonely.nd (de_L (de_S (g_call ((at__law_ends T).mono (by decide)) hr tk (gk_cons (dk_var (pv 1)) (gk_cons (de_K de_str) dks_nil))))))
    (dss_cons (g_set (by decide) sc__law_lonely.nd (de_L (de_S (g_ix ix_seq ok_ix (dk_var (pv 2)) (de_K (de_S (g_call ((at__law_off T).mono (by decide)) hr tk (gk_cons (dk_var (pv 0)) (gk_cons (de_K (de_S (g_callB cr_lenA ok_len rfl T.n_len (gk_cons (dk_var (pv 2)) dks_nil)))) dks_nil)))))))))
    (dss_cons (g_set (by decide) sc__law_lonely.nd (de_L (de_S (g_call ((at__law_off T).mono (by decide)) hr tk (gk_cons (dk_var (pv 0)) (gk_cons (de_K de_int) dks_nil))))))
    (dss_cons (ds_if (PW.pt (dw_and (gt_cmp (op_eqA hr.units) ok_eq (dk_var (pv 4)) (de_K de_int)) (pw_and1 (gt_cmp op_lt (ok_cmp _) (de_K (de_S (g_callB cr_lenA ok_len rfl T.n_len (gk_cons (dk_var (pv 9)) dks_nil)))) (de_K de_int))))) (dss_cons (ds_ret (de_L (de_tup (ga_cons (de_var (pv 8)) (ga_cons (de_S (dl_op op_addA ok_add (dk_var (pv 9)) (de_K (de_S (dl_lst (ga_cons (de_tup (ga_cons (de_S (g_ix ix_seq ok_ix (de_K (de_S (g_call ((at__law_ends T).mono (by decide)) hr tk (gk_cons (dk_var (pv 1)) (gk_cons (de_K de_str) dks_nil))))) (de_K de_int))) (ga_cons (de_var (pv 3)) (ga_cons de_int das_nil)))) das_nil)))))) (ga_cons (de_var (pv 3)) (ga_cons de_str das_nil)))))))
    dss_nil) dss_nil)
    (dss_cons (ds_if (PW.pt (dw_and (gt_cmp op_gt (ok_cmp _) (dk_var (pv 4)) (de_K de_int)) (dw_and (gt_cmp op_lt (ok_cmp _) (de_K (de_S (g_callB cr_lenA ok_len rfl T.n_len (gk_cons (dk_var (pv 8)) dks_nil)))) (de_K de_int)) (pw_and1 (gt_cmp op_lt (ok_cmp _) (de_K (de_S (g_callB cr_lenA ok_len rfl T.n_len (gk_cons (dk_var (pv 9)) dks_nil)))) (de_K de_int)))))) (dss_cons (ds_ret (g_call ((at__law_apart T).mono (by decide)) hr tk (gk_cons (dk_var (pv 0)) (gk_cons (dk_var (pv 1)) dks_nil))))
    dss_nil) dss_nil)
    (dss_cons (g_set (by decide) sc__law_lonely.nd (de_L (de_S (g_call ((at__law_off T).mono (by decide)) hr tk (gk_cons (dk_var (pv 0)) (gk_cons (de_K (de_S (dl_op op_addA ok_add (de_K (de_S (g_callB cr_lenA ok_len rfl T.n_len (gk_cons (dk_var (pv 8)) dks_nil)))) (de_K de_int)))) dks_nil))))))
    (dss_cons (ds_setLc (own := [("_law_one", 10), ("_law_other", 11), ("_law_hold_here", 12)]) (by decide) rfl rfl (sw_true rfl rfl rfl rfl) (by decide) (by decide) rfl sc__law_lonely.nd (di_seq (de_var (pv 9))) (blkOk_by rfl) (fun _ _ _ _ _ => (gg_tup (gg_cons (g_name (by decide) sc__law_lonely.nd) (gg_cons (g_name (by decide) sc__law_lonely.nd) (gg_cons (g_name (by decide) sc__law_lonely.nd) dgs_nil))))) (fun _ _ _ _ _ => dts_nil) (fun _ _ _ _ _ => (de_tup (ga_cons (de_S (dl_op op_addA ok_add (dk_var (pv 10)) (de_K (de_S (g_callT cr_intA ok_intA rfl T.n_int (gk_cons (de_K (ge_cmp op_ge (ok_cmp _) (dk_var (pv 10)) (dk_var (pv 5)))) dks_nil)))))) (ga_cons (de_S (dl_op op_addA ok_add (dk_var (pv 11)) (de_K (de_S (g_callT cr_intA ok_intA rfl T.n_int (gk_cons (de_K (ge_cmp op_ge (ok_cmp _) (dk_var (pv 11)) (dk_var (pv 5)))) dks_nil)))))) (ga_cons (de_var (pv 12)) das_nil))))) (fun _ => rfl))
    (dss_cons (g_set (by decide) sc__law_lonely.nd (de_L (de_S (g_ix ix_seq ok_ix (de_K (de_S (dl_lst (ga_cons (de_tup (ga_cons de_str (ga_cons de_int das_nil))) (ga_cons (de_tup (ga_cons de_str (ga_cons de_str das_nil))) (ga_cons (de_tup (ga_cons de_str (ga_cons de_str das_nil))) das_nil)))))) (de_K (de_S (g_call ((at__law_off T).mono (by decide)) hr tk (gk_cons (dk_var (pv 0)) (gk_cons (de_K de_int) dks_nil)))))))))
    (dss_cons (ds_ret (de_L (de_tup (ga_cons (de_S (dl_op op_addA ok_add (de_K (de_S (dl_op op_addA ok_add (de_K (de_S (dl_slice (dk_var (pv 8)) do_none (do_some (de_var (pv 5)))))) (de_K (de_S (dl_lst (ga_cons (de_var (pv 7)) das_nil))))))) (de_K (de_S (dl_slice (dk_var (pv 8)) (do_some (de_var (pv 5))) do_none))))) (ga_cons (de_var (pv 6)) (ga_cons (de_var (pv 5)) (ga_cons de_str das_nil)))))))
    dss_nil))))))))))
theorem at__law_lonely {P : Program} {w : World} {K : PySem.W.Frag} {mg : Str → Option Value} {base : Heap} {C : Cl} (T : Tx P w K mg base C) : FnAt P w K mg base 3 "_law_lonely" (fn__law_lonely C) := fn_at T.f__law_lonely sc__law_lonely (by decide) (b__law_lonely T)
theorem sc__law_wrong : FnScope ["_law_d", "_law_t", "_law_way", "_law_many", "_law_far", "_law_at", "_law_ring_here", "_law_boxes", "_law_cables", "_law_first", "_law_ins", "_law_outs", "_law_some", "_law_bad"] ["_law_d", "_law_t"] (defScope s__law_wrong) := ⟨rfl, rfl, rfl, by decide +kernel, rfl, by decide +kernel, by decide +kernel⟩
theorem b__law_wrong {P : Program} {w : World} {K : PySem.W.Frag} {mg : Str → Option Value} {base : Heap} {C : Cl} (T : Tx P w K mg base C) : BodyOk P w K mg base ["_law_d", "_law_t", "_law_way", "_law_many", "_law_far", "_law_at", "_law_ring_here", "_law_boxes", "_law_cables", "_law_first", "_law_ins", "_law_outs", "_law_some", "_law_bad"] "_law_wrong" s__law_wrong 3 [0] (F__law_wrong C) := by
  intro f cdv A outer s H E hr
  have tk := L2N.takes_of (X := cxOf (L2N.CX P w) P w K mg base ["_law_d", "_law_t", "_law_way", "_law_many", "_law_far", "_law_at", "_law_ring_here", "_law_boxes", "_law_cables", "_law_first", "_law_ins", "_law_outs", "_law_some", "_law_bad"] "_law_wrong" (defScope s__law_wrong) f cdv A outer s H E) (E := E) rfl rfl rfl rfl
  exact (dss_cons (g_setT (gg_tup (gg_cons (g_name (by decide) sc__law_wrong.nd) (gg_cons (g_name (by decide) sc__law_wrong.nd) dgs_nil))) (de_var (pv 1)))
    (dss_cons (g_set (by decide) sc__law_wrong.nd (de_L (de_S (g_call ((at__law_off T).mono (by decide)) hr tk (gk_cons (dk_var (pv 0)) (gk_cons (de_K de_int) dks_nil))))))
    (dss_cons (g_set (by decide) sc__law_wrong.nd (de_L (de_S (g_callB cr_lenA ok_len rfl T.n_len (gk_cons (dk_var (pv 7)) dks_nil)))))
    (dss_cons (g_set (by decide) sc__law_wrong.nd (de_L (de_S (g_call ((at__law_off T).mono (by decide)) hr tk (gk_cons (dk_var (pv 0)) (gk_cons (de_K (de_S (g_ix ix_seq ok_ix (de_K (de_S (dl_lst (ga_cons de_int (ga_cons (de_S (dl_op op_pow ok_pow (de_K de_int) (de_K de_int))) das_nil))))) (de_K (de_S (g_call ((at__law_off T).mono (by decide)) hr tk (gk_cons (dk_var (pv 0)) (gk_cons (de_K de_int) dks_nil)))))))) dks_nil))))))
    (dss_cons (ds_if (gt_cmp (op_eqA hr.units) ok_eq (dk_var (pv 2)) (de_K de_int)) (dss_cons (ds_ret (de_L (de_tup (ga_cons (de_S (g_ix ix_seq ok_ix (de_K (de_S (dl_lst (ga_cons (de_S (dl_lst das_nil)) (ga_cons (de_S (dl_op op_addA ok_add (dk_var (pv 7)) (de_K (de_S (dl_op op_mulA ok_mul (de_K (de_S (dl_lst (ga_cons (de_tup (ga_cons de_str (ga_cons de_int das_nil))) das_nil)))) (de_K de_int)))))) das_nil))))) (de_K (de_S (g_call ((at__law_off T).mono (by decide)) hr tk (gk_cons (dk_var (pv 0)) (gk_cons (de_K de_int) dks_nil))))))) (ga_cons (de_S (dl_lst (ga_cons (de_tup (ga_cons de_int (ga_cons de_int (ga_cons de_int das_nil)))) das_nil))) (ga_cons de_int (ga_cons de_str das_nil)))))))
    dss_nil) dss_nil)
    (dss_cons (ds_if (PW.pt (dw_and (gt_cmp (op_eqA hr.units) ok_eq (dk_var (pv 2)) (de_K de_int)) (pw_and1 (gt_cmp op_lt (ok_cmp _) (dk_var (pv 3)) (de_K de_int))))) (dss_cons (g_set (by decide) sc__law_wrong.nd (de_L (de_S (g_callB (cr_minA rfl) ok_min rfl T.n_min (gk_cons (de_K (de_S (dl_comp (own := [("_law_at", 5)]) (by decide) (by decide) rfl sc__law_wrong.nd (gi_rng1 T.n_range (de_var (pv 3))) (blkOk_by rfl) (fun _ _ _ _ _ => (g_name (by decide) sc__law_wrong.nd)) (fun _ _ _ _ _ => (pts_one (gt_cmp (op_eqA hr.units) ok_eq (de_K (de_S (g_ix ix_seq ok_ix (de_K (de_S (g_ix ix_seq ok_ix (dk_var (pv 7)) (dk_var (pv 5))))) (de_K de_int)))) (de_K de_str)))) (fun _ _ _ _ _ => (de_var (pv 5))) (fun _ => rfl)))) dks_nil)))))
    (dss_cons (g_set (by decide) sc__law_wrong.nd (de_L (de_S (dl_op op_addA ok_add (de_K (de_S (dl_op op_addA ok_add (dk_var (pv 9)) (de_K de_int)))) (de_K (de_S (g_call ((at__law_off T).mono (by decide)) hr tk (gk_cons (dk_var (pv 0)) (gk_cons (de_K (de_S (dl_op op_sub ok_sub (dk_var (pv 3)) (dk_var (pv 9))))) dks_nil)))))))))
    (dss_cons (ds_ret (de_L (de_tup (ga_cons (de_S (dl_op op_addA ok_add (de_K (de_S (dl_op op_addA ok_add (de_K (de_S (dl_slice (dk_var (pv 7)) do_none (do_some (de_var (pv 5)))))) (de_K (de_S (dl_lst (ga_cons (de_S (g_call ((at__law_bad_box T).mono (by decide)) hr tk (gk_cons (dk_var (pv 0)) (gk_cons (dk_var (pv 1)) dks_nil)))) das_nil))))))) (de_K (de_S (dl_slice (dk_var (pv 7)) (do_some (de_var (pv 5))) do_none))))) (ga_cons (de_S (dl_op op_mulA ok_mul (de_K (de_S (dl_lst (ga_cons (de_tup (ga_cons de_int (ga_cons de_int (ga_cons de_int das_nil)))) das_nil)))) (de_K (de_S (g_call ((at__law_off T).mono (by decide)) hr tk (gk_cons (dk_var (pv 0)) (gk_cons (de_K de_int) dks_nil))))))) (ga_cons (de_var (pv 5)) (ga_cons de_str das_nil)))))))
    dss_nil))) dss_nil)
    (dss_cons (ds_if (gt_cmp (op_eqA hr.units) ok_eq (dk_var (pv 2)) (de_K de_int)) (dss_cons (ds_ret (de_L (de_tup (ga_cons (de_var (pv 7)) (ga_cons (de_S (dl_slice (de_K (de_S (dl_op op_mulA ok_mul (dk_var (pv 8)) (de_K de_int)))) do_none (do_some de_int))) (ga_cons de_int (ga_cons de_str das_nil)))))))
    dss_nil) dss_nil)
    (dss_cons (g_set (by decide) sc__law_wrong.nd (de_L (de_S (g_call ((at__law_off T).mono (by decide)) hr tk (gk_cons (dk_var (pv 0)) (gk_cons (de_K (de_S (dl_op op_addA ok_add (de_K (de_S (g_callB (cr_minA rfl) ok_min rfl T.n_min (gk_cons (de_K de_int) (gk_cons (de_K (de_S (g_callB cr_lenA ok_len rfl T.n_len (gk_cons (dk_var (pv 8)) dks_nil)))) dks_nil))))) (de_K de_int)))) dks_nil))))))
    (dss_cons (ds_par (by decide) (by decide) sc__law_wrong.nd (ga_cons (de_S (g_call ((at__law_ends T).mono (by decide)) hr tk (gk_cons (dk_var (pv 1)) (gk_cons (de_K de_str) dks_nil)))) (ga_cons (de_S (g_call ((at__law_ends T).mono (by decide)) hr tk (gk_cons (dk_var (pv 1)) (gk_cons (de_K de_str) dks_nil)))) das_nil)))
    (dss_cons (ds_if (PW.pt (dw_and (gt_cmp op_lt (ok_cmp _) (dk_var (pv 2)) (de_K de_int)) (pw_and1 (gt_cmp op_lt (ok_cmp _) (de_K (de_S (g_callB cr_lenA ok_len rfl T.n_len (gk_cons (dk_var (pv 8)) dks_nil)))) (de_K de_int))))) (dss_cons (g_set (by decide) sc__law_wrong.nd (de_L (de_S (dl_lst (ga_cons (de_tup (ga_cons (de_S (dl_op op_sub ok_sub (de_K (de_S (dl_un un_neg ok_neg (de_K de_int)))) (dk_var (pv 4)))) (ga_cons (de_S (g_ix ix_seq ok_ix (dk_var (pv 11)) (de_K de_int))) (ga_cons de_int das_nil)))) (ga_cons (de_tup (ga_cons (de_S (dl_op op_addA ok_add (dk_var (pv 3)) (dk_var (pv 4)))) (ga_cons (de_S (g_ix ix_seq ok_ix (dk_var (pv 11)) (de_K de_int))) (ga_cons de_int das_nil)))) (ga_cons (de_tup (ga_cons (de_S (g_ix ix_seq ok_ix (dk_var (pv 10)) (de_K de_int))) (ga_cons (de_S (dl_op op_addA ok_add (dk_var (pv 3)) (dk_var (pv 4)))) (ga_cons de_int das_nil)))) (ga_cons (de_tup (ga_cons (de_S (g_ix ix_seq ok_ix (dk_var (pv 10)) (de_K de_int))) (ga_cons (de_S (dl_op op_sub ok_sub (de_K (de_S (dl_un un_neg ok_neg (de_K de_int)))) (dk_var (pv 4)))) (ga_cons de_int das_nil)))) das_nil))))))))
    (dss_cons (g_set (by decide) sc__law_wrong.nd (de_L (de_S (dl_op op_addA ok_add (dk_var (pv 12)) (de_K (de_S (dl_lst (ga_cons (de_tup (ga_cons (de_S (g_ix ix_seq ok_ix (dk_var (pv 11)) (de_K de_int))) (ga_cons (de_S (g_ix ix_seq ok_ix (dk_var (pv 11)) (de_K de_int))) (ga_cons de_int das_nil)))) (ga_cons (de_tup (ga_cons (de_S (g_ix ix_seq ok_ix (dk_var (pv 10)) (de_K de_int))) (ga_cons (de_S (g_ix ix_seq ok_ix (dk_var (pv 10)) (de_K de_int))) (ga_cons de_int das_nil)))) das_nil)))))))))
    (dss_cons (g_set (by decide) sc__law_wrong.nd (de_L (de_S (dl_op op_addA ok_add (dk_var (pv 12)) (de_K (de_S (dl_lst (ga_cons (de_tup (ga_cons (de_S (g_ix ix_seq ok_ix (dk_var (pv 10)) (de_K de_int))) (ga_cons (de_S (g_ix ix_seq ok_ix (dk_var (pv 11)) (de_K de_int))) (ga_cons (de_S (dl_op op_sub ok_sub (de_K (de_S (dl_un un_neg ok_neg (de_K de_int)))) (dk_var (pv 4)))) das_nil)))) (ga_cons (de_tup (ga_cons (de_S (g_ix ix_seq ok_ix (dk_var (pv 10)) (de_K de_int))) (ga_cons (de_S (g_ix ix_seq ok_ix (dk_var (pv 11)) (de_K de_int))) (ga_cons (de_S (dl_op op_addA ok_add (de_K de_int) (dk_var (pv 4)))) das_nil)))) das_nil)))))))))
    (dss_cons (g_set (by decide) sc__law_wrong.nd (de_L (de_S (g_ix ix_seq ok_ix (dk_var (pv 12)) (de_K (de_S (g_call ((at__law_off T).mono (by decide)) hr tk (gk_cons (dk_var (pv 0)) (gk_cons (de_K de_int) dks_nil)))))))))
    (dss_cons (ds_ret (de_L (de_tup (ga_cons (de_var (pv 7)) (ga_cons (de_S (dl_op op_addA ok_add (de_K (de_S (dl_op op_addA ok_add (de_K (de_S (dl_op op_addA ok_add (de_K (de_S (dl_slice (dk_var (pv 8)) do_none (do_some (de_var (pv 5)))))) (de_K (de_S (dl_lst (ga_cons (de_var (pv 13)) das_nil))))))) (de_K (de_S (dl_op op_mulA ok_mul (de_K (de_S (dl_lst (ga_cons (de_tup (ga_cons de_int (ga_cons de_int (ga_cons de_int das_nil)))) das_nil)))) (de_K (de_S (g_callT cr_intA ok_intA rfl T.n_int (gk_cons (de_K (ge_cmp op_lt (ok_cmp _) (de_K (de_S (g_callB cr_lenA ok_len rfl T.n_len (gk_cons (dk_var (pv 8)) dks_nil)))) (de_K de_int))) dks_nil)))))))))) (de_K (de_S (dl_slice (dk_var (pv 8)) (do_some (de_var (pv 5))) do_none))))) (ga_cons (de_var (pv 5)) (ga_cons de_str das_nil)))))))
    dss_nil))))) dss_nil)
    (dss_cons (ds_if (PW.pt (dw_and (gt_cmp op_lt (ok_cmp _) (dk_var (pv 2)) (de_K de_int)) (pw_and1 (gt_cmp op_lt (ok_cmp _) (dk_var (pv 3)) (de_K de_int))))) (dss_cons (ds_ret (g_call ((at__law_lonely T).mono (by decide)) hr tk (gk_cons (dk_var (pv 0)) (gk_cons (dk_var (pv 1)) dks_nil))))
    dss_nil) dss_nil)
    (dss_cons (g_set (by decide) sc__law_wrong.nd (de_L (de_S (g_call ((at__law_ring T).mono (by decide)) hr tk (gk_cons (dk_var (pv 0)) (gk_cons (dk_var (pv 1)) dks_nil))))))
    (dss_cons (ds_if (gt_cmp op_gt (ok_cmp _) (de_K (de_S (dl_op op_addA ok_add (de_K (de_S (g_callB cr_lenA ok_len rfl T.n_len (gk_cons (dk_var (pv 8)) dks_nil)))) (de_K (de_S (g_callB cr_lenA ok_len rfl T.n_len (gk_cons (dk_var (pv 6)) dks_nil))))))) (de_K de_int)) (dss_cons (ds_ret (de_L (de_tup (ga_cons (de_var (pv 7)) (ga_cons (de_S (dl_slice (de_K (de_S (dl_op op_addA ok_add (dk_var (pv 8)) (de_K (de_S (dl_op op_mulA ok_mul (dk_var (pv 6)) (de_K de_int))))))) do_none (do_some de_int))) (ga_cons de_int (ga_cons de_str das_nil)))))))
    dss_nil) dss_nil)
    (dss_cons (ds_ret (de_L (de_tup (ga_cons (de_var (pv 7)) (ga_cons (de_S (dl_op op_addA ok_add (dk_var (pv 8)) (dk_var (pv 6)))) (ga_cons de_int (ga_cons de_str das_nil)))))))
    dss_nil))))))))))))))
theorem at__law_wrong {P : Program} {w : World} {K : PySem.W.Frag} {mg : Str → Option Value} {base : Heap} {C : Cl} (T : Tx P w K mg base C) : FnAt P w K mg base 4 "_law_wrong" (fn__law_wrong C) := fn_at T.f__law_wrong sc__law_wrong (by decide) (b__law_wrong T)
theorem sc__law_refused : FnScope ["_law_bad", "_law_e"] ["_law_bad"] (defScope s__law_refused) := ⟨rfl, rfl, rfl, by decide +kernel, rfl, by decide +kernel, by decide +kernel⟩
theorem b__law_refused {P : Program} {w : World} {K : PySem.W.Frag} {mg : Str → Option Value} {base : Heap} {C : Cl} (T : Tx P w K mg base C) : BodyOk P w K mg base ["_law_bad", "_law_e"] "_law_refused" s__law_refused 7 [] (F__law_refused C) := by
  intro f cdv A outer s H E hr
  have tk := L2N.takes_of (X := cxOf (L2N.CX P w) P w K mg base ["_law_bad", "_law_e"] "_law_refused" (defScope s__law_refused) f cdv A outer s H E) (E := E) rfl rfl rfl rfl
  exact (dss_cons (ds_tryAs (by decide) ⟨rfl, by decide, .inl T.g_LateError⟩ tk T.exm_LateError sc__law_refused.nd (fun W pn xe tk _ => (dss_cons (g_expr (de_S (g_make ((at_Desk___init__ T).mono (by decide)) hr tk (gk_cons (de_K (de_S (g_ix ix_seq ok_ix (dk_var (pv 0)) (de_K de_int)))) (gk_cons (de_K (de_S (g_ix ix_seq ok_ix (dk_var (pv 0)) (de_K de_int)))) dks_nil)))))
    dss_nil))
    (fun a oe d pn x hx hd hz hv => (dss_cons (ds_ret (de_L (de_and (de_askE (ati__law_is T) (L2H.roomH_mark (hr.mono (by decide)) _) (Hx.suite hz hv) rfl hx hd takesN (pv 1) de_str) (pe_one (de_S (dl_callH (atH__law_alike T) (L2H.roomH_mark (hr.mono (by decide)) _) (Hx.suite hz hv) takesN (gk_cons (de_K (de_tup (ga_cons (de_xf (T.xfc _ hx) (T.xna_at _ hx) hz hv rfl (pv 1)) (ga_cons (de_xf (T.xfc _ hx) (T.xna_why _ hx) hz hv rfl (pv 1)) das_nil)))) (gk_cons (de_K (de_tup (ga_cons (de_S (g_ix ix_seq ok_ix (dk_var (pv 0)) (de_K de_int))) (ga_cons (de_S (g_ix ix_seq ok_ix (dk_var (pv 0)) (de_K de_int))) das_nil)))) dks_nil))))))))
    dss_nil)))
    (dss_cons (ds_ret (de_L de_bl))
    dss_nil))
theorem at__law_refused {P : Program} {w : World} {K : PySem.W.Frag} {mg : Str → Option Value} {base : Heap} {C : Cl} (T : Tx P w K mg base C) : FnAt P w K mg base 8 "_law_refused" (fn__law_refused C) := fn_at T.f__law_refused sc__law_refused (by decide) (b__law_refused T)
theorem sc_law : FnScope ["_law_script", "_law_d", "_law_t", "_law_handed", "_law_desk_here", "_law_turn", "_law_chain", "_law_row", "_law_k"] ["_law_script"] (defScope s_law) := ⟨rfl, rfl, rfl, by decide +kernel, rfl, by decide +kernel, by decide +kernel⟩
theorem b_law {P : Program} {w : World} {K : PySem.W.Frag} {mg : Str → Option Value} {base : Heap} {C : Cl} (T : Tx P w K mg base C) : BodyOk P w K mg base ["_law_script", "_law_d", "_law_t", "_law_handed", "_law_desk_here", "_law_turn", "_law_chain", "_law_row", "_law_k"] "law" s_law 8 [] (F_law C) := by
  intro f cdv A outer s H E hr
  have tk := L2N.takes_of (X := cxOf (L2N.CX P w) P w K mg base ["_law_script", "_law_d", "_law_t", "_law_handed", "_law_desk_here", "_law_turn", "_law_chain", "_law_row", "_law_k"] "law" (defScope s_law) f cdv A outer s H E) (E := E) rfl rfl rfl rfl
  exact (dss_cons (g_set (by decide) sc_law.nd (g_call ((at__law_dice T).mono (by decide)) hr tk (gk_cons (dk_var (pv 0)) (gk_cons (de_K de_int) dks_nil))))
    (dss_cons (g_set (by decide) sc_law.nd (de_L (de_S (g_call ((at__law_desk T).mono (by decide)) hr tk (gk_cons (dk_var (pv 1)) (gk_cons (de_K de_int) dks_nil))))))
    (dss_cons (g_set (by decide) sc_law.nd (dl_lstL (dls_cons (g_callT call_list_of ok_list rfl T.n_list (gk_cons (de_K (de_S (g_ix ix_seq ok_ix (dk_var (pv 2)) (de_K de_int)))) dks_nil)) (dls_cons (g_callT call_list_of ok_list rfl T.n_list (gk_cons (de_K (de_S (g_ix ix_seq ok_ix (dk_var (pv 2)) (de_K de_int)))) dks_nil)) dls_nil))))
    (dss_cons (g_set (by decide) sc_law.nd (de_L (de_S (dl_makeN ((at_Desk___init__ T).mono (by decide)) hr tk (by decide) (pv 3) (pv 3)))))
    (dss_cons (ds_if (dt_neS hr.units (pv 3) (de_S (dl_lst (ga_cons (de_S (g_ix ix_seq ok_ix (dk_var (pv 2)) (de_K de_int))) (ga_cons (de_S (g_ix ix_seq ok_ix (dk_var (pv 2)) (de_K de_int))) das_nil))))) (dss_cons (ds_ret (de_L de_bl))
    dss_nil) dss_nil)
    (dss_cons (g_for (passes_of rfl) (gi_rng1 T.n_range de_int) (g_name (by decide) sc_law.nd) (dss_cons (ds_if (dt_not (gt_val (de_S (g_call ((at__law_alike T).mono (by decide)) hr tk (gk_cons (de_K (de_S (dl_lst (ga_cons (de_S (g_meth0 ((at_Desk_boxes T).mono (by decide)) hr tk (dk_var (pv 4)))) (ga_cons (de_S (g_meth0 ((at_Desk_cables T).mono (by decide)) hr tk (dk_var (pv 4)))) das_nil))))) (gk_cons (de_K (de_S (dl_lst (ga_cons (de_S (g_ix ix_seq ok_ix (dk_var (pv 2)) (de_K de_int))) (ga_cons (de_S (g_ix ix_seq ok_ix (dk_var (pv 2)) (de_K de_int))) das_nil))))) dks_nil)))))) (dss_cons (ds_ret (de_L de_bl))
    dss_nil) dss_nil)
    (dss_cons (ds_clearN (passes_of rfl) (by decide) sc_law.nd (dls_cons (g_meth0 ((at_Desk_boxes T).mono (by decide)) hr tk (dk_var (pv 4))) (dls_cons (g_meth0 ((at_Desk_cables T).mono (by decide)) hr tk (dk_var (pv 4))) dls_nil)) (pv 3) (pv 7) (by decide))
    dss_nil)))
    (dss_cons (ds_setLc (own := [("_law_k", 8)]) (by decide) rfl rfl (sw_true rfl rfl rfl rfl) (by decide) (by decide) rfl sc_law.nd (gi_rng1 T.n_range de_int) (blkOk_by rfl) (fun _ _ _ _ _ => (g_name (by decide) sc_law.nd)) (fun _ _ _ _ _ => dts_nil) (fun _ _ _ _ _ => (de_tup (ga_cons (de_var (pv 8)) (ga_cons (de_S (dl_op op_addA ok_add (dk_var (pv 8)) (de_K de_int))) (ga_cons de_int das_nil))))) (fun _ => rfl))
    (dss_cons (g_expr (de_S (g_make ((at_Desk___init__ T).mono (by decide)) hr tk (gk_cons (de_K (de_S (dl_op op_addA ok_add (de_K (de_S (dl_op op_addA ok_add (de_K (de_S (dl_lst (ga_cons (de_tup (ga_cons de_str (ga_cons de_str das_nil))) das_nil)))) (de_K (de_S (dl_op op_mulA ok_mul (de_K (de_S (dl_lst (ga_cons (de_tup (ga_cons de_str (ga_cons de_int das_nil))) das_nil)))) (de_K de_int))))))) (de_K (de_S (dl_lst (ga_cons (de_tup (ga_cons de_str (ga_cons de_str das_nil))) das_nil))))))) (gk_cons (de_K (de_S (dl_op op_addA ok_add (dk_var (pv 6)) (de_K (de_S (dl_op op_mulA ok_mul (de_K (de_S (dl_lst (ga_cons (de_tup (ga_cons de_int (ga_cons de_int (ga_cons de_int das_nil)))) das_nil)))) (de_K de_int))))))) dks_nil)))))
    (dss_cons (ds_ret (g_call ((at__law_refused T).mono (by decide)) hr tk (gk_cons (de_K (de_S (g_call ((at__law_wrong T).mono (by decide)) hr tk (gk_cons (dk_var (pv 1)) (gk_cons (dk_var (pv 2)) dks_nil))))) dks_nil)))
    dss_nil)))))))))
abbrev lv_law : Nat := 9
end Hd
namespace Hd
open PySem PySem.Spec PyProof.Rows L2 Ev
def d_X_BadDesk : He.DefD := ⟨("BadDesk", some "__init__"), "__init__", "BadDesk.__init__", defArgs s_X_BadDesk, defBody s_X_BadDesk, defScope s_X_BadDesk, [], []⟩
def d_X_TooLate : He.DefD := ⟨("TooLate", some "__init__"), "__init__", "TooLate.__init__", defArgs s_X_TooLate, defBody s_X_TooLate, defScope s_X_TooLate, [], []⟩
def d_X_BadText : He.DefD := ⟨("BadText", some "__init__"), "__init__", "BadText.__init__", defArgs s_X_BadText, defBody s_X_BadText, defScope s_X_BadText, [], []⟩
def d_must : He.DefD := ⟨("must", none), "must", "must", defArgs s_must, defBody s_must, defScope s_must, [], []⟩
def d_is_name : He.DefD := ⟨("is_name", none), "is_name", "is_name", defArgs s_is_name, defBody s_is_name, defScope s_is_name, [], []⟩
def d_Desk___init__ : He.DefD := ⟨("Desk", some "__init__"), "__init__", "Desk.__init__", defArgs s_Desk___init__, defBody s_Desk___init__, defScope s_Desk___init__, [], []⟩
def d_Desk_is_box : He.DefD := ⟨("Desk", some "is_box"), "is_box", "Desk.is_box", defArgs s_Desk_is_box, defBody s_Desk_is_box, defScope s_Desk_is_box, [], []⟩
def d_Desk_names : He.DefD := ⟨("Desk", some "names"), "names", "Desk.names", defArgs s_Desk_names, defBody s_Desk_names, defScope s_Desk_names, [], []⟩
def d_Desk_is_cable : He.DefD := ⟨("Desk", some "is_cable"), "is_cable", "Desk.is_cable", defArgs s_Desk_is_cable, defBody s_Desk_is_cable, defScope s_Desk_is_cable, [], []⟩
def d_Desk_led_from : He.DefD := ⟨("Desk", some "led_from"), "led_from", "Desk.led_from", defArgs s_Desk_led_from, defBody s_Desk_led_from, defScope s_Desk_led_from, [], []⟩
def d_Desk_is_twice : He.DefD := ⟨("Desk", some "is_twice"), "is_twice", "Desk.is_twice", defArgs s_Desk_is_twice, defBody s_Desk_is_twice, defScope s_Desk_is_twice, [], []⟩
def d_Desk_in_order : He.DefD := ⟨("Desk", some "in_order"), "in_order", "Desk.in_order", defArgs s_Desk_in_order, defBody s_Desk_in_order, defScope s_Desk_in_order, [], []⟩
def d_Desk_boxes : He.DefD := ⟨("Desk", some "boxes"), "boxes", "Desk.boxes", defArgs s_Desk_boxes, defBody s_Desk_boxes, defScope s_Desk_boxes, [], []⟩
def d_Desk_cables : He.DefD := ⟨("Desk", some "cables"), "cables", "Desk.cables", defArgs s_Desk_cables, defBody s_Desk_cables, defScope s_Desk_cables, [], []⟩
def d_Desk_late : He.DefD := ⟨("Desk", some "late"), "late", "Desk.late", defArgs s_Desk_late, defBody s_Desk_late, defScope s_Desk_late, [], []⟩
def d_Desk_ends : He.DefD := ⟨("Desk", some "ends"), "ends", "Desk.ends", defArgs s_Desk_ends, defBody s_Desk_ends, defScope s_Desk_ends, [], []⟩
def d__law_dice : He.DefD := ⟨("_law_dice", none), "_law_dice", "_law_dice", defArgs s__law_dice, defBody s__law_dice, defScope s__law_dice, [], []⟩
def d__law_off : He.DefD := ⟨("_law_off", none), "_law_off", "_law_off", defArgs s__law_off, defBody s__law_off, defScope s__law_off, [], []⟩
def d__law_alike : He.DefD := ⟨("_law_alike", none), "_law_alike", "_law_alike", defArgs s__law_alike, defBody s__law_alike, defScope s__law_alike, [], []⟩
def d__law_mixed : He.DefD := ⟨("_law_mixed", none), "_law_mixed", "_law_mixed", defArgs s__law_mixed, defBody s__law_mixed, defScope s__law_mixed, [], []⟩
def d__law_box : He.DefD := ⟨("_law_box", none), "_law_box", "_law_box", defArgs s__law_box, defBody s__law_box, defScope s__law_box, [], []⟩
def d__law_hold : He.DefD := ⟨("_law_hold", none), "_law_hold", "_law_hold", defArgs s__law_hold, defBody s__law_hold, defScope s__law_hold, [], []⟩
def d__law_names : He.DefD := ⟨("_law_names", none), "_law_names", "_law_names", defArgs s__law_names, defBody s__law_names, defScope s__law_names, [], []⟩
def d__law_rows : He.DefD := ⟨("_law_rows", none), "_law_rows", "_law_rows", defArgs s__law_rows, defBody s__law_rows, defScope s__law_rows, [], []⟩
def d__law_more : He.DefD := ⟨("_law_more", none), "_law_more", "_law_more", defArgs s__law_more, defBody s__law_more, defScope s__law_more, [], []⟩
def d__law_desk : He.DefD := ⟨("_law_desk", none), "_law_desk", "_law_desk", defArgs s__law_desk, defBody s__law_desk, defScope s__law_desk, [], []⟩
def d__law_ends : He.DefD := ⟨("_law_ends", none), "_law_ends", "_law_ends", defArgs s__law_ends, defBody s__law_ends, defScope s__law_ends, [], []⟩
def d__law_is : He.DefD := ⟨("_law_is", none), "_law_is", "_law_is", defArgs s__law_is, defBody s__law_is, defScope s__law_is, [], []⟩
def d__law_bad_box : He.DefD := ⟨("_law_bad_box", none), "_law_bad_box", "_law_bad_box", defArgs s__law_bad_box, defBody s__law_bad_box, defScope s__law_bad_box, [], []⟩
def d__law_mid : He.DefD := ⟨("_law_mid", none), "_law_mid", "_law_mid", defArgs s__law_mid, defBody s__law_mid, defScope s__law_mid, [], []⟩
def d__law_apart : He.DefD := ⟨("_law_apart", none), "_law_apart", "_law_apart", defArgs s__law_apart, defBody s__law_apart, defScope s__law_apart, [], []⟩
def d__law_ring : He.DefD := ⟨("_law_ring", none), "_law_ring", "_law_ring", defArgs s__law_ring, defBody s__law_ring, defScope s__law_ring, [], []⟩
def d__law_lonely : He.DefD := ⟨("_law_lonely", none), "_law_lonely", "_law_lonely", defArgs s__law_lonely, defBody s__law_lonely, defScope s__law_lonely, [], []⟩
def d__law_wrong : He.DefD := ⟨("_law_wrong", none), "_law_wrong", "_law_wrong", defArgs s__law_wrong, defBody s__law_wrong, defScope s__law_wrong, [], []⟩
def d__law_refused : He.DefD := ⟨("_law_refused", none), "_law_refused", "_law_refused", defArgs s__law_refused, defBody s__law_refused, defScope s__law_refused, [], []⟩
def d_law : He.DefD := ⟨("law", none), "law", "law", defArgs s_law, defBody s_law, defScope s_law, [], []⟩
def fn : List He.DefD := [d_X_BadDesk, d_X_TooLate, d_X_BadText, d_must, d_is_name, d_Desk___init__, d_Desk_is_box, d_Desk_names, d_Desk_is_cable, d_Desk_led_from, d_Desk_is_twice, d_Desk_in_order, d_Desk_boxes, d_Desk_cables, d_Desk_late, d_Desk_ends, d__law_dice, d__law_off, d__law_alike, d__law_mixed, d__law_box, d__law_hold, d__law_names, d__law_rows, d__law_more, d__law_desk, d__law_ends, d__law_is, d__law_bad_box, d__law_mid, d__law_apart, d__law_ring, d__law_lonely, d__law_wrong, d__law_refused, d_law]
def fa : List He.Fa := [.glo "LateError", .glo "BadDesk", .glo "TooLate", .glo "BadDelays", .glo "BadStreams", .glo "BadChange", .glo "BadText", .str "SMALL" "abcdefghijklmnopqrstuvwxyz", .glo "SIZES", .int "MOST_BOXES" 10, .int "MOST_CABLES" 20, .int "MOST_LATE" 9, .int "MOST_BY" 9, .int "MOST_HOLD" 99, .glo "must", .glo "is_name", .glo "Desk", .glo "_law_dice", .glo "_law_off", .glo "_law_alike", .glo "_law_mixed", .glo "_law_box", .glo "_law_hold", .glo "_law_names", .glo "_law_rows", .glo "_law_more", .glo "_law_desk", .glo "_law_ends", .glo "_law_is", .glo "_law_bad_box", .glo "_law_mid", .glo "_law_apart", .glo "_law_ring", .glo "_law_lonely", .glo "_law_wrong", .glo "_law_refused", .glo "law", .free "ValueError", .free "abs", .free "all", .free "bool", .free "dict", .free "int", .free "isinstance", .free "len", .free "list", .free "min", .free "range", .free "str", .free "tuple", .exm "BadDesk" "LateError" true, .exm "BadDesk" "BadDesk" true, .noat "BadDesk" "at", .noat "BadDesk" "ring", .noat "BadDesk" "row", .noat "BadDesk" "why", .exm "TooLate" "LateError" true, .exm "TooLate" "TooLate" true, .noat "TooLate" "at", .noat "TooLate" "ring", .noat "TooLate" "row", .noat "TooLate" "why", .exm "BadDelays" "LateError" true, .exm "BadDelays" "BadDelays" true, .exc "BadDelays", .noat "BadDelays" "at", .noat "BadDelays" "ring", .noat "BadDelays" "row", .noat "BadDelays" "why", .exm "BadStreams" "LateError" true, .exm "BadStreams" "BadStreams" true, .exc "BadStreams", .noat "BadStreams" "at", .noat "BadStreams" "ring", .noat "BadStreams" "row", .noat "BadStreams" "why", .exm "BadChange" "LateError" true, .exm "BadChange" "BadChange" true, .exc "BadChange", .noat "BadChange" "at", .noat "BadChange" "ring", .noat "BadChange" "row", .noat "BadChange" "why", .exm "BadText" "LateError" true, .exm "BadText" "BadText" true, .noat "BadText" "at", .noat "BadText" "ring", .noat "BadText" "row", .noat "BadText" "why", .cls "Desk", .mkr "Desk", .noat "Desk" "kept", .noat "Desk" "order", .noat "Desk" "wires", .meth "Desk" "is_box", .meth "Desk" "names", .meth "Desk" "is_cable", .meth "Desk" "led_from", .meth "Desk" "is_twice", .meth "Desk" "in_order", .meth "Desk" "boxes", .meth "Desk" "cables", .meth "Desk" "late", .meth "Desk" "ends"]
def xs : List XFa := [.bas "LateError", .xf "BadDesk", .oex "BadDesk", .kit "BadDesk" "BadDesk" true, .kit "BadDesk" "TooLate" false, .ne "BadDesk" "TooLate", .kit "BadDesk" "BadDelays" false, .ne "BadDesk" "BadDelays", .kit "BadDesk" "BadStreams" false, .ne "BadDesk" "BadStreams", .kit "BadDesk" "BadChange" false, .ne "BadDesk" "BadChange", .kit "BadDesk" "BadText" false, .ne "BadDesk" "BadText", .kiv "BadDesk", .xf "TooLate", .oex "TooLate", .kit "TooLate" "BadDesk" false, .kit "TooLate" "TooLate" true, .kit "TooLate" "BadDelays" false, .ne "TooLate" "BadDelays", .kit "TooLate" "BadStreams" false, .ne "TooLate" "BadStreams", .kit "TooLate" "BadChange" false, .ne "TooLate" "BadChange", .kit "TooLate" "BadText" false, .ne "TooLate" "BadText", .kiv "TooLate", .xf "BadDelays", .kit "BadDelays" "BadDesk" false, .kit "BadDelays" "TooLate" false, .kit "BadDelays" "BadDelays" true, .kit "BadDelays" "BadStreams" false, .ne "BadDelays" "BadStreams", .kit "BadDelays" "BadChange" false, .ne "BadDelays" "BadChange", .kit "BadDelays" "BadText" false, .ne "BadDelays" "BadText", .kiv "BadDelays", .xf "BadStreams", .kit "BadStreams" "BadDesk" false, .kit "BadStreams" "TooLate" false, .kit "BadStreams" "BadDelays" false, .kit "BadStreams" "BadStreams" true, .kit "BadStreams" "BadChange" false, .ne "BadStreams" "BadChange", .kit "BadStreams" "BadText" false, .ne "BadStreams" "BadText", .kiv "BadStreams", .xf "BadChange", .kit "BadChange" "BadDesk" false, .kit "BadChange" "TooLate" false, .kit "BadChange" "BadDelays" false, .kit "BadChange" "BadStreams" false, .kit "BadChange" "BadChange" true, .kit "BadChange" "BadText" false, .ne "BadChange" "BadText", .kiv "BadChange", .xf "BadText", .oex "BadText", .kit "BadText" "BadDesk" false, .kit "BadText" "TooLate" false, .kit "BadText" "BadDelays" false, .kit "BadText" "BadStreams" false, .kit "BadText" "BadChange" false, .kit "BadText" "BadText" true, .kiv "BadText"]
def ts : List TabU := [(fun K => He.ga K "SIZES", t_SIZES)]
abbrev R : PySem.W.OpenRow := PySem.W.OpenLaw.row PySem.Challenge.rw_evenlate_k01_desks_refused
abbrev hk : PySem.W.Hook := hookX 5 fa fn ts xs
def ob (s : PySem.W.SharedT) : AlX := obsXG 5 fa fn ts xs (HandSHeadRun.getT s)
theorem ob_eq (s : PySem.W.SharedT) : ob s = hk.obs s.abs := obsXG_eq (HandSHeadRun.getT_eq s)
def loose : List Str := [("LateError" : Str), ("BadDesk" : Str), ("TooLate" : Str), ("BadDelays" : Str), ("BadStreams" : Str), ("BadChange" : Str), ("BadText" : Str), ("SMALL" : Str), ("SIZES" : Str), ("MOST_BOXES" : Str), ("MOST_CABLES" : Str), ("MOST_LATE" : Str), ("MOST_BY" : Str), ("MOST_HOLD" : Str), ("must" : Str), ("is_name" : Str), ("Desk" : Str), ("_law_dice" : Str), ("_law_off" : Str), ("_law_alike" : Str), ("_law_mixed" : Str), ("_law_box" : Str), ("_law_hold" : Str), ("_law_names" : Str), ("_law_rows" : Str), ("_law_more" : Str), ("_law_desk" : Str), ("_law_ends" : Str), ("_law_is" : Str), ("_law_bad_box" : Str), ("_law_mid" : Str), ("_law_apart" : Str), ("_law_ring" : Str), ("_law_lonely" : Str), ("_law_wrong" : Str), ("_law_refused" : Str)]
theorem run (w : World) : HandSHeadRun.RunEq R (PySem.W.view R.prog [39]) hk ob 4000 loose w := PySem.W.byRow2 "special-get-raises" (P := fun w => HandSHeadRun.RunEq R (PySem.W.view R.prog [39]) hk ob 4000 loose w) (fun w => by intro os; kernel_rfl) (fun w => by intro os; kernel_rfl) w
abbrev clK (K : PySem.W.Frag) : Cl := ⟨He.ga K "Desk", He.ga K "LateError", He.ga K "BadDesk", He.ga K "TooLate", He.ga K "BadDelays", He.ga K "BadStreams", He.ga K "BadChange", He.ga K "BadText"⟩
theorem nd_ok {w : World} {K : PySem.W.Frag} (c : SaysX fa fn ts xs w K) : (exs (clK K)).Nodup := by
  simp only [exs, List.nodup_cons, List.mem_cons, List.not_mem_nil, or_false, not_or, not_false_eq_true, List.nodup_nil, and_true]
  exact ⟨⟨xne_ok (c.x 5 (f := .ne "BadDesk" "TooLate") rfl), xne_ok (c.x 7 (f := .ne "BadDesk" "BadDelays") rfl), xne_ok (c.x 9 (f := .ne "BadDesk" "BadStreams") rfl), xne_ok (c.x 11 (f := .ne "BadDesk" "BadChange") rfl), xne_ok (c.x 13 (f := .ne "BadDesk" "BadText") rfl)⟩, ⟨xne_ok (c.x 20 (f := .ne "TooLate" "BadDelays") rfl), xne_ok (c.x 22 (f := .ne "TooLate" "BadStreams") rfl), xne_ok (c.x 24 (f := .ne "TooLate" "BadChange") rfl), xne_ok (c.x 26 (f := .ne "TooLate" "BadText") rfl)⟩, ⟨xne_ok (c.x 33 (f := .ne "BadDelays" "BadStreams") rfl), xne_ok (c.x 35 (f := .ne "BadDelays" "BadChange") rfl), xne_ok (c.x 37 (f := .ne "BadDelays" "BadText") rfl)⟩, ⟨xne_ok (c.x 45 (f := .ne "BadStreams" "BadChange") rfl), xne_ok (c.x 47 (f := .ne "BadStreams" "BadText") rfl)⟩, xne_ok (c.x 56 (f := .ne "BadChange" "BadText") rfl)⟩
theorem tx {P : Program} {w : World} {K : PySem.W.Frag} {h : Heap} {mg : Str → Option Value} (KX : K.In h) (G : h.Ns mainGlobals mg) (c : SaysX fa fn ts xs w K) (base : Heap) : Tx P w K mg base (clK K) where
  n_ValueError := He.free_ok KX G (c.u.fact 37 (f := .free "ValueError") rfl)
  n_abs := He.free_ok KX G (c.u.fact 38 (f := .free "abs") rfl)
  n_all := He.free_ok KX G (c.u.fact 39 (f := .free "all") rfl)
  n_bool := He.free_ok KX G (c.u.fact 40 (f := .free "bool") rfl)
  n_dict := He.free_ok KX G (c.u.fact 41 (f := .free "dict") rfl)
  n_int := He.free_ok KX G (c.u.fact 42 (f := .free "int") rfl)
  n_isinstance := He.free_ok KX G (c.u.fact 43 (f := .free "isinstance") rfl)
  n_len := He.free_ok KX G (c.u.fact 44 (f := .free "len") rfl)
  n_list := He.free_ok KX G (c.u.fact 45 (f := .free "list") rfl)
  n_min := He.free_ok KX G (c.u.fact 46 (f := .free "min") rfl)
  n_range := He.free_ok KX G (c.u.fact 47 (f := .free "range") rfl)
  n_str := He.free_ok KX G (c.u.fact 48 (f := .free "str") rfl)
  n_tuple := He.free_ok KX G (c.u.fact 49 (f := .free "tuple") rfl)
  g_SMALL := He.str_ok KX G (c.u.fact 7 (f := .str "SMALL" "abcdefghijklmnopqrstuvwxyz") rfl)
  t_SIZES := c.u.tab 0 (t := (fun K => He.ga K "SIZES", t_SIZES)) (He.glo_ok KX G (c.u.fact 8 (f := .glo "SIZES") rfl)) rfl
  g_MOST_BOXES := He.int_ok KX G (c.u.fact 9 (f := .int "MOST_BOXES" 10) rfl)
  g_MOST_CABLES := He.int_ok KX G (c.u.fact 10 (f := .int "MOST_CABLES" 20) rfl)
  g_MOST_LATE := He.int_ok KX G (c.u.fact 11 (f := .int "MOST_LATE" 9) rfl)
  g_MOST_BY := He.int_ok KX G (c.u.fact 12 (f := .int "MOST_BY" 9) rfl)
  g_MOST_HOLD := He.int_ok KX G (c.u.fact 13 (f := .int "MOST_HOLD" 99) rfl)
  cls_Desk := He.cls_ok (c.u.fact 89 (f := .cls "Desk") rfl)
  na_Desk_kept := He.noat_ok (c.u.fact 91 (f := .noat "Desk" "kept") rfl)
  na_Desk_order := He.noat_ok (c.u.fact 92 (f := .noat "Desk" "order") rfl)
  na_Desk_wires := He.noat_ok (c.u.fact 93 (f := .noat "Desk" "wires") rfl)
  g_LateError := He.glo_ok KX G (c.u.fact 0 (f := .glo "LateError") rfl)
  g_BadDesk := He.glo_ok KX G (c.u.fact 1 (f := .glo "BadDesk") rfl)
  exm_BadDesk := fun D hD => by rw [List.mem_singleton.mp hD]; exact xexm_ok (c.u.fact 51 (f := .exm "BadDesk" "BadDesk" true) rfl)
  g_TooLate := He.glo_ok KX G (c.u.fact 2 (f := .glo "TooLate") rfl)
  exm_TooLate := fun D hD => by rw [List.mem_singleton.mp hD]; exact xexm_ok (c.u.fact 57 (f := .exm "TooLate" "TooLate" true) rfl)
  g_BadDelays := He.glo_ok KX G (c.u.fact 3 (f := .glo "BadDelays") rfl)
  x0_BadDelays := xc0_ok (He.glo_ok KX G (c.u.fact 3 (f := .glo "BadDelays") rfl)) (c.u.fact 64 (f := .exc "BadDelays") rfl)
  exm_BadDelays := fun D hD => by rw [List.mem_singleton.mp hD]; exact xexm_ok (c.u.fact 63 (f := .exm "BadDelays" "BadDelays" true) rfl)
  g_BadStreams := He.glo_ok KX G (c.u.fact 4 (f := .glo "BadStreams") rfl)
  x0_BadStreams := xc0_ok (He.glo_ok KX G (c.u.fact 4 (f := .glo "BadStreams") rfl)) (c.u.fact 71 (f := .exc "BadStreams") rfl)
  exm_BadStreams := fun D hD => by rw [List.mem_singleton.mp hD]; exact xexm_ok (c.u.fact 70 (f := .exm "BadStreams" "BadStreams" true) rfl)
  g_BadChange := He.glo_ok KX G (c.u.fact 5 (f := .glo "BadChange") rfl)
  x0_BadChange := xc0_ok (He.glo_ok KX G (c.u.fact 5 (f := .glo "BadChange") rfl)) (c.u.fact 78 (f := .exc "BadChange") rfl)
  exm_BadChange := fun D hD => by rw [List.mem_singleton.mp hD]; exact xexm_ok (c.u.fact 77 (f := .exm "BadChange" "BadChange" true) rfl)
  g_BadText := He.glo_ok KX G (c.u.fact 6 (f := .glo "BadText") rfl)
  exm_BadText := fun D hD => by rw [List.mem_singleton.mp hD]; exact xexm_ok (c.u.fact 84 (f := .exm "BadText" "BadText" true) rfl)
  exm_LateError := fun D hD => by
    simp only [exs, List.mem_cons, List.not_mem_nil, or_false] at hD
    rcases hD with rfl | rfl | rfl | rfl | rfl | rfl
    · exact xexm_ok (c.u.fact 50 (f := .exm "BadDesk" "LateError" true) rfl)
    · exact xexm_ok (c.u.fact 56 (f := .exm "TooLate" "LateError" true) rfl)
    · exact xexm_ok (c.u.fact 62 (f := .exm "BadDelays" "LateError" true) rfl)
    · exact xexm_ok (c.u.fact 69 (f := .exm "BadStreams" "LateError" true) rfl)
    · exact xexm_ok (c.u.fact 76 (f := .exm "BadChange" "LateError" true) rfl)
    · exact xexm_ok (c.u.fact 83 (f := .exm "BadText" "LateError" true) rfl)
  bas := bas_ok (He.glo_ok KX G (c.u.fact 0 (f := .glo "LateError") rfl)) (c.x 0 (f := .bas "LateError") rfl)
  excc := fun D hD => by
    simp only [exs, List.mem_cons, List.not_mem_nil, or_false] at hD
    rcases hD with rfl | rfl | rfl | rfl | rfl | rfl
    · exact (xf_ok (c.x 1 (f := .xf "BadDesk") rfl)).1
    · exact (xf_ok (c.x 15 (f := .xf "TooLate") rfl)).1
    · exact (xf_ok (c.x 28 (f := .xf "BadDelays") rfl)).1
    · exact (xf_ok (c.x 39 (f := .xf "BadStreams") rfl)).1
    · exact (xf_ok (c.x 49 (f := .xf "BadChange") rfl)).1
    · exact (xf_ok (c.x 58 (f := .xf "BadText") rfl)).1
  xfc := fun D hD => by
    simp only [exs, List.mem_cons, List.not_mem_nil, or_false] at hD
    rcases hD with rfl | rfl | rfl | rfl | rfl | rfl
    · exact (xf_ok (c.x 1 (f := .xf "BadDesk") rfl)).2
    · exact (xf_ok (c.x 15 (f := .xf "TooLate") rfl)).2
    · exact (xf_ok (c.x 28 (f := .xf "BadDelays") rfl)).2
    · exact (xf_ok (c.x 39 (f := .xf "BadStreams") rfl)).2
    · exact (xf_ok (c.x 49 (f := .xf "BadChange") rfl)).2
    · exact (xf_ok (c.x 58 (f := .xf "BadText") rfl)).2
  kit := fun D hD D2 hD2 => by
    simp only [exs, List.mem_cons, List.not_mem_nil, or_false] at hD hD2
    rcases hD with rfl | rfl | rfl | rfl | rfl | rfl <;> rcases hD2 with rfl | rfl | rfl | rfl | rfl | rfl
    · rw [decide_eq_true rfl]; exact kit_ok (c.x 3 (f := .kit "BadDesk" "BadDesk" true) rfl)
    · rw [decide_eq_false (xne_ok (c.x 5 (f := .ne "BadDesk" "TooLate") rfl))]; exact kit_ok (c.x 4 (f := .kit "BadDesk" "TooLate" false) rfl)
    · rw [decide_eq_false (xne_ok (c.x 7 (f := .ne "BadDesk" "BadDelays") rfl))]; exact kit_ok (c.x 6 (f := .kit "BadDesk" "BadDelays" false) rfl)
    · rw [decide_eq_false (xne_ok (c.x 9 (f := .ne "BadDesk" "BadStreams") rfl))]; exact kit_ok (c.x 8 (f := .kit "BadDesk" "BadStreams" false) rfl)
    · rw [decide_eq_false (xne_ok (c.x 11 (f := .ne "BadDesk" "BadChange") rfl))]; exact kit_ok (c.x 10 (f := .kit "BadDesk" "BadChange" false) rfl)
    · rw [decide_eq_false (xne_ok (c.x 13 (f := .ne "BadDesk" "BadText") rfl))]; exact kit_ok (c.x 12 (f := .kit "BadDesk" "BadText" false) rfl)
    · rw [decide_eq_false (Ne.symm (xne_ok (c.x 5 (f := .ne "BadDesk" "TooLate") rfl)))]; exact kit_ok (c.x 17 (f := .kit "TooLate" "BadDesk" false) rfl)
    · rw [decide_eq_true rfl]; exact kit_ok (c.x 18 (f := .kit "TooLate" "TooLate" true) rfl)
    · rw [decide_eq_false (xne_ok (c.x 20 (f := .ne "TooLate" "BadDelays") rfl))]; exact kit_ok (c.x 19 (f := .kit "TooLate" "BadDelays" false) rfl)
    · rw [decide_eq_false (xne_ok (c.x 22 (f := .ne "TooLate" "BadStreams") rfl))]; exact kit_ok (c.x 21 (f := .kit "TooLate" "BadStreams" false) rfl)
    · rw [decide_eq_false (xne_ok (c.x 24 (f := .ne "TooLate" "BadChange") rfl))]; exact kit_ok (c.x 23 (f := .kit "TooLate" "BadChange" false) rfl)
    · rw [decide_eq_false (xne_ok (c.x 26 (f := .ne "TooLate" "BadText") rfl))]; exact kit_ok (c.x 25 (f := .kit "TooLate" "BadText" false) rfl)
    · rw [decide_eq_false (Ne.symm (xne_ok (c.x 7 (f := .ne "BadDesk" "BadDelays") rfl)))]; exact kit_ok (c.x 29 (f := .kit "BadDelays" "BadDesk" false) rfl)
    · rw [decide_eq_false (Ne.symm (xne_ok (c.x 20 (f := .ne "TooLate" "BadDelays") rfl)))]; exact kit_ok (c.x 30 (f := .kit "BadDelays" "TooLate" false) rfl)
    · rw [decide_eq_true rfl]; exact kit_ok (c.x 31 (f := .kit "BadDelays" "BadDelays" true) rfl)
    · rw [decide_eq_false (xne_ok (c.x 33 (f := .ne "BadDelays" "BadStreams") rfl))]; exact kit_ok (c.x 32 (f := .kit "BadDelays" "BadStreams" false) rfl)
    · rw [decide_eq_false (xne_ok (c.x 35 (f := .ne "BadDelays" "BadChange") rfl))]; exact kit_ok (c.x 34 (f := .kit "BadDelays" "BadChange" false) rfl)
    · rw [decide_eq_false (xne_ok (c.x 37 (f := .ne "BadDelays" "BadText") rfl))]; exact kit_ok (c.x 36 (f := .kit "BadDelays" "BadText" false) rfl)
    · rw [decide_eq_false (Ne.symm (xne_ok (c.x 9 (f := .ne "BadDesk" "BadStreams") rfl)))]; exact kit_ok (c.x 40 (f := .kit "BadStreams" "BadDesk" false) rfl)
    · rw [decide_eq_false (Ne.symm (xne_ok (c.x 22 (f := .ne "TooLate" "BadStreams") rfl)))]; exact kit_ok (c.x 41 (f := .kit "BadStreams" "TooLate" false) rfl)
    · rw [decide_eq_false (Ne.symm (xne_ok (c.x 33 (f := .ne "BadDelays" "BadStreams") rfl)))]; exact kit_ok (c.x 42 (f := .kit "BadStreams" "BadDelays" false) rfl)
    · rw [decide_eq_true rfl]; exact kit_ok (c.x 43 (f := .kit "BadStreams" "BadStreams" true) rfl)
    · rw [decide_eq_false (xne_ok (c.x 45 (f := .ne "BadStreams" "BadChange") rfl))]; exact kit_ok (c.x 44 (f := .kit "BadStreams" "BadChange" false) rfl)
    · rw [decide_eq_false (xne_ok (c.x 47 (f := .ne "BadStreams" "BadText") rfl))]; exact kit_ok (c.x 46 (f := .kit "BadStreams" "BadText" false) rfl)
    · rw [decide_eq_false (Ne.symm (xne_ok (c.x 11 (f := .ne "BadDesk" "BadChange") rfl)))]; exact kit_ok (c.x 50 (f := .kit "BadChange" "BadDesk" false) rfl)
    · rw [decide_eq_false (Ne.symm (xne_ok (c.x 24 (f := .ne "TooLate" "BadChange") rfl)))]; exact kit_ok (c.x 51 (f := .kit "BadChange" "TooLate" false) rfl)
    · rw [decide_eq_false (Ne.symm (xne_ok (c.x 35 (f := .ne "BadDelays" "BadChange") rfl)))]; exact kit_ok (c.x 52 (f := .kit "BadChange" "BadDelays" false) rfl)
    · rw [decide_eq_false (Ne.symm (xne_ok (c.x 45 (f := .ne "BadStreams" "BadChange") rfl)))]; exact kit_ok (c.x 53 (f := .kit "BadChange" "BadStreams" false) rfl)
    · rw [decide_eq_true rfl]; exact kit_ok (c.x 54 (f := .kit "BadChange" "BadChange" true) rfl)
    · rw [decide_eq_false (xne_ok (c.x 56 (f := .ne "BadChange" "BadText") rfl))]; exact kit_ok (c.x 55 (f := .kit "BadChange" "BadText" false) rfl)
    · rw [decide_eq_false (Ne.symm (xne_ok (c.x 13 (f := .ne "BadDesk" "BadText") rfl)))]; exact kit_ok (c.x 60 (f := .kit "BadText" "BadDesk" false) rfl)
    · rw [decide_eq_false (Ne.symm (xne_ok (c.x 26 (f := .ne "TooLate" "BadText") rfl)))]; exact kit_ok (c.x 61 (f := .kit "BadText" "TooLate" false) rfl)
    · rw [decide_eq_false (Ne.symm (xne_ok (c.x 37 (f := .ne "BadDelays" "BadText") rfl)))]; exact kit_ok (c.x 62 (f := .kit "BadText" "BadDelays" false) rfl)
    · rw [decide_eq_false (Ne.symm (xne_ok (c.x 47 (f := .ne "BadStreams" "BadText") rfl)))]; exact kit_ok (c.x 63 (f := .kit "BadText" "BadStreams" false) rfl)
    · rw [decide_eq_false (Ne.symm (xne_ok (c.x 56 (f := .ne "BadChange" "BadText") rfl)))]; exact kit_ok (c.x 64 (f := .kit "BadText" "BadChange" false) rfl)
    · rw [decide_eq_true rfl]; exact kit_ok (c.x 65 (f := .kit "BadText" "BadText" true) rfl)
  kiv := fun D hD => by
    simp only [exs, List.mem_cons, List.not_mem_nil, or_false] at hD
    rcases hD with rfl | rfl | rfl | rfl | rfl | rfl
    · exact kiv_ok (c.x 14 (f := .kiv "BadDesk") rfl)
    · exact kiv_ok (c.x 27 (f := .kiv "TooLate") rfl)
    · exact kiv_ok (c.x 38 (f := .kiv "BadDelays") rfl)
    · exact kiv_ok (c.x 48 (f := .kiv "BadStreams") rfl)
    · exact kiv_ok (c.x 57 (f := .kiv "BadChange") rfl)
    · exact kiv_ok (c.x 66 (f := .kiv "BadText") rfl)
  xna_at := fun D hD => by
    simp only [exs, List.mem_cons, List.not_mem_nil, or_false] at hD
    rcases hD with rfl | rfl | rfl | rfl | rfl | rfl
    · exact He.noat_ok (c.u.fact 52 (f := .noat "BadDesk" "at") rfl)
    · exact He.noat_ok (c.u.fact 58 (f := .noat "TooLate" "at") rfl)
    · exact He.noat_ok (c.u.fact 65 (f := .noat "BadDelays" "at") rfl)
    · exact He.noat_ok (c.u.fact 72 (f := .noat "BadStreams" "at") rfl)
    · exact He.noat_ok (c.u.fact 79 (f := .noat "BadChange" "at") rfl)
    · exact He.noat_ok (c.u.fact 85 (f := .noat "BadText" "at") rfl)
  xna_ring := fun D hD => by
    simp only [exs, List.mem_cons, List.not_mem_nil, or_false] at hD
    rcases hD with rfl | rfl | rfl | rfl | rfl | rfl
    · exact He.noat_ok (c.u.fact 53 (f := .noat "BadDesk" "ring") rfl)
    · exact He.noat_ok (c.u.fact 59 (f := .noat "TooLate" "ring") rfl)
    · exact He.noat_ok (c.u.fact 66 (f := .noat "BadDelays" "ring") rfl)
    · exact He.noat_ok (c.u.fact 73 (f := .noat "BadStreams" "ring") rfl)
    · exact He.noat_ok (c.u.fact 80 (f := .noat "BadChange" "ring") rfl)
    · exact He.noat_ok (c.u.fact 86 (f := .noat "BadText" "ring") rfl)
  xna_row := fun D hD => by
    simp only [exs, List.mem_cons, List.not_mem_nil, or_false] at hD
    rcases hD with rfl | rfl | rfl | rfl | rfl | rfl
    · exact He.noat_ok (c.u.fact 54 (f := .noat "BadDesk" "row") rfl)
    · exact He.noat_ok (c.u.fact 60 (f := .noat "TooLate" "row") rfl)
    · exact He.noat_ok (c.u.fact 67 (f := .noat "BadDelays" "row") rfl)
    · exact He.noat_ok (c.u.fact 74 (f := .noat "BadStreams" "row") rfl)
    · exact He.noat_ok (c.u.fact 81 (f := .noat "BadChange" "row") rfl)
    · exact He.noat_ok (c.u.fact 87 (f := .noat "BadText" "row") rfl)
  xna_why := fun D hD => by
    simp only [exs, List.mem_cons, List.not_mem_nil, or_false] at hD
    rcases hD with rfl | rfl | rfl | rfl | rfl | rfl
    · exact He.noat_ok (c.u.fact 55 (f := .noat "BadDesk" "why") rfl)
    · exact He.noat_ok (c.u.fact 61 (f := .noat "TooLate" "why") rfl)
    · exact He.noat_ok (c.u.fact 68 (f := .noat "BadDelays" "why") rfl)
    · exact He.noat_ok (c.u.fact 75 (f := .noat "BadStreams" "why") rfl)
    · exact He.noat_ok (c.u.fact 82 (f := .noat "BadChange" "why") rfl)
    · exact He.noat_ok (c.u.fact 88 (f := .noat "BadText" "why") rfl)
  fx_BadDesk := by
    obtain ⟨fd, F⟩ := c.u.t.d.def_ 0 (d := d_X_BadDesk) rfl
    obtain ⟨T, iC, tI⟩ := oex_ok (c.x 2 (f := .oex "BadDesk") rfl)
    exact ⟨⟨_, fd, He.glo_ok KX G (c.u.fact 1 (f := .glo "BadDesk") rfl), T, iC, tI, (FunD.bindsN F fun _ _ _ _ _ _ us hl => match us, hl with | [_, _, _], _ => rfl), He5.fun_of F⟩⟩
  fx_TooLate := by
    obtain ⟨fd, F⟩ := c.u.t.d.def_ 1 (d := d_X_TooLate) rfl
    obtain ⟨T, iC, tI⟩ := oex_ok (c.x 16 (f := .oex "TooLate") rfl)
    exact ⟨⟨_, fd, He.glo_ok KX G (c.u.fact 2 (f := .glo "TooLate") rfl), T, iC, tI, (FunD.bindsN F fun _ _ _ _ _ _ us hl => match us, hl with | [_, _], _ => rfl), He5.fun_of F⟩⟩
  fx_BadText := by
    obtain ⟨fd, F⟩ := c.u.t.d.def_ 2 (d := d_X_BadText) rfl
    obtain ⟨T, iC, tI⟩ := oex_ok (c.x 59 (f := .oex "BadText") rfl)
    exact ⟨⟨_, fd, He.glo_ok KX G (c.u.fact 6 (f := .glo "BadText") rfl), T, iC, tI, (FunD.bindsN F fun _ _ _ _ _ _ us hl => match us, hl with | [_, _], _ => rfl), He5.fun_of F⟩⟩
  f_must := by
    obtain ⟨fd, F⟩ := c.u.t.d.def_ 3 (d := d_must) rfl
    exact ⟨⟨_, fd, He.glo_ok KX G (c.u.fact 14 (f := .glo "must") rfl), F.kp, (FunD.bindsN F fun _ _ _ _ _ _ us hl => match us, hl with | [_, _, _], _ => rfl), He5.fun_of F⟩⟩
  f_is_name := by
    obtain ⟨fd, F⟩ := c.u.t.d.def_ 4 (d := d_is_name) rfl
    exact ⟨⟨_, fd, He.glo_ok KX G (c.u.fact 15 (f := .glo "is_name") rfl), F.kp, (FunD.bindsN F fun _ _ _ _ _ _ us hl => match us, hl with | [_], _ => rfl), He5.fun_of F⟩⟩
  i_Desk___init__ := by
    obtain ⟨fd, F⟩ := c.u.t.d.def_ 5 (d := d_Desk___init__) rfl
    exact ⟨⟨_, fd, He.glo_ok KX G (c.u.fact 16 (f := .glo "Desk") rfl), He.mkr_ok (c.u.fact 90 (f := .mkr "Desk") rfl), (FunD.bindsN F fun _ _ _ _ _ _ us hl => match us, hl with | [_, _, _], _ => rfl), He5.fun_of F⟩⟩
  m_Desk_is_box := by
    obtain ⟨fd, F⟩ := c.u.t.d.def_ 6 (d := d_Desk_is_box) rfl
    exact ⟨⟨_, fd, He.meth_ok (c.u.fact 94 (f := .meth "Desk" "is_box") rfl), (FunD.bindsN F fun _ _ _ _ _ _ us hl => match us, hl with | [_, _], _ => rfl), He5.fun_of F⟩⟩
  m_Desk_names := by
    obtain ⟨fd, F⟩ := c.u.t.d.def_ 7 (d := d_Desk_names) rfl
    exact ⟨⟨_, fd, He.meth_ok (c.u.fact 95 (f := .meth "Desk" "names") rfl), (FunD.bindsN F fun _ _ _ _ _ _ us hl => match us, hl with | [_, _], _ => rfl), He5.fun_of F⟩⟩
  m_Desk_is_cable := by
    obtain ⟨fd, F⟩ := c.u.t.d.def_ 8 (d := d_Desk_is_cable) rfl
    exact ⟨⟨_, fd, He.meth_ok (c.u.fact 96 (f := .meth "Desk" "is_cable") rfl), (FunD.bindsN F fun _ _ _ _ _ _ us hl => match us, hl with | [_, _], _ => rfl), He5.fun_of F⟩⟩
  m_Desk_led_from := by
    obtain ⟨fd, F⟩ := c.u.t.d.def_ 9 (d := d_Desk_led_from) rfl
    exact ⟨⟨_, fd, He.meth_ok (c.u.fact 97 (f := .meth "Desk" "led_from") rfl), (FunD.bindsN F fun _ _ _ _ _ _ us hl => match us, hl with | [_, _, _], _ => rfl), He5.fun_of F⟩⟩
  m_Desk_is_twice := by
    obtain ⟨fd, F⟩ := c.u.t.d.def_ 10 (d := d_Desk_is_twice) rfl
    exact ⟨⟨_, fd, He.meth_ok (c.u.fact 98 (f := .meth "Desk" "is_twice") rfl), (FunD.bindsN F fun _ _ _ _ _ _ us hl => match us, hl with | [_, _], _ => rfl), He5.fun_of F⟩⟩
  m_Desk_in_order := by
    obtain ⟨fd, F⟩ := c.u.t.d.def_ 11 (d := d_Desk_in_order) rfl
    exact ⟨⟨_, fd, He.meth_ok (c.u.fact 99 (f := .meth "Desk" "in_order") rfl), (FunD.bindsN F fun _ _ _ _ _ _ us hl => match us, hl with | [_], _ => rfl), He5.fun_of F⟩⟩
  m_Desk_boxes := by
    obtain ⟨fd, F⟩ := c.u.t.d.def_ 12 (d := d_Desk_boxes) rfl
    exact ⟨⟨_, fd, He.meth_ok (c.u.fact 100 (f := .meth "Desk" "boxes") rfl), (FunD.bindsN F fun _ _ _ _ _ _ us hl => match us, hl with | [_], _ => rfl), He5.fun_of F⟩⟩
  m_Desk_cables := by
    obtain ⟨fd, F⟩ := c.u.t.d.def_ 13 (d := d_Desk_cables) rfl
    exact ⟨⟨_, fd, He.meth_ok (c.u.fact 101 (f := .meth "Desk" "cables") rfl), (FunD.bindsN F fun _ _ _ _ _ _ us hl => match us, hl with | [_], _ => rfl), He5.fun_of F⟩⟩
  m_Desk_ends := by
    obtain ⟨fd, F⟩ := c.u.t.d.def_ 15 (d := d_Desk_ends) rfl
    exact ⟨⟨_, fd, He.meth_ok (c.u.fact 103 (f := .meth "Desk" "ends") rfl), (FunD.bindsN F fun _ _ _ _ _ _ us hl => match us, hl with | [_, _], _ => rfl), He5.fun_of F⟩⟩
  f__law_dice := by
    obtain ⟨fd, F⟩ := c.u.t.d.def_ 16 (d := d__law_dice) rfl
    exact ⟨⟨_, fd, He.glo_ok KX G (c.u.fact 17 (f := .glo "_law_dice") rfl), F.kp, (FunD.bindsN F fun _ _ _ _ _ _ us hl => match us, hl with | [_, _], _ => rfl), He5.fun_of F⟩⟩
  f__law_off := by
    obtain ⟨fd, F⟩ := c.u.t.d.def_ 17 (d := d__law_off) rfl
    exact ⟨⟨_, fd, He.glo_ok KX G (c.u.fact 18 (f := .glo "_law_off") rfl), F.kp, (FunD.bindsN F fun _ _ _ _ _ _ us hl => match us, hl with | [_, _], _ => rfl), He5.fun_of F⟩⟩
  f__law_alike := by
    obtain ⟨fd, F⟩ := c.u.t.d.def_ 18 (d := d__law_alike) rfl
    exact ⟨⟨_, fd, He.glo_ok KX G (c.u.fact 19 (f := .glo "_law_alike") rfl), F.kp, (FunD.bindsN F fun _ _ _ _ _ _ us hl => match us, hl with | [_, _], _ => rfl), He5.fun_of F⟩⟩
  f__law_mixed := by
    obtain ⟨fd, F⟩ := c.u.t.d.def_ 19 (d := d__law_mixed) rfl
    exact ⟨⟨_, fd, He.glo_ok KX G (c.u.fact 20 (f := .glo "_law_mixed") rfl), F.kp, (FunD.bindsN F fun _ _ _ _ _ _ us hl => match us, hl with | [_, _], _ => rfl), He5.fun_of F⟩⟩
  f__law_box := by
    obtain ⟨fd, F⟩ := c.u.t.d.def_ 20 (d := d__law_box) rfl
    exact ⟨⟨_, fd, He.glo_ok KX G (c.u.fact 21 (f := .glo "_law_box") rfl), F.kp, (FunD.bindsN F fun _ _ _ _ _ _ us hl => match us, hl with | [_], _ => rfl), He5.fun_of F⟩⟩
  f__law_hold := by
    obtain ⟨fd, F⟩ := c.u.t.d.def_ 21 (d := d__law_hold) rfl
    exact ⟨⟨_, fd, He.glo_ok KX G (c.u.fact 22 (f := .glo "_law_hold") rfl), F.kp, (FunD.bindsN F fun _ _ _ _ _ _ us hl => match us, hl with | [_], _ => rfl), He5.fun_of F⟩⟩
  f__law_names := by
    obtain ⟨fd, F⟩ := c.u.t.d.def_ 22 (d := d__law_names) rfl
    exact ⟨⟨_, fd, He.glo_ok KX G (c.u.fact 23 (f := .glo "_law_names") rfl), F.kp, (FunD.bindsN F fun _ _ _ _ _ _ us hl => match us, hl with | [_], _ => rfl), He5.fun_of F⟩⟩
  f__law_rows := by
    obtain ⟨fd, F⟩ := c.u.t.d.def_ 23 (d := d__law_rows) rfl
    exact ⟨⟨_, fd, He.glo_ok KX G (c.u.fact 24 (f := .glo "_law_rows") rfl), F.kp, (FunD.bindsN F fun _ _ _ _ _ _ us hl => match us, hl with | [_, _], _ => rfl), He5.fun_of F⟩⟩
  f__law_more := by
    obtain ⟨fd, F⟩ := c.u.t.d.def_ 24 (d := d__law_more) rfl
    exact ⟨⟨_, fd, He.glo_ok KX G (c.u.fact 25 (f := .glo "_law_more") rfl), F.kp, (FunD.bindsN F fun _ _ _ _ _ _ us hl => match us, hl with | [_, _, _], _ => rfl), He5.fun_of F⟩⟩
  f__law_desk := by
    obtain ⟨fd, F⟩ := c.u.t.d.def_ 25 (d := d__law_desk) rfl
    exact ⟨⟨_, fd, He.glo_ok KX G (c.u.fact 26 (f := .glo "_law_desk") rfl), F.kp, (FunD.bindsN F fun _ _ _ _ _ _ us hl => match us, hl with | [_, _], _ => rfl), He5.fun_of F⟩⟩
  f__law_ends := by
    obtain ⟨fd, F⟩ := c.u.t.d.def_ 26 (d := d__law_ends) rfl
    exact ⟨⟨_, fd, He.glo_ok KX G (c.u.fact 27 (f := .glo "_law_ends") rfl), F.kp, (FunD.bindsN F fun _ _ _ _ _ _ us hl => match us, hl with | [_, _], _ => rfl), He5.fun_of F⟩⟩
  f__law_is := by
    obtain ⟨fd, F⟩ := c.u.t.d.def_ 27 (d := d__law_is) rfl
    exact ⟨⟨_, fd, He.glo_ok KX G (c.u.fact 28 (f := .glo "_law_is") rfl), F.kp, (FunD.bindsN F fun _ _ _ _ _ _ us hl => match us, hl with | [_, _], _ => rfl), He5.fun_of F⟩⟩
  f__law_bad_box := by
    obtain ⟨fd, F⟩ := c.u.t.d.def_ 28 (d := d__law_bad_box) rfl
    exact ⟨⟨_, fd, He.glo_ok KX G (c.u.fact 29 (f := .glo "_law_bad_box") rfl), F.kp, (FunD.bindsN F fun _ _ _ _ _ _ us hl => match us, hl with | [_, _], _ => rfl), He5.fun_of F⟩⟩
  f__law_mid := by
    obtain ⟨fd, F⟩ := c.u.t.d.def_ 29 (d := d__law_mid) rfl
    exact ⟨⟨_, fd, He.glo_ok KX G (c.u.fact 30 (f := .glo "_law_mid") rfl), F.kp, (FunD.bindsN F fun _ _ _ _ _ _ us hl => match us, hl with | [_], _ => rfl), He5.fun_of F⟩⟩
  f__law_apart := by
    obtain ⟨fd, F⟩ := c.u.t.d.def_ 30 (d := d__law_apart) rfl
    exact ⟨⟨_, fd, He.glo_ok KX G (c.u.fact 31 (f := .glo "_law_apart") rfl), F.kp, (FunD.bindsN F fun _ _ _ _ _ _ us hl => match us, hl with | [_, _], _ => rfl), He5.fun_of F⟩⟩
  f__law_ring := by
    obtain ⟨fd, F⟩ := c.u.t.d.def_ 31 (d := d__law_ring) rfl
    exact ⟨⟨_, fd, He.glo_ok KX G (c.u.fact 32 (f := .glo "_law_ring") rfl), F.kp, (FunD.bindsN F fun _ _ _ _ _ _ us hl => match us, hl with | [_, _], _ => rfl), He5.fun_of F⟩⟩
  f__law_lonely := by
    obtain ⟨fd, F⟩ := c.u.t.d.def_ 32 (d := d__law_lonely) rfl
    exact ⟨⟨_, fd, He.glo_ok KX G (c.u.fact 33 (f := .glo "_law_lonely") rfl), F.kp, (FunD.bindsN F fun _ _ _ _ _ _ us hl => match us, hl with | [_, _], _ => rfl), He5.fun_of F⟩⟩
  f__law_wrong := by
    obtain ⟨fd, F⟩ := c.u.t.d.def_ 33 (d := d__law_wrong) rfl
    exact ⟨⟨_, fd, He.glo_ok KX G (c.u.fact 34 (f := .glo "_law_wrong") rfl), F.kp, (FunD.bindsN F fun _ _ _ _ _ _ us hl => match us, hl with | [_, _], _ => rfl), He5.fun_of F⟩⟩
  f__law_refused := by
    obtain ⟨fd, F⟩ := c.u.t.d.def_ 34 (d := d__law_refused) rfl
    exact ⟨⟨_, fd, He.glo_ok KX G (c.u.fact 35 (f := .glo "_law_refused") rfl), F.kp, (FunD.bindsN F fun _ _ _ _ _ _ us hl => match us, hl with | [_], _ => rfl), He5.fun_of F⟩⟩
abbrev LawTrue : Prop := ∀ (C : Cl) (ns : List Int), (exs C).Nodup → ns.length ≤ 63 → ∃ ps, (fn_law C).run [some (.d (.scr ns))] = some (.ok (.d (.bl true)), ps)
abbrev spLaw (K : PySem.W.Frag) : Sp := fun vs H Q _ => SpF K (fn_law (clK K)) vs H Q fun _ _ _ => False
theorem facts {P : Program} {w : World} {K : PySem.W.Frag} {h : Heap} {mg : Str → Option Value} {f : Addr} (KX : K.In h) (G : h.Ns mainGlobals mg) (hfa : mg ("law" : Str) = some (.ref f)) (c : SaysX fa fn ts xs w K) :
    ∃ fd : FuncData, (∀ (s : Shared) (v : Value), BindsTo s fd ⟨[v], []⟩ [("_law_script", v)]) ∧ ∀ base : Heap, K.In base → base.Ns mainGlobals mg → FnOk P w K mg base L2.CX0 lv_law f fd ["_law_script"] (spLaw K) := by
  obtain ⟨fd, F⟩ := c.u.t.d.def_ 35 (d := d_law) rfl
  have e := hfa.symm.trans (He.glo_ok KX G (c.u.fact 36 (f := .glo "law") rfl))
  cases e
  have b := FunD.bindsA (ps := ["_law_script"]) F fun _ _ _ _ _ _ us hl => match us, hl with | [_], _ => rfl
  exact ⟨fd, fun s v => b s [v] rfl, fun base _ _ => Ev.FnOk.calm (fn_ok (He5.fun_of F) sc_law (by decide) (b_law (tx KX G c base) _))⟩
end Hd
open PySem PySem.W PySem.Calls PyProof.Rows
theorem Hd.holds_of (lt : Hd.LawTrue) : PySem.Challenge.rw_evenlate_k01_desks_refused.Holds := by
  w_on; o_law
  refine HandSHeadRun.head_any (r := OpenLaw.row PySem.Challenge.rw_evenlate_k01_desks_refused) (q := view (OpenLaw.row PySem.Challenge.rw_evenlate_k01_desks_refused).prog [39]) (H := Hd.hk) (ob := Hd.ob) (M := 4000) (loose := Hd.loose) (d := HandSHeadRun.topDef (OpenLaw.row PySem.Challenge.rw_evenlate_k01_desks_refused).prog 39) (kwd := []) Hd.ob_eq
    (by kernel_rfl) (fun s => by kernel_rfl) Hd.run (by kernel_rfl) (by kernel_rfl) (by kernel_rfl) (by rfl) (by first | assumption | decide +kernel) (by decide +kernel) ⟨rfl, rfl, rfl, rfl, rfl, by decide +kernel⟩ ?hw ?hc
  case hw => w_witness2
  case hc =>
    refine L2.walk_ofE (l := PySem.Challenge.rw_evenlate_k01_desks_refused) (n := 63) (k := Hd.lv_law) (x := "_law_script") (CX := L2.CX0) rfl (by decide) (by kernel_rfl) ⟨rfl, by decide, by decide⟩ ?F (fun _ _ _ _ z => z)
    intro w mg fa h Y G hmg0
    obtain ⟨K, KX, c⟩ := Y
    have hmg : mg ("law" : PySem.Str) = some (.ref fa) := by
      have e : (HandSHeadRun.topDef (OpenLaw.row PySem.Challenge.rw_evenlate_k01_desks_refused).prog 39).name = ("law" : PySem.Str) := by kernel_rfl
      rw [← e]
      exact hmg0
    obtain ⟨fd, hb, hF⟩ := Hd.facts (P := (PySem.Challenge.rw_evenlate_k01_desks_refused).prog) (w := w) KX G hmg c
    exact ⟨K, fd, Hd.spLaw K, KX, hb, fun H a ns hl hO hS => (lt _ ns (Hd.nd_ok c) hl).elim fun ps e => Ev.law_sp rfl e hO hS, hF⟩
namespace Hd
open PySem PySem.Spec PyProof.Rows L2 Ev
theorem fm_filter {α β : Type} {p : α → Bool} {f : α → β} : ∀ ns : List α, ns.filterMap (fun c => if p c = true then some (f c) else none) = (ns.filter p).map f
  | [] => rfl
  | n :: r => by
    rw [List.filterMap_cons, List.filter_cons]
    cases h : p n with
    | true => simp [fm_filter r]
    | false => simp [fm_filter r]
def Dice (xs : List D) : Prop := ∃ (a b : Int) (r : List Int), xs = .int a :: .int b :: r.map D.int ∧ 0 ≤ a ∧ 0 ≤ b ∧ (∀ x ∈ r, 0 < x) ∧ r.length ≤ 63
theorem off_end {C : Cl} {a b : Int} {r : List Int} {n : Int} {Q : L → VS → Prop} (ha : 0 ≤ a) (hb : 0 ≤ b) (hr : ∀ x ∈ r, 0 < x) (hl : r.length ≤ 63) (hn : 0 < n) (hn2 : n < 1073741824) (hq : ∀ r xs', Dice xs' → 0 ≤ r → r < n → Q (.d (.int r)) [some (.own xs'), none]) :
    wp (F__law_off_4 C) [some (.own (.int a :: .int b :: r.map D.int)), some (.d (.int n)), none] (thenF (sSeq (F__law_off_9 C) (sSeq (F__law_off_10 C) sNil)) (retF 2 [0] Q)) := by
  have h1 : n < 1073741824 := by omega
  have e1 : ixN (r.length + 1 + 1) 1 = some 1 := ixN_pos (by omega) (by omega)
  have e0 : ixN (r.length + 1 + 1) 0 = some 0 := ixN_pos (by omega) (by omega)
  simp only [F__law_off_4]
  simp
  split
  · simp [F__law_off_5, F__law_off_6, F__law_off_7, F__law_off_8, hn, h1, e1, outs_eq, List.range_succ]
    exact hq _ _ ⟨a, b / n, r, rfl, ha, Int.ediv_nonneg hb (by omega), hr, hl⟩ (Int.emod_nonneg _ (by omega)) (Int.emod_lt_of_pos _ hn)
  · simp [F__law_off_9, F__law_off_10, hn, h1, e0, outs_eq, List.range_succ]
    exact hq _ _ ⟨_, b, r, rfl, Int.emod_nonneg _ (by omega), hb, hr, hl⟩ (Int.emod_nonneg _ (by omega)) (Int.emod_lt_of_pos _ hn)
theorem off_ok {C : Cl} {xs : List D} {n : Int} {Q : L → VS → Prop} (h : Dice xs) (hn : 0 < n) (hn2 : n < 1073741824) (hq : ∀ r xs', Dice xs' → 0 ≤ r → r < n → Q (.d (.int r)) [some (.own xs'), none]) : wp (fn__law_off C).run [some (.own xs), some (.d (.int n))] Q := by
  obtain ⟨a, b, r, rfl, ha, hb, hr, hl⟩ := h
  refine wp_def ?_
  simp only [F__law_off, F__law_off_0, wp_sSeq]
  show wp (F__law_off_1 C) [some (.own (.int a :: .int b :: r.map D.int)), some (.d (.int n)), none] _
  simp only [F__law_off_1]
  simp
  split
  · split
    · cases r with
      | nil => simp at *
      | cons x r =>
        have e2 : ixN (r.length + 1 + 1 + 1) 2 = some 2 := ixN_pos (by omega) (by omega)
        have e1 : ixN (r.length + 1 + 1) 1 = some 1 := ixN_pos (by omega) (by omega)
        have hl' : r.length ≤ 99997 := by simp at hl; omega
        simp [F__law_off_2, F__law_off_3, e2, e1, hl']
        exact off_end ha (Int.le_of_lt (hr x List.mem_cons_self)) (fun y hy => hr y (List.mem_cons_of_mem _ hy)) (by simp at hl; omega) hn hn2 hq
    · exact off_end ha hb hr hl hn hn2 hq
  · exact off_end ha hb hr hl hn hn2 hq
theorem call_off {C : Cl} {s : VS} {j : Nat} {xs : List D} {n : Int} {Q : L → VS → Prop} (hs : at? s j = some (.own xs)) (h : Dice xs) (hn : 0 < n) (hn2 : n < 1073741824) (hq : ∀ r xs', Dice xs' → 0 ≤ r → r < n → Q (.d (.int r)) (s.set j (some (.own xs')))) :
    wp (callF (fn__law_off C) [.sl j, .dat (.int n)]) s Q := by
  rw [wp_callF]
  simp only [to_args_sl, hs, to_some, to_args_dat, argsOf_nil]
  exact ⟨⟨rfl, rfl⟩, off_ok h hn hn2 hq⟩
theorem dice_ok {C : Cl} {ns : List Int} {k : Int} {Q : L → VS → Prop} (hk : 0 ≤ k) (hk2 : k < 2147483647) (hl : ns.length ≤ 63) (hq : ∀ xs, Dice xs → Q (.own xs) [none, none]) : wp (fn__law_dice C).run [some (.d (.scr ns)), some (.d (.int k))] Q := by
  refine wp_def ?_
  show wp (F__law_dice C) [some (.d (.scr ns)), some (.d (.int k)), none, none] _
  simp only [F__law_dice, F__law_dice_0, wp_sSeq, F__law_dice_1]
  simp
  simp only [F__law_dice_2]
  simp
  refine wp_loop (fun _ s => ∃ f o, s = [some (.d (.scr ns)), some (.d (.int k)), some (.d (.int f)), o] ∧ 0 ≤ f ∧ f < 2147483647) ⟨k, none, rfl, hk, hk2⟩ ?_ ?_
  · rintro i d s hd ⟨f, o, rfl, h1, h2⟩
    rw [List.getElem?_map] at hd
    cases e : ns[i]? with
    | none => rw [e] at hd; cases hd
    | some c =>
      rw [e] at hd
      cases hd
      have h3 : -18446744073709551616 < f ∧ f < 18446744073709551616 := by omega
      simp [F__law_dice_3, F__law_dice_4, h3]
      exact ⟨Int.emod_nonneg _ (by omega), Int.emod_lt_of_pos _ (by omega)⟩
  · rintro s ⟨f, o, rfl, h1, h2⟩
    simp only [F__law_dice_5]
    have e : lcF (.nm 3) [3] (c2 dGe (vLook 3) (fK (fS (f2 dPow (fK (rt (.int 10))) (fK (rt (.int 18))))))) (vGet 3) (ns.map D.int) [] (wipeV [some (.d (.scr ns)), some (.d (.int k)), some (.d (.int f)), o] [3])
        = some (((ns.filter fun c => decide (1000000000000000000 ≤ c)).map D.int), wipeV [some (.d (.scr ns)), some (.d (.int k)), some (.d (.int f)), o] [3]) := by
      rw [lcF_pure (fun d => match d with | .int c => if 1000000000000000000 ≤ c then some (.int c) else none | _ => none) (by simp; omega)]
      · congr 2
        rw [List.filterMap_map, ← fm_filter]
        congr 1
        funext c
        simp only [Function.comp]
        by_cases h : 1000000000000000000 ≤ c <;> simp [h]
      · intro d hd
        obtain ⟨c, _, rfl⟩ := List.mem_map.mp hd
        simp [wipeV]
    have hlf := List.length_filter_le (fun c => decide (1000000000000000000 ≤ c)) ns
    have hlf2 : (ns.filter fun c => decide (1000000000000000000 ≤ c)).length ≤ 99998 := by omega
    simp [wp_fComp, e, outs_eq, List.range_succ]
    refine ⟨by omega, hq _ ⟨f, 0, _, rfl, h1, by omega, fun x hx => ?_, by omega⟩⟩
    have := (List.mem_filter.mp hx).2
    simp at this
    omega
theorem call_dice {C : Cl} {s : VS} {ns : List Int} {k : Int} {Q : L → VS → Prop} (hk : 0 ≤ k) (hk2 : k < 2147483647) (hl : ns.length ≤ 63) (hq : ∀ xs, Dice xs → Q (.own xs) s) : wp (callF (fn__law_dice C) [.dat (.scr ns), .dat (.int k)]) s Q := by
  rw [wp_callF]
  simp only [to_some, to_args_dat, argsOf_nil]
  exact ⟨⟨rfl, rfl⟩, dice_ok hk hk2 hl fun xs h => hq xs h⟩
end Hd
namespace Hd
open PySem PySem.Spec PyProof.Rows L2 Ev
inductive Bx where
  | inn (n : Str) | out (n : Str) | sum (l : Int) | most (l : Int) | times (b l : Int) | part (b l : Int)
def Bx.d : Bx → D
  | .inn n => .tup [.str "in", .str n]
  | .out n => .tup [.str "out", .str n]
  | .sum l => .tup [.str "sum", .int l]
  | .most l => .tup [.str "most", .int l]
  | .times b l => .tup [.str "times", .int b, .int l]
  | .part b l => .tup [.str "part", .int b, .int l]
def Bx.word : Bx → Str
  | .inn _ => "in"
  | .out _ => "out"
  | .sum _ => "sum"
  | .most _ => "most"
  | .times _ _ => "times"
  | .part _ _ => "part"
def Bx.mid : Bx → Bool
  | .inn _ => false
  | .out _ => false
  | _ => true
def Bx.isIn : Bx → Bool
  | .inn _ => true
  | _ => false
def Bx.isOut : Bx → Bool
  | .out _ => true
  | _ => false
def Bx.late : Bx → Int
  | .inn _ => 0
  | .out _ => 0
  | .sum l => l
  | .most l => l
  | .times _ l => l
  | .part _ l => l
def Bx.name : Bx → Option Str
  | .inn n => some n
  | .out n => some n
  | _ => none
def small : Str := "abcdefghijklmnopqrstuvwxyz"
def okName (n : Str) : Prop := 1 ≤ n.length ∧ n.length ≤ 8 ∧ ∀ c ∈ n.cps.toList, c ∈ small.cps.toList
def Bx.ok : Bx → Prop
  | .inn n => okName n
  | .out n => okName n
  | .sum l => 0 ≤ l ∧ l ≤ 9
  | .most l => 0 ≤ l ∧ l ≤ 9
  | .times b l => (-9 ≤ b ∧ b ≤ 9) ∧ 0 ≤ l ∧ l ≤ 9
  | .part b l => (1 ≤ b ∧ b ≤ 9) ∧ 0 ≤ l ∧ l ≤ 9
structure Cb where
  o : Nat
  t : Nat
  h : Int
def Cb.d (c : Cb) : D := .tup [.int c.o, .int c.t, .int c.h]
theorem to_atI {α : Type} {s : VS} {xs : List α} {r : Int} {Q : α → VS → Prop} (h0 : 0 ≤ r) (h1 : r < xs.length) (h : ∀ x, x ∈ xs → Q x s) : to (atI xs r) s Q := by
  rw [atI_pos h0]
  have hl : r.toNat < xs.length := by omega
  rw [List.getElem?_eq_getElem hl]
  exact h _ (List.getElem_mem hl)
theorem hold_ok {C : Cl} {xs : List D} {Q : L → VS → Prop} (h : Dice xs) (hq : ∀ r xs', Dice xs' → 0 ≤ r → r < 100 → Q (.d (.int r)) [some (.own xs')]) : wp (fn__law_hold C).run [some (.own xs)] Q := by
  refine wp_def ?_
  show wp (F__law_hold C) [some (.own xs)] _
  simp only [F__law_hold, F__law_hold_0, F__law_hold_1]
  simp
  refine call_off rfl h (by omega) (by omega) fun r1 xs1 d1 a1 b1 => ?_
  simp
  refine call_off rfl d1 (by omega) (by omega) fun r2 xs2 d2 a2 b2 => ?_
  simp
  refine call_off rfl d2 (by omega) (by omega) fun r3 xs3 d3 a3 b3 => ?_
  simp
  refine to_atI a3 b3 fun x hx => ?_
  simp [outs_eq, List.range_succ]
  simp at hx
  rcases hx with rfl | rfl | rfl | rfl
  · exact hq _ _ d3 (by omega) (by omega)
  · exact hq _ _ d3 (by omega) (by omega)
  · exact hq _ _ d3 (by omega) (by omega)
  · exact hq _ _ d3 (by omega) (by omega)
theorem call_hold {C : Cl} {s : VS} {j : Nat} {xs : List D} {Q : L → VS → Prop} (hs : at? s j = some (.own xs)) (h : Dice xs) (hq : ∀ r xs', Dice xs' → 0 ≤ r → r < 100 → Q (.d (.int r)) (s.set j (some (.own xs')))) :
    wp (callF (fn__law_hold C) [.sl j]) s Q := by
  rw [wp_callF]
  simp only [to_args_sl, hs, to_some, to_args_dat, argsOf_nil]
  exact ⟨⟨rfl, rfl⟩, hold_ok h hq⟩
theorem box_ok {C : Cl} {xs : List D} {Q : L → VS → Prop} (h : Dice xs) (hq : ∀ (b : Bx) xs', Dice xs' → b.ok → b.mid = true → Q (.d b.d) [some (.own xs')]) : wp (fn__law_box C).run [some (.own xs)] Q := by
  refine wp_def ?_
  show wp (F__law_box C) [some (.own xs), none, none] _
  simp only [F__law_box, F__law_box_0, wp_sSeq, F__law_box_1]
  simp
  refine call_off rfl h (by omega) (by omega) fun r1 xs1 d1 a1 b1 => ?_
  simp
  refine to_atI a1 b1 fun w hw => ?_
  simp only [F__law_box_2]
  simp
  refine call_off rfl d1 (by omega) (by omega) fun r2 xs2 d2 a2 b2 => ?_
  simp
  refine call_off rfl d2 (by omega) (by omega) fun r3 xs3 d3 a3 b3 => ?_
  simp
  refine call_off rfl d3 (by omega) (by omega) fun r4 xs4 d4 a4 b4 => ?_
  simp
  refine to_atI a4 b4 fun l hl => ?_
  obtain ⟨l, rfl, l0, l9⟩ : ∃ i : Int, l = .int i ∧ 0 ≤ i ∧ i ≤ 9 := by
    simp at hl
    rcases hl with rfl | rfl
    · exact ⟨_, rfl, by omega, by omega⟩
    · exact ⟨_, rfl, by omega, by omega⟩
  simp at hw
  rcases hw with rfl | rfl | rfl | rfl
  · simp [F__law_box_3, F__law_box_6, F__law_box_9, outs_eq, List.range_succ]

    exact hq (.sum l) _ d4 ⟨l0, l9⟩ rfl
  · simp [F__law_box_3, F__law_box_6, F__law_box_9, outs_eq, List.range_succ]
    exact hq (.most l) _ d4 ⟨l0, l9⟩ rfl
  · simp [F__law_box_3, F__law_box_4, F__law_box_5]
    refine call_off rfl d4 (by omega) (by omega) fun r5 xs5 d5 a5 b5 => ?_
    simp [outs_eq, List.range_succ]
    exact hq (.times _ l) _ d5 ⟨⟨by omega, by omega⟩, l0, l9⟩ rfl
  · simp [F__law_box_3, F__law_box_6, F__law_box_7, F__law_box_8]
    refine call_off rfl d4 (by omega) (by omega) fun r5 xs5 d5 a5 b5 => ?_
    simp [outs_eq, List.range_succ]
    exact hq (.part _ l) _ d5 ⟨⟨by omega, by omega⟩, l0, l9⟩ rfl
theorem call_box {C : Cl} {s : VS} {j : Nat} {xs : List D} {Q : L → VS → Prop} (hs : at? s j = some (.own xs)) (h : Dice xs) (hq : ∀ (b : Bx) xs', Dice xs' → b.ok → b.mid = true → Q (.d b.d) (s.set j (some (.own xs')))) :
    wp (callF (fn__law_box C) [.sl j]) s Q := by
  rw [wp_callF]
  simp only [to_args_sl, hs, to_some, to_args_dat, argsOf_nil]
  exact ⟨⟨rfl, rfl⟩, box_ok h hq⟩
end Hd
namespace Hd
open PySem PySem.Spec PyProof.Rows L2 Ev
theorem Str.ext' {a b : Str} (h : a.cps.toList = b.cps.toList) : a = b := by
  cases a; cases b
  simp at h
  rw [h]
def sgn (c : Nat) : Str := ⟨#[c]⟩
theorem cps_app (a b : Str) : (a ++ b).cps.toList = a.cps.toList ++ b.cps.toList := by
  show (Str.append a b).cps.toList = _
  simp [Str.append]
theorem cps_rep (c k : Nat) : (repS (sgn c) k).cps.toList = List.replicate k c := by
  unfold repS
  induction k with
  | zero => rfl
  | succ k ih =>
    rw [List.replicate_succ, List.foldl_cons, foldl_app]
    show ((#[] ++ (sgn c).cps) ++ _).toList = _
    simp only [Array.toList_append]
    rw [ih]
    rfl
theorem len_cps (a : Str) : a.length = a.cps.toList.length := by
  show a.cps.size = _
  simp
def rotL (k : Nat) : List Nat := (List.range 26).map fun i => 97 + (i + k) % 26
theorem rot_ok : ∀ k : Fin 26, (cutS small (some (k.val : Int)) none ++ cutS small none (some (k.val : Int))).cps.toList = rotL k.val := by decide +kernel
theorem rot_small : ∀ k : Fin 26, ∀ c ∈ rotL k.val, c ∈ small.cps.toList := by decide +kernel
theorem rot_nd : ∀ k : Fin 26, (rotL k.val).Nodup := by decide +kernel
theorem ofStr_inj {a b : String} : Str.ofString a = Str.ofString b ↔ a = b := by
  constructor
  · intro h
    rw [Str.ofString_eq_toList, Str.ofString_eq_toList] at h
    have h : a.toList.map Char.toNat = b.toList.map Char.toNat := by
      have := congrArg (fun z : Str => z.cps.toList) h
      simpa using this
    have inj : ∀ (x y : List Char), x.map Char.toNat = y.map Char.toNat → x = y := by
      intro x
      induction x with
      | nil => intro y h; cases y with | nil => rfl | cons _ _ => cases h
      | cons c x ih =>
        intro y h
        cases y with
        | nil => cases h
        | cons d y =>
          rw [List.map_cons, List.map_cons] at h
          injection h with h1 h2
          have : c = d := Char.ext (UInt32.toNat_inj.mp h1)
          rw [this, ih y h2]
    exact String.ext (inj _ _ h)
  · rintro rfl; rfl
structure NamesOk (n0 n1 n2 n3 : Str) : Prop where
  lo : ∀ n ∈ [n0, n1, n2, n3], n ≠ Str.ofString "lone"
  k0 : okName n0 ∧ n0.length ≤ 7
  k1 : okName n1 ∧ n1.length ≤ 7
  k2 : okName n2 ∧ n2.length ≤ 7
  k3 : okName n3 ∧ n3.length ≤ 7
  d01 : n0 ≠ n1
  d02 : n0 ≠ n2
  d03 : n0 ≠ n3
  d12 : n1 ≠ n2
  d13 : n1 ≠ n3
  d23 : n2 ≠ n3
theorem okName_of {n : Str} {l : List Nat} (e : n.cps.toList = l) (h1 : 1 ≤ l.length) (h2 : l.length ≤ 7) (h3 : ∀ c ∈ l, c ∈ small.cps.toList) : okName n ∧ n.length ≤ 7 := by
  have hl : n.length = l.length := by rw [len_cps, e]
  exact ⟨⟨by omega, by omega, fun c hc => h3 c (by rw [← e]; exact hc)⟩, by omega⟩
theorem names_pure {c0 c1 c2 c3 cj : Nat} {n1 : Str} {k : Nat} (nd : [c0, c1, c2, c3].Nodup) (hs : ∀ c ∈ [c0, c1, c2, c3], c ∈ small.cps.toList) (hj : cj ∈ [c0, c1, c2, c3]) (h1 : n1 = sgn c0 ++ sgn c1 ∨ n1 = sgn c1 ++ sgn c0) (hk : 1 ≤ k) (hk6 : k ≤ 6) :
    NamesOk (sgn c0) n1 (repS (sgn c2) k) (repS (sgn c2) k ++ sgn cj) := by
  have e0 : (sgn c0).cps.toList = [c0] := rfl
  have e1 : n1.cps.toList = [c0, c1] ∨ n1.cps.toList = [c1, c0] := by
    rcases h1 with rfl | rfl
    · exact .inl (by rw [cps_app]; rfl)
    · exact .inr (by rw [cps_app]; rfl)
  have e2 := cps_rep c2 k
  have e3 : (repS (sgn c2) k ++ sgn cj).cps.toList = List.replicate k c2 ++ [cj] := by rw [cps_app, e2]; rfl
  obtain ⟨k', rfl⟩ : ∃ k', k = k' + 1 := ⟨k - 1, by omega⟩
  have hc : c0 ≠ c1 ∧ c0 ≠ c2 ∧ c1 ≠ c2 := by simp at nd; omega
  have m0 := hs c0 (by simp)
  have m1 := hs c1 (by simp)
  have m2 := hs c2 (by simp)
  have mj := hs cj hj
  have eL : (Str.ofString "lone").cps.toList = [108, 111, 110, 101] := by decide +kernel
  refine ⟨?_, okName_of e0 (by simp) (by simp) (fun c hc => by rw [List.mem_singleton.mp hc]; exact m0), ?_, okName_of e2 (by simp) (by simp; omega) ?_, okName_of e3 (by simp) (by simp; omega) ?_, ?_, ?_, ?_, ?_, ?_, ?_⟩
  · intro n hn h
    have h := congrArg (fun z : Str => z.cps.toList) h
    rw [eL] at h
    simp only [List.mem_cons, List.not_mem_nil, or_false] at hn
    rcases hn with rfl | rfl | rfl | rfl
    · rw [e0] at h; simp at h
    · rcases e1 with e | e <;> rw [e] at h <;> simp at h
    · rw [e2] at h
      have q1 : (108 : Nat) ∈ List.replicate (k' + 1) c2 := by rw [h]; simp
      have q2 : (111 : Nat) ∈ List.replicate (k' + 1) c2 := by rw [h]; simp
      have := List.eq_of_mem_replicate q1
      have := List.eq_of_mem_replicate q2
      omega
    · rw [e3] at h
      have hl := congrArg List.length h
      simp at hl
      subst hl
      simp [List.replicate] at h
      omega
  · rcases e1 with e | e
    · exact okName_of e (by simp) (by simp) (fun c hc => hs c (by simp at hc ⊢; omega))
    · exact okName_of e (by simp) (by simp) (fun c hc => hs c (by simp at hc ⊢; omega))
  · intro c h; rw [List.eq_of_mem_replicate h]; exact m2
  · intro c h
    rcases List.mem_append.mp h with h | h
    · rw [List.eq_of_mem_replicate h]; exact m2
    · rw [List.mem_singleton.mp h]; exact mj
  all_goals intro h; have h := congrArg (fun z : Str => z.cps.toList) h
  · rw [e0] at h; rcases e1 with e | e <;> rw [e] at h <;> simp at h
  · rw [e0, e2, List.replicate_succ] at h; simp at h; omega
  · rw [e0, e3, List.replicate_succ] at h; simp at h
  · rw [e2, List.replicate_succ] at h; rcases e1 with e | e <;> rw [e] at h <;> simp at h <;> omega
  · rw [e3, List.replicate_succ] at h; rcases e1 with e | e <;> rw [e] at h <;> simp at h <;> omega
  · rw [e2, e3] at h
    have := congrArg List.length h
    simp at this
theorem names_ok {C : Cl} {xs : List D} {Q : L → VS → Prop} (h : Dice xs) (hq : ∀ n0 n1 n2 n3 xs', Dice xs' → NamesOk n0 n1 n2 n3 → Q (.own [.str n0, .str n1, .str n2, .str n3]) [some (.own xs')]) : wp (fn__law_names C).run [some (.own xs)] Q := by
  refine wp_def ?_
  show wp (F__law_names C) [some (.own xs), none, none, none] _
  simp only [F__law_names, F__law_names_0, wp_sSeq, F__law_names_1]
  simp
  refine call_off rfl h (by omega) (by omega) fun r1 xs1 d1 a1 b1 => ?_
  have hA : (Str.ofString "abcdefghijklmnopqrstuvwxyz").length ≤ 100000 := by decide +kernel
  simp [F__law_names_2, F__law_names_3, hA]
  obtain ⟨t, rfl⟩ : ∃ t : Fin 26, r1 = (t.val : Int) := ⟨⟨r1.toNat, by omega⟩, by simp; omega⟩
  have hz := rot_ok t
  have hz2 := rot_nd t
  have hz3 := rot_small t
  show _ ∧ _
  have hlen : (cutS (Str.ofString "abcdefghijklmnopqrstuvwxyz") (some (t.val : Int)) none).length + (cutS (Str.ofString "abcdefghijklmnopqrstuvwxyz") none (some (t.val : Int))).length = 26 := by
    have e := congrArg List.length hz
    rw [cps_app, List.length_append, ← len_cps, ← len_cps] at e
    exact e
  refine ⟨by omega, ?_⟩
  generalize hzz : cutS (Str.ofString "abcdefghijklmnopqrstuvwxyz") (some (t.val : Int)) none ++ cutS (Str.ofString "abcdefghijklmnopqrstuvwxyz") none (some (t.val : Int)) = z
  have hz : z.cps.toList = rotL t.val := by rw [← hzz]; exact hz
  obtain ⟨c0, c1, c2, c3, rest, hr⟩ : ∃ c0 c1 c2 c3 rest, rotL t.val = c0 :: c1 :: c2 :: c3 :: rest := ⟨_, _, _, _, _, rfl⟩
  rw [hr] at hz hz2 hz3
  have hzl : z.length ≤ 100000 := by
    have e : (rotL t.val).length = 26 := by unfold rotL; simp
    rw [hr] at e
    rw [len_cps, hz]; omega
  simp [F__law_names_4, dIx_str hzl, hz]
  refine call_off rfl d1 (by omega) (by omega) fun r2 xs2 d2 a2 b2 => ?_
  have e1 : (⟨#[c2]⟩ : Str).length ≤ 1000 := by show (1 : Nat) ≤ 1000; omega
  simp [e1]
  refine ⟨⟨by omega, by omega⟩, ?_⟩
  have f1 : ∀ c : Nat, (⟨#[c]⟩ : Str).length = 1 := fun _ => rfl
  simp [F__law_names_5, dIx_str hzl, hz, f1]
  refine call_off rfl d2 (by omega) (by omega) fun r3 xs3 d3 a3 b3 => ?_
  simp
  refine to_atI a3 b3 fun n1 hn1 => ?_
  simp
  refine call_off rfl d3 (by omega) (by omega) fun r4 xs4 d4 a4 b4 => ?_
  simp [dIx_str hzl]
  rw [hz]
  obtain ⟨cj, hj, ej⟩ : ∃ cj, cj ∈ [c0, c1, c2, c3] ∧ atI (c0 :: c1 :: c2 :: c3 :: rest) r4 = some cj := by
    rw [atI_pos a4]
    obtain ⟨m, hm, rfl⟩ : ∃ m : Nat, m < 4 ∧ r4 = (m : Int) := ⟨r4.toNat, by omega, by omega⟩
    rw [Int.toNat_natCast]
    match m, hm with
    | 0, _ => exact ⟨c0, by simp, rfl⟩
    | 1, _ => exact ⟨c1, by simp, rfl⟩
    | 2, _ => exact ⟨c2, by simp, rfl⟩
    | 3, _ => exact ⟨c3, by simp, rfl⟩
  rw [ej]
  have hl3 : (repS ⟨#[c2]⟩ (1 + r2).toNat).length + 1 ≤ 100000 := by
    have := repS_length ⟨#[c2]⟩ (1 + r2).toNat
    rw [f1] at this
    omega
  simp [f1, hl3, outs_eq, List.range_succ]
  have nd4 : [c0, c1, c2, c3].Nodup := by
    have e : c0 :: c1 :: c2 :: c3 :: rest = [c0, c1, c2, c3] ++ rest := rfl
    rw [e] at hz2
    exact (List.nodup_append.mp hz2).1
  have hs4 : ∀ c ∈ [c0, c1, c2, c3], c ∈ small.cps.toList := fun c hc => hz3 c (by
    have e : c0 :: c1 :: c2 :: c3 :: rest = [c0, c1, c2, c3] ++ rest := rfl
    rw [e]; exact List.mem_append_left _ hc)
  simp at hn1
  rcases hn1 with rfl | rfl
  · exact hq _ _ _ _ _ d4 (names_pure (k := (1 + r2).toNat) nd4 hs4 hj (.inl rfl) (by omega) (by omega))
  · exact hq _ _ _ _ _ d4 (names_pure (k := (1 + r2).toNat) nd4 hs4 hj (.inr rfl) (by omega) (by omega))
theorem call_names {C : Cl} {s : VS} {j : Nat} {xs : List D} {Q : L → VS → Prop} (hs : at? s j = some (.own xs)) (h : Dice xs) (hq : ∀ n0 n1 n2 n3 xs', Dice xs' → NamesOk n0 n1 n2 n3 → Q (.own [.str n0, .str n1, .str n2, .str n3]) (s.set j (some (.own xs')))) :
    wp (callF (fn__law_names C) [.sl j]) s Q := by
  rw [wp_callF]
  simp only [to_args_sl, hs, to_some, to_args_dat, argsOf_nil]
  exact ⟨⟨rfl, rfl⟩, names_ok h hq⟩
end Hd
namespace Hd
open PySem PySem.Spec PyProof.Rows L2 Ev
theorem okD_all {n : Nat} {ds : List D} (h : ∀ d ∈ ds, okD n d = true) : okD (n + 1) (.lst ds) = true := by
  show ds.all (okD n) = true
  rw [List.all_eq_true]; exact h
theorem erase_perm {α : Type} : ∀ (xs : List α) (k : Nat) (h : k < xs.length), (xs[k] :: xs.eraseIdx k).Perm xs
  | [], k, h => by simp at h
  | x :: xs, 0, h => by simp
  | x :: xs, k + 1, h => by
    have ih := erase_perm xs k (by simpa using h)
    rw [List.getElem_cons_succ, List.eraseIdx_cons_succ]
    exact (List.Perm.swap _ _ _).trans (ih.cons x)
theorem mixed_ok {C : Cl} {xs ds : List D} {Q : L → VS → Prop} (h : Dice xs) (hd : ∀ d ∈ ds, okD 19 d = true) (hl : ds.length ≤ 60) (hq : ∀ es xs', Dice xs' → es.Perm ds → Q (.own es) [some (.own xs'), none]) : wp (fn__law_mixed C).run [some (.own xs), some (.d (.lst ds))] Q := by
  refine wp_def ?_
  show wp (F__law_mixed C) [some (.own xs), some (.d (.lst ds)), none, none] _
  simp only [F__law_mixed, F__law_mixed_0, wp_sSeq, F__law_mixed_1]
  simp [F__law_mixed_2]
  simp only [F__law_mixed_3]
  refine wp_while (fun m s => ∃ ys left found, s = [some (.own ys), some (.d (.lst ds)), some (.own left), some (.own found)] ∧ Dice ys ∧ (left ++ found).Perm ds ∧ m = left.length) ?_ 1000 ds.length _ (by omega) ⟨xs, ds, [], rfl, h, by simp, rfl⟩
  rintro m s ⟨ys, left, found, rfl, hy, hp, rfl⟩
  have hlen : left.length + found.length = ds.length := by have := hp.length_eq; simpa using this
  have hok : okD 20 (.lst left) = true := okD_all fun d hd' => hd d (hp.mem_iff.mp (List.mem_append_left _ hd'))
  simp [dEq_nil hok]
  split
  · rename_i hne
    subst hne
    simp [F__law_mixed_6, outs_eq, List.range_succ]
    exact hq _ _ hy (by simpa using hp)
  · rename_i hne
    have hpos : 0 < left.length := List.length_pos_iff.mpr hne
    simp [F__law_mixed_4, F__law_mixed_5]
    refine call_off rfl hy (by omega) (by omega) fun r zs hz a b => ?_
    simp
    refine ⟨by omega, ?_⟩
    rw [ixN_pos a b]
    have hk : r.toNat < left.length := by omega
    simp [List.getElem?_eq_getElem hk]
    refine ⟨by omega, ?_⟩
    refine ⟨(left.eraseIdx r.toNat).length, ?_, zs, _, _, ⟨rfl, rfl, rfl⟩, hz, ?_, rfl⟩
    · rw [List.length_eraseIdx, if_pos hk]; omega
    · refine List.Perm.trans ?_ hp
      have p1 := erase_perm left _ hk
      refine List.Perm.trans ?_ (List.Perm.append_right found p1)
      rw [← List.append_assoc]
      exact List.perm_append_comm
theorem call_mixed {C : Cl} {s : VS} {j : Nat} {xs ds : List D} {Q : L → VS → Prop} (hs : at? s j = some (.own xs)) (h : Dice xs) (hd : ∀ d ∈ ds, okD 19 d = true) (hl : ds.length ≤ 60) (hq : ∀ es xs', Dice xs' → es.Perm ds → Q (.own es) (s.set j (some (.own xs')))) :
    wp (callF (fn__law_mixed C) [.sl j, .dat (.lst ds)]) s Q := by
  rw [wp_callF]
  simp only [to_args_sl, hs, to_some, to_args_dat, argsOf_nil]
  exact ⟨⟨rfl, rfl⟩, mixed_ok h hd hl hq⟩
end Hd
namespace Hd
open PySem PySem.Spec PyProof.Rows L2 Ev
theorem rgD_len {a : Int} {n : Nat} : (rgD a n).length = n := by unfold rgD; simp
theorem rgD_get {a : Int} {n i : Nat} {d : D} (h : (rgD a n)[i]? = some d) : i < n ∧ d = .int (a + (i : Nat)) := by
  unfold rgD at h
  rw [List.getElem?_map] at h
  cases e : (List.range n)[i]? with
  | none => rw [e] at h; cases h
  | some j =>
    rw [e] at h
    have hi := (List.getElem?_eq_some_iff.mp e).1
    rw [List.length_range] at hi
    rw [List.getElem?_range hi] at e
    cases e
    cases h
    exact ⟨hi, rfl⟩
theorem nat_of {r : Int} {n : Int} (h0 : 0 ≤ r) (h1 : r < n) : ∃ m : Nat, r = (m : Int) ∧ (m : Int) < n := ⟨r.toNat, by omega, by omega⟩
structure PhA (nI at_ : Nat) (cs : List Cb) : Prop where
  cab : ∀ c ∈ cs, c.o < c.t ∧ nI ≤ c.t ∧ c.t < at_ ∧ 0 ≤ c.h ∧ c.h ≤ 99
  fed : ∀ j, nI ≤ j → j < at_ → ∃ c ∈ cs, c.t = j
  l1 : cs.length ≤ at_ - nI + 4
  l2 : cs.length ≤ 2 * (at_ - nI)
theorem rowsA1 {C : Cl} {xs : List D} {a1 a2 a3 a4 a5 a6 o9 o10 : Option L} {k : Nat} {cs : List Cb} {Q : Fl → VS → Prop} (h : Dice xs) (hk : 0 < k) (hk2 : k < 20) (hl : cs.length ≤ 40)
    (hq : ∀ xs' new o9, Dice xs' → (∀ c ∈ new, c.o < k ∧ c.t = k ∧ 0 ≤ c.h ∧ c.h ≤ 99) → 1 ≤ new.length → new.length ≤ 2 → (8 ≤ cs.length → new.length = 1) →
      Q .nx [some (.own xs'), a1, a2, a3, a4, a5, a6, some (.own ((cs ++ new).map Cb.d)), some (.d (.int k)), o9, o10]) :
    wp (F__law_rows_9 C) [some (.own xs), a1, a2, a3, a4, a5, a6, some (.own (cs.map Cb.d)), some (.d (.int k)), o9, o10] Q := by
  simp only [F__law_rows_9]
  simp
  refine call_off rfl h (by omega) (by omega) fun r ys hy r0 r2 => ?_
  simp
  have hb : (-18446744073709551616 < r ∧ r < 18446744073709551616) := by omega
  have hlt : r < 2 := r2
  obtain ⟨n, hn, hn1, hn2, hn8⟩ : ∃ n : Nat, 1 + r * (if (cs.length : Int) < 8 then 1 else 0) = (n : Int) ∧ 1 ≤ n ∧ n ≤ 2 ∧ (8 ≤ cs.length → n = 1) := by
    split
    · refine ⟨(1 + r).toNat, by omega, by omega, by omega, fun _ => by omega⟩
    · refine ⟨1, by omega, by omega, by omega, fun _ => rfl⟩
  simp only [hb, true_or, and_self, if_true, true_and, hn]
  refine ⟨⟨by omega, by omega⟩, ?_⟩
  rw [Int.toNat_natCast]
  refine wp_loopN (fun i s => ∃ ys new o9, s = [some (.own ys), a1, a2, a3, a4, a5, a6, some (.own ((cs ++ new).map Cb.d)), some (.d (.int k)), o9, o10] ∧ Dice ys ∧ (∀ c ∈ new, c.o < k ∧ c.t = k ∧ 0 ≤ c.h ∧ c.h ≤ 99) ∧ new.length = i)
    ⟨ys, [], o9, by simp, hy, by simp, rfl⟩ ?_ ?_
  · rintro i d s N hd ⟨ys, new, o9, rfl, hy, hnew, hi⟩ hN
    obtain ⟨hin, rfl⟩ := rgD_get hd
    simp [F__law_rows_10, F__law_rows_11]
    refine call_off rfl hy (by omega) (by omega) fun r zs hz r0 r1 => ?_
    simp
    refine call_hold rfl hz fun hh us hu h0 h1 => ?_
    simp
    refine ⟨by omega, ?_⟩
    obtain ⟨m, rfl, hm⟩ := nat_of r0 r1
    refine hN _ ⟨us, new ++ [⟨m, k, hh⟩], _, by simp [Cb.d]; rfl, hu, ?_, ?_⟩
    · intro c hc
      rcases List.mem_append.mp hc with hc | hc
      · exact hnew c hc
      · rw [List.mem_singleton.mp hc]; exact ⟨by show m < k; omega, rfl, h0, by show hh ≤ 99; omega⟩
    · simp [hi]
  · rintro s ⟨ys, new, o9, rfl, hy, hnew, hi⟩
    rw [rgD_len] at hi
    exact hq ys new o9 hy hnew (by omega) (by omega) (fun h8 => by have := hn8 h8; omega)
theorem rowsA {C : Cl} {xs boxes : List D} {a1 a2 a4 a6 o8 o9 o10 : Option L} {nI nM : Nat} {Q : Fl → VS → Prop} (h : Dice xs) (h1 : 1 ≤ nI) (h2 : nI ≤ 2) (h4 : nM ≤ 6) (hb : boxes.length = nI + nM)
    (hq : ∀ xs' cs o8 o9, Dice xs' → PhA nI (nI + nM) cs → Q .nx [some (.own xs'), a1, a2, some (.d (.int nI)), a4, some (.own boxes), a6, some (.own (cs.map Cb.d)), o8, o9, o10]) :
    wp (F__law_rows_7 C) [some (.own xs), a1, a2, some (.d (.int nI)), a4, some (.own boxes), a6, some (.own []), o8, o9, o10] Q := by
  simp only [F__law_rows_7]
  simp [dRng2, hb]
  refine ⟨by omega, ?_⟩
  have e : ((nI : Int) + (nM : Int)).toNat - nI = nM := by omega
  rw [e]
  refine wp_loopN (fun i s => ∃ ys cs o8 o9, s = [some (.own ys), a1, a2, some (.d (.int nI)), a4, some (.own boxes), a6, some (.own (cs.map Cb.d)), o8, o9, o10] ∧ Dice ys ∧ PhA nI (nI + i) cs)
    ⟨xs, [], o8, o9, rfl, h, ⟨by simp, by intro j h1 h2; omega, by simp, by simp⟩⟩ ?_ ?_
  · rintro i d s N hd ⟨ys, cs, o8, o9, rfl, hy, hp⟩ hN
    obtain ⟨hin, rfl⟩ := rgD_get hd
    have ec : ((nI : Int) + (i : Int)) = ((nI + i : Nat) : Int) := by omega
    have hl1 := hp.l1
    have hl2 := hp.l2
    simp [F__law_rows_8]
    rw [ec]
    refine rowsA1 hy (by omega) (by omega) (by omega) fun zs new o9 hz hnew n1 n2 n8 => ?_
    simp only [thenF_nx, wp_sNil, lend_nx]
    refine hN _ ⟨zs, cs ++ new, _, _, rfl, hz, ⟨?_, ?_, ?_, ?_⟩⟩
    · intro c hc
      rcases List.mem_append.mp hc with hc | hc
      · have := hp.cab c hc; omega
      · have := hnew c hc; omega
    · intro j j1 j2
      by_cases q : j < nI + i
      · obtain ⟨c, hc, e⟩ := hp.fed j j1 q
        exact ⟨c, List.mem_append_left _ hc, e⟩
      · cases new with
        | nil => simp at n1
        | cons c r =>
          exact ⟨c, List.mem_append_right _ List.mem_cons_self, by have := hnew c List.mem_cons_self; omega⟩
    · rw [List.length_append]
      by_cases q : 8 ≤ cs.length
      · have := n8 q; omega
      · omega
    · rw [List.length_append]; omega
  · rintro s ⟨ys, cs, o8, o9, rfl, hy, hp⟩
    rw [rgD_len] at hp
    exact hq ys cs o8 o9 hy hp
end Hd
namespace Hd
open PySem PySem.Spec PyProof.Rows L2 Ev
theorem okD_cb {n : Nat} (c : Cb) : okD (n + 1) c.d = true := by
  show [D.int c.o, D.int c.t, D.int c.h].all (okD n) = true
  cases n <;> rfl
theorem okD_cbs {n : Nat} (cs : List Cb) : okD (n + 2) (.lst (cs.map Cb.d)) = true := okD_all fun d hd => by
  obtain ⟨c, _, rfl⟩ := List.mem_map.mp hd
  exact okD_cb c
structure Core (nI last m : Nat) (cs : List Cb) : Prop where
  cab : ∀ c ∈ cs, nI ≤ c.t ∧ c.t ≤ last ∧ c.o ≤ last ∧ 0 ≤ c.h ∧ c.h ≤ 99 ∧ (c.o < c.t ∨ 1 ≤ c.h)
  fed : ∀ j, nI ≤ j → j ≤ last → ∃ c ∈ cs, c.t = j ∧ c.o < j
  used : ∀ j, j < last → ∃ c ∈ cs, c.o = j ∧ j < c.t
  len : cs.length ≤ m
structure PhB (nI last at_ m : Nat) (cs : List Cb) : Prop where
  cab : ∀ c ∈ cs, c.o < c.t ∧ nI ≤ c.t ∧ c.t ≤ last ∧ 0 ≤ c.h ∧ c.h ≤ 99
  fed : ∀ j, nI ≤ j → j ≤ last → ∃ c ∈ cs, c.t = j
  used : ∀ j, j < at_ → ∃ c ∈ cs, c.o = j
  len : ∃ o0, o0 < last ∧ (∃ c ∈ cs, c.o = o0) ∧ cs.length + (if o0 < at_ then 1 else 0) ≤ m + at_
theorem rowsB {C : Cl} {xs : List D} {a1 a2 a3 a4 a5 o8 o9 : Option L} {nI last m : Nat} {cs : List Cb} {Q : Fl → VS → Prop} (h : Dice xs) (hl : last ≤ 10) (hm : m ≤ 20) (hp : PhB nI last 0 m cs)
    (hq : ∀ xs' cs o8, Dice xs' → PhB nI last last m cs → Q .nx [some (.own xs'), a1, a2, a3, a4, a5, some (.d (.int last)), some (.own (cs.map Cb.d)), o8, o9, none]) :
    wp (F__law_rows_12 C) [some (.own xs), a1, a2, a3, a4, a5, some (.d (.int last)), some (.own (cs.map Cb.d)), o8, o9, none] Q := by
  simp only [F__law_rows_12]
  simp
  refine ⟨by omega, ?_⟩
  refine wp_loopN (fun i s => ∃ ys cs o8, s = [some (.own ys), a1, a2, a3, a4, a5, some (.d (.int last)), some (.own (cs.map Cb.d)), o8, o9, none] ∧ Dice ys ∧ PhB nI last i m cs) ⟨xs, cs, o8, rfl, h, hp⟩ ?_ ?_
  · rintro i d s N hd ⟨ys, cs, o8, rfl, hy, hp⟩ hN
    obtain ⟨hin, rfl⟩ := rgD_get hd
    have ei : (0 : Int) + (i : Int) = (i : Int) := by omega
    rw [ei]
    obtain ⟨o0, ho, hoc, hlen⟩ := hp.len
    have hlc : cs.length ≤ 30 := by split at hlen <;> omega
    simp [F__law_rows_13, F__law_rows_14, wp_fCompO]
    have e : lcF (.nm 10) [10] (c2 dEq (fK (fS (f2 dIx (vLook 10) (fK (rt (.int 0)))))) (vLook 8)) (vGet 10) (cs.map Cb.d) [] (wipeV [some (.own ys), a1, a2, a3, a4, a5, some (.d (.int last)), none, some (.d (.int (i : Int))), o9, none] [10])
        = some ((cs.filter fun c => decide (c.o = i)).map Cb.d, wipeV [some (.own ys), a1, a2, a3, a4, a5, some (.d (.int last)), none, some (.d (.int (i : Int))), o9, none] [10]) := by
      rw [lcF_pure (fun d => match d with | .tup (.int a :: r) => if a = (i : Int) then some (.tup (.int a :: r)) else none | _ => none) (by simp; omega)]
      · congr 2
        rw [List.filterMap_map, ← fm_filter]
        congr 1
        funext c
        simp only [Function.comp, Cb.d]
        by_cases hc : c.o = i
        · simp [hc]
        · have : ¬((c.o : Int) = (i : Int)) := by omega
          simp [hc, this]
      · intro d hd
        obtain ⟨c, _, rfl⟩ := List.mem_map.mp hd
        simp [wipeV, Cb.d]
    rw [e]
    simp [dEq_nil (okD_cbs (n := 18) _), restV, wipeV, keepD]
    split
    · rename_i hnone
      simp [F__law_rows_15, F__law_rows_16]
      refine call_hold rfl hy fun hh us hu h0 h1 => ?_
      simp
      refine ⟨by omega, hN _ ⟨us, cs ++ [⟨i, last, hh⟩], _, by simp [Cb.d]; rfl, hu, ⟨?_, ?_, ?_, ?_⟩⟩⟩
      · intro c hc
        rcases List.mem_append.mp hc with hc | hc
        · exact hp.cab c hc
        · rw [List.mem_singleton.mp hc]
          obtain ⟨c0, hc0, e0⟩ := hp.fed last (by
            obtain ⟨c1, hc1, _⟩ := hoc
            have := hp.cab c1 hc1; omega) (Nat.le_refl _)
          have := hp.cab c0 hc0
          exact ⟨hin, by show nI ≤ last; omega, Nat.le_refl _, h0, by show hh ≤ 99; omega⟩
      · intro j j1 j2
        obtain ⟨c, hc, e⟩ := hp.fed j j1 j2
        exact ⟨c, List.mem_append_left _ hc, e⟩
      · intro j hj
        by_cases q : j < i
        · obtain ⟨c, hc, e⟩ := hp.used j q
          exact ⟨c, List.mem_append_left _ hc, e⟩
        · exact ⟨⟨i, last, hh⟩, by simp, by show i = j; omega⟩
      · obtain ⟨c1, hc1, e1⟩ := hoc
        refine ⟨o0, ho, ⟨c1, List.mem_append_left _ hc1, e1⟩, ?_⟩
        have hne : o0 ≠ i := fun z => by
          have := hnone c1 hc1
          omega
        rw [List.length_append, List.length_singleton]
        split at hlen <;> split <;> omega
    · rename_i hsome
      refine hN _ ⟨ys, cs, _, rfl, hy, ⟨hp.cab, hp.fed, ?_, ?_⟩⟩
      · intro j hj
        by_cases q : j < i
        · exact hp.used j q
        · simp at hsome
          obtain ⟨c, hc, e⟩ := hsome
          exact ⟨c, hc, by omega⟩
      · refine ⟨o0, ho, hoc, ?_⟩
        split at hlen <;> split <;> omega
  · rintro s ⟨ys, cs, o8, rfl, hy, hp⟩
    rw [rgD_len] at hp
    exact hq ys cs o8 hy hp
theorem rowsC {C : Cl} {xs : List D} {a1 a2 a5 a6 o8 o9 o10 : Option L} {nI nM m : Nat} {cs : List Cb} {Q : Fl → VS → Prop} (h : Dice xs) (h1 : 1 ≤ nM) (h2 : nM ≤ 6) (h3 : nI ≤ 2) (hm : m ≤ 30) (hp : Core nI (nI + nM - 1) m cs)
    (hq : ∀ xs' cs o8 o9, Dice xs' → Core nI (nI + nM - 1) (m + 2) cs → Q .nx [some (.own xs'), a1, a2, some (.d (.int nI)), some (.d (.int nM)), a5, a6, some (.own (cs.map Cb.d)), o8, o9, o10]) :
    wp (F__law_rows_17 C) [some (.own xs), a1, a2, some (.d (.int nI)), some (.d (.int nM)), a5, a6, some (.own (cs.map Cb.d)), o8, o9, o10] Q := by
  simp only [F__law_rows_17]
  simp
  refine call_off rfl h (by omega) (by omega) fun r ys hy r0 r2 => ?_
  obtain ⟨n, rfl, hn⟩ := nat_of r0 r2
  simp
  refine ⟨by omega, ?_⟩
  refine wp_loopN (fun i s => ∃ ys cs o8 o9, s = [some (.own ys), a1, a2, some (.d (.int nI)), some (.d (.int nM)), a5, a6, some (.own (cs.map Cb.d)), o8, o9, o10] ∧ Dice ys ∧ Core nI (nI + nM - 1) (m + i) cs) ⟨ys, cs, o8, o9, rfl, hy, hp⟩ ?_ ?_
  · rintro i d s N hd ⟨ys, cs, o8, o9, rfl, hy, hp⟩ hN
    obtain ⟨hin, rfl⟩ := rgD_get hd
    have hlc := hp.len
    simp [F__law_rows_18, F__law_rows_19]
    refine call_off rfl hy (by omega) (by omega) fun r zs hz r0 r1 => ?_
    obtain ⟨a, rfl, ha⟩ := nat_of r0 r1
    simp [F__law_rows_20]
    refine call_off rfl hz (by omega) (by omega) fun r ws hw r0 r1 => ?_
    obtain ⟨b, rfl, hb⟩ := nat_of r0 r1
    simp
    refine call_off rfl hw (by omega) (by omega) fun r us hu r0 r1 => ?_
    simp
    refine to_atI r0 r1 fun x hx => ?_
    obtain ⟨w, rfl, hw1, hw2⟩ : ∃ w : Int, x = .int w ∧ 0 < w ∧ w ≤ 40 := by
      simp at hx
      rcases hx with rfl | rfl
      · exact ⟨_, rfl, by omega, by omega⟩
      · exact ⟨_, rfl, by omega, by omega⟩
    refine call_off rfl hu hw1 (by omega) fun r vs hv r0 r1 => ?_
    simp
    have e1 : (nI : Int) + (a : Int) = ((nI + a : Nat) : Int) := by omega
    have e2 : (nI : Int) + (b : Int) = ((nI + b : Nat) : Int) := by omega
    refine ⟨by omega, hN _ ⟨vs, cs ++ [⟨nI + a, nI + b, 1 + r⟩], _, _, by simp [Cb.d]; exact ⟨rfl, rfl⟩, hv, ⟨?_, ?_, ?_, ?_⟩⟩⟩
    · intro c hc
      rcases List.mem_append.mp hc with hc | hc
      · exact hp.cab c hc
      · rw [List.mem_singleton.mp hc]
        exact ⟨by show nI ≤ nI + b; omega, by show nI + b ≤ nI + nM - 1; omega, by show nI + a ≤ nI + nM - 1; omega, by show 0 ≤ 1 + r; omega, by show 1 + r ≤ 99; omega, .inr (by show 1 ≤ 1 + r; omega)⟩
    · intro j j1 j2
      obtain ⟨c, hc, e⟩ := hp.fed j j1 j2
      exact ⟨c, List.mem_append_left _ hc, e⟩
    · intro j hj
      obtain ⟨c, hc, e⟩ := hp.used j hj
      exact ⟨c, List.mem_append_left _ hc, e⟩
    · rw [List.length_append, List.length_singleton]; omega
  · rintro s ⟨ys, cs, o8, o9, rfl, hy, hp⟩
    rw [rgD_len] at hp
    exact hq ys cs o8 o9 hy ⟨hp.cab, hp.fed, hp.used, by have := hp.len; omega⟩
theorem rowsD {C : Cl} {xs : List D} {a1 a3 a4 o8 o9 o10 : Option L} {last : Nat} {bs : List Bx} {cs : List Cb} {n0 n1 n2 n3 : Str} {Q : Fl → VS → Prop} (h : Dice xs) (hl : last ≤ 10) (hb : bs.length = last + 1) (hc : cs.length ≤ 30)
    (hq : ∀ xs' (outs_ : List Bx) (oc : List Cb) o9, Dice xs' → (∃ x y : Cb, x.o = last ∧ x.t = last + 1 ∧ 0 ≤ x.h ∧ x.h ≤ 99 ∧ y.o ≤ last ∧ y.t = last + 2 ∧ 0 ≤ y.h ∧ y.h ≤ 99 ∧ ((outs_ = [.out n2] ∧ oc = [x]) ∨ (outs_ = [.out n2, .out n3] ∧ oc = [x, y]))) →
      Q .nx [some (.own xs'), a1, some (.d (.lst [.str n0, .str n1, .str n2, .str n3])), a3, a4, some (.own ((bs ++ outs_).map Bx.d)), some (.d (.int last)), some (.own ((cs ++ oc).map Cb.d)), o8, o9, o10]) :
    wp (F__law_rows_21 C) [some (.own xs), a1, some (.d (.lst [.str n0, .str n1, .str n2, .str n3])), a3, a4, some (.own (bs.map Bx.d)), some (.d (.int last)), some (.own (cs.map Cb.d)), o8, o9, o10] Q := by
  simp only [F__law_rows_21]
  simp
  refine call_off rfl h (by omega) (by omega) fun r ys hy r0 r2 => ?_
  simp
  refine ⟨by omega, ?_⟩
  obtain ⟨n, e, hn⟩ : ∃ n : Nat, (1 + r).toNat = n ∧ (n = 1 ∨ n = 2) := ⟨_, rfl, by omega⟩
  rw [e]
  refine wp_loopN (fun i s => ∃ (ys : List D) (outs_ : List Bx) (oc : List Cb) (o9 : Option L), s = [some (.own ys), a1, some (.d (.lst [.str n0, .str n1, .str n2, .str n3])), a3, a4, some (.own ((bs ++ outs_).map Bx.d)), some (.d (.int last)), some (.own ((cs ++ oc).map Cb.d)), o8, o9, o10] ∧ Dice ys ∧
      (∃ x y : Cb, x.o = last ∧ x.t = last + 1 ∧ 0 ≤ x.h ∧ x.h ≤ 99 ∧ y.o ≤ last ∧ y.t = last + 2 ∧ 0 ≤ y.h ∧ y.h ≤ 99 ∧ outs_ = [Bx.out n2, .out n3].take i ∧ oc = [x, y].take i)) ⟨ys, [], [], o9, by simp, hy, ⟨last, last + 1, 0⟩, ⟨last, last + 2, 0⟩, by simp⟩ ?_ ?_
  · rintro i d s N hd ⟨ys, outs_, oc, o9, rfl, hy, x, y, x1, x2, x3, x4, y1, y2, y3, y4, rfl, rfl⟩ hN
    obtain ⟨hin, rfl⟩ := rgD_get hd
    have ei : (0 : Int) + (i : Int) = (i : Int) := by omega
    rw [ei]
    have hi : i = 0 ∨ i = 1 := by omega
    rcases hi with rfl | rfl
    · simp [F__law_rows_22, F__law_rows_23, hb]
      refine ⟨by omega, ?_⟩
      simp [F__law_rows_24]
      refine call_off rfl hy (by omega) (by omega) fun r zs hz r0 r1 => ?_
      simp
      refine call_hold rfl hz fun hh us hu h0 h1 => ?_
      simp
      have e3 : (bs.length : Int) = ((last + 1 : Nat) : Int) := by omega
      refine ⟨by omega, hN _ ⟨us, [.out n2], [⟨last, last + 1, hh⟩], _, by simp [Cb.d, Bx.d, hb]; rfl, hu, ⟨last, last + 1, hh⟩, y, rfl, rfl, h0, by show hh ≤ 99; omega, y1, y2, y3, y4, rfl, rfl⟩⟩
    · simp [F__law_rows_22, F__law_rows_23, hb]
      refine ⟨by omega, ?_⟩
      simp [F__law_rows_24]
      refine call_off rfl hy (by omega) (by omega) fun r zs hz r0 r1 => ?_
      obtain ⟨a, rfl, ha⟩ := nat_of r0 r1
      simp
      refine call_hold rfl hz fun hh us hu h0 h1 => ?_
      simp
      refine ⟨by omega, hN _ ⟨us, [.out n2, .out n3], [x, ⟨a, last + 2, hh⟩], some (.d (.int 1)), by simp [Cb.d, Bx.d, hb]; omega, hu, x, ⟨a, last + 2, hh⟩, x1, x2, x3, x4, by show a ≤ last; omega, rfl, h0, by show hh ≤ 99; omega, rfl, rfl⟩⟩
  · rintro s ⟨ys, outs_, oc, o9, rfl, hy, x, y, x1, x2, x3, x4, y1, y2, y3, y4, rfl, rfl⟩
    rw [rgD_len]
    refine hq ys _ _ o9 hy ⟨x, y, x1, x2, x3, x4, y1, y2, y3, y4, ?_⟩
    rcases hn with rfl | rfl
    · exact .inl ⟨rfl, rfl⟩
    · exact .inr ⟨rfl, rfl⟩
end Hd
namespace Hd
open PySem PySem.Spec PyProof.Rows L2 Ev
inductive Fed (bs : List Bx) (cs : List Cb) : Nat → Prop
  | start {i : Nat} {n : Str} : bs[i]? = some (.inn n) → Fed bs cs i
  | step {c : Cb} : c ∈ cs → Fed bs cs c.o → Fed bs cs c.t
inductive Used (bs : List Bx) (cs : List Cb) : Nat → Prop
  | start {i : Nat} {n : Str} : bs[i]? = some (.out n) → Used bs cs i
  | step {c : Cb} : c ∈ cs → Used bs cs c.t → Used bs cs c.o
structure WF (bs : List Bx) (cs : List Cb) : Prop where
  nb : bs.length ≤ 10
  nc : cs.length ≤ 20
  box : ∀ b ∈ bs, b.ok
  names : (bs.filterMap Bx.name).Nodup
  cab : ∀ c ∈ cs, c.o < bs.length ∧ c.t < bs.length ∧ 0 ≤ c.h ∧ c.h ≤ 99
  src : ∀ c ∈ cs, ∀ b, bs[c.o]? = some b → b.isOut = false
  dst : ∀ c ∈ cs, ∀ b, bs[c.t]? = some b → b.isIn = false
  fed : ∀ i, i < bs.length → Fed bs cs i
  used : ∀ i, i < bs.length → Used bs cs i
  one : ∀ i n, bs[i]? = some (.out n) → (cs.filter fun c => decide (c.t = i)).length ≤ 1
  rank : ∃ ρ : Nat → Int, ∀ c ∈ cs, c.h = 0 → ρ c.o < ρ c.t
  mid : ∃ b ∈ bs, b.mid = true
  lone : ∀ b ∈ bs, b.name ≠ some (Str.ofString "lone")
structure Short (bs : List Bx) : Prop where
  short : ∀ b ∈ bs, ∀ n, b.name = some n → n.length ≤ 7
theorem filter_none {α : Type} {p : α → Bool} {l : List α} (h : ∀ x ∈ l, p x = false) : l.filter p = [] := by
  rw [List.filter_eq_nil_iff]; intro x hx; rw [h x hx]; simp
theorem Bx.mid_out {b : Bx} (h : b.mid = true) : b.isOut = false := by cases b <;> first | rfl | cases h
theorem Bx.mid_in {b : Bx} (h : b.mid = true) : b.isIn = false := by cases b <;> first | rfl | cases h
theorem Bx.mid_name {b : Bx} (h : b.mid = true) : b.name = none := by cases b <;> first | rfl | cases h
theorem wf_rows {is ms outs_ : List Bx} {cs oc : List Cb} {nI last m : Nat} {n0 n1 n2 n3 : Str} {x y : Cb} (hn : NamesOk n0 n1 n2 n3) (hi : is = [.inn n0] ∨ is = [.inn n0, .inn n1]) (hI : is.length = nI) (hm : ∀ b ∈ ms, b.ok ∧ b.mid = true) (hm1 : 1 ≤ ms.length) (hm6 : ms.length ≤ 6) (hl : nI + ms.length = last + 1) (hc : Core nI last 18 cs)
    (hx : x.o = last ∧ x.t = last + 1 ∧ 0 ≤ x.h ∧ x.h ≤ 99) (hy : y.o ≤ last ∧ y.t = last + 2 ∧ 0 ≤ y.h ∧ y.h ≤ 99) (ho : (outs_ = [.out n2] ∧ oc = [x]) ∨ (outs_ = [.out n2, .out n3] ∧ oc = [x, y])) :
    WF (is ++ ms ++ outs_) (cs ++ oc) ∧ Short (is ++ ms ++ outs_) := by
  have hI2 : 1 ≤ nI ∧ nI ≤ 2 := by rcases hi with rfl | rfl <;> simp at hI <;> omega
  have hol : 1 ≤ outs_.length ∧ outs_.length ≤ 2 ∧ oc.length = outs_.length := by rcases ho with ⟨rfl, rfl⟩ | ⟨rfl, rfl⟩ <;> simp
  have hlen : (is ++ ms ++ outs_).length = last + 1 + outs_.length := by simp; omega
  have getI : ∀ i, i < nI → ∃ n, (is ++ ms ++ outs_)[i]? = some (.inn n) := fun i h => by
    rcases hi with rfl | rfl
    · simp at hI
      have : i = 0 := by omega
      subst this; exact ⟨n0, rfl⟩
    · simp at hI
      have : i = 0 ∨ i = 1 := by omega
      rcases this with rfl | rfl
      · exact ⟨n0, rfl⟩
      · exact ⟨n1, rfl⟩
  have getM : ∀ i, nI ≤ i → i ≤ last → ∃ b, (is ++ ms ++ outs_)[i]? = some b ∧ b.mid = true := fun i h1 h2 => by
    have hlt : i - nI < ms.length := by omega
    refine ⟨ms[i - nI], ?_, (hm _ (List.getElem_mem hlt)).2⟩
    rw [List.append_assoc, List.getElem?_append_right (by omega), List.getElem?_append_left (by omega), hI, List.getElem?_eq_getElem hlt]
  have getO : ∀ i, last < i → i < last + 1 + outs_.length → ∃ n, (is ++ ms ++ outs_)[i]? = some (.out n) := fun i h1 h2 => by
    rw [List.getElem?_append_right (by simp; omega)]
    have e : i - (is ++ ms).length = i - (last + 1) := by simp; omega
    rw [e]
    rcases ho with ⟨rfl, rfl⟩ | ⟨rfl, rfl⟩
    · simp at h2
      have : i - (last + 1) = 0 := by omega
      rw [this]; exact ⟨n2, rfl⟩
    · simp at h2
      have : i - (last + 1) = 0 ∨ i - (last + 1) = 1 := by omega
      rcases this with e | e <;> rw [e]
      · exact ⟨n2, rfl⟩
      · exact ⟨n3, rfl⟩
  have ocs : ∀ c ∈ oc, c.o ≤ last ∧ last < c.t ∧ c.t < last + 1 + outs_.length ∧ 0 ≤ c.h ∧ c.h ≤ 99 := fun c h => by
    rcases ho with ⟨rfl, rfl⟩ | ⟨rfl, rfl⟩
    · rw [List.mem_singleton.mp h]; simp; omega
    · simp at h
      rcases h with rfl | rfl
      · simp; omega
      · simp; omega
  have allc : ∀ c ∈ cs ++ oc, c.o ≤ last ∧ nI ≤ c.t ∧ c.t < last + 1 + outs_.length ∧ 0 ≤ c.h ∧ c.h ≤ 99 ∧ (c.o < c.t ∨ 1 ≤ c.h) := fun c h => by
    rcases List.mem_append.mp h with h | h
    · have := hc.cab c h; omega
    · have := ocs c h; omega
  have fedAll : ∀ i, i < last + 1 + outs_.length → Fed (is ++ ms ++ outs_) (cs ++ oc) i := by
    intro i
    induction i using Nat.strongRecOn with
    | _ i ih =>
      intro h
      by_cases h1 : i < nI
      · obtain ⟨n, e⟩ := getI i h1
        exact .start e
      · by_cases h2 : i ≤ last
        · obtain ⟨c, hc1, e1, e2⟩ := hc.fed i (by omega) h2
          subst e1
          exact .step (List.mem_append_left _ hc1) (ih c.o e2 (by omega))
        · rcases ho with ⟨rfl, rfl⟩ | ⟨rfl, rfl⟩
          · simp at h
            have : i = x.t := by omega
            subst this
            exact .step (List.mem_append_right _ (by simp)) (ih x.o (by omega) (by simp; omega))
          · simp at h
            have : i = x.t ∨ i = y.t := by omega
            rcases this with rfl | rfl
            · exact .step (List.mem_append_right _ (by simp)) (ih x.o (by omega) (by simp; omega))
            · exact .step (List.mem_append_right _ (by simp)) (ih y.o (by omega) (by simp; omega))
  have usedAll : ∀ k i, last + 1 + outs_.length - i = k → i < last + 1 + outs_.length → Used (is ++ ms ++ outs_) (cs ++ oc) i := by
    intro k
    induction k using Nat.strongRecOn with
    | _ k ih =>
      intro i hk h
      by_cases h1 : i < last
      · obtain ⟨c, hc1, e1, e2⟩ := hc.used i h1
        have := hc.cab c hc1
        subst e1
        exact .step (List.mem_append_left _ hc1) (ih (last + 1 + outs_.length - c.t) (by omega) c.t rfl (by omega))
      · by_cases h2 : i = last
        · have : i = x.o := by omega
          subst this
          refine .step (List.mem_append_right _ ?_) (ih (last + 1 + outs_.length - x.t) (by omega) x.t rfl (by omega))
          rcases ho with ⟨rfl, rfl⟩ | ⟨rfl, rfl⟩ <;> simp
        · obtain ⟨n, e⟩ := getO i (by omega) h
          exact .start e
  have boxes : ∀ b ∈ is ++ ms ++ outs_, b.ok := fun b h => by
    rcases List.mem_append.mp h with h | h
    · rcases List.mem_append.mp h with h | h
      · rcases hi with rfl | rfl
        · rw [List.mem_singleton.mp h]; exact hn.k0.1
        · simp at h
          rcases h with rfl | rfl
          · exact hn.k0.1
          · exact hn.k1.1
      · exact (hm b h).1
    · rcases ho with ⟨rfl, rfl⟩ | ⟨rfl, rfl⟩
      · rw [List.mem_singleton.mp h]; exact hn.k2.1
      · simp at h
        rcases h with rfl | rfl
        · exact hn.k2.1
        · exact hn.k3.1
  have msn : ms.filterMap Bx.name = [] := by
    rw [List.filterMap_eq_nil_iff]
    intro b hb
    exact Bx.mid_name (hm b hb).2
  refine ⟨⟨by rw [hlen]; omega, by rw [List.length_append]; have := hc.len; omega, boxes, ?_, ?_, ?_, ?_, fun i h => fedAll i (by rw [← hlen]; exact h), fun i h => usedAll _ i rfl (by rw [← hlen]; exact h), ?_, ⟨fun i => (i : Int), ?_⟩, ?_, ?_⟩, ⟨?_⟩⟩
  · rw [List.filterMap_append, List.filterMap_append, msn, List.append_nil]
    rcases hi with rfl | rfl <;> rcases ho with ⟨rfl, rfl⟩ | ⟨rfl, rfl⟩ <;> simp [Bx.name, hn.d01, hn.d02, hn.d03, hn.d12, hn.d13, hn.d23]
  · intro c h
    have := allc c h
    rw [hlen]; omega
  · intro c h b hb
    have := allc c h
    by_cases q : c.o < nI
    · obtain ⟨n, e⟩ := getI c.o q
      rw [e] at hb; cases hb; rfl
    · obtain ⟨b', e, hb'⟩ := getM c.o (by omega) (by omega)
      rw [e] at hb; cases hb
      exact Bx.mid_out hb'
  · intro c h b hb
    have := allc c h
    by_cases q : c.t ≤ last
    · obtain ⟨b', e, hb'⟩ := getM c.t (by omega) q
      rw [e] at hb; cases hb
      exact Bx.mid_in hb'
    · obtain ⟨n, e⟩ := getO c.t (by omega) (by omega)
      rw [e] at hb; cases hb; rfl
  · intro i n e
    have hil := (List.getElem?_eq_some_iff.mp e).1
    rw [hlen] at hil
    have hgt : last < i := by
      rcases Nat.lt_or_ge last i with q | q
      · exact q
      · exfalso
        by_cases q2 : i < nI
        · obtain ⟨n', e'⟩ := getI i q2
          rw [e'] at e; cases e
        · obtain ⟨b', e', hb'⟩ := getM i (by omega) q
          rw [e'] at e; cases e; cases hb'
    rw [List.filter_append, filter_none (l := cs) (fun c hc1 => by have := hc.cab c hc1; simp; omega), List.nil_append]
    rcases ho with ⟨rfl, rfl⟩ | ⟨rfl, rfl⟩
    · exact Nat.le_trans (List.length_filter_le _ _) (by simp)
    · rw [List.filter_cons, List.filter_cons, List.filter_nil]
      by_cases q : x.t = i
      · have : ¬(y.t = i) := by omega
        simp [q, this]
      · by_cases q2 : y.t = i <;> simp [q, q2]
  · intro c h e
    have := allc c h
    show (c.o : Int) < (c.t : Int)
    omega
  · cases ms with
    | nil => simp at hm1
    | cons b r => exact ⟨b, by simp, (hm b List.mem_cons_self).2⟩
  · intro b h e
    have hlo := hn.lo
    rcases List.mem_append.mp h with h | h
    · rcases List.mem_append.mp h with h | h
      · rcases hi with rfl | rfl
        · rw [List.mem_singleton.mp h] at e; exact hlo n0 (by simp) (Option.some.inj e)
        · simp at h
          rcases h with rfl | rfl
          · exact hlo n0 (by simp) (Option.some.inj e)
          · exact hlo n1 (by simp) (Option.some.inj e)
      · rw [Bx.mid_name (hm b h).2] at e; cases e
    · rcases ho with ⟨rfl, rfl⟩ | ⟨rfl, rfl⟩
      · rw [List.mem_singleton.mp h] at e; exact hlo n2 (by simp) (Option.some.inj e)
      · simp at h
        rcases h with rfl | rfl
        · exact hlo n2 (by simp) (Option.some.inj e)
        · exact hlo n3 (by simp) (Option.some.inj e)
  · intro b h n e
    rcases List.mem_append.mp h with h | h
    · rcases List.mem_append.mp h with h | h
      · rcases hi with rfl | rfl
        · rw [List.mem_singleton.mp h] at e; cases e; exact hn.k0.2
        · simp at h
          rcases h with rfl | rfl
          · cases e; exact hn.k0.2
          · cases e; exact hn.k1.2
      · rw [Bx.mid_name (hm b h).2] at e; cases e
    · rcases ho with ⟨rfl, rfl⟩ | ⟨rfl, rfl⟩
      · rw [List.mem_singleton.mp h] at e; cases e; exact hn.k2.2
      · simp at h
        rcases h with rfl | rfl
        · cases e; exact hn.k2.2
        · cases e; exact hn.k3.2
theorem rows_ok {C : Cl} {xs : List D} {many : Int} {Q : L → VS → Prop} (h : Dice xs) (hm1 : 1 ≤ many) (hm6 : many ≤ 6) (hq : ∀ (bs : List Bx) (cs : List Cb) xs', Dice xs' → WF bs cs → Short bs → Q (.d (.tup [.lst (bs.map Bx.d), .lst (cs.map Cb.d)])) [some (.own xs'), none]) : wp (fn__law_rows C).run [some (.own xs), some (.d (.int many))] Q := by
  refine wp_def ?_
  show wp (F__law_rows C) [some (.own xs), some (.d (.int many)), none, none, none, none, none, none, none, none, none] _
  simp only [F__law_rows, F__law_rows_0, wp_sSeq, F__law_rows_1]
  simp
  refine call_names rfl h fun n0 n1 n2 n3 xs1 d1 hn => ?_
  simp [F__law_rows_2]
  refine call_off rfl d1 (by omega) (by omega) fun r1 xs2 d2 a1 b1 => ?_
  obtain ⟨nI, eI, hI1, hI2⟩ : ∃ nI : Nat, 1 + r1 = (nI : Int) ∧ 1 ≤ nI ∧ nI ≤ 2 := ⟨(1 + r1).toNat, by omega, by omega, by omega⟩
  simp [eI, F__law_rows_3]
  refine call_off rfl d2 (by omega) (by omega) fun r2 xs3 d3 a2 b2 => ?_
  obtain ⟨nM, eM, hM1, hM2⟩ : ∃ nM : Nat, 1 + r2 = (nM : Int) ∧ 1 ≤ nM ∧ nM ≤ 6 := ⟨(1 + r2).toNat, by omega, by omega, by omega⟩
  simp [eM, F__law_rows_4, wp_fComp]
  refine ⟨by omega, ?_⟩
  let is : List Bx := [Bx.inn n0, .inn n1].take nI
  have his : is = [.inn n0] ∨ is = [.inn n0, .inn n1] := by
    have : nI = 1 ∨ nI = 2 := by omega
    rcases this with rfl | rfl
    · exact .inl rfl
    · exact .inr rfl
  have hisl : is.length = nI := by simp [is]; omega
  refine lcF_inN (fun i acc s => acc = (is.take i).map Bx.d ∧ s = [some (.own xs3), some (.d (.int many)), some (.d (.lst [.str n0, .str n1, .str n2, .str n3])), some (.d (.int nI)), some (.d (.int nM)), none, none, none, none, none, none]) ⟨rfl, rfl⟩ ?_ ?_
  · rintro i d acc s N hd ⟨rfl, rfl⟩ hN
    obtain ⟨hin, rfl⟩ := rgD_get hd
    have ei : (0 : Int) + (i : Int) = (i : Int) := by omega
    rw [ei]
    have hi : i = 0 ∨ i = 1 := by omega
    rcases hi with rfl | rfl
    · simp [bYes, wipeV, is]
      refine hN _ _ ⟨?_, rfl⟩
      rcases his with e | e <;> rw [e] <;> rfl
    · simp [bYes, wipeV]
      refine ⟨by rw [hisl]; omega, hN _ _ ⟨?_, rfl⟩⟩
      rcases his with e | e
      · rw [e] at hisl; simp at hisl; omega
      · rw [e]; rfl
  · rintro acc s ⟨rfl, rfl⟩
    rw [rgD_len, ← hisl, List.take_length, hisl]
    simp [wipeV, restV, keepD]
    refine ⟨by omega, ?_⟩
    refine lcF_inN (fun i acc s => ∃ (ys : List D) (ms : List Bx), acc = ms.map Bx.d ∧ ms.length = i ∧ (∀ b ∈ ms, b.ok ∧ b.mid = true) ∧ Dice ys ∧ s = [some (.own ys), some (.d (.int many)), some (.d (.lst [.str n0, .str n1, .str n2, .str n3])), some (.d (.int nI)), some (.d (.int nM)), none, none, none, none, none, none]) ⟨xs3, [], rfl, rfl, by simp, d3, rfl⟩ ?_ ?_
    · rintro i d acc s N hd ⟨ys, ms, rfl, hml, hms, hy, rfl⟩ hN
      obtain ⟨hin, rfl⟩ := rgD_get hd
      simp [bYes, wipeV]
      refine call_box rfl hy fun b zs hz hb1 hb2 => ?_
      simp
      refine ⟨by omega, hN _ _ ⟨zs, ms ++ [b], by simp, by simp [hml], ?_, hz, rfl⟩⟩
      intro b' hb'
      rcases List.mem_append.mp hb' with hb' | hb'
      · exact hms b' hb'
      · rw [List.mem_singleton.mp hb']; exact ⟨hb1, hb2⟩
    · rintro acc s ⟨ys, ms, rfl, hml, hms, hy, rfl⟩
      rw [rgD_len] at hml
      simp [wipeV, restV, keepD, hisl, hml]
      refine ⟨by omega, ?_⟩
      have el : (nI : Int) + (nM : Int) - 1 = ((nI + nM - 1 : Nat) : Int) := by omega
      simp [F__law_rows_5, F__law_rows_6, hisl, hml]
      rw [el, ← List.map_append]
      refine rowsA hy hI1 hI2 hM2 (by simp [hisl, hml]) fun xs4 cs o8 o9 d4 pA => ?_
      simp only [thenF_nx, wp_sSeq]
      have pB : PhB nI (nI + nM - 1) 0 (nM + 4) cs := by
        refine ⟨fun c hc => by have := pA.cab c hc; omega, fun j j1 j2 => pA.fed j j1 (by omega), fun j hj => by omega, ?_⟩
        obtain ⟨c, hc, e⟩ := pA.fed nI (Nat.le_refl _) (by omega)
        have := pA.cab c hc
        have := pA.l1
        exact ⟨c.o, by omega, ⟨c, hc, rfl⟩, by simp; omega⟩
      refine rowsB d4 (by omega) (by omega) pB fun xs5 cs o8 d5 pB => ?_
      simp only [thenF_nx, wp_sSeq]
      have pC : Core nI (nI + nM - 1) 16 cs := by
        refine ⟨fun c hc => by have := pB.cab c hc; omega, fun j j1 j2 => ?_, fun j hj => ?_, ?_⟩
        · obtain ⟨c, hc, e⟩ := pB.fed j j1 j2
          have := pB.cab c hc
          exact ⟨c, hc, e, by omega⟩
        · obtain ⟨c, hc, e⟩ := pB.used j hj
          have := pB.cab c hc
          exact ⟨c, hc, e, by omega⟩
        · obtain ⟨o0, h1, _, h2⟩ := pB.len
          rw [if_pos h1] at h2
          omega
      refine rowsC d5 hM1 hM2 hI2 (by omega) pC fun xs6 cs o8 o9 d6 pC => ?_
      simp only [thenF_nx, wp_sSeq]
      refine rowsD d6 (by omega) (by simp [hisl, hml]; omega) (by have := pC.len; omega) fun xs7 outs_ oc o9 d7 hx => ?_
      obtain ⟨x, y, x1, x2, x3, x4, y1, y2, y3, y4, ho⟩ := hx
      simp [F__law_rows_25, outs_eq, List.range_succ]
      obtain ⟨w1, w2⟩ := wf_rows (m := 0) hn his hisl hms (by omega) (by omega) (by omega) pC ⟨x1, x2, x3, x4⟩ ⟨y1, y2, y3, y4⟩ ho
      have := hq _ _ xs7 d7 w1 w2
      simpa using this
theorem call_rows {C : Cl} {s : VS} {j : Nat} {xs : List D} {many : Int} {Q : L → VS → Prop} (hs : at? s j = some (.own xs)) (h : Dice xs) (hm1 : 1 ≤ many) (hm6 : many ≤ 6) (hq : ∀ (bs : List Bx) (cs : List Cb) xs', Dice xs' → WF bs cs → Short bs → Q (.d (.tup [.lst (bs.map Bx.d), .lst (cs.map Cb.d)])) (s.set j (some (.own xs')))) :
    wp (callF (fn__law_rows C) [.sl j, .dat (.int many)]) s Q := by
  rw [wp_callF]
  simp only [to_args_sl, hs, to_some, to_args_dat, argsOf_nil]
  exact ⟨⟨rfl, rfl⟩, rows_ok h hm1 hm6 hq⟩
end Hd
namespace Hd
open PySem PySem.Spec PyProof.Rows L2 Ev
theorem fed_mono {bs bs' : List Bx} {cs cs' : List Cb} (h1 : ∀ (i : Nat) (n : Str), bs[i]? = some (Bx.inn n) → bs'[i]? = some (Bx.inn n)) (h2 : ∀ c ∈ cs, Fed bs' cs' c.o → Fed bs' cs' c.t) {i : Nat} (h : Fed bs cs i) : Fed bs' cs' i := by
  induction h with
  | start e => exact .start (h1 _ _ e)
  | step hc _ ih => exact h2 _ hc ih
theorem used_mono {bs bs' : List Bx} {cs cs' : List Cb} (h1 : ∀ (i : Nat) (n : Str), bs[i]? = some (Bx.out n) → bs'[i]? = some (Bx.out n)) (h2 : ∀ c ∈ cs, Used bs' cs' c.t → Used bs' cs' c.o) {i : Nat} (h : Used bs cs i) : Used bs' cs' i := by
  induction h with
  | start e => exact .start (h1 _ _ e)
  | step hc _ ih => exact h2 _ hc ih
theorem get_app {bs : List Bx} {b x : Bx} {i : Nat} (h : bs[i]? = some x) : (bs ++ [b])[i]? = some x := by
  rw [List.getElem?_append_left (List.getElem?_eq_some_iff.mp h).1]; exact h
theorem get_new {bs : List Bx} {b : Bx} : (bs ++ [b])[bs.length]? = some b := by simp
theorem get_cases {bs : List Bx} {b x : Bx} {i : Nat} (h : (bs ++ [b])[i]? = some x) : (i < bs.length ∧ bs[i]? = some x) ∨ (i = bs.length ∧ x = b) := by
  rcases Nat.lt_or_ge i bs.length with q | q
  · rw [List.getElem?_append_left q] at h; exact .inl ⟨q, h⟩
  · have hl := (List.getElem?_eq_some_iff.mp h).1
    simp at hl
    have : i = bs.length := by omega
    subst this
    rw [get_new] at h; cases h
    exact .inr ⟨rfl, rfl⟩
theorem get_lt {bs : List Bx} {i : Nat} (h : i < bs.length) : ∃ b, bs[i]? = some b := ⟨bs[i], List.getElem?_eq_getElem h⟩
theorem wf_insert {bs : List Bx} {l r : List Cb} {c : Cb} {b : Bx} (w : WF bs (l ++ c :: r)) (hb : b.ok) (hm : b.mid = true) (h1 : bs.length < 10) (h2 : (l ++ c :: r).length < 20) :
    WF (bs ++ [b]) (l ++ [⟨c.o, bs.length, c.h⟩, ⟨bs.length, c.t, 0⟩] ++ r) := by
  have hc : c ∈ l ++ c :: r := by simp
  have inl : ∀ {x : Cb}, x ∈ l → x ∈ l ++ c :: r := fun h => by simp [h]
  have inr : ∀ {x : Cb}, x ∈ r → x ∈ l ++ c :: r := fun h => by simp [h]
  have m1 : (⟨c.o, bs.length, c.h⟩ : Cb) ∈ l ++ [⟨c.o, bs.length, c.h⟩, ⟨bs.length, c.t, 0⟩] ++ r := by simp
  have m2 : (⟨bs.length, c.t, 0⟩ : Cb) ∈ l ++ [⟨c.o, bs.length, c.h⟩, ⟨bs.length, c.t, 0⟩] ++ r := by simp
  have old : ∀ x ∈ l ++ c :: r, x = c ∨ x ∈ l ++ [⟨c.o, bs.length, c.h⟩, ⟨bs.length, c.t, 0⟩] ++ r := fun x h => by
    simp at h ⊢
    rcases h with h | h | h <;> simp [h]
  have new : ∀ x ∈ l ++ [⟨c.o, bs.length, c.h⟩, ⟨bs.length, c.t, 0⟩] ++ r, x ∈ l ++ c :: r ∨ x = ⟨c.o, bs.length, c.h⟩ ∨ x = ⟨bs.length, c.t, 0⟩ := fun x h => by
    simp at h
    rcases h with h | h | h | h
    · exact .inl (inl h)
    · exact .inr (.inl h)
    · exact .inr (.inr h)
    · exact .inl (inr h)
  have hcab := w.cab c hc
  have fedOld : ∀ i, i < bs.length → Fed (bs ++ [b]) (l ++ [⟨c.o, bs.length, c.h⟩, ⟨bs.length, c.t, 0⟩] ++ r) i := fun i hi => fed_mono (fun _ _ e => get_app e) (fun x hx f => by
    rcases old x hx with rfl | hx
    · have f1 : Fed (bs ++ [b]) (l ++ [⟨x.o, bs.length, x.h⟩, ⟨bs.length, x.t, 0⟩] ++ r) bs.length := Fed.step (c := ⟨x.o, bs.length, x.h⟩) m1 f
      exact Fed.step (c := ⟨bs.length, x.t, 0⟩) m2 f1
    · exact .step hx f) (w.fed i hi)
  have usedOld : ∀ i, i < bs.length → Used (bs ++ [b]) (l ++ [⟨c.o, bs.length, c.h⟩, ⟨bs.length, c.t, 0⟩] ++ r) i := fun i hi => used_mono (fun _ _ e => get_app e) (fun x hx f => by
    rcases old x hx with rfl | hx
    · have f1 : Used (bs ++ [b]) (l ++ [⟨x.o, bs.length, x.h⟩, ⟨bs.length, x.t, 0⟩] ++ r) bs.length := Used.step (c := ⟨bs.length, x.t, 0⟩) m2 f
      exact Used.step (c := ⟨x.o, bs.length, x.h⟩) m1 f1
    · exact .step hx f) (w.used i hi)
  obtain ⟨ρ, hρ⟩ := w.rank
  refine ⟨by simp; omega, by simp at h2 ⊢; omega, ?_, ?_, ?_, ?_, ?_, ?_, ?_, ?_, ⟨fun i => if i = bs.length then 2 * ρ c.t - 1 else 2 * ρ i, ?_⟩, ?_, ?_⟩
  · intro x hx
    rcases List.mem_append.mp hx with hx | hx
    · exact w.box x hx
    · rw [List.mem_singleton.mp hx]; exact hb
  · rw [List.filterMap_append]
    have : [b].filterMap Bx.name = [] := by simp [Bx.mid_name hm]
    rw [this, List.append_nil]; exact w.names
  · intro x hx
    rw [List.length_append, List.length_singleton]
    rcases new x hx with h | rfl | rfl
    · have := w.cab x h; omega
    · exact ⟨by show c.o < _; omega, by show bs.length < _; omega, hcab.2.2.1, hcab.2.2.2⟩
    · exact ⟨by show bs.length < _; omega, by show c.t < _; omega, by show (0 : Int) ≤ 0; omega, by show (0 : Int) ≤ 99; omega⟩
  · intro x hx y hy
    rcases new x hx with h | rfl | rfl
    · rcases get_cases hy with ⟨_, e⟩ | ⟨e, _⟩
      · exact w.src x h y e
      · have := w.cab x h; omega
    · rcases get_cases hy with ⟨_, e⟩ | ⟨e, _⟩
      · exact w.src c hc y e
      · have e : c.o = bs.length := e
        omega
    · have hy : (bs ++ [b])[bs.length]? = some y := hy
      rw [get_new] at hy; cases hy; exact Bx.mid_out hm
  · intro x hx y hy
    rcases new x hx with h | rfl | rfl
    · rcases get_cases hy with ⟨_, e⟩ | ⟨e, _⟩
      · exact w.dst x h y e
      · have := w.cab x h; omega
    · have hy : (bs ++ [b])[bs.length]? = some y := hy
      rw [get_new] at hy; cases hy; exact Bx.mid_in hm
    · rcases get_cases hy with ⟨_, e⟩ | ⟨e, _⟩
      · exact w.dst c hc y e
      · have e : c.t = bs.length := e
        omega
  · intro i hi
    rw [List.length_append, List.length_singleton] at hi
    by_cases q : i < bs.length
    · exact fedOld i q
    · have : i = bs.length := by omega
      subst this
      exact Fed.step m1 (fedOld c.o hcab.1)
  · intro i hi
    rw [List.length_append, List.length_singleton] at hi
    by_cases q : i < bs.length
    · exact usedOld i q
    · have : i = bs.length := by omega
      subst this
      exact Used.step m2 (usedOld c.t hcab.2.1)
  · intro i n e
    rcases get_cases e with ⟨hi, e⟩ | ⟨_, e⟩
    · have := w.one i n e
      rw [List.filter_append, List.filter_cons] at this
      rw [List.filter_append, List.filter_append, List.filter_cons, List.filter_cons, List.filter_nil]
      have q1 : ¬(bs.length = i) := by omega
      by_cases q : c.t = i
      · simp [q, q1] at this ⊢
        omega
      · simp [q, q1] at this ⊢
        omega
    · rw [← e] at hm; cases hm
  · intro x hx hz
    rcases new x hx with h | rfl | rfl
    · have := w.cab x h
      have := hρ x h hz
      show (if x.o = bs.length then _ else _) < (if x.t = bs.length then _ else _)
      rw [if_neg (by omega), if_neg (by omega)]
      omega
    · have hz : c.h = 0 := hz
      have := hρ c hc hz
      show (if c.o = bs.length then _ else _) < (if bs.length = bs.length then _ else _)
      rw [if_neg (by omega), if_pos rfl]
      dsimp only
      omega
    · show (if bs.length = bs.length then _ else _) < (if c.t = bs.length then _ else _)
      rw [if_neg (by omega : ¬c.t = bs.length), if_pos rfl]
      dsimp only
      omega
  · obtain ⟨x, hx, e⟩ := w.mid
    exact ⟨x, by simp [hx], e⟩
  · intro y hy e
    rcases List.mem_append.mp hy with hy | hy
    · exact w.lone y hy e
    · rw [List.mem_singleton.mp hy, Bx.mid_name hm] at e; cases e
theorem wf_in {bs : List Bx} {cs : List Cb} {k : Nat} {x : Bx} {n : Str} {h : Int} (w : WF bs cs) (hk : bs[k]? = some x) (hx : x.mid = true) (hn : okName n) (hlo : n ≠ Str.ofString "lone") (hf : n ∉ bs.filterMap Bx.name) (h0 : 0 ≤ h) (h9 : h ≤ 99) (h1 : bs.length < 10) (h2 : cs.length < 20) :
    WF (bs ++ [.inn n]) (cs ++ [⟨bs.length, k, h⟩]) := by
  have hkl := (List.getElem?_eq_some_iff.mp hk).1
  have new : ∀ y ∈ cs ++ [(⟨bs.length, k, h⟩ : Cb)], y ∈ cs ∨ y = ⟨bs.length, k, h⟩ := fun y hy => by
    rcases List.mem_append.mp hy with q | q
    · exact .inl q
    · exact .inr (List.mem_singleton.mp q)
  have m1 : (⟨bs.length, k, h⟩ : Cb) ∈ cs ++ [(⟨bs.length, k, h⟩ : Cb)] := by simp
  have fedOld : ∀ i, i < bs.length → Fed (bs ++ [.inn n]) (cs ++ [⟨bs.length, k, h⟩]) i := fun i hi => fed_mono (fun _ _ e => get_app e) (fun x hx f => .step (List.mem_append_left _ hx) f) (w.fed i hi)
  have usedOld : ∀ i, i < bs.length → Used (bs ++ [.inn n]) (cs ++ [⟨bs.length, k, h⟩]) i := fun i hi => used_mono (fun _ _ e => get_app e) (fun x hx f => .step (List.mem_append_left _ hx) f) (w.used i hi)
  obtain ⟨ρ, hρ⟩ := w.rank
  refine ⟨by simp; omega, by simp; omega, ?_, ?_, ?_, ?_, ?_, ?_, ?_, ?_, ⟨fun i => if i = bs.length then ρ k - 1 else ρ i, ?_⟩, ?_, ?_⟩
  · intro y hy
    rcases List.mem_append.mp hy with hy | hy
    · exact w.box y hy
    · rw [List.mem_singleton.mp hy]; exact hn
  · rw [List.filterMap_append, List.nodup_append]
    refine ⟨w.names, by simp [Bx.name], fun a ha b hb e => ?_⟩
    simp [Bx.name] at hb
    subst hb; subst e
    exact hf ha
  · intro y hy
    rw [List.length_append, List.length_singleton]
    rcases new y hy with q | rfl
    · have := w.cab y q; omega
    · exact ⟨by show bs.length < _; omega, by show k < _; omega, h0, h9⟩
  · intro y hy z hz
    rcases new y hy with q | rfl
    · rcases get_cases hz with ⟨_, e⟩ | ⟨e, _⟩
      · exact w.src y q z e
      · have := w.cab y q; omega
    · have hz : (bs ++ [Bx.inn n])[bs.length]? = some z := hz
      rw [get_new] at hz; cases hz; rfl
  · intro y hy z hz
    rcases new y hy with q | rfl
    · rcases get_cases hz with ⟨_, e⟩ | ⟨e, _⟩
      · exact w.dst y q z e
      · have := w.cab y q; omega
    · have hz : (bs ++ [Bx.inn n])[k]? = some z := hz
      rw [get_app hk] at hz; cases hz; exact Bx.mid_in hx
  · intro i hi
    rw [List.length_append, List.length_singleton] at hi
    by_cases q : i < bs.length
    · exact fedOld i q
    · have : i = bs.length := by omega
      subst this
      exact .start get_new
  · intro i hi
    rw [List.length_append, List.length_singleton] at hi
    by_cases q : i < bs.length
    · exact usedOld i q
    · have : i = bs.length := by omega
      subst this
      exact Used.step m1 (usedOld k hkl)
  · intro i m e
    rcases get_cases e with ⟨hi, e⟩ | ⟨_, e⟩
    · have := w.one i m e
      rw [List.filter_append, List.filter_cons, List.filter_nil]
      have q : ¬(k = i) := fun q => by
        subst q
        rw [hk] at e; cases e; cases hx
      simp [q]
      exact this
    · cases e
  · intro y hy hz
    rcases new y hy with q | rfl
    · have := w.cab y q
      have := hρ y q hz
      show (if y.o = bs.length then _ else _) < (if y.t = bs.length then _ else _)
      rw [if_neg (by omega), if_neg (by omega)]
      omega
    · show (if bs.length = bs.length then _ else _) < (if k = bs.length then _ else _)
      rw [if_neg (by omega : ¬k = bs.length), if_pos rfl]
      dsimp only
      omega
  · obtain ⟨x, hx, e⟩ := w.mid
    exact ⟨x, by simp [hx], e⟩
  · intro y hy e
    rcases List.mem_append.mp hy with hy | hy
    · exact w.lone y hy e
    · rw [List.mem_singleton.mp hy] at e; exact hlo (Option.some.inj e)
theorem wf_out {bs : List Bx} {cs : List Cb} {k : Nat} {x : Bx} {n : Str} {h : Int} (w : WF bs cs) (hk : bs[k]? = some x) (hx : x.mid = true) (hn : okName n) (hlo : n ≠ Str.ofString "lone") (hf : n ∉ bs.filterMap Bx.name) (h0 : 0 ≤ h) (h9 : h ≤ 99) (h1 : bs.length < 10) (h2 : cs.length < 20) :
    WF (bs ++ [.out n]) (cs ++ [⟨k, bs.length, h⟩]) := by
  have hkl := (List.getElem?_eq_some_iff.mp hk).1
  have new : ∀ y ∈ cs ++ [(⟨k, bs.length, h⟩ : Cb)], y ∈ cs ∨ y = ⟨k, bs.length, h⟩ := fun y hy => by
    rcases List.mem_append.mp hy with q | q
    · exact .inl q
    · exact .inr (List.mem_singleton.mp q)
  have m1 : (⟨k, bs.length, h⟩ : Cb) ∈ cs ++ [(⟨k, bs.length, h⟩ : Cb)] := by simp
  have fedOld : ∀ i, i < bs.length → Fed (bs ++ [.out n]) (cs ++ [⟨k, bs.length, h⟩]) i := fun i hi => fed_mono (fun _ _ e => get_app e) (fun x hx f => .step (List.mem_append_left _ hx) f) (w.fed i hi)
  have usedOld : ∀ i, i < bs.length → Used (bs ++ [.out n]) (cs ++ [⟨k, bs.length, h⟩]) i := fun i hi => used_mono (fun _ _ e => get_app e) (fun x hx f => .step (List.mem_append_left _ hx) f) (w.used i hi)
  obtain ⟨ρ, hρ⟩ := w.rank
  refine ⟨by simp; omega, by simp; omega, ?_, ?_, ?_, ?_, ?_, ?_, ?_, ?_, ⟨fun i => if i = bs.length then ρ k + 1 else ρ i, ?_⟩, ?_, ?_⟩
  · intro y hy
    rcases List.mem_append.mp hy with hy | hy
    · exact w.box y hy
    · rw [List.mem_singleton.mp hy]; exact hn
  · rw [List.filterMap_append, List.nodup_append]
    refine ⟨w.names, by simp [Bx.name], fun a ha b hb e => ?_⟩
    simp [Bx.name] at hb
    subst hb; subst e
    exact hf ha
  · intro y hy
    rw [List.length_append, List.length_singleton]
    rcases new y hy with q | rfl
    · have := w.cab y q; omega
    · exact ⟨by show k < _; omega, by show bs.length < _; omega, h0, h9⟩
  · intro y hy z hz
    rcases new y hy with q | rfl
    · rcases get_cases hz with ⟨_, e⟩ | ⟨e, _⟩
      · exact w.src y q z e
      · have := w.cab y q; omega
    · have hz : (bs ++ [Bx.out n])[k]? = some z := hz
      rw [get_app hk] at hz; cases hz; exact Bx.mid_out hx
  · intro y hy z hz
    rcases new y hy with q | rfl
    · rcases get_cases hz with ⟨_, e⟩ | ⟨e, _⟩
      · exact w.dst y q z e
      · have := w.cab y q; omega
    · have hz : (bs ++ [Bx.out n])[bs.length]? = some z := hz
      rw [get_new] at hz; cases hz; rfl
  · intro i hi
    rw [List.length_append, List.length_singleton] at hi
    by_cases q : i < bs.length
    · exact fedOld i q
    · have : i = bs.length := by omega
      subst this
      exact Fed.step m1 (fedOld k hkl)
  · intro i hi
    rw [List.length_append, List.length_singleton] at hi
    by_cases q : i < bs.length
    · exact usedOld i q
    · have : i = bs.length := by omega
      subst this
      exact .start get_new
  · intro i m e
    rcases get_cases e with ⟨hi, e⟩ | ⟨rfl, e⟩
    · have := w.one i m e
      rw [List.filter_append, List.filter_cons, List.filter_nil]
      have q : ¬(bs.length = i) := by omega
      simp [q]
      exact this
    · rw [List.filter_append, filter_none (l := cs) (fun c hc1 => by have := w.cab c hc1; simp; omega), List.nil_append]
      exact Nat.le_trans (List.length_filter_le _ _) (by simp)
  · intro y hy hz
    rcases new y hy with q | rfl
    · have := w.cab y q
      have := hρ y q hz
      show (if y.o = bs.length then _ else _) < (if y.t = bs.length then _ else _)
      rw [if_neg (by omega), if_neg (by omega)]
      omega
    · show (if k = bs.length then _ else _) < (if bs.length = bs.length then _ else _)
      rw [if_neg (by omega : ¬k = bs.length), if_pos rfl]
      dsimp only
      omega
  · obtain ⟨x, hx, e⟩ := w.mid
    exact ⟨x, by simp [hx], e⟩
  · intro y hy e
    rcases List.mem_append.mp hy with hy | hy
    · exact w.lone y hy e
    · rw [List.mem_singleton.mp hy] at e; exact hlo (Option.some.inj e)
end Hd
namespace Hd
open PySem PySem.Spec PyProof.Rows L2 Ev
@[simp] theorem dIn_two_int {i a b : Int} : dIn (.int i) (.tup [.int a, .int b]) = some (decide (i = a ∨ i = b)) := by
  show some ((a == i) || ((b == i) || false)) = _
  rw [Bool.or_false]
  congr 1
  rw [Bool.eq_iff_iff, Bool.or_eq_true, beq_iff_eq, beq_iff_eq, decide_eq_true_iff]
  exact ⟨fun h => h.imp Eq.symm Eq.symm, fun h => h.imp Eq.symm Eq.symm⟩
@[simp] theorem dIx_box0 {b : Bx} : dIx b.d (.int 0) = some (.d (.str b.word)) := by cases b <;> rfl
theorem word_mid {b : Bx} : decide (b.word = Str.ofString "in" ∨ b.word = Str.ofString "out") = !b.mid := by cases b <;> simp [Bx.word, Bx.mid, ofStr_inj]
@[simp] theorem dIx_cb0 {c : Cb} : dIx c.d (.int 0) = some (.d (.int c.o)) := rfl
@[simp] theorem dIx_cb1 {c : Cb} : dIx c.d (.int 1) = some (.d (.int c.t)) := rfl
@[simp] theorem dIx_cb2 {c : Cb} : dIx c.d (.int 2) = some (.d (.int c.h)) := rfl
theorem cutL_take {α : Type} {xs : List α} {a : Nat} (h : a ≤ xs.length) : cutL xs none (some (a : Int)) = xs.take a := by
  unfold cutL
  rw [HT.sIx_nat, HT.sIx_none, Nat.min_eq_left h]
  simp
theorem cutL_drop {α : Type} {xs : List α} {a : Nat} (h : a ≤ xs.length) : cutL xs (some (a : Int)) none = xs.drop a := by
  unfold cutL
  rw [HT.sIx_nat, HT.sIx_none, Nat.min_eq_left h]
  rw [List.take_of_length_le (by simp)]
theorem wf_cables {bs : List Bx} {cs : List Cb} (w : WF bs cs) : 0 < cs.length := by
  obtain ⟨b, hb, hm⟩ := w.mid
  obtain ⟨i, hi, e⟩ := List.getElem_of_mem hb
  have f := w.fed i hi
  cases f with
  | start e2 => rw [List.getElem?_eq_getElem hi, e] at e2; cases e2; cases hm
  | step hc _ => exact List.length_pos_of_mem hc
def midAt (bs : List Bx) (k : Nat) : Bool := match bs[k]? with
  | some b => b.mid
  | none => false
def eight (t : Nat) : Str := repS (sgn (110 + t)) 8
theorem eight_cps (t : Nat) : (eight t).cps.toList = List.replicate 8 (110 + t) := cps_rep _ _
theorem eight_len (t : Nat) : (eight t).length = 8 := by rw [len_cps, eight_cps]; simp
theorem eight_lone {t : Nat} : eight t ≠ Str.ofString "lone" := fun h => by
  have h1 := eight_len t
  rw [h] at h1
  exact absurd h1 (by decide +kernel)
theorem eight_inj {t u : Nat} (h : eight t = eight u) : t = u := by
  have := congrArg (fun z : Str => z.cps.toList) h
  rw [eight_cps, eight_cps] at this
  simp at this
  omega
theorem eight_ok {t : Nat} (h : t < 6) : okName (eight t) := by
  refine ⟨by rw [eight_len]; omega, by rw [eight_len]; omega, fun c hc => ?_⟩
  rw [eight_cps] at hc
  rw [List.eq_of_mem_replicate hc]
  have : ∀ t : Fin 6, 110 + t.val ∈ small.cps.toList := by decide +kernel
  exact this ⟨t, h⟩
def NameInv (t : Nat) (bs : List Bx) : Prop := ∀ b ∈ bs, ∀ n, b.name = some n → n.length ≤ 7 ∨ ∃ u, u < t ∧ n = eight u
theorem NameInv.fresh {t : Nat} {bs : List Bx} (h : NameInv t bs) : eight t ∉ bs.filterMap Bx.name := fun hm => by
  obtain ⟨b, hb, e⟩ := List.mem_filterMap.mp hm
  rcases h b hb _ e with q | ⟨u, hu, q⟩
  · rw [eight_len] at q; omega
  · have := eight_inj q; omega
theorem NameInv.snoc {t : Nat} {bs : List Bx} {b : Bx} (h : NameInv t bs) (hb : b.name = none ∨ b.name = some (eight t)) : NameInv (t + 1) (bs ++ [b]) := by
  intro x hx n e
  rcases List.mem_append.mp hx with hx | hx
  · rcases h x hx n e with q | ⟨u, hu, q⟩
    · exact .inl q
    · exact .inr ⟨u, by omega, q⟩
  · rw [List.mem_singleton.mp hx] at e
    rcases hb with q | q
    · rw [q] at e; cases e
    · rw [q] at e; cases e; exact .inr ⟨t, by omega, rfl⟩
theorem NameInv.up {t : Nat} {bs : List Bx} (h : NameInv t bs) : NameInv (t + 1) bs := fun x hx n e => by
  rcases h x hx n e with q | ⟨u, hu, q⟩
  · exact .inl q
  · exact .inr ⟨u, by omega, q⟩
theorem ix_nopqrs {t : Nat} (h : t < 6) : dIx (.str (Str.ofString "nopqrs")) (.int (t : Int)) = some (.d (.str (sgn (110 + t)))) := by
  have hl : (Str.ofString "nopqrs").length ≤ 100000 := by decide +kernel
  rw [dIx_str hl, Ev.atI_nat]
  have : ∀ t : Fin 6, (Str.ofString "nopqrs").cps.toList[t.val]? = some (110 + t.val) := by decide +kernel
  rw [this ⟨t, h⟩]
  rfl
theorem mids_ne {bs : List Bx} {cs : List Cb} (w : WF bs cs) : 0 < ((List.range bs.length).filter (midAt bs)).length := by
  obtain ⟨b, hb, hm⟩ := w.mid
  obtain ⟨i, hi, e⟩ := List.getElem_of_mem hb
  refine List.length_pos_of_mem (a := i) (List.mem_filter.mpr ⟨List.mem_range.mpr hi, ?_⟩)
  unfold midAt
  rw [List.getElem?_eq_getElem hi, e]
  exact hm
theorem mids_of {bs : List Bx} {k : Nat} (h : k ∈ (List.range bs.length).filter (midAt bs)) : ∃ b, bs[k]? = some b ∧ b.mid = true := by
  obtain ⟨h1, h2⟩ := List.mem_filter.mp h
  unfold midAt at h2
  split at h2
  · rename_i b e; exact ⟨b, e, h2⟩
  · cases h2
theorem more_turn {C : Cl} {bs : List Bx} {cs : List Cb} {num way : Int} {t : Nat} {o5 o6 o7 o8 o9 o10 o11 o12 : Option L} {N : Fl → VS → Prop} (w : WF bs cs) (hn : NameInv t bs) (ht : t < 6) (h0 : 0 ≤ num)
    (hN : ∀ bs' cs' num' o5 o6 o7 o8 o9 o10 o11, WF bs' cs' → NameInv (t + 1) bs' → 0 ≤ num' → N .nx [some (.d (.lst (bs'.map Bx.d))), some (.d (.lst (cs'.map Cb.d))), some (.d (.int num')), some (.d (.int way)), some (.d (.int (t : Int))), o5, o6, o7, o8, o9, o10, o11, none]) :
    wp (F__law_more_4 C) [some (.d (.lst (bs.map Bx.d))), some (.d (.lst (cs.map Cb.d))), some (.d (.int num)), some (.d (.int way)), some (.d (.int (t : Int))), o5, o6, o7, o8, o9, o10, o11, none] N := by
  simp only [F__law_more_4]
  simp
  split
  · split
    · rename_i hb10 hc20
      have hb10 : bs.length < 10 := by omega
      have hc20 : cs.length < 20 := by omega
      have hcp := wf_cables w
      simp [F__law_more_5, F__law_more_6, F__law_more_7]
      refine ⟨hcp, ?_⟩
      obtain ⟨num', en, hn0⟩ : ∃ num', num / 3 + 7 * (t : Int) = num' ∧ 0 ≤ num' := ⟨_, rfl, by omega⟩
      rw [en]
      obtain ⟨a, ea, ha⟩ : ∃ a : Nat, num' % (cs.length : Int) = (a : Int) ∧ a < cs.length := by
        have h1 := Int.emod_nonneg num' (by omega : (cs.length : Int) ≠ 0)
        have h2 := Int.emod_lt_of_pos num' (by omega : (0 : Int) < (cs.length : Int))
        exact ⟨(num' % (cs.length : Int)).toNat, by omega, by omega⟩
      rw [ea]
      simp [F__law_more_8, Ev.atI_nat, List.getElem?_eq_getElem ha]
      obtain ⟨c, ec⟩ : ∃ c, cs[a] = c := ⟨_, rfl⟩
      have hcm : c ∈ cs := by rw [← ec]; exact List.getElem_mem ha
      rw [ec]
      simp [Cb.d, F__law_more_9, F__law_more_10, wp_fComp]
      refine ⟨by omega, ?_⟩
      refine lcF_inN (fun i acc s => acc = ((List.range i).filter (midAt bs)).map (fun (k : Nat) => D.int (k : Int)) ∧ s = [some (.d (.lst (bs.map Bx.d))), some (.d (.lst (cs.map Cb.d))), some (.d (.int num')), some (.d (.int way)), some (.d (.int (t : Int))), some (.d (.int (a : Int))), some (.d (.int (bs.length : Int))), o7, o8, some (.d (.int c.o)), some (.d (.int c.t)), some (.d (.int c.h)), none]) ⟨rfl, by simp [wipeV, Cb.d]⟩ ?_ ?_
      · rintro i d acc s N hd ⟨rfl, rfl⟩ hN
        obtain ⟨hin, rfl⟩ := rgD_get hd
        have ei : (0 : Int) + (i : Int) = (i : Int) := by omega
        rw [ei]
        simp [Ev.atI_nat, List.getElem?_eq_getElem hin, wipeV]
        have hrl : ((List.range i).filter (midAt bs)).length ≤ i := by
          have := List.length_filter_le (midAt bs) (List.range i)
          simpa using this
        have hmid : midAt bs i = bs[i].mid := by unfold midAt; rw [List.getElem?_eq_getElem hin]
        have hw := word_mid (b := bs[i])
        split
        · rename_i hq
          have hq2 : bs[i].mid = false := by
            have : decide (bs[i].word = Str.ofString "in" ∨ bs[i].word = Str.ofString "out") = true := decide_eq_true hq
            rw [hw] at this; simpa using this
          refine hN _ _ ⟨?_, rfl⟩
          rw [List.range_succ, List.filter_append]
          simp [hmid, hq2]
        · rename_i hq
          have hq2 : bs[i].mid = true := by
            have : decide (bs[i].word = Str.ofString "in" ∨ bs[i].word = Str.ofString "out") = false := decide_eq_false hq
            rw [hw] at this; simpa using this
          refine ⟨by omega, hN _ _ ⟨?_, rfl⟩⟩
          rw [List.range_succ, List.filter_append]
          simp [hmid, hq2]
      · rintro acc s ⟨rfl, rfl⟩
        rw [rgD_len]
        simp [restV, wipeV, keepD, F__law_more_11, ix_nopqrs ht]
        obtain ⟨mids, em, hmp, hmo⟩ : ∃ mids : List Nat, (List.range bs.length).filter (midAt bs) = mids ∧ 0 < mids.length ∧ ∀ k ∈ mids, ∃ b, bs[k]? = some b ∧ b.mid = true := ⟨_, rfl, mids_ne w, fun k hk => mids_of hk⟩
        rw [em]
        have hsl : (sgn (110 + t)).length ≤ 1000 := by show (1 : Nat) ≤ 1000; omega
        refine ⟨hsl, ?_⟩
        simp only [F__law_more_12]
        simp
        split
        · simp [F__law_more_13, F__law_more_14]
          refine to_atI (Int.emod_nonneg _ (by omega)) (by have := Int.emod_lt_of_pos num' (by omega : (0 : Int) < 2); simp; omega) fun x hx => ?_
          obtain ⟨b, rfl, hb1, hb2⟩ : ∃ b : Bx, x = b.d ∧ b.ok ∧ b.mid = true := by
            simp at hx
            rcases hx with rfl | rfl
            · exact ⟨.sum (num' % 5), rfl, ⟨Int.emod_nonneg _ (by omega), by have := Int.emod_lt_of_pos num' (by omega : (0 : Int) < 5); omega⟩, rfl⟩
            · exact ⟨.most (num' % 3), rfl, ⟨Int.emod_nonneg _ (by omega), by have := Int.emod_lt_of_pos num' (by omega : (0 : Int) < 3); omega⟩, rfl⟩
          simp
          refine ⟨by omega, ?_⟩
          have ea1 : (a : Int) + 1 = ((a + 1 : Nat) : Int) := by omega
          simp [F__law_more_15]
          rw [ea1, cutL_take (by simp; omega), cutL_drop (by simp; omega)]
          simp
          refine ⟨by omega, by omega, ?_⟩
          have spl : cs = cs.take a ++ c :: cs.drop (a + 1) := by
            rw [← ec, ← List.drop_eq_getElem_cons ha, List.take_append_drop]
          have w' : WF bs (cs.take a ++ c :: cs.drop (a + 1)) := by rw [← spl]; exact w
          have := hN (bs ++ [b]) (cs.take a ++ [⟨c.o, bs.length, c.h⟩, ⟨bs.length, c.t, 0⟩] ++ cs.drop (a + 1)) num' (some (.d (.int (a : Int)))) (some (.d (.int (bs.length : Int)))) (some (.own (mids.map fun (k : Nat) => D.int (k : Int)))) (some (.d (.str (eight t)))) (some (.d (.int c.o))) (some (.d (.int c.t))) (some (.d (.int c.h))) (wf_insert w' hb1 hb2 hb10 (by rw [← spl]; exact hc20)) (hn.snoc (.inl (Bx.mid_name hb2))) hn0
          simpa [Cb.d, eight] using this
        · simp [F__law_more_16, F__law_more_17]
          split
          · simp [F__law_more_18, F__law_more_19]
            refine ⟨by omega, ?_⟩
            simp [F__law_more_20]
            refine ⟨hmp, ?_⟩
            refine to_atI (Int.emod_nonneg _ (by omega)) (by have := Int.emod_lt_of_pos num' (by omega : (0 : Int) < (mids.length : Int)); simp; omega) fun x hx => ?_
            obtain ⟨k, hk, rfl⟩ := List.mem_map.mp hx
            obtain ⟨b, hb1, hb2⟩ := hmo k hk
            have hcab := w.cab c hcm
            simp
            refine ⟨by omega, ?_⟩
            have := hN (bs ++ [.inn (eight t)]) (cs ++ [⟨bs.length, k, c.h⟩]) num' (some (.d (.int (a : Int)))) (some (.d (.int (bs.length : Int)))) (some (.own (mids.map fun (k : Nat) => D.int (k : Int)))) (some (.d (.str (eight t)))) (some (.d (.int c.o))) (some (.d (.int c.t))) (some (.d (.int c.h))) (wf_in w hb1 hb2 (eight_ok ht) eight_lone hn.fresh hcab.2.2.1 hcab.2.2.2 hb10 hc20) (hn.snoc (.inr rfl)) hn0
            simpa [Cb.d, Bx.d, eight] using this
          · simp [F__law_more_21, F__law_more_22]
            refine ⟨by omega, ?_⟩
            simp [F__law_more_23]
            refine ⟨hmp, ?_⟩
            refine to_atI (Int.emod_nonneg _ (by omega)) (by have := Int.emod_lt_of_pos num' (by omega : (0 : Int) < (mids.length : Int)); simp; omega) fun x hx => ?_
            obtain ⟨k, hk, rfl⟩ := List.mem_map.mp hx
            obtain ⟨b, hb1, hb2⟩ := hmo k hk
            simp
            refine ⟨by omega, ?_⟩
            have := hN (bs ++ [.out (eight t)]) (cs ++ [⟨k, bs.length, 0⟩]) num' (some (.d (.int (a : Int)))) (some (.d (.int (bs.length : Int)))) (some (.own (mids.map fun (k : Nat) => D.int (k : Int)))) (some (.d (.str (eight t)))) (some (.d (.int c.o))) (some (.d (.int c.t))) (some (.d (.int c.h))) (wf_out w hb1 hb2 (eight_ok ht) eight_lone hn.fresh (by omega) (by omega) hb10 hc20) (hn.snoc (.inr rfl)) hn0
            simpa [Cb.d, Bx.d, eight] using this
    · exact hN _ _ _ _ _ _ _ _ _ _ w hn.up h0
  · exact hN _ _ _ _ _ _ _ _ _ _ w hn.up h0
end Hd
namespace Hd
open PySem PySem.Spec PyProof.Rows L2 Ev
theorem more_ok {C : Cl} {bs : List Bx} {cs : List Cb} {num : Int} {Q : L → VS → Prop} (w : WF bs cs) (hs : Short bs) (h0 : 0 ≤ num) (hq : ∀ (bs : List Bx) (cs : List Cb), WF bs cs → Q (.d (.tup [.lst (bs.map Bx.d), .lst (cs.map Cb.d)])) [none, none, none]) :
    wp (fn__law_more C).run [some (.d (.lst (bs.map Bx.d))), some (.d (.lst (cs.map Cb.d))), some (.d (.int num))] Q := by
  refine wp_def ?_
  show wp (F__law_more C) [some (.d (.lst (bs.map Bx.d))), some (.d (.lst (cs.map Cb.d))), some (.d (.int num)), none, none, none, none, none, none, none, none, none, none] _
  simp only [F__law_more, F__law_more_0, wp_sSeq, F__law_more_1]
  simp
  simp only [F__law_more_2]
  simp
  obtain ⟨n, en, hn⟩ : ∃ n : Nat, 6 * (if num % 8 = 0 ∨ num % 8 = 2 then (1 : Int) else 0) = (n : Int) ∧ n ≤ 6 := by
    split
    · exact ⟨6, rfl, by omega⟩
    · exact ⟨0, rfl, by omega⟩
  rw [en]
  refine ⟨by omega, ?_⟩
  rw [Int.toNat_natCast]
  refine wp_loopN (fun i s => ∃ (bs : List Bx) (cs : List Cb) (num' : Int) (o4 o5 o6 o7 o8 o9 o10 o11 : Option L), s = [some (.d (.lst (bs.map Bx.d))), some (.d (.lst (cs.map Cb.d))), some (.d (.int num')), some (.d (.int (num % 8))), o4, o5, o6, o7, o8, o9, o10, o11, none] ∧ WF bs cs ∧ NameInv i bs ∧ 0 ≤ num')
    ⟨bs, cs, num, _, _, _, _, _, _, _, _, rfl, w, fun b hb n e => .inl (hs.short b hb n e), h0⟩ ?_ ?_
  · rintro i d s N hd ⟨bs, cs, num', o4, o5, o6, o7, o8, o9, o10, o11, rfl, w, hN, h0⟩ hh
    obtain ⟨hin, rfl⟩ := rgD_get hd
    have ei : (0 : Int) + (i : Int) = (i : Int) := by omega
    rw [ei]
    simp [F__law_more_3]
    refine more_turn (o12 := none) w hN (by omega) h0 fun bs' cs' num'' o5 o6 o7 o8 o9 o10 o11 w' hN' h0' => ?_
    simp only [thenF_nx, wp_sNil, lend_nx]
    exact hh _ ⟨bs', cs', num'', _, _, _, _, _, _, _, _, rfl, w', hN', h0'⟩
  · rintro s ⟨bs, cs, num', o4, o5, o6, o7, o8, o9, o10, o11, rfl, w, hN, h0⟩
    simp [F__law_more_24, outs_eq, List.range_succ]
    exact hq bs cs w
theorem call_more {C : Cl} {s : VS} {bs : List Bx} {cs : List Cb} {num : Int} {Q : L → VS → Prop} (w : WF bs cs) (hs : Short bs) (h0 : 0 ≤ num) (hq : ∀ (bs : List Bx) (cs : List Cb), WF bs cs → Q (.d (.tup [.lst (bs.map Bx.d), .lst (cs.map Cb.d)])) s) :
    wp (callF (fn__law_more C) [.dat (.lst (bs.map Bx.d)), .dat (.lst (cs.map Cb.d)), .dat (.int num)]) s Q := by
  rw [wp_callF]
  simp only [to_some, to_args_dat, argsOf_nil]
  exact ⟨⟨rfl, rfl⟩, more_ok w hs h0 fun bs cs w => hq bs cs w⟩
theorem perm_map_inv {α β : Type} {f : α → β} {es : List β} {l : List α} (h : es.Perm (l.map f)) : ∃ l' : List α, l'.Perm l ∧ es = l'.map f := by
  generalize e : l.map f = m at h
  induction h generalizing l with
  | nil =>
    cases l with
    | nil => exact ⟨[], List.Perm.refl _, rfl⟩
    | cons a r => cases e
  | cons x _ ih =>
    cases l with
    | nil => cases e
    | cons a r =>
      injection e with e1 e2
      obtain ⟨l', p, q⟩ := ih e2
      exact ⟨a :: l', p.cons a, by rw [List.map_cons, e1, q]⟩
  | swap x y l2 =>
    cases l with
    | nil => cases e
    | cons a r =>
      cases r with
      | nil => injection e with _ e2; cases e2
      | cons b r =>
        injection e with e1 e2
        injection e2 with e2 e3
        exact ⟨b :: a :: r, List.Perm.swap _ _ _, by rw [List.map_cons, List.map_cons, e1, e2, e3]⟩
  | trans _ _ ih1 ih2 =>
    obtain ⟨l2, p2, q2⟩ := ih2 e
    obtain ⟨l1, p1, q1⟩ := ih1 q2.symm
    exact ⟨l1, p1.trans p2, q1⟩
theorem filterMap_get {α : Type} (l : List α) : (List.range l.length).filterMap (fun i => l[i]?) = l := by
  induction l with
  | nil => rfl
  | cons a r ih =>
    rw [List.length_cons, List.range_succ_eq_map, List.filterMap_cons, List.filterMap_map]
    simp only [List.getElem?_cons_zero, Function.comp_def, List.getElem?_cons_succ]
    rw [ih]
def reCb (pos : Nat → Nat) (c : Cb) : Cb := ⟨pos c.o, pos c.t, c.h⟩
theorem wf_perm {bs : List Bx} {cs cs' : List Cb} {order : List Nat} {pos : Nat → Nat} (w : WF bs cs) (ho : order.Perm (List.range bs.length)) (hp : ∀ a, a < bs.length → order[pos a]? = some a) (hc : cs'.Perm (cs.map (reCb pos))) :
    WF (order.filterMap fun a => bs[a]?) cs' := by
  have hol : order.length = bs.length := by rw [ho.length_eq, List.length_range]
  have hlt : ∀ a ∈ order, a < bs.length := fun a ha => List.mem_range.mp (ho.mem_iff.mp ha)
  have hperm : (order.filterMap fun a => bs[a]?).Perm bs := by
    have := ho.filterMap (fun a => bs[a]?)
    rwa [filterMap_get] at this
  have hlen : (order.filterMap fun a => bs[a]?).length = bs.length := hperm.length_eq
  have hget : ∀ (j a : Nat), order[j]? = some a → (order.filterMap fun a => bs[a]?)[j]? = bs[a]? := by
    have gen : ∀ (l : List Nat), (∀ a ∈ l, a < bs.length) → ∀ (j a : Nat), l[j]? = some a → (l.filterMap fun a => bs[a]?)[j]? = bs[a]? := by
      intro l
      induction l with
      | nil => intro _ j a e; simp at e
      | cons x l ih =>
        intro h j a e
        have hx := h x List.mem_cons_self
        rw [List.filterMap_cons, List.getElem?_eq_getElem hx]
        cases j with
        | zero => simp at e; subst e; simp [List.getElem?_eq_getElem hx]
        | succ j => simp at e; simpa using ih (fun a ha => h a (List.mem_cons_of_mem _ ha)) j a e
    exact gen order hlt
  have hpos : ∀ a, a < bs.length → pos a < bs.length ∧ (order.filterMap fun a => bs[a]?)[pos a]? = bs[a]? := fun a ha => by
    have e := hp a ha
    have := (List.getElem?_eq_some_iff.mp e).1
    exact ⟨by omega, hget _ _ e⟩
  have hinj : ∀ a b, a < bs.length → b < bs.length → pos a = pos b → a = b := fun a b ha hb e => by
    have e1 := hp a ha
    rw [e, hp b hb] at e1
    exact (Option.some.inj e1).symm
  have hnd : order.Nodup := ho.nodup_iff.mpr List.nodup_range
  have hsurj : ∀ j, j < bs.length → ∃ a, a < bs.length ∧ pos a = j ∧ order[j]? = some a := fun j hj => by
    have e : order[j]? = some order[j] := List.getElem?_eq_getElem (by omega)
    have ha := hlt _ (List.mem_of_getElem? e)
    refine ⟨order[j], ha, ?_, e⟩
    have e2 := hp _ ha
    have hl2 := (List.getElem?_eq_some_iff.mp e2).1
    exact (List.getElem?_inj hl2 hnd).mp (by rw [e2, e])
  have cin : ∀ c' ∈ cs', ∃ c ∈ cs, c' = reCb pos c := fun c' h => by
    obtain ⟨c, h1, h2⟩ := List.mem_map.mp (hc.mem_iff.mp h)
    exact ⟨c, h1, h2.symm⟩
  have cin' : ∀ c ∈ cs, reCb pos c ∈ cs' := fun c h => hc.mem_iff.mpr (List.mem_map.mpr ⟨c, h, rfl⟩)
  have fed' : ∀ i, Fed bs cs i → Fed (order.filterMap fun a => bs[a]?) cs' (pos i) := fun i f => by
    induction f with
    | start e => exact .start (by rw [(hpos _ (List.getElem?_eq_some_iff.mp e).1).2]; exact e)
    | step hc1 _ ih => exact Fed.step (c := reCb pos _) (cin' _ hc1) ih
  have used' : ∀ i, Used bs cs i → Used (order.filterMap fun a => bs[a]?) cs' (pos i) := fun i f => by
    induction f with
    | start e => exact .start (by rw [(hpos _ (List.getElem?_eq_some_iff.mp e).1).2]; exact e)
    | step hc1 _ ih => exact Used.step (c := reCb pos _) (cin' _ hc1) ih
  obtain ⟨ρ, hρ⟩ := w.rank
  refine ⟨by rw [hlen]; exact w.nb, by rw [hc.length_eq, List.length_map]; exact w.nc, fun b hb => w.box b (hperm.mem_iff.mp hb), (hperm.filterMap Bx.name).nodup_iff.mpr w.names, ?_, ?_, ?_, ?_, ?_, ?_, ⟨fun j => ρ (order[j]?.getD 0), ?_⟩, ?_, fun b hb => w.lone b (hperm.mem_iff.mp hb)⟩
  · intro c' h
    obtain ⟨c, h1, rfl⟩ := cin c' h
    have := w.cab c h1
    rw [hlen]
    exact ⟨(hpos _ this.1).1, (hpos _ this.2.1).1, this.2.2.1, this.2.2.2⟩
  · intro c' h b hb
    obtain ⟨c, h1, rfl⟩ := cin c' h
    have := w.cab c h1
    have hb : (order.filterMap fun a => bs[a]?)[pos c.o]? = some b := hb
    rw [(hpos _ this.1).2] at hb
    exact w.src c h1 b hb
  · intro c' h b hb
    obtain ⟨c, h1, rfl⟩ := cin c' h
    have := w.cab c h1
    have hb : (order.filterMap fun a => bs[a]?)[pos c.t]? = some b := hb
    rw [(hpos _ this.2.1).2] at hb
    exact w.dst c h1 b hb
  · intro j hj
    rw [hlen] at hj
    obtain ⟨a, ha, rfl, _⟩ := hsurj j hj
    exact fed' a (w.fed a ha)
  · intro j hj
    rw [hlen] at hj
    obtain ⟨a, ha, rfl, _⟩ := hsurj j hj
    exact used' a (w.used a ha)
  · intro j n e
    have hj := (List.getElem?_eq_some_iff.mp e).1
    rw [hlen] at hj
    obtain ⟨a, ha, rfl, ea⟩ := hsurj j hj
    rw [hget _ _ ea] at e
    have e1 := w.one a n e
    rw [(hc.filter _).length_eq, List.filter_map, List.length_map]
    have : (List.filter ((fun c => decide (c.t = pos a)) ∘ reCb pos) cs) = cs.filter fun c => decide (c.t = a) := by
      apply List.filter_congr
      intro c hc1
      have := w.cab c hc1
      show decide (pos c.t = pos a) = decide (c.t = a)
      by_cases q : c.t = a
      · simp [q]
      · have : pos c.t ≠ pos a := fun z => q (hinj _ _ this.2.1 ha z)
        simp [q, this]
    rw [this]; exact e1
  · intro c' h hz
    obtain ⟨c, h1, rfl⟩ := cin c' h
    have hcb := w.cab c h1
    have := hρ c h1 hz
    show ρ (order[pos c.o]?.getD 0) < ρ (order[pos c.t]?.getD 0)
    rw [hp _ hcb.1, hp _ hcb.2.1]
    exact this
  · obtain ⟨b, hb, e⟩ := w.mid
    exact ⟨b, hperm.mem_iff.mpr hb, e⟩
theorem idxF_nat : ∀ (l : List Nat) (a : Nat), a ∈ l → ∃ j, idxF (.int (a : Int)) (l.map fun (k : Nat) => D.int (k : Int)) = some j ∧ l[j]? = some a
  | [], a, h => by simp at h
  | x :: l, a, h => by
    rw [List.map_cons, idxF]
    have e : eqF (.int (x : Int)) (.int (a : Int)) = decide (x = a) := by
      show ((x : Int) == (a : Int)) = _
      rw [Bool.eq_iff_iff, beq_iff_eq, decide_eq_true_iff]; omega
    rw [e]
    by_cases q : x = a
    · subst q; exact ⟨0, by simp, rfl⟩
    · obtain ⟨j, h1, h2⟩ := idxF_nat l a (by
        rcases List.mem_cons.mp h with r | r
        · exact absurd r.symm q
        · exact r)
      exact ⟨j + 1, by simp [q, h1], by simpa using h2⟩
def posOf (order : List Nat) (a : Nat) : Nat := (idxF (.int (a : Int)) (order.map fun (k : Nat) => D.int (k : Int))).getD 0
theorem posOf_ok {order : List Nat} {a : Nat} (h : a ∈ order) : idxF (.int (a : Int)) (order.map fun (k : Nat) => D.int (k : Int)) = some (posOf order a) ∧ order[posOf order a]? = some a := by
  obtain ⟨j, h1, h2⟩ := idxF_nat order a h
  have e : posOf order a = j := by unfold posOf; rw [h1]; rfl
  rw [e]; exact ⟨h1, h2⟩
theorem flD_nats (l : List Nat) : (l.map fun (k : Nat) => D.int (k : Int)).all flD = true := by
  rw [List.all_eq_true]; intro x hx; obtain ⟨i, _, rfl⟩ := List.mem_map.mp hx; rfl
theorem rgD_nat {n : Nat} : rgD 0 n = (List.range n).map fun (k : Nat) => D.int (k : Int) := by
  unfold rgD
  apply List.map_congr_left
  intro a _
  simp
theorem mixed_okO {C : Cl} {xs ds : List D} {l1 : L} {Q : L → VS → Prop} (h : Dice xs) (hl1 : l1 = .d (.lst ds) ∨ l1 = .own ds) (hd : ∀ d ∈ ds, okD 19 d = true) (hl : ds.length ≤ 60) (hq : ∀ es xs', Dice xs' → es.Perm ds → Q (.own es) [some (.own xs'), none]) : wp (fn__law_mixed C).run [some (.own xs), some l1] Q := by
  rcases hl1 with rfl | rfl
  · exact mixed_ok h hd hl hq
  refine wp_def ?_
  show wp (F__law_mixed C) [some (.own xs), some (.own ds), none, none] _
  simp only [F__law_mixed, F__law_mixed_0, wp_sSeq, F__law_mixed_1]
  simp [F__law_mixed_2]
  simp only [F__law_mixed_3]
  refine wp_whileN (fun m s => ∃ ys left found, s = [some (.own ys), some (.own ds), some (.own left), some (.own found)] ∧ Dice ys ∧ (left ++ found).Perm ds ∧ m = left.length) 1000 ds.length (by omega) ⟨xs, ds, [], rfl, h, by simp, rfl⟩ ?_
  rintro m s N ⟨ys, left, found, rfl, hy, hp, rfl⟩ hN
  have hlen : left.length + found.length = ds.length := by have := hp.length_eq; simpa using this
  have hok : okD 20 (.lst left) = true := okD_all fun d hd' => hd d (hp.mem_iff.mp (List.mem_append_left _ hd'))
  simp [dEq_nil hok]
  split
  · rename_i hne
    subst hne
    simp [F__law_mixed_6, outs_eq, List.range_succ]
    exact hq _ _ hy (by simpa using hp)
  · rename_i hne
    have hpos : 0 < left.length := List.length_pos_iff.mpr hne
    simp [F__law_mixed_4, F__law_mixed_5]
    refine call_off rfl hy (by omega) (by omega) fun r zs hz a b => ?_
    simp
    refine ⟨by omega, ?_⟩
    rw [ixN_pos a b]
    have hk : r.toNat < left.length := by omega
    simp [List.getElem?_eq_getElem hk]
    refine ⟨by omega, ?_⟩
    refine hN (left.eraseIdx r.toNat).length _ ?_ ⟨zs, _, _, rfl, hz, ?_, rfl⟩
    · rw [List.length_eraseIdx, if_pos hk]; omega
    · refine List.Perm.trans ?_ hp
      have p1 := erase_perm left _ hk
      refine List.Perm.trans ?_ (List.Perm.append_right found p1)
      rw [← List.append_assoc]
      exact List.perm_append_comm
theorem call_mixedO {C : Cl} {s : VS} {j i : Nat} {xs ds : List D} {Q : L → VS → Prop} (hs : at? s j = some (.own xs)) (hi : at? s i = some (.own ds)) (hij : j ≠ i) (h : Dice xs) (hd : ∀ d ∈ ds, okD 19 d = true) (hl : ds.length ≤ 60) (hq : ∀ es xs', Dice xs' → es.Perm ds → Q (.own es) ((s.set i none).set j (some (.own xs')))) :
    wp (callF (fn__law_mixed C) [.sl j, .sl i]) s Q := by
  rw [wp_callF]
  simp only [to_args_sl, hs, hi, to_some, to_args_dat, argsOf_nil]
  have hij' : i ≠ j := fun z => hij z.symm
  exact ⟨⟨by simp [hij'], rfl⟩, mixed_okO h (.inr rfl) hd hl hq⟩
theorem desk_ok {C : Cl} {xs : List D} {many : Int} {Q : L → VS → Prop} (h : Dice xs) (hm1 : 1 ≤ many) (hm6 : many ≤ 6) (hq : ∀ (bs : List Bx) (cs : List Cb) xs', Dice xs' → WF bs cs → Q (.d (.tup [.lst (bs.map Bx.d), .lst (cs.map Cb.d)])) [some (.own xs'), none]) : wp (fn__law_desk C).run [some (.own xs), some (.d (.int many))] Q := by
  refine wp_def ?_
  show wp (F__law_desk C) [some (.own xs), some (.d (.int many)), none, none, none, none, none, none, none, none] _
  simp only [F__law_desk, F__law_desk_0, wp_sSeq, F__law_desk_1]
  simp
  refine call_rows rfl h hm1 hm6 fun bs cs xs1 d1 w1 s1 => ?_
  obtain ⟨a, b, r, rfl, ha, hb, hr, hrl⟩ := d1
  have d1 : Dice (.int a :: .int b :: r.map D.int) := ⟨a, b, r, rfl, ha, hb, hr, hrl⟩
  simp [F__law_desk_2]
  refine call_more w1 s1 (Int.ediv_nonneg ha (by omega)) fun bs cs w => ?_
  have hnb := w.nb
  have hnc := w.nc
  simp [F__law_desk_3]
  refine ⟨by omega, ?_⟩
  refine call_mixed rfl d1 (fun d hd => ?_) (by rw [rgD_len]; omega) fun es xs2 d2 hp => ?_
  · rw [rgD_nat] at hd
    obtain ⟨k, _, rfl⟩ := List.mem_map.mp hd
    rfl
  rw [rgD_nat] at hp
  obtain ⟨order, ho, rfl⟩ := perm_map_inv hp
  have hmem : ∀ a, a < bs.length → a ∈ order := fun a h => ho.mem_iff.mpr (List.mem_range.mpr h)
  simp [F__law_desk_4, wp_fComp]
  refine ⟨by omega, ?_⟩
  refine lcF_inN (fun i acc s => acc = (List.range i).map (fun k => D.int (posOf order k : Int)) ∧ s = [some (.own xs2), some (.d (.int many)), some (.d (.lst (order.map fun (k : Nat) => D.int (k : Int)))), none, some (.d (.lst (cs.map Cb.d))), some (.d (.lst (bs.map Bx.d))), none, none, none, none]) ⟨rfl, rfl⟩ ?_ ?_
  · rintro i d acc s N hd ⟨rfl, rfl⟩ hN
    obtain ⟨hin, rfl⟩ := rgD_get hd
    have ei : (0 : Int) + (i : Int) = (i : Int) := by omega
    rw [ei]
    obtain ⟨e1, e2⟩ := posOf_ok (hmem i hin)
    have e3 : dIndex (.lst (order.map fun (k : Nat) => D.int (k : Int))) [.int (i : Int)] = some (.d (.int (posOf order i : Int))) := by
      show (if (flD (.int (i : Int)) && (order.map fun (k : Nat) => D.int (k : Int)).all flD) = true then _ else _) = _
      rw [flD_nats, e1]
      rfl
    simp [bYes, wipeV, isT, e3]
    refine ⟨by omega, hN _ _ ⟨?_, rfl⟩⟩
    rw [List.range_succ]; simp
  · rintro acc s ⟨rfl, rfl⟩
    rw [rgD_len]
    simp [wipeV, restV, keepD, F__law_desk_5, wp_fComp]
    have hcab := w.cab
    have hlt : ∀ a, a < bs.length → ((List.range bs.length).map fun k => D.int (posOf order k : Int))[a]? = some (.int (posOf order a : Int)) := fun a ha => by
      rw [List.getElem?_map, List.getElem?_range ha]; rfl
    have e4 : lcF (.tp [.nm 7, .nm 8, .nm 9]) [7, 8, 9] bYes (fTup (aCons (fS (f2 dIx (vLook 3) (vLook 7))) (aCons (fS (f2 dIx (vLook 3) (vLook 8))) (aCons (vGet 9) aNil)))) (cs.map Cb.d) []
        [some (.own xs2), some (.d (.int many)), some (.d (.lst (order.map fun (k : Nat) => D.int (k : Int)))), some (.d (.lst ((List.range bs.length).map fun k => D.int (posOf order k : Int)))), some (.d (.lst (cs.map Cb.d))), some (.d (.lst (bs.map Bx.d))), none, none, none, none]
        = some ((cs.map (reCb (posOf order))).map Cb.d, [some (.own xs2), some (.d (.int many)), some (.d (.lst (order.map fun (k : Nat) => D.int (k : Int)))), some (.d (.lst ((List.range bs.length).map fun k => D.int (posOf order k : Int)))), some (.d (.lst (cs.map Cb.d))), some (.d (.lst (bs.map Bx.d))), none, none, none, none]) := by
      rw [lcF_pure (fun d => match d with | .tup [.int o, .int t, .int h] => some (.tup [.int (posOf order o.toNat : Int), .int (posOf order t.toNat : Int), .int h]) | _ => none) (by simp; omega)]
      · congr 2
        rw [List.filterMap_map, List.map_map, ← List.filterMap_eq_map]
        congr 1
      · intro d hd
        obtain ⟨c, hc, rfl⟩ := List.mem_map.mp hd
        have := hcab c hc
        simp [Cb.d, bYes, Ev.atI_nat, hlt c.o this.1, hlt c.t this.2.1, wipeV]
    rw [e4]
    simp [wipeV, restV, keepD, F__law_desk_6, wp_fComp]
    have hlo : ∀ a ∈ order, a < bs.length := fun a ha => List.mem_range.mp (ho.mem_iff.mp ha)
    have hol : order.length = bs.length := by rw [ho.length_eq, List.length_range]
    have e5 : ∀ o4, lcF (.nm 6) [6] bYes (fS (f2 dIx (vLook 5) (vLook 6))) (order.map fun (k : Nat) => D.int (k : Int)) []
        [some (.own xs2), some (.d (.int many)), some (.d (.lst (order.map fun (k : Nat) => D.int (k : Int)))), some (.d (.lst ((List.range bs.length).map fun k => D.int (posOf order k : Int)))), o4, some (.d (.lst (bs.map Bx.d))), none, none, none, none]
        = some ((order.filterMap fun a => bs[a]?).map Bx.d, [some (.own xs2), some (.d (.int many)), some (.d (.lst (order.map fun (k : Nat) => D.int (k : Int)))), some (.d (.lst ((List.range bs.length).map fun k => D.int (posOf order k : Int)))), o4, some (.d (.lst (bs.map Bx.d))), none, none, none, none]) := by
      intro o4
      rw [lcF_pure (fun d => match d with | .int k => (bs[k.toNat]?).map Bx.d | _ => none) (by simp; omega)]
      · congr 2
        rw [List.filterMap_map, List.map_filterMap]
        congr 1
      · intro d hd
        obtain ⟨a, ha, rfl⟩ := List.mem_map.mp hd
        simp [bYes, Ev.atI_nat, List.getElem?_eq_getElem (hlo a ha), wipeV]
    rw [e5]
    simp [wipeV, restV, keepD]
    refine call_mixedO rfl rfl (by decide) d2 (fun d hd => ?_) (by simp; omega) fun es xs3 d3 hp2 => ?_
    · obtain ⟨c, _, rfl⟩ := List.mem_map.mp hd
      exact okD_cb (n := 18) _
    · rw [← List.map_map] at hp2
      obtain ⟨cs', hp3, rfl⟩ := perm_map_inv hp2
      simp [outs_eq, List.range_succ]
      have w' := wf_perm w ho (fun a ha => (posOf_ok (hmem a ha)).2) hp3
      have := hq _ _ xs3 d3 w'
      simpa using this
theorem call_desk {C : Cl} {s : VS} {j : Nat} {xs : List D} {many : Int} {Q : L → VS → Prop} (hs : at? s j = some (.own xs)) (h : Dice xs) (hm1 : 1 ≤ many) (hm6 : many ≤ 6) (hq : ∀ (bs : List Bx) (cs : List Cb) xs', Dice xs' → WF bs cs → Q (.d (.tup [.lst (bs.map Bx.d), .lst (cs.map Cb.d)])) (s.set j (some (.own xs')))) :
    wp (callF (fn__law_desk C) [.sl j, .dat (.int many)]) s Q := by
  rw [wp_callF]
  simp only [to_args_sl, hs, to_some, to_args_dat, argsOf_nil]
  exact ⟨⟨rfl, rfl⟩, desk_ok h hm1 hm6 hq⟩
end Hd
namespace Hd
open PySem PySem.Spec PyProof.Rows L2 Ev
def HasF (C : Addr) (f : Str) (d : D) (l : L) : Prop := ∀ s : VS, fldOf C f (some l :: s) (pkOf 0 l) = some d
def IsC (C : Addr) (m : Str) (l : L) : Prop := ∀ s : VS, ∃ fs, clsOf (some l :: s) (pkOf 0 l) = some (C, fs) ∧ m ∉ fs
theorem callM {fn : Fn} {l : L} {s : VS} {ds : List D} {Q : L → VS → Prop} (hn : ds.length + 1 = fn.n) (h : wp fn.run (some l :: ds.map fun d => some (.d d)) fun r os => (∃ os', os = some l :: os' ∧ os'.length = ds.length) ∧ Q r (some l :: s)) :
    wp (callF fn (pkOf 0 l :: ds.map Pk.dat)) (some l :: s) Q := by
  have a1 : ∀ (s0 : VS) (ds : List D), argsOf s0 (ds.map Pk.dat) = some (ds.map fun d => some (.d d)) := fun s0 ds => by
    induction ds with
    | nil => rfl
    | cons d r ih => rw [List.map_cons, argsOf, ih]; rfl
  have a2 : ∀ (ds : List D), slND (ds.map Pk.dat) = true := fun ds => by
    induction ds with
    | nil => rfl
    | cons d r ih => exact ih
  have a3 : ∀ (ds : List D) j, hasSl j (ds.map Pk.dat) = false := fun ds j => by
    induction ds with
    | nil => rfl
    | cons d r ih => exact ih
  have a4 : ∀ (ds : List D) (s0 os : VS), os.length = ds.length → setO s0 (ds.map Pk.dat) os = s0 := fun ds => by
    induction ds with
    | nil => intro s0 os _; simp
    | cons d r ih =>
      intro s0 os e
      cases os with
      | nil => cases e
      | cons o os => rw [List.map_cons, setO_dat]; exact ih s0 os (by simpa using e)
  rw [wp_callF]
  cases l with
  | d x =>
    rw [pkOf_d, to_args_dat, a1]
    refine ⟨⟨by rw [slND_dat]; exact a2 ds, by simp; omega⟩, wp_mono h ?_⟩
    rintro r os ⟨⟨os', rfl, hl⟩, q⟩
    rw [setO_dat, a4 ds _ _ hl]; exact q
  | own x =>
    rw [pkOf_own, to_args_sl, at_zero, to_some, a1]
    refine ⟨⟨by rw [slND_sl, a3, a2]; rfl, by simp; omega⟩, wp_mono h ?_⟩
    rintro r os ⟨⟨os', rfl, hl⟩, q⟩
    rw [setO_sl, a4 ds _ _ hl]; exact q
  | odi k x =>
    rw [pkOf_odi, to_args_sl, at_zero, to_some, a1]
    refine ⟨⟨by rw [slND_sl, a3, a2]; rfl, by simp; omega⟩, wp_mono h ?_⟩
    rintro r os ⟨⟨os', rfl, hl⟩, q⟩
    rw [setO_sl, a4 ds _ _ hl]; exact q
  | obj a b c =>
    rw [pkOf_obj, to_args_sl, at_zero, to_some, a1]
    refine ⟨⟨by rw [slND_sl, a3, a2]; rfl, by simp; omega⟩, wp_mono h ?_⟩
    rintro r os ⟨⟨os', rfl, hl⟩, q⟩
    rw [setO_sl, a4 ds _ _ hl]; exact q
  | oll x =>
    rw [pkOf_oll, to_args_sl, at_zero, to_some, a1]
    refine ⟨⟨by rw [slND_sl, a3, a2]; rfl, by simp; omega⟩, wp_mono h ?_⟩
    rintro r os ⟨⟨os', rfl, hl⟩, q⟩
    rw [setO_sl, a4 ds _ _ hl]; exact q
  | odl k x =>
    rw [pkOf_odl, to_args_sl, at_zero, to_some, a1]
    refine ⟨⟨by rw [slND_sl, a3, a2]; rfl, by simp; omega⟩, wp_mono h ?_⟩
    rintro r os ⟨⟨os', rfl, hl⟩, q⟩
    rw [setO_sl, a4 ds _ _ hl]; exact q
  | otp x =>
    rw [pkOf_otp, to_args_sl, at_zero, to_some, a1]
    refine ⟨⟨by rw [slND_sl, a3, a2]; rfl, by simp; omega⟩, wp_mono h ?_⟩
    rintro r os ⟨⟨os', rfl, hl⟩, q⟩
    rw [setO_sl, a4 ds _ _ hl]; exact q
  | hole =>
    rw [pkOf_hole, to_args_sl, at_zero, to_some, a1]
    refine ⟨⟨by rw [slND_sl, a3, a2]; rfl, by simp; omega⟩, wp_mono h ?_⟩
    rintro r os ⟨⟨os', rfl, hl⟩, q⟩
    rw [setO_sl, a4 ds _ _ hl]; exact q
theorem to_cls {C : Cl} {m : Str} {l : L} {s : VS} {P : VS → Prop} (h : IsC C m l) (hp : P (some l :: s)) : to (clsOf (some l :: s) (pkOf 0 l)) (some l :: s) fun p s => (p.1 = C ∧ m ∉ p.2) ∧ P s := by
  obtain ⟨fs, e, hm⟩ := h s
  rw [e]
  exact ⟨⟨rfl, hm⟩, hp⟩
theorem call_must {C : Cl} {s : VS} {x y : D} {Q : L → VS → Prop} (hq : Q (.d .non) s) : wp (callF (fn_must C) [.dat (.bl true), .dat x, .dat y]) s Q := by
  rw [wp_callF]
  simp only [to_some, to_args_dat, argsOf_nil]
  refine ⟨⟨rfl, rfl⟩, ?_⟩
  refine wp_def ?_
  show wp (F_must C) [some (.d (.bl true)), some (.d x), some (.d y)] _
  simp [F_must, F_must_0, F_must_1, outs_eq, List.range_succ]
  exact hq
@[simp] theorem dIn_sign {c : Nat} {z : Str} : dIn (.str ⟨#[c]⟩) (.str z) = some (decide (c ∈ z.cps.toList)) := rfl
theorem name_ok {C : Cl} {n : Str} {Q : L → VS → Prop} (h : okName n) (hq : Q (.d (.bl true)) [none]) : wp (fn_is_name C).run [some (.d (.str n))] Q := by
  refine wp_def ?_
  show wp (F_is_name C) [some (.d (.str n)), none] _
  obtain ⟨h1, h2, h3⟩ := h
  have e : lcF (.nm 1) [1] (c2 dNotIn (vLook 1) (fK (rt (.str "abcdefghijklmnopqrstuvwxyz")))) (vGet 1) (signs n) [] [some (.d (.str n)), none] = some ([], [some (.d (.str n)), none]) := by
    rw [lcF_pure (fun _ => none) (by unfold Ev.signs; rw [List.length_map, ← len_cps]; omega)]
    · simp
    · intro d hd
      unfold Ev.signs at hd
      obtain ⟨c, hc, rfl⟩ := List.mem_map.mp hd
      have h4 := h3 c hc
      have h5 : decide (c ∈ (Str.ofString "abcdefghijklmnopqrstuvwxyz").cps.toList) = true := decide_eq_true h4
      simp only [asg_nm, List.length_cons, List.length_nil, List.set_cons_succ, List.set_cons_zero, wp_c2, wp_vLook, at_succ, at_zero, to_some, pkOf_d, wp_fK, wp_rt, res_dat, dNotIn_eq, dIn_sign, h5]
      simp [wipeV]
      exact Array.mem_toList_iff.mp h4
  have h4 : n.length ≤ 100000 := by omega
  have h1 : (1 : Int) ≤ (n.length : Int) := by omega
  have h2 : (n.length : Int) ≤ 8 := by omega
  simp [F_is_name, F_is_name_0, F_is_name_1, wp_fComp, h4, h1, h2, wipeV, restV, keepD, e, dEq_nil (xs := []) rfl, outs_eq, List.range_succ]
  exact hq
theorem call_name {C : Cl} {s : VS} {n : Str} {Q : L → VS → Prop} (h : okName n) (hq : Q (.d (.bl true)) s) : wp (callF (fn_is_name C) [.dat (.str n)]) s Q := by
  rw [wp_callF]
  simp only [to_some, to_args_dat, argsOf_nil]
  exact ⟨⟨rfl, rfl⟩, name_ok h hq⟩
theorem names_fm (bs : List Bx) : (bs.map Bx.d).filterMap (fun d => match d with | .tup [.str w, .str n] => if w = Str.ofString "in" ∨ w = Str.ofString "out" then some (D.str n) else none | _ => none) = (bs.filterMap Bx.name).map D.str := by
  rw [List.filterMap_map, List.map_filterMap]
  congr 1
  funext b
  cases b <;> simp [Bx.d, Bx.name, Function.comp]
theorem d_names {C : Cl} {l : L} {bs : List Bx} {a : Nat} {Q : L → VS → Prop} (hk : HasF C "kept" (.lst (bs.map Bx.d)) l) (hb : bs.length ≤ 10) (ha : a ≤ bs.length) (hq : Q (.own (((bs.take a).filterMap Bx.name).map D.str)) [some l, none]) : wp (fn_Desk_names C).run [some l, some (.d (.int (a : Int)))] Q := by
  refine wp_def ?_
  show wp (F_Desk_names C) [some l, some (.d (.int (a : Int))), none] _
  have hk := hk
  unfold HasF at hk
  have e : lcF (.nm 2) [2] (c2 dIn (fK (fS (f2 dIx (vLook 2) (fK (rt (.int 0)))))) (fK (fTup (aCons (rt (.str "in")) (aCons (rt (.str "out")) aNil))))) (fS (f2 dIx (vLook 2) (fK (rt (.int 1))))) ((bs.map Bx.d).take a) [] [some l, some (.d (.int (a : Int))), none]
      = some (((bs.take a).filterMap Bx.name).map D.str, [some l, some (.d (.int (a : Int))), none]) := by
    rw [← List.map_take, lcF_pure _ (by simp; omega), names_fm]
    intro d hd
    obtain ⟨b, _, rfl⟩ := List.mem_map.mp hd
    cases b <;> simp [Bx.d, wipeV, ofStr_inj]
  simp [F_Desk_names, F_Desk_names_0, F_Desk_names_1, wp_fComp, hk, wipeV, restV, keepD, outs_eq, List.range_succ]
  rw [cutL_take (by simp; omega), e]
  simp [wipeV, restV, keepD]
  exact hq
def Bx.size : Bx → Int
  | .times _ _ => 3
  | .part _ _ => 3
  | _ => 2
theorem sizes_ok (b : Bx) : dTab t_SIZES (.str b.word) (.int 0) = some (.int b.size) := by
  have h1 : t_SIZES.lookup (Str.ofString "in") = some 2 := by decide +kernel
  have h2 : t_SIZES.lookup (Str.ofString "out") = some 2 := by decide +kernel
  have h3 : t_SIZES.lookup (Str.ofString "sum") = some 2 := by decide +kernel
  have h4 : t_SIZES.lookup (Str.ofString "most") = some 2 := by decide +kernel
  have h5 : t_SIZES.lookup (Str.ofString "times") = some 3 := by decide +kernel
  have h6 : t_SIZES.lookup (Str.ofString "part") = some 3 := by decide +kernel
  cases b <;> simp [dTab, Bx.word, Bx.size, h1, h2, h3, h4, h5, h6]
theorem names_fresh {bs : List Bx} {a : Nat} {b : Bx} {n : Str} (h : (bs.filterMap Bx.name).Nodup) (e : bs[a]? = some b) (hn : b.name = some n) : n ∉ (bs.take a).filterMap Bx.name := fun hm => by
  have hl := (List.getElem?_eq_some_iff.mp e).1
  have sp : bs = bs.take a ++ b :: bs.drop (a + 1) := by
    have : bs[a] = b := (List.getElem?_eq_some_iff.mp e).2
    rw [← this, ← List.drop_eq_getElem_cons hl, List.take_append_drop]
  rw [sp, List.filterMap_append, List.filterMap_cons, hn, List.nodup_append] at h
  exact h.2.2 n hm n (by simp) rfl
theorem d_is_box {C : Cl} {l : L} {bs : List Bx} {a : Nat} {b : Bx} {Q : L → VS → Prop} (hk : HasF C "kept" (.lst (bs.map Bx.d)) l) (hc : IsC C "names" l) (hb : bs.length ≤ 10) (ha : bs[a]? = some b) (hbo : b.ok) (hnd : (bs.filterMap Bx.name).Nodup) (hq : Q (.d (.bl true)) [some l, none]) : wp (fn_Desk_is_box C).run [some l, some (.d (.int (a : Int)))] Q := by
  refine wp_def ?_
  show wp (F_Desk_is_box C) [some l, some (.d (.int (a : Int))), none] _
  have hk2 := hk
  unfold HasF at hk2
  have hal := (List.getElem?_eq_some_iff.mp ha).1
  simp only [F_Desk_is_box, F_Desk_is_box_0, wp_sSeq, F_Desk_is_box_1]
  simp [hk2, Ev.atI_nat, ha]
  have hlen : dLen [b.d] = some (.d (.int b.size)) := by cases b <;> rfl
  have hsz : b.size ≠ 0 := by cases b <;> simp [Bx.size]
  simp [F_Desk_is_box_2, hlen, hsz, sizes_ok]
  have hw := word_mid (b := b)
  simp only [F_Desk_is_box_5]
  simp
  cases hmid : b.mid with
  | false =>
    obtain ⟨n, hn, hd1, hok⟩ : ∃ n, b.name = some n ∧ dIx b.d (.int 1) = some (.d (.str n)) ∧ okName n := by
      cases b with
      | inn n => exact ⟨n, rfl, rfl, hbo⟩
      | out n => exact ⟨n, rfl, rfl, hbo⟩
      | _ => cases hmid
    have hio : b.word = Str.ofString "in" ∨ b.word = Str.ofString "out" := by
      rw [hmid] at hw; simpa using hw
    simp [hio, F_Desk_is_box_6, F_Desk_is_box_7, hd1]
    refine call_name hok ?_
    simp [hd1, wp_fMeth]
    refine to_cls hc ?_
    refine callM (ds := [.int (a : Int)]) rfl ?_
    refine d_names hk hb (by omega) ⟨⟨[none], rfl, rfl⟩, ?_⟩
    have := names_fresh hnd ha hn
    simp [this, outs_eq, List.range_succ]
    exact hq
  | true =>
    have hio : ¬(b.word = Str.ofString "in" ∨ b.word = Str.ofString "out") := by
      rw [hmid] at hw; simpa using hw
    rw [if_neg hio]
    simp only [F_Desk_is_box_8, F_Desk_is_box_11, F_Desk_is_box_14]
    cases b with
    | inn n => cases hmid
    | out n => cases hmid
    | sum v => simp [Bx.word, Bx.d, ofStr_inj, hbo.1, hbo.2, outs_eq, List.range_succ]; exact hq
    | most v => simp [Bx.word, Bx.d, ofStr_inj, hbo.1, hbo.2, outs_eq, List.range_succ]; exact hq
    | times k v => obtain ⟨⟨h1, h2⟩, h3, h4⟩ := hbo; simp [Bx.word, Bx.d, ofStr_inj, h1, h2, h3, h4, outs_eq, List.range_succ]; exact hq
    | part k v => obtain ⟨⟨h1, h2⟩, h3, h4⟩ := hbo; simp [Bx.word, Bx.d, ofStr_inj, h1, h2, h3, h4, outs_eq, List.range_succ]; exact hq
theorem word_out {b : Bx} : (b.word = Str.ofString "out") ↔ b.isOut = true := by cases b <;> simp [Bx.word, Bx.isOut, ofStr_inj]
theorem word_in {b : Bx} : (b.word = Str.ofString "in") ↔ b.isIn = true := by cases b <;> simp [Bx.word, Bx.isIn, ofStr_inj]
theorem d_is_cable {C : Cl} {l : L} {bs : List Bx} {c : Cb} {x y : Bx} {Q : L → VS → Prop} (hk : HasF C "kept" (.lst (bs.map Bx.d)) l) (hx : bs[c.o]? = some x) (hy : bs[c.t]? = some y) (h0 : 0 ≤ c.h) (h9 : c.h ≤ 99) (hxo : x.isOut = false) (hyi : y.isIn = false) (hq : Q (.d (.bl true)) [some l, none]) : wp (fn_Desk_is_cable C).run [some l, some (.d c.d)] Q := by
  refine wp_def ?_
  show wp (F_Desk_is_cable C) [some l, some (.d c.d), none, none, none] _
  unfold HasF at hk
  have hol := (List.getElem?_eq_some_iff.mp hx).1
  have htl := (List.getElem?_eq_some_iff.mp hy).1
  have w1 : ¬(x.word = Str.ofString "out") := fun h => by rw [word_out.mp h] at hxo; cases hxo
  have w2 : ¬(y.word = Str.ofString "in") := fun h => by rw [word_in.mp h] at hyi; cases hyi
  simp only [F_Desk_is_cable, F_Desk_is_cable_0, wp_sSeq, F_Desk_is_cable_1]
  simp [Cb.d]
  have e1 : (c.o : Int) < (bs.length : Int) := by omega
  have e2 : (c.t : Int) < (bs.length : Int) := by omega
  simp [F_Desk_is_cable_2, hk, e1, e2, h0, h9]
  simp [F_Desk_is_cable_5, hk, Ev.atI_nat, hx, hy, w1, w2, outs_eq, List.range_succ]
  exact hq
end Hd
namespace Hd
open PySem PySem.Spec PyProof.Rows L2 Ev
abbrev nD (l : List Nat) : List D := l.map fun (k : Nat) => D.int (k : Int)
theorem nD_int (l : List Nat) : nD l = (l.map fun (k : Nat) => (k : Int)).map D.int := by unfold nD; rw [List.map_map]; rfl
@[simp] theorem dEq_nats_nil {l : List Nat} : dEq (.lst (nD l)) (.lst []) = some (decide (l = [])) := by
  rw [nD_int, dEq_ints_nil]; simp
@[simp] theorem dIn_nats {a : Nat} {l : List Nat} : dIn (.int (a : Int)) (.lst (nD l)) = some (decide (a ∈ l)) := by
  rw [nD_int, dIn_ints]
  congr 1
  rw [Bool.eq_iff_iff, decide_eq_true_iff, decide_eq_true_iff, List.mem_map]
  constructor
  · rintro ⟨k, hk, e⟩
    have : k = a := by omega
    rw [← this]; exact hk
  · intro h; exact ⟨a, h, rfl⟩
def wordIs (bs : List Bx) (w : Str) (k : Nat) : Bool := match bs[k]? with
  | some b => decide (b.word = w)
  | none => false
theorem d_ends {C : Cl} {l : L} {bs : List Bx} {w : Str} {Q : L → VS → Prop} (hk : HasF C "kept" (.lst (bs.map Bx.d)) l) (hb : bs.length ≤ 10) (hq : Q (.own (nD ((List.range bs.length).filter (wordIs bs w)))) [some l, none]) : wp (fn_Desk_ends C).run [some l, some (.d (.str w))] Q := by
  refine wp_def ?_
  show wp (F_Desk_ends C) [some l, some (.d (.str w)), none] _
  unfold HasF at hk
  simp [F_Desk_ends, F_Desk_ends_0, F_Desk_ends_1, wp_fComp, hk, wipeV]
  refine ⟨by omega, ?_⟩
  refine lcF_inN (fun i acc s => acc = nD ((List.range i).filter (wordIs bs w)) ∧ s = [some l, some (.d (.str w)), none]) ⟨rfl, rfl⟩ ?_ ?_
  · rintro i d acc s N hd ⟨rfl, rfl⟩ hN
    obtain ⟨hin, rfl⟩ := rgD_get hd
    have ei : (0 : Int) + (i : Int) = (i : Int) := by omega
    rw [ei]
    have hrl : ((List.range i).filter (wordIs bs w)).length ≤ i := by
      have := List.length_filter_le (wordIs bs w) (List.range i)
      simpa using this
    have hwi : wordIs bs w i = decide (bs[i].word = w) := by unfold wordIs; rw [List.getElem?_eq_getElem hin]
    simp [hk, Ev.atI_nat, List.getElem?_eq_getElem hin, wipeV]
    split
    · rename_i hq
      refine ⟨by omega, hN _ _ ⟨?_, rfl⟩⟩
      rw [List.range_succ, List.filter_append]
      simp [hwi, hq, nD]
    · rename_i hq
      refine hN _ _ ⟨?_, rfl⟩
      rw [List.range_succ, List.filter_append]
      simp [hwi, hq, nD]
  · rintro acc s ⟨rfl, rfl⟩
    rw [rgD_len]
    simp [restV, keepD, outs_eq, List.range_succ]
    exact hq
theorem d_is_twice {C : Cl} {l : L} {bs : List Bx} {cs : List Cb} {a : Nat} {b : Bx} {Q : L → VS → Prop} (hk : HasF C "kept" (.lst (bs.map Bx.d)) l) (hw : HasF C "wires" (.lst (cs.map Cb.d)) l) (hc : cs.length ≤ 20) (ha : bs[a]? = some b) (h1 : b.isOut = true → (cs.filter fun c => decide (c.t = a)).length ≤ 1) (hq : Q (.d (.bl false)) [some l, none]) : wp (fn_Desk_is_twice C).run [some l, some (.d (.int (a : Int)))] Q := by
  refine wp_def ?_
  show wp (F_Desk_is_twice C) [some l, some (.d (.int (a : Int))), none] _
  unfold HasF at hk hw
  simp [F_Desk_is_twice, F_Desk_is_twice_0, F_Desk_is_twice_1, hk, Ev.atI_nat, ha]
  split
  · rename_i ho
    have e : lcF (.nm 2) [2] (c2 dEq (fK (fS (f2 dIx (vLook 2) (fK (rt (.int 1)))))) (vLook 1)) (vGet 2) (cs.map Cb.d) [] [some l, some (.d (.int (a : Int))), none] = some ((cs.filter fun c => decide (c.t = a)).map Cb.d, [some l, some (.d (.int (a : Int))), none]) := by
      rw [lcF_pure (fun d => match d with | .tup [.int x, .int y, z] => if y = (a : Int) then some (.tup [.int x, .int y, z]) else none | _ => none) (by simp; omega)]
      · congr 2
        rw [List.filterMap_map, ← fm_filter]
        congr 1
        funext c
        simp only [Function.comp, Cb.d]
        by_cases q : c.t = a
        · simp [q]
        · have : ¬((c.t : Int) = (a : Int)) := by omega
          simp [q, this]
      · intro d hd
        obtain ⟨c, _, rfl⟩ := List.mem_map.mp hd
        simp [wipeV, Cb.d]
    have := h1 (word_out.mp ho)
    have h2 : ¬((1 : Int) < ((cs.filter fun c => decide (c.t = a)).length : Int)) := by omega
    simp [wp_fComp, hw, wipeV, e, restV, keepD, h2, outs_eq, List.range_succ]
    exact hq
  · simp [outs_eq, List.range_succ]
    exact hq
inductive Reach (cs : List Cb) (sd : Bool) (st : List Nat) : Nat → Prop
  | start {i : Nat} : i ∈ st → Reach cs sd st i
  | step {c : Cb} : c ∈ cs → Reach cs sd st (if sd then c.t else c.o) → Reach cs sd st (if sd then c.o else c.t)
def srcS (sd : Bool) (c : Cb) : Nat := if sd then c.t else c.o
def dstS (sd : Bool) (c : Cb) : Nat := if sd then c.o else c.t
structure Led (n : Nat) (cs : List Cb) (sd : Bool) (st0 found waiting : List Nat) (at_ : Option Nat) (k : Nat) : Prop where
  st : ∀ x ∈ st0, x ∈ found
  wt : ∀ x ∈ waiting, x ∈ found
  nd : found.Nodup
  lt : ∀ x ∈ found, x < n
  cl : ∀ x ∈ found, x ∉ waiting → at_ ≠ some x → ∀ c ∈ cs, srcS sd c = x → dstS sd c ∈ found
  ca : ∀ x, at_ = some x → ∀ c ∈ cs.take k, srcS sd c = x → dstS sd c ∈ found
  so : ∀ x ∈ found, Reach cs sd st0 x
  ia : ∀ x, at_ = some x → x ∈ found
theorem nodup_sub : ∀ {l m : List Nat}, l.Nodup → (∀ x ∈ l, x ∈ m) → l.length ≤ m.length
  | [], _, _, _ => Nat.zero_le _
  | x :: l, m, nd, h => by
    have hx := h x List.mem_cons_self
    have hn : x ∉ l := (List.nodup_cons.mp nd).1
    have ih := nodup_sub (l := l) (m := m.erase x) (List.nodup_cons.mp nd).2 fun y hy => (List.mem_erase_of_ne (fun e => hn (by rw [← e]; exact hy))).mpr (h y (List.mem_cons_of_mem _ hy))
    rw [List.length_erase_of_mem hx] at ih
    have := List.length_pos_of_mem hx
    rw [List.length_cons]; omega
theorem nodup_len {l : List Nat} {n : Nat} (nd : l.Nodup) (lt : ∀ x ∈ l, x < n) : l.length ≤ n := by
  have := nodup_sub nd (m := List.range n) fun x hx => List.mem_range.mpr (lt x hx)
  simpa using this
theorem nodup_full {l : List Nat} {n : Nat} (nd : l.Nodup) (lt : ∀ x ∈ l, x < n) (h : ∀ x, x < n → x ∈ l) : l.length = n := by
  have h1 := nodup_len nd lt
  have h2 := nodup_sub List.nodup_range (m := l) fun x hx => h x (List.mem_range.mp hx)
  rw [List.length_range] at h2
  omega
theorem nodup_snoc {l : List Nat} {x : Nat} (nd : l.Nodup) (h : x ∉ l) : (l ++ [x]).Nodup := by
  rw [List.nodup_append]
  exact ⟨nd, by simp, fun a ha b hb e => h (by rw [List.mem_singleton.mp hb] at e; rw [← e]; exact ha)⟩
theorem d_led {C : Cl} {l : L} {n : Nat} {cs : List Cb} {st : List Nat} {sd : Bool} {Q : L → VS → Prop} (hw : HasF C "wires" (.lst (cs.map Cb.d)) l) (hn : n ≤ 10) (hc : ∀ c ∈ cs, c.o < n ∧ c.t < n) (hcl : cs.length ≤ 20) (hnd : st.Nodup) (hlt : ∀ x ∈ st, x < n)
    (hq : ∀ found : List Nat, (∀ i, Reach cs sd st i → i ∈ found) → (∀ i ∈ found, Reach cs sd st i) → Q (.own (nD found)) [some l, none, none]) : wp (fn_Desk_led_from C).run [some l, some (.d (.lst (nD st))), some (.d (.int (if sd then 1 else 0)))] Q := by
  refine wp_def ?_
  show wp (F_Desk_led_from C) [some l, some (.d (.lst (nD st))), some (.d (.int (if sd then 1 else 0))), none, none, none, none] _
  unfold HasF at hw
  simp only [F_Desk_led_from, F_Desk_led_from_0, wp_sSeq, F_Desk_led_from_1]
  simp [F_Desk_led_from_2]
  simp only [F_Desk_led_from_3]
  have hsl := nodup_len hnd hlt
  refine wp_whileN (fun m s => ∃ (found waiting : List Nat) (o5 o6 : Option L), s = [some l, some (.d (.lst (nD st))), some (.d (.int (if sd then 1 else 0))), some (.own (nD found)), some (.own (nD waiting)), o5, o6] ∧ Led n cs sd st found waiting none 0 ∧ m = (n - found.length) + waiting.length ∧ m ≤ n) 1000 _ (?_ : (n - st.length) + st.length < 1000) ⟨st, st, none, none, rfl, ⟨fun x h => h, fun x h => h, hnd, hlt, fun x h1 h2 => absurd h1 h2, (fun x h => by cases h), fun x h => .start h, fun x h => by cases h⟩, rfl, by omega⟩ ?_
  · omega
  rintro m s N ⟨found, waiting, o5, o6, rfl, hL, rfl, hmn⟩ hN
  have hfl := nodup_len hL.nd hL.lt
  simp
  split
  · rename_i he
    subst he
    simp [F_Desk_led_from_12, outs_eq, List.range_succ]
    refine hq found (fun i hr => ?_) hL.so
    induction hr with
    | start h => exact hL.st _ h
    | step hc1 _ ih => exact hL.cl _ ih (by simp) (by simp) _ hc1 rfl
  · rename_i hne
    obtain ⟨ws, a, rfl⟩ : ∃ ws a, waiting = ws ++ [a] := ⟨waiting.dropLast, waiting.getLast hne, (List.dropLast_concat_getLast hne).symm⟩
    simp [F_Desk_led_from_4, F_Desk_led_from_5, nD]
    simp [F_Desk_led_from_6, hw]
    refine wp_loopN (fun i s => ∃ (found' waiting' : List Nat) (o6 : Option L), s = [some l, some (.d (.lst (nD st))), some (.d (.int (if sd then 1 else 0))), some (.own (nD found')), some (.own (nD waiting')), some (.d (.int (a : Int))), o6] ∧ Led n cs sd st found' waiting' (some a) i ∧ (n - found'.length) + waiting'.length = (n - found.length) + ws.length) ⟨found, ws, o6, rfl, ⟨hL.st, fun x h => hL.wt x (by simp [h]), hL.nd, hL.lt, fun x h1 h2 h3 => hL.cl x h1 (by simp [h2]; exact fun z => h3 (by rw [z])) (by simp), (fun x hx c hc1 => by simp at hc1), hL.so, fun x hx => by cases hx; exact hL.wt _ (by simp)⟩, rfl⟩ ?_ ?_
    · rintro i d s N2 hd2 ⟨f', w', o6, rfl, hL', hm⟩ hN2
      rw [List.getElem?_map] at hd2
      cases ec : cs[i]? with
      | none => rw [ec] at hd2; cases hd2
      | some c =>
        rw [ec] at hd2
        cases hd2
        have hcm := List.mem_of_getElem? ec
        have hcb := hc c hcm
        have htk : cs.take (i + 1) = cs.take i ++ [c] := by rw [List.take_succ, ec]; rfl
        have e1 : dIx c.d (.int (if sd then 1 else 0)) = some (.d (.int (srcS sd c : Int))) := by cases sd <;> rfl
        have e2 : dIx c.d (.int (1 - (if sd then 1 else 0))) = some (.d (.int (dstS sd c : Int))) := by cases sd <;> rfl
        have hdl : dstS sd c < n := by cases sd <;> simp [dstS] <;> omega
        have hfl' := nodup_len hL'.nd hL'.lt
        simp [F_Desk_led_from_7, F_Desk_led_from_8, e1, e2]
        split
        · rename_i hsrc
          have hsrc : srcS sd c = a := by omega
          split
          · rename_i hin
            refine hN2 _ ⟨f', w', _, rfl, ⟨hL'.st, hL'.wt, hL'.nd, hL'.lt, hL'.cl, fun x hx c' hc' e => ?_, hL'.so, hL'.ia⟩, hm⟩
            rw [htk] at hc'
            rcases List.mem_append.mp hc' with h | h
            · exact hL'.ca x hx c' h e
            · rw [List.mem_singleton.mp h]; exact hin
          · rename_i hin
            have hfn : f'.length < n := by
              have := nodup_len (nodup_snoc hL'.nd hin) (n := n) fun x hx => by
                rcases List.mem_append.mp hx with h | h
                · exact hL'.lt x h
                · rw [List.mem_singleton.mp h]; exact hdl
              simp at this; omega
            have hwn : w'.length < 100000 := by simp at hmn; omega
            simp [F_Desk_led_from_9, F_Desk_led_from_10, F_Desk_led_from_11, e2, nD]
            refine ⟨by omega, hwn, ?_⟩
            refine hN2 _ ⟨f' ++ [dstS sd c], w' ++ [dstS sd c], some (.d c.d), by simp [nD], ⟨?_, ?_, nodup_snoc hL'.nd hin, ?_, ?_, ?_, fun x hx => ?_, fun x hx => List.mem_append_left _ (hL'.ia x hx)⟩, by simp; omega⟩
            · intro x hx; exact List.mem_append_left _ (hL'.st x hx)
            · intro x hx
              rcases List.mem_append.mp hx with h | h
              · exact List.mem_append_left _ (hL'.wt x h)
              · exact List.mem_append_right _ h
            · intro x hx
              rcases List.mem_append.mp hx with h | h
              · exact hL'.lt x h
              · rw [List.mem_singleton.mp h]; exact hdl
            · intro x hx hxw hxa c' hc' e
              rcases List.mem_append.mp hx with h | h
              · exact List.mem_append_left _ (hL'.cl x h (fun z => hxw (List.mem_append_left _ z)) hxa c' hc' e)
              · exact absurd (List.mem_append_right _ h) hxw
            · intro x hx c' hc' e
              rw [htk] at hc'
              rcases List.mem_append.mp hc' with h | h
              · exact List.mem_append_left _ (hL'.ca x hx c' h e)
              · rw [List.mem_singleton.mp h]; simp
            · rcases List.mem_append.mp hx with h | h
              · exact hL'.so x h
              · rw [List.mem_singleton.mp h]
                have r := hL'.so a (hL'.ia a rfl)
                rw [← hsrc] at r
                exact Reach.step hcm r
        · rename_i hsrc
          have hsrc : srcS sd c ≠ a := by omega
          refine hN2 _ ⟨f', w', _, rfl, ⟨hL'.st, hL'.wt, hL'.nd, hL'.lt, hL'.cl, fun x hx c' hc' e => ?_, hL'.so, hL'.ia⟩, hm⟩
          rw [htk] at hc'
          rcases List.mem_append.mp hc' with h | h
          · exact hL'.ca x hx c' h e
          · rw [List.mem_singleton.mp h] at e
            cases hx
            exact absurd e hsrc
    · rintro s ⟨f', w', o6, rfl, hL', hm⟩
      simp only [thenF_nx, wp_sNil, lend_nx]
      refine hN ((n - f'.length) + w'.length) _ (by simp; omega) ⟨f', w', _, _, rfl, ⟨hL'.st, hL'.wt, hL'.nd, hL'.lt, fun x h1 h2 _ c hc1 e => ?_, (fun x h => by cases h), hL'.so, fun x h => by cases h⟩, rfl, by simp at hmn; omega⟩
      by_cases q : x = a
      · subst q
        have := hL'.ca x rfl
        rw [List.length_map, List.take_length] at this
        exact this c hc1 e
      · exact hL'.cl x h1 h2 (fun z => q (Option.some.inj z).symm) c hc1 e
end Hd
namespace Hd
open PySem PySem.Spec PyProof.Rows L2 Ev
def Topo (cs : List Cb) (order : List Nat) : Prop := ∀ j a, order[j]? = some a → ∀ c ∈ cs, c.t = a → c.h = 0 → c.o ∈ order.take j
theorem Topo.snoc {cs : List Cb} {order : List Nat} {a : Nat} (h : Topo cs order) (ha : ∀ c ∈ cs, c.t = a → c.h = 0 → c.o ∈ order) : Topo cs (order ++ [a]) := by
  intro j x e c hc ht hz
  rcases Nat.lt_or_ge j order.length with q | q
  · rw [List.getElem?_append_left q] at e
    rw [List.take_append_of_le_length (by omega)]
    exact h j x e c hc ht hz
  · have hl := (List.getElem?_eq_some_iff.mp e).1
    simp at hl
    have : j = order.length := by omega
    subst this
    rw [List.getElem?_append_right (Nat.le_refl _), Nat.sub_self] at e
    cases e
    rw [List.take_append_of_le_length (Nat.le_refl _), List.take_length]
    exact ha c hc ht hz
structure Ord (n : Nat) (cs : List Cb) (found : List Nat) : Prop where
  nd : found.Nodup
  lt : ∀ x ∈ found, x < n
  topo : Topo cs found
def Stuck (n : Nat) (cs : List Cb) (found : List Nat) (k : Nat) : Prop := ∀ a, a < k → a ∉ found → ∃ c ∈ cs, c.t = a ∧ c.h = 0 ∧ c.o ∉ found
theorem ord_full {n : Nat} {cs : List Cb} {found : List Nat} (o : Ord n cs found) (st : Stuck n cs found n) (hc : ∀ c ∈ cs, c.o < n ∧ c.t < n) (hr : ∃ ρ : Nat → Int, ∀ c ∈ cs, c.h = 0 → ρ c.o < ρ c.t) : ∀ x, x < n → x ∈ found := by
  obtain ⟨ρ, hρ⟩ := hr
  -- a missing box of least rank
  have key : ∀ (k : Nat) (a : Nat), a < n → a ∉ found → ∃ b, b < n ∧ b ∉ found ∧ ρ b ≤ ρ a - k := by
    intro k
    induction k with
    | zero => intro a h1 h2; exact ⟨a, h1, h2, by omega⟩
    | succ k ih =>
      intro a h1 h2
      obtain ⟨b, b1, b2, b3⟩ := ih a h1 h2
      obtain ⟨c, c1, c2, c3, c4⟩ := st b b1 b2
      have := hρ c c1 c3
      exact ⟨c.o, (hc c c1).1, c4, by rw [c2] at this; omega⟩
  intro x hx
  by_cases q : x ∈ found
  · exact q
  · exfalso
    -- ranks of boxes below n are bounded from below
    have bd : ∀ m : Nat, ∃ B : Int, ∀ b, b < m → B ≤ ρ b := by
      intro m
      induction m with
      | zero => exact ⟨0, fun b h => by omega⟩
      | succ m ih =>
        obtain ⟨B, hB⟩ := ih
        refine ⟨min B (ρ m), fun b h => ?_⟩
        rcases Nat.lt_or_ge b m with z | z
        · have := hB b z; omega
        · have : b = m := by omega
          subst this; omega
    obtain ⟨B, hB⟩ := bd n
    obtain ⟨b, b1, b2, b3⟩ := key (ρ x - B + 1).toNat x hx q
    have h1 := hB b b1
    have h2 := hB x hx
    omega
theorem d_order {C : Cl} {l : L} {bs : List Bx} {cs : List Cb} {Q : L → VS → Prop} (hk : HasF C "kept" (.lst (bs.map Bx.d)) l) (hw : HasF C "wires" (.lst (cs.map Cb.d)) l) (hn : bs.length ≤ 10) (hcl : cs.length ≤ 20) (hc : ∀ c ∈ cs, c.o < bs.length ∧ c.t < bs.length)
    (hq : ∀ order : List Nat, Ord bs.length cs order → Stuck bs.length cs order bs.length → Q (.own (nD order)) [some l]) : wp (fn_Desk_in_order C).run [some l] Q := by
  refine wp_def ?_
  show wp (F_Desk_in_order C) [some l, none, none, none, none, none, none] _
  unfold HasF at hk hw
  simp only [F_Desk_in_order, F_Desk_in_order_0, wp_sSeq, F_Desk_in_order_1]
  simp [F_Desk_in_order_2]
  simp only [F_Desk_in_order_3]
  refine wp_whileN (fun m s => ∃ (found : List Nat) (mn : Int) (o3 o4 : Option L), s = [some l, some (.own (nD found)), some (.d (.int mn)), o3, o4, none, none] ∧ Ord bs.length cs found ∧ ((mn = -1 ∧ found = []) ∨ (mn ≤ found.length ∧ (mn = found.length → Stuck bs.length cs found bs.length))) ∧ m = 2 * (bs.length - found.length) + (if mn < found.length then 1 else 0)) 1000 (2 * bs.length + 1) (by omega)
    ⟨[], -1, none, none, rfl, ⟨List.nodup_nil, by simp, fun j a e => by simp at e⟩, .inl ⟨rfl, rfl⟩, by simp⟩ ?_
  rintro m s N ⟨found, mn, o3, o4, rfl, hO, hI, rfl⟩ hN
  have hfl := nodup_len hO.nd hO.lt
  simp
  split
  · rename_i hlt
    simp [F_Desk_in_order_4, F_Desk_in_order_5, F_Desk_in_order_6, hk]
    refine ⟨by omega, ?_⟩
    refine wp_loopN (fun i s => ∃ (f' new : List Nat) (o3 o4 : Option L), s = [some l, some (.own (nD f')), some (.d (.int (found.length : Int))), o3, o4, none, none] ∧ Ord bs.length cs f' ∧ f' = found ++ new ∧ (new = [] → Stuck bs.length cs found i)) ⟨found, [], o3, o4, rfl, hO, by simp, fun _ a h => by omega⟩ ?_ ?_
    · rintro i d s N2 hd ⟨f', new, o3, o4, rfl, hO', hfe, hS⟩ hN2
      obtain ⟨hin, rfl⟩ := rgD_get hd
      have ei : (0 : Int) + (i : Int) = (i : Int) := by omega
      rw [ei]
      have hfl' := nodup_len hO'.nd hO'.lt
      simp [F_Desk_in_order_7, F_Desk_in_order_8, wp_fComp, hw]
      have e1 : lcF (.nm 5) [5] (bAnd (c2 dEq (fK (fS (f2 dIx (vLook 5) (fK (rt (.int 1)))))) (vLook 3)) (c2 dEq (fK (fS (f2 dIx (vLook 5) (fK (rt (.int 2)))))) (fK (rt (.int 0))))) (fS (f2 dIx (vLook 5) (fK (rt (.int 0))))) (cs.map Cb.d) [] [some l, some (.own (nD f')), some (.d (.int (found.length : Int))), some (.d (.int (i : Int))), o4, none, none]
          = some (nD ((cs.filter fun c => decide (c.t = i ∧ c.h = 0)).map Cb.o), [some l, some (.own (nD f')), some (.d (.int (found.length : Int))), some (.d (.int (i : Int))), o4, none, none]) := by
        rw [lcF_pure (fun d => match d with | .tup [.int x, .int y, .int z] => if y = (i : Int) ∧ z = 0 then some (.int x) else none | _ => none) (by simp; omega)]
        · congr 2
          unfold nD
          rw [List.filterMap_map, List.map_map, ← fm_filter]
          congr 1
          funext c
          simp only [Function.comp, Cb.d]
          by_cases q : c.t = i ∧ c.h = 0
          · have q1 : (c.t : Int) = (i : Int) ∧ c.h = 0 := ⟨by omega, q.2⟩
            rw [if_pos q1, if_pos (decide_eq_true q)]
          · have q1 : ¬((c.t : Int) = (i : Int) ∧ c.h = 0) := fun z => q ⟨by omega, z.2⟩
            rw [if_neg q1, if_neg (by simp only [decide_eq_true_eq]; exact q)]
        · intro d hd
          obtain ⟨c, _, rfl⟩ := List.mem_map.mp hd
          simp [wipeV, Cb.d]
          by_cases q1 : (c.t : Int) = (i : Int) <;> by_cases q2 : c.h = 0 <;> simp [q1, q2]
      simp [wipeV]
      rw [e1]
      obtain ⟨ah, eah, hah⟩ : ∃ ah : List Nat, (cs.filter fun c => decide (c.t = i ∧ c.h = 0)).map Cb.o = ah ∧ ∀ x, x ∈ ah ↔ ∃ c ∈ cs, c.t = i ∧ c.h = 0 ∧ c.o = x := ⟨_, rfl, fun x => by
        simp only [List.mem_map, List.mem_filter, decide_eq_true_eq]
        constructor
        · rintro ⟨c, ⟨h1, h2, h3⟩, h4⟩; exact ⟨c, h1, h2, h3, h4⟩
        · rintro ⟨c, h1, h2, h3, h4⟩; exact ⟨c, ⟨h1, h2, h3⟩, h4⟩⟩
      have hahl : ah.length ≤ 20 := by
        rw [← eah, List.length_map]
        exact Nat.le_trans (List.length_filter_le _ _) hcl
      rw [eah]
      have e2 : lcF (.nm 6) [6] (c2 dNotIn (vLook 6) (vLook 1)) (vGet 6) (nD ah) [] [some l, some (.own (nD f')), some (.d (.int (found.length : Int))), some (.d (.int (i : Int))), some (.d (.lst (nD ah))), none, none]
          = some (nD (ah.filter fun x => decide (x ∉ f')), [some l, some (.own (nD f')), some (.d (.int (found.length : Int))), some (.d (.int (i : Int))), some (.d (.lst (nD ah))), none, none]) := by
        rw [lcF_pure (fun d => match d with | .int x => if x.toNat ∉ f' then some (.int x) else none | _ => none) (by simp [nD]; omega)]
        · congr 2
          unfold nD
          rw [List.filterMap_map, ← fm_filter]
          congr 1
          funext x
          simp only [Function.comp, Int.toNat_natCast]
          by_cases q : x ∉ f'
          · rw [if_pos q, if_pos (decide_eq_true q)]
          · rw [if_neg q, if_neg (by simp only [decide_eq_true_eq]; exact q)]
        · intro d hd
          obtain ⟨x, _, rfl⟩ := List.mem_map.mp hd
          simp only [asg_nm, List.length_cons, List.length_nil, List.set_cons_succ, List.set_cons_zero, wp_c2, wp_vLook, at_succ, at_zero, to_some, pkOf_d, pkOf_own, res_dat, res_slS, res_sl0, resL_own, dNotIn_eq, dIn_nats]
          by_cases q : x ∈ f'
          · simp [q, wipeV]
          · simp [q, wipeV]
      simp [restV, keepD, F_Desk_in_order_9, wp_fComp, wipeV]
      split
      · rename_i hf
        refine hN2 _ ⟨f', new, _, _, rfl, hO', hfe, fun hnew a ha hna => ?_⟩
        subst hnew
        rw [List.append_nil] at hfe
        by_cases q : a < i
        · exact hS rfl a q hna
        · have : a = i := by omega
          subst this
          rw [hfe] at hf
          exact absurd hf hna
      · rename_i hnf
        rw [e2]
        simp [restV, keepD, wipeV]
        split
        · rename_i hall
          have hall2 : ∀ x ∈ ah, x ∈ f' := fun x hx => hall x hx
          simp [F_Desk_in_order_10, F_Desk_in_order_11]
          refine ⟨by omega, hN2 _ ⟨f' ++ [i], new ++ [i], _, _, by simp [nD]; exact ⟨rfl, rfl⟩, ⟨nodup_snoc hO'.nd hnf, ?_, hO'.topo.snoc fun c hc1 ht hz => hall2 c.o ((hah c.o).mpr ⟨c, hc1, ht, hz, rfl⟩)⟩, by rw [hfe, List.append_assoc], fun h => by simp at h⟩⟩
          intro x hx
          rcases List.mem_append.mp hx with h | h
          · exact hO'.lt x h
          · rw [List.mem_singleton.mp h]; exact hin
        · rename_i hnall
          simp at hnall
          obtain ⟨x, hx1, hx2⟩ := hnall
          obtain ⟨c, c1, c2, c3, c4⟩ := (hah x).mp hx1
          refine hN2 _ ⟨f', new, _, _, rfl, hO', hfe, fun hnew a ha hna => ?_⟩
          subst hnew
          rw [List.append_nil] at hfe
          by_cases q : a < i
          · exact hS rfl a q hna
          · have : a = i := by omega
            subst this
            exact ⟨c, c1, c2, c3, by rw [c4, ← hfe]; exact hx2⟩
    · rintro s ⟨f', new, o3, o4, rfl, hO', rfl, hS⟩
      simp only [thenF_nx, wp_sNil, lend_nx]
      have hfl' := nodup_len hO'.nd hO'.lt
      rw [rgD_len] at hS
      refine hN (2 * (bs.length - (found ++ new).length) + (if (found.length : Int) < (found ++ new).length then 1 else 0)) _ ?_ ⟨found ++ new, (found.length : Int), _, _, rfl, hO', .inr ⟨by simp; omega, fun e => ?_⟩, rfl⟩
      · rw [if_pos hlt]
        rw [List.length_append] at hfl' ⊢
        split <;> omega
      · have : new = [] := by
          rw [List.length_append] at e
          exact List.length_eq_zero_iff.mp (by omega)
        subst this
        rw [List.append_nil]
        exact hS rfl
  · rename_i hge
    simp [F_Desk_in_order_12, outs_eq, List.range_succ]
    rcases hI with ⟨h1, h2⟩ | ⟨h1, h2⟩
    · subst h2; simp at hge; omega
    · exact hq found hO (h2 (by omega))
theorem d_in_order {C : Cl} {l : L} {bs : List Bx} {cs : List Cb} {Q : L → VS → Prop} (hk : HasF C "kept" (.lst (bs.map Bx.d)) l) (hw : HasF C "wires" (.lst (cs.map Cb.d)) l) (hn : bs.length ≤ 10) (hcl : cs.length ≤ 20) (hc : ∀ c ∈ cs, c.o < bs.length ∧ c.t < bs.length) (hr : ∃ ρ : Nat → Int, ∀ c ∈ cs, c.h = 0 → ρ c.o < ρ c.t)
    (hq : ∀ order : List Nat, order.Nodup → (∀ x ∈ order, x < bs.length) → (∀ x, x < bs.length → x ∈ order) → Topo cs order → Q (.own (nD order)) [some l]) : wp (fn_Desk_in_order C).run [some l] Q :=
  d_order hk hw hn hcl hc fun order hO hS => hq order hO.nd hO.lt (ord_full hO hS hc hr) hO.topo
end Hd
namespace Hd
open PySem PySem.Spec PyProof.Rows L2 Ev
def objAt (s : VS) (j : Nat) : Option (Addr × List Str × List L) := match s[j]? with
  | some (some (.obj C fs ls)) => some (C, fs, ls)
  | _ => none
@[simp] theorem objAt_zero {C : Addr} {fs : List Str} {ls : List L} {s : VS} : objAt (some (.obj C fs ls) :: s) 0 = some (C, fs, ls) := rfl
theorem wp_sFldSet {j : Nat} {C : Addr} {f : Str} {Fv : M L} {s : VS} {Q : Fl → VS → Prop} : wp (sFldSet j C f Fv) s Q ↔ wp Fv s fun l s => to (objAt s j) s fun p s => (p.1 = C ∧ f ∉ p.2.1 ∧ p.2.1.length < 900) ∧ Q .nx (s.set j (some (.obj p.1 (p.2.1 ++ [f]) (p.2.2 ++ [l])))) := by
  unfold sFldSet; rw [wp_bd]; refine wp_congr fun l s => ?_
  unfold wp objAt; dsimp only
  cases h : s[j]? with
  | none => simp
  | some o =>
    cases o with
    | none => simp
    | some l =>
      cases l with
      | obj C' fs ls =>
        dsimp only [to_some]
        split
        · rename_i h; simp [h]
        · rename_i h; simp only [to_some, h, false_and] <;> exact Iff.rfl
      | _ => simp
theorem fed_reach {bs : List Bx} {cs : List Cb} {i : Nat} (h : Fed bs cs i) : Reach cs false ((List.range bs.length).filter (wordIs bs (Str.ofString "in"))) i := by
  induction h with
  | start e =>
    refine .start (List.mem_filter.mpr ⟨List.mem_range.mpr (List.getElem?_eq_some_iff.mp e).1, ?_⟩)
    unfold wordIs; rw [e]; exact decide_eq_true rfl
  | step hc _ ih => exact Reach.step (sd := false) hc ih
theorem used_reach {bs : List Bx} {cs : List Cb} {i : Nat} (h : Used bs cs i) : Reach cs true ((List.range bs.length).filter (wordIs bs (Str.ofString "out"))) i := by
  induction h with
  | start e =>
    refine .start (List.mem_filter.mpr ⟨List.mem_range.mpr (List.getElem?_eq_some_iff.mp e).1, ?_⟩)
    unfold wordIs; rw [e]; exact decide_eq_true rfl
  | step hc _ ih => exact Reach.step (sd := true) hc ih
abbrev deskL (C : Addr) (bs : List Bx) (cs : List Cb) (order : List Nat) : L := .obj C ["kept", "wires", "order"] [.d (.lst (bs.map Bx.d)), .d (.lst (cs.map Cb.d)), .d (.lst (nD order))]
abbrev deskD (C : Addr) (bs : List Bx) (cs : List Cb) (order : List Nat) : D := .ins C ["kept", "wires", "order"] [.lst (bs.map Bx.d), .lst (cs.map Cb.d), .lst (nD order)]
structure OrdOk (bs : List Bx) (cs : List Cb) (order : List Nat) : Prop where
  nd : order.Nodup
  lt : ∀ x ∈ order, x < bs.length
  all : ∀ x, x < bs.length → x ∈ order
  topo : Topo cs order
theorem st_nd {bs : List Bx} {w : Str} : ((List.range bs.length).filter (wordIs bs w)).Nodup := List.Pairwise.filter _ List.nodup_range
theorem st_lt {bs : List Bx} {w : Str} : ∀ x ∈ (List.range bs.length).filter (wordIs bs w), x < bs.length := fun x h => List.mem_range.mp (List.mem_filter.mp h).1
end Hd
namespace Hd
open PySem PySem.Spec PyProof.Rows L2 Ev
abbrev XD (C : Cl) (at_ : Nat) (why : String) : Xn := ⟨C.BadDesk, some (["why", "at"], [.str (Str.ofString why), .int (at_ : Int)])⟩
theorem wpx_sFldSet {E : Xn → VS → Prop} {j : Nat} {C : Addr} {f : Str} {Fv : M L} {s : VS} {Q : Fl → VS → Prop} : wpx E (sFldSet j C f Fv) s Q ↔ wpx E Fv s fun l s => to (objAt s j) s fun p s => (p.1 = C ∧ f ∉ p.2.1 ∧ p.2.1.length < 900) ∧ Q .nx (s.set j (some (.obj C (p.2.1 ++ [f]) (p.2.2 ++ [l])))) := by
  unfold sFldSet; rw [wpx_bd]; refine wpx_congr fun l s => ?_
  unfold wpx objAt; dsimp only
  cases h : s[j]? with
  | none => simp
  | some o =>
    cases o with
    | none => simp
    | some l =>
      cases l with
      | obj C' fs ls =>
        dsimp only [to_some]
        split
        · rename_i h; simp [h]
        · rename_i h; simp only [to_some, h, false_and] <;> exact Iff.rfl
      | _ => simp
theorem mustx {C : Cl} {E : Xn → VS → Prop} {s : VS} {b : Bool} {x y : D} {Q : L → VS → Prop} (ht : b = true → Q (.d .non) s) (hf : b = false → E ⟨C.BadDesk, some (["why", "at"], [y, x])⟩ s) : wpx E (callF (fn_must C) [.dat (.bl b), .dat x, .dat y]) s Q := by
  rw [wpx_callF]
  simp only [to_some, to_args_dat, argsOf_nil]
  refine ⟨⟨rfl, rfl⟩, wpx_def ?_⟩
  show wpx _ (F_must C) [some (.d (.bl b)), some (.d x), some (.d y)] _
  cases b with
  | true =>
    simp [F_must, F_must_0, F_must_1, outs_eq, List.range_succ]
    exact ht rfl
  | false =>
    simp [F_must, F_must_0, F_must_1, F_must_2, F_must_3, pick, outs_eq, List.range_succ]
    exact hf rfl
theorem res1 {o : Option L} {l : L} {s : VS} {d : D} (h : resL l = some d) : res (o :: some l :: s) (pkOf 1 l) = some d := by cases l <;> first | exact h | cases h
theorem res2 {o o' : Option L} {l : L} {s : VS} {d : D} (h : resL l = some d) : res (o :: o' :: some l :: s) (pkOf 2 l) = some d := by cases l <;> first | exact h | cases h
def firstBad (n : Nat) (β : Nat → Bool) : Option Nat := (List.range n).find? fun i => !β i
theorem firstBad_none {n : Nat} {β : Nat → Bool} (h : firstBad n β = none) : ∀ i, i < n → β i = true := fun i hi => by
  have := List.find?_eq_none.mp h i (List.mem_range.mpr hi)
  simpa using this
theorem firstBad_some {n k : Nat} {β : Nat → Bool} (h : firstBad n β = some k) : k < n ∧ β k = false ∧ ∀ j, j < k → β j = true := by
  unfold firstBad at h
  obtain ⟨h1, l1, l2, e, h2⟩ := List.find?_eq_some_iff_append.mp h
  have hk : k ∈ List.range n := by rw [e]; simp
  refine ⟨List.mem_range.mp hk, by simpa using h1, fun j hj => ?_⟩
  have hjn : j < n := Nat.lt_trans hj (List.mem_range.mp hk)
  have hl : l1.length = k := by
    have e2 := congrArg (fun l : List Nat => l[l1.length]?) e
    rw [List.getElem?_append_right (Nat.le_refl _), Nat.sub_self] at e2
    have hlt : l1.length < n := by
      have := congrArg List.length e
      simp at this
      omega
    rw [List.getElem?_range hlt] at e2
    simpa using e2
  have hm : j ∈ l1 := by
    have e2 := congrArg (fun l : List Nat => l[j]?) e
    rw [List.getElem?_range hjn, List.getElem?_append_left (by omega)] at e2
    exact List.mem_of_getElem? e2.symm
  simpa using h2 j hm
theorem mustLoop {C : Cl} {E : Xn → VS → Prop} {B : M Fl} {n : Nat} {β : Nat → Bool} {why : String} {x0 x1 x2 x4 x5 o3 : Option L} {Q : Fl → VS → Prop}
    (step : ∀ i, i < n → (∀ j, j < i → β j = true) → ∀ (N : Fl → VS → Prop), (β i = true → N .nx [x0, x1, x2, some (.d (.int (i : Int))), x4, x5]) → (β i = false → E (XD C i why) [x0, x1, x2, some (.d (.int (i : Int))), x4, x5]) → wpx E B [x0, x1, x2, some (.d (.int (i : Int))), x4, x5] N)
    (hok : firstBad n β = none → ∀ o3, Q .nx [x0, x1, x2, o3, x4, x5]) (hbad : ∀ k, firstBad n β = some k → ∀ s, E (XD C k why) s) : wpx E (loopF (.nm 3) B (rgD 0 n)) [x0, x1, x2, o3, x4, x5] Q := by
  cases hb : firstBad n β with
  | none =>
    have hall := firstBad_none hb
    refine wpx_loopN (fun i s => ∃ o3 : Option L, s = [x0, x1, x2, o3, x4, x5]) ⟨o3, rfl⟩ ?_ ?_
    · rintro i d s N hd ⟨o3, rfl⟩ hN
      obtain ⟨hin, rfl⟩ := rgD_get hd
      have ei : (0 : Int) + (i : Int) = (i : Int) := by omega
      rw [ei]
      simp
      refine step i hin (fun j hj => hall j (by omega)) _ (fun _ => ?_) fun z => ?_
      · exact hN _ ⟨_, rfl⟩
      · rw [hall i hin] at z; cases z
    · rintro s ⟨o3, rfl⟩
      exact hok hb o3
  | some k =>
    obtain ⟨hk, hkf, hkt⟩ := firstBad_some hb
    refine wpx_loopN (fun i s => i ≤ k ∧ ∃ o3 : Option L, s = [x0, x1, x2, o3, x4, x5]) ⟨Nat.zero_le _, o3, rfl⟩ ?_ ?_
    · rintro i d s N hd ⟨hik, o3, rfl⟩ hN
      obtain ⟨hin, rfl⟩ := rgD_get hd
      have ei : (0 : Int) + (i : Int) = (i : Int) := by omega
      rw [ei]
      simp
      refine step i hin (fun j hj => hkt j (by omega)) _ (fun z => ?_) fun z => ?_
      · refine hN _ ⟨?_, _, rfl⟩
        rcases Nat.lt_or_ge i k with q | q
        · omega
        · have : i = k := by omega
          rw [this, hkf] at z; cases z
      · rcases Nat.lt_or_ge i k with q | q
        · rw [hkt i q] at z; cases z
        · have : i = k := by omega
          rw [this]
          exact hbad k hb _
    · rintro s ⟨hik, o3, rfl⟩
      rw [rgD_len] at hik
      omega
end Hd
namespace Hd
open PySem PySem.Spec PyProof.Rows L2 Ev
abbrev lkL (C : Cl) (ds : List D) : L := .obj C.Desk ["kept"] [.d (.lst ds)]
abbrev lwL (C : Cl) (ds es : List D) : L := .obj C.Desk ["kept", "wires"] [.d (.lst ds), .d (.lst es)]
abbrev loL (C : Cl) (ds es : List D) (order : List Nat) : L := .obj C.Desk ["kept", "wires", "order"] [.d (.lst ds), .d (.lst es), .d (.lst (nD order))]
structure Orc (C : Cl) (ds es : List D) (β γ τ : Nat → Bool) (fed used order : List Nat) : Prop where
  box : ∀ i, i < ds.length → (1 ≤ ds.length ∧ ds.length ≤ 10) → (∀ j, j < i → β j = true) → ∀ Q : L → VS → Prop, Q (.d (.bl (β i))) [some (lkL C ds), none] → wp (fn_Desk_is_box C).run [some (lkL C ds), some (.d (.int (i : Int)))] Q
  cab : (1 ≤ ds.length ∧ ds.length ≤ 10) → (∀ j, j < ds.length → β j = true) → ∀ i d, es[i]? = some d → es.length ≤ 20 → (∀ j, j < i → γ j = true) → ∀ Q : L → VS → Prop, Q (.d (.bl (γ i))) [some (lwL C ds es), none] → wp (fn_Desk_is_cable C).run [some (lwL C ds es), some (.d d)] Q
  ins : (1 ≤ ds.length ∧ ds.length ≤ 10) → (∀ j, j < ds.length → β j = true) → es.length ≤ 20 → (∀ j, j < es.length → γ j = true) → ∃ some_ : List Nat, (∀ Q : L → VS → Prop, Q (.own (nD some_)) [some (lwL C ds es), none] → wp (fn_Desk_ends C).run [some (lwL C ds es), some (.d (.str (Str.ofString "in")))] Q) ∧ ∀ Q : L → VS → Prop, Q (.own (nD fed)) [some (lwL C ds es), none, none] → wp (fn_Desk_led_from C).run [some (lwL C ds es), some (.d (.lst (nD some_))), some (.d (.int 0))] Q
  outs : (1 ≤ ds.length ∧ ds.length ≤ 10) → (∀ j, j < ds.length → β j = true) → es.length ≤ 20 → (∀ j, j < es.length → γ j = true) → ∃ some_ : List Nat, (∀ Q : L → VS → Prop, Q (.own (nD some_)) [some (lwL C ds es), none] → wp (fn_Desk_ends C).run [some (lwL C ds es), some (.d (.str (Str.ofString "out")))] Q) ∧ ∀ Q : L → VS → Prop, Q (.own (nD used)) [some (lwL C ds es), none, none] → wp (fn_Desk_led_from C).run [some (lwL C ds es), some (.d (.lst (nD some_))), some (.d (.int 1))] Q
  twice : (1 ≤ ds.length ∧ ds.length ≤ 10) → (∀ j, j < ds.length → β j = true) → es.length ≤ 20 → (∀ j, j < es.length → γ j = true) → ∀ i, i < ds.length → ∀ Q : L → VS → Prop, Q (.d (.bl (τ i))) [some (lwL C ds es), none] → wp (fn_Desk_is_twice C).run [some (lwL C ds es), some (.d (.int (i : Int)))] Q
  ord : (1 ≤ ds.length ∧ ds.length ≤ 10) → (∀ j, j < ds.length → β j = true) → es.length ≤ 20 → (∀ j, j < es.length → γ j = true) → ∀ Q : L → VS → Prop, Q (.own (nD order)) [some (lwL C ds es)] → wp (fn_Desk_in_order C).run [some (lwL C ds es)] Q
def lonB (τ : Nat → Bool) (fed used : List Nat) (i : Nat) : Bool := decide (i ∈ fed) && (decide (i ∈ used) && !τ i)
def verd (n m : Nat) (β γ τ : Nat → Bool) (fed used order : List Nat) : Option (Nat × String) :=
  if ¬(1 ≤ n ∧ n ≤ 10) then some (0, "boxes") else match firstBad n β with
  | some i => some (i, "box")
  | none => if ¬ m ≤ 20 then some (0, "cables") else match firstBad m γ with
    | some i => some (i, "cable")
    | none => match firstBad n (lonB τ fed used) with
      | some i => some (i, "lonely")
      | none => if order.length = n then none else some (0, "ring")
theorem nD_len (l : List Nat) : (nD l).length = l.length := by unfold nD; simp
theorem callMx {fn : Fn} {l : L} {s : VS} {ds : List D} {E : Xn → VS → Prop} {Q : L → VS → Prop} (hn : ds.length + 1 = fn.n) (h : wp fn.run (some l :: ds.map fun d => some (.d d)) fun r os => (∃ os', os = some l :: os' ∧ os'.length = ds.length) ∧ Q r (some l :: s)) : wpx E (callF fn (pkOf 0 l :: ds.map Pk.dat)) (some l :: s) Q := wpx_of (callM hn h)
theorem initX {C : Cl} {ds es : List D} {l1 l2 : L} {β γ τ : Nat → Bool} {fed used order : List Nat} {E : Xn → VS → Prop} {Q : L → VS → Prop} (h1 : resL l1 = some (.lst ds)) (h2 : resL l2 = some (.lst es)) (hn : ds.length ≤ 1000) (hm : es.length ≤ 1000) (O : Orc C ds es β γ τ fed used order)
    (hok : verd ds.length es.length β γ τ fed used order = none → Q (.d .non) [some (loL C ds es order), some l1, some l2]) (hbad : ∀ k y, verd ds.length es.length β γ τ fed used order = some (k, y) → ∀ s : VS, s.length = 3 → E (XD C k y) s) :
    wpx E (fn_Desk___init__ C).run [some (.obj C.Desk [] []), some l1, some l2] Q := by
  refine wpx_def ?_
  show wpx _ (F_Desk___init__ C) [some (.obj C.Desk [] []), some l1, some l2, none, none, none] _
  replace hbad : ∀ k y, verd ds.length es.length β γ τ fed used order = some (k, y) → ∀ s : VS, E (XD C k y) (outs 3 [0, 1, 2] s) := fun k y h s => hbad k y h _ (by simp [outs_eq])
  unfold verd at hok hbad
  simp only [F_Desk___init__, F_Desk___init___0, wpx_sSeq, F_Desk___init___1]
  simp [res1 h1]
  by_cases q1 : 1 ≤ ds.length ∧ ds.length ≤ 10
  · have p1 : (1 : Int) ≤ (ds.length : Int) := by omega
    have p2 : (ds.length : Int) ≤ 10 := by omega
    rw [if_neg (fun z => z q1)] at hok hbad
    simp [p1, p2]
    refine mustx (fun _ => ?_) (fun z => by cases z)
    simp [F_Desk___init___2, wpx_sFldSet, res1 h1]
    simp [F_Desk___init___3, res1 h1]
    refine ⟨by omega, ?_⟩
    refine mustLoop (C := C) (β := β) (why := "box") ?_ ?_ ?_
    · intro i hi hj N hy hno
      simp [F_Desk___init___4, F_Desk___init___5, wpx_fMeth]
      refine ⟨⟨rfl, by simp [ofStr_inj]⟩, ?_⟩
      refine callMx (ds := [.int (i : Int)]) rfl (O.box i hi q1 hj _ ⟨⟨[none], rfl, rfl⟩, ?_⟩)
      simp
      refine mustx (fun z => ?_) fun z => ?_
      · simp; exact hy z
      · exact hno z
    · intro hb o3
      rw [hb] at hok hbad
      have hβ := firstBad_none hb
      dsimp only at hok hbad
      simp only [thenX_nx, wpx_sSeq, F_Desk___init___6]
      simp [res2 h2]
      by_cases q2 : es.length ≤ 20
      · have p3 : (es.length : Int) ≤ 20 := by omega
        rw [if_neg (fun z => z q2)] at hok hbad
        simp [p3]
        refine mustx (fun _ => ?_) (fun z => by cases z)
        simp [F_Desk___init___7, wpx_sFldSet, res2 h2, ofStr_inj]
        simp [F_Desk___init___8, res2 h2]
        refine ⟨by omega, ?_⟩
        refine mustLoop (C := C) (β := γ) (why := "cable") ?_ ?_ ?_
        · intro i hi hj N hy hno
          obtain ⟨d, hd⟩ : ∃ d, es[i]? = some d := ⟨_, List.getElem?_eq_getElem hi⟩
          simp [F_Desk___init___9, F_Desk___init___10, wpx_fMeth, res2 h2, Ev.atI_nat, hd]
          refine ⟨⟨rfl, by simp [ofStr_inj]⟩, ?_⟩
          simp [res2 h2, Ev.atI_nat, hd]
          refine callMx (ds := [d]) rfl (O.cab q1 hβ i d hd q2 hj _ ⟨⟨[none], rfl, rfl⟩, ?_⟩)
          simp
          refine mustx (fun z => ?_) fun z => ?_
          · simp; exact hy z
          · exact hno z
        · intro hc o3
          rw [hc] at hok hbad
          have hγ := firstBad_none hc
          dsimp only at hok hbad
          obtain ⟨s1, e1, f1⟩ := O.ins q1 hβ q2 hγ
          obtain ⟨s2, e2, f2⟩ := O.outs q1 hβ q2 hγ
          simp only [thenX_nx, wpx_sSeq, F_Desk___init___11]
          simp [wpx_fMeth]
          refine ⟨⟨rfl, by simp [ofStr_inj]⟩, ⟨rfl, by simp [ofStr_inj]⟩, ?_⟩
          refine callMx (ds := [.str (Str.ofString "in")]) rfl (e1 _ ⟨⟨[none], rfl, rfl⟩, ?_⟩)
          simp
          refine callMx (ds := [.lst (nD s1), .int 0]) rfl (f1 _ ⟨⟨[none, none], rfl, rfl⟩, ?_⟩)
          simp [F_Desk___init___12, wpx_fMeth]
          refine ⟨⟨rfl, by simp [ofStr_inj]⟩, ⟨rfl, by simp [ofStr_inj]⟩, ?_⟩
          refine callMx (ds := [.str (Str.ofString "out")]) rfl (e2 _ ⟨⟨[none], rfl, rfl⟩, ?_⟩)
          simp
          refine callMx (ds := [.lst (nD s2), .int 1]) rfl (f2 _ ⟨⟨[none, none], rfl, rfl⟩, ?_⟩)
          simp [F_Desk___init___13, res1 h1]
          refine ⟨by omega, ?_⟩
          refine mustLoop (C := C) (β := lonB τ fed used) (why := "lonely") ?_ ?_ ?_
          · intro i hi hj N hy hno
            have key : lonB τ fed used i = (decide (i ∈ fed) && (decide (i ∈ used) && !τ i)) := rfl
            rw [key] at hy hno
            simp only [F_Desk___init___14, F_Desk___init___15]
            by_cases z1 : i ∈ fed
            · by_cases z2 : i ∈ used
              · simp [wpx_fMeth, z1, z2]
                refine ⟨⟨rfl, by simp [ofStr_inj]⟩, ?_⟩
                refine callMx (ds := [.int (i : Int)]) rfl (O.twice q1 hβ q2 hγ i hi _ ⟨⟨[none], rfl, rfl⟩, ?_⟩)
                simp
                refine mustx (fun z => ?_) fun z => ?_
                · simp; exact hy (by simp [z1, z2]; simpa using z)
                · exact hno (by simp [z1, z2]; simpa using z)
              · simp [wpx_fMeth, z1, z2]
                refine mustx (fun z => by cases z) fun z => ?_
                exact hno (by simp [z2])
            · simp [wpx_fMeth, z1]
              refine mustx (fun z => by cases z) fun z => ?_
              exact hno (by simp [z1])
          · intro hl o3
            rw [hl] at hok hbad
            dsimp only at hok hbad
            simp only [thenX_nx, wpx_sSeq, F_Desk___init___16]
            simp [wpx_fMeth, wpx_sFldSet]
            refine ⟨⟨rfl, by simp [ofStr_inj]⟩, ?_⟩
            refine callMx (ds := []) rfl (O.ord q1 hβ q2 hγ _ ⟨⟨[], rfl, rfl⟩, ?_⟩)
            simp [ofStr_inj, F_Desk___init___17, fldOf, look, res1 h1, nD_len]
            by_cases q3 : order.length = ds.length
            · have p4 : (order.length : Int) = (ds.length : Int) := by omega
              rw [if_pos q3] at hok
              simp [p4]
              refine mustx (fun _ => ?_) (fun z => by cases z)
              simp [outs_eq, List.range_succ]
              exact hok rfl
            · have p4 : ¬((order.length : Int) = (ds.length : Int)) := by omega
              rw [if_neg q3] at hbad
              simp [p4]
              exact mustx (fun z => by cases z) fun _ => hbad 0 "ring" rfl _
          · intro k hl s
            rw [hl] at hbad
            exact hbad k "lonely" rfl _
        · intro k hc s
          rw [hc] at hbad
          exact hbad k "cable" rfl _
      · have p3 : ¬((es.length : Int) ≤ 20) := by omega
        rw [if_pos q2] at hbad
        simp [p3]
        exact mustx (fun z => by cases z) fun _ => hbad 0 "cables" rfl _
    · intro k hb s
      rw [hb] at hbad
      exact hbad k "box" rfl _
  · rw [if_pos q1] at hbad
    by_cases p1 : (1 : Int) ≤ (ds.length : Int)
    · have p2 : ¬((ds.length : Int) ≤ 10) := by omega
      simp [p1, p2]
      exact mustx (fun z => by cases z) fun _ => hbad 0 "boxes" rfl _
    · simp [p1]
      exact mustx (fun z => by cases z) fun _ => hbad 0 "boxes" rfl _
end Hd
namespace Hd
open PySem PySem.Spec PyProof.Rows L2 Ev
theorem name_bad {C : Cl} {n : Str} {Q : L → VS → Prop} (h : n ∈ [Str.ofString "", Str.ofString "A", Str.ofString "abcdefghi", Str.ofString "a b"]) (hq : Q (.d (.bl false)) [none]) : wp (fn_is_name C).run [some (.d (.str n))] Q := by
  refine wp_def ?_
  show wp (F_is_name C) [some (.d (.str n)), none] _
  simp only [List.mem_cons, List.not_mem_nil, or_false] at h
  have l0 : (Str.ofString "").length = 0 := by decide +kernel
  have l1 : (Str.ofString "A").length = 1 := by decide +kernel
  have l2 : (Str.ofString "abcdefghi").length = 9 := by decide +kernel
  have l3 : (Str.ofString "a b").length = 3 := by decide +kernel
  have e1 : lcF (.nm 1) [1] (c2 dNotIn (vLook 1) (fK (rt (.str "abcdefghijklmnopqrstuvwxyz")))) (vGet 1) (signs (Str.ofString "A")) [] [some (.d (.str (Str.ofString "A"))), none] = some ([.str (Str.ofString "A")], [some (.d (.str (Str.ofString "A"))), none]) := by rfl
  have e3 : lcF (.nm 1) [1] (c2 dNotIn (vLook 1) (fK (rt (.str "abcdefghijklmnopqrstuvwxyz")))) (vGet 1) (signs (Str.ofString "a b")) [] [some (.d (.str (Str.ofString "a b"))), none] = some ([.str (Str.ofString " ")], [some (.d (.str (Str.ofString "a b"))), none]) := by rfl
  have o1 : okD 20 (.lst [.str (Str.ofString "A")]) = true := okD_all fun d hd => by rw [List.mem_singleton.mp hd]; show PyData.strOk _ = true; decide +kernel
  have o3 : okD 20 (.lst [.str (Str.ofString " ")]) = true := okD_all fun d hd => by rw [List.mem_singleton.mp hd]; show PyData.strOk _ = true; decide +kernel
  rcases h with rfl | rfl | rfl | rfl
  · simp [F_is_name, F_is_name_0, F_is_name_1, l0, outs_eq, List.range_succ]; exact hq
  · simp [F_is_name, F_is_name_0, F_is_name_1, l1, wp_fComp, wipeV, restV, keepD, e1, dEq_nil o1, outs_eq, List.range_succ]; exact hq
  · simp [F_is_name, F_is_name_0, F_is_name_1, l2, outs_eq, List.range_succ]; exact hq
  · simp [F_is_name, F_is_name_0, F_is_name_1, l3, wp_fComp, wipeV, restV, keepD, e3, dEq_nil o3, outs_eq, List.range_succ]; exact hq
theorem call_name_bad {C : Cl} {s : VS} {n : Str} {Q : L → VS → Prop} (h : n ∈ [Str.ofString "", Str.ofString "A", Str.ofString "abcdefghi", Str.ofString "a b"]) (hq : Q (.d (.bl false)) s) : wp (callF (fn_is_name C) [.dat (.str n)]) s Q := by
  rw [wp_callF]
  simp only [to_some, to_args_dat, argsOf_nil]
  exact ⟨⟨rfl, rfl⟩, name_bad h hq⟩
theorem g_names {C : Cl} {l : L} {ds : List D} {pre : List Bx} {Q : L → VS → Prop} (hk : HasF C "kept" (.lst ds) l) (hd : ds.take pre.length = pre.map Bx.d) (hb : pre.length ≤ 10) (hl : pre.length ≤ ds.length) (hq : Q (.own ((pre.filterMap Bx.name).map D.str)) [some l, none]) : wp (fn_Desk_names C).run [some l, some (.d (.int (pre.length : Int)))] Q := by
  refine wp_def ?_
  show wp (F_Desk_names C) [some l, some (.d (.int (pre.length : Int))), none] _
  unfold HasF at hk
  have e : lcF (.nm 2) [2] (c2 dIn (fK (fS (f2 dIx (vLook 2) (fK (rt (.int 0)))))) (fK (fTup (aCons (rt (.str "in")) (aCons (rt (.str "out")) aNil))))) (fS (f2 dIx (vLook 2) (fK (rt (.int 1))))) (pre.map Bx.d) [] [some l, some (.d (.int (pre.length : Int))), none]
      = some ((pre.filterMap Bx.name).map D.str, [some l, some (.d (.int (pre.length : Int))), none]) := by
    rw [lcF_pure _ (by simp; omega), names_fm]
    intro d hd
    obtain ⟨b, _, rfl⟩ := List.mem_map.mp hd
    cases b <;> simp [Bx.d, wipeV, ofStr_inj]
  simp [F_Desk_names, F_Desk_names_0, F_Desk_names_1, wp_fComp, hk, wipeV, restV, keepD, outs_eq, List.range_succ]
  rw [cutL_take hl, hd, e]
  simp [wipeV, restV, keepD]
  exact hq
theorem g_box {C : Cl} {l : L} {ds : List D} {pre : List Bx} {b : Bx} {Q : L → VS → Prop} (hk : HasF C "kept" (.lst ds) l) (hc : IsC C "names" l) (hd : ds.take pre.length = pre.map Bx.d) (hb : pre.length ≤ 10) (ha : ds[pre.length]? = some b.d) (hbo : b.ok) (hnd : ∀ n, b.name = some n → n ∉ pre.filterMap Bx.name) (hq : Q (.d (.bl true)) [some l, none]) : wp (fn_Desk_is_box C).run [some l, some (.d (.int (pre.length : Int)))] Q := by
  refine wp_def ?_
  show wp (F_Desk_is_box C) [some l, some (.d (.int (pre.length : Int))), none] _
  have hk2 := hk
  unfold HasF at hk2
  have hal := (List.getElem?_eq_some_iff.mp ha).1
  simp only [F_Desk_is_box, F_Desk_is_box_0, wp_sSeq, F_Desk_is_box_1]
  simp [hk2, Ev.atI_nat, ha]
  have hlen : dLen [b.d] = some (.d (.int b.size)) := by cases b <;> rfl
  have hsz : b.size ≠ 0 := by cases b <;> simp [Bx.size]
  simp [F_Desk_is_box_2, hlen, hsz, sizes_ok]
  have hw := word_mid (b := b)
  simp only [F_Desk_is_box_5]
  simp
  cases hmid : b.mid with
  | false =>
    obtain ⟨n, hn, hd1, hok⟩ : ∃ n, b.name = some n ∧ dIx b.d (.int 1) = some (.d (.str n)) ∧ okName n := by
      cases b with
      | inn n => exact ⟨n, rfl, rfl, hbo⟩
      | out n => exact ⟨n, rfl, rfl, hbo⟩
      | _ => cases hmid
    have hio : b.word = Str.ofString "in" ∨ b.word = Str.ofString "out" := by
      rw [hmid] at hw; simpa using hw
    simp [hio, F_Desk_is_box_6, F_Desk_is_box_7, hd1]
    refine call_name hok ?_
    simp [hd1, wp_fMeth]
    refine to_cls hc ?_
    refine callM (ds := [.int (pre.length : Int)]) rfl ?_
    refine g_names hk hd hb (by omega) ⟨⟨[none], rfl, rfl⟩, ?_⟩
    have := hnd n hn
    simp [this, outs_eq, List.range_succ]
    exact hq
  | true =>
    have hio : ¬(b.word = Str.ofString "in" ∨ b.word = Str.ofString "out") := by
      rw [hmid] at hw; simpa using hw
    rw [if_neg hio]
    simp only [F_Desk_is_box_8, F_Desk_is_box_11, F_Desk_is_box_14]
    cases b with
    | inn n => cases hmid
    | out n => cases hmid
    | sum v => simp [Bx.word, Bx.d, ofStr_inj, hbo.1, hbo.2, outs_eq, List.range_succ]; exact hq
    | most v => simp [Bx.word, Bx.d, ofStr_inj, hbo.1, hbo.2, outs_eq, List.range_succ]; exact hq
    | times k v => obtain ⟨⟨h1, h2⟩, h3, h4⟩ := hbo; simp [Bx.word, Bx.d, ofStr_inj, h1, h2, h3, h4, outs_eq, List.range_succ]; exact hq
    | part k v => obtain ⟨⟨h1, h2⟩, h3, h4⟩ := hbo; simp [Bx.word, Bx.d, ofStr_inj, h1, h2, h3, h4, outs_eq, List.range_succ]; exact hq
inductive BadBx (pre : List Bx) : D → Prop
  | dblI {n : Str} : okName n → n ∈ pre.filterMap Bx.name → BadBx pre (.tup [.str "in", .str n])
  | dblO {n : Str} : okName n → n ∈ pre.filterMap Bx.name → BadBx pre (.tup [.str "out", .str n])
  | name {w n : Str} : w = Str.ofString "in" ∨ w = Str.ofString "out" → n ∈ [Str.ofString "", Str.ofString "A", Str.ofString "abcdefghi", Str.ofString "a b"] → BadBx pre (.tup [.str w, .str n])
  | size {w : Str} {r : List D} {k : Nat} : r.length + 1 ≠ k → (t_SIZES.lookup w).getD 0 = (k : Int) → BadBx pre (.tup (.str w :: r))
  | none : BadBx pre (.tup [])
  | late {w : Str} {v : Int} : w = Str.ofString "sum" → v < 0 ∨ 9 < v → BadBx pre (.tup [.str w, .int v])
  | times {k v : Int} : k < -9 ∨ 9 < k ∨ v < 0 → BadBx pre (.tup [.str "times", .int k, .int v])
  | part {k v : Int} : k < 1 ∨ 9 < k ∨ 9 < v → BadBx pre (.tup [.str "part", .int k, .int v])
theorem sz_tab {w : Str} {k : Int} (h : (t_SIZES.lookup w).getD 0 = k) : dTab t_SIZES (.str w) (.int 0) = some (.int k) := by
  cases e : t_SIZES.lookup w with
  | none => rw [e] at h; subst h; simp only [dTab, e]; rfl
  | some i => rw [e] at h; subst h; simp only [dTab, e]; rfl
theorem g_bad {C : Cl} {l : L} {ds : List D} {pre : List Bx} {x : D} {Q : L → VS → Prop} (hk : HasF C "kept" (.lst ds) l) (hc : IsC C "names" l) (hd : ds.take pre.length = pre.map Bx.d) (hb : pre.length ≤ 10) (ha : ds[pre.length]? = some x) (hx : BadBx pre x) (hq : Q (.d (.bl false)) [some l, none]) : wp (fn_Desk_is_box C).run [some l, some (.d (.int (pre.length : Int)))] Q := by
  refine wp_def ?_
  show wp (F_Desk_is_box C) [some l, some (.d (.int (pre.length : Int))), none] _
  have hk2 := hk
  unfold HasF at hk2
  have hal := (List.getElem?_eq_some_iff.mp ha).1
  simp only [F_Desk_is_box, F_Desk_is_box_0, wp_sSeq, F_Desk_is_box_1]
  simp [hk2, Ev.atI_nat, ha]
  have z1 : dTab t_SIZES (.str (Str.ofString "in")) (.int 0) = some (.int 2) := sizes_ok (.inn "")
  have z2 : dTab t_SIZES (.str (Str.ofString "out")) (.int 0) = some (.int 2) := sizes_ok (.out "")
  have z3 : dTab t_SIZES (.str (Str.ofString "sum")) (.int 0) = some (.int 2) := sizes_ok (.sum 0)
  have z5 : dTab t_SIZES (.str (Str.ofString "times")) (.int 0) = some (.int 3) := sizes_ok (.times 0 0)
  have z6 : dTab t_SIZES (.str (Str.ofString "part")) (.int 0) = some (.int 3) := sizes_ok (.part 0 0)
  simp only [F_Desk_is_box_2, F_Desk_is_box_5, F_Desk_is_box_8, F_Desk_is_box_11, F_Desk_is_box_14, F_Desk_is_box_3, F_Desk_is_box_4]
  cases hx with
  | dblI ho hm =>
    simp [z1, dLen, F_Desk_is_box_6, F_Desk_is_box_7]
    refine call_name ho ?_
    simp [wp_fMeth]
    refine to_cls hc ?_
    refine callM (ds := [.int (pre.length : Int)]) rfl ?_
    refine g_names hk hd hb (by omega) ⟨⟨[none], rfl, rfl⟩, ?_⟩
    simp [hm, outs_eq, List.range_succ]
    exact hq
  | dblO ho hm =>
    simp [z2, dLen, F_Desk_is_box_6, F_Desk_is_box_7, ofStr_inj]
    refine call_name ho ?_
    simp [wp_fMeth]
    refine to_cls hc ?_
    refine callM (ds := [.int (pre.length : Int)]) rfl ?_
    refine g_names hk hd hb (by omega) ⟨⟨[none], rfl, rfl⟩, ?_⟩
    simp [hm, outs_eq, List.range_succ]
    exact hq
  | name hw hm =>
    rcases hw with rfl | rfl
    · simp [z1, dLen, F_Desk_is_box_6, F_Desk_is_box_7]
      refine call_name_bad hm ?_
      simp [outs_eq, List.range_succ]
      exact hq
    · simp [z2, dLen, F_Desk_is_box_6, F_Desk_is_box_7, ofStr_inj]
      refine call_name_bad hm ?_
      simp [outs_eq, List.range_succ]
      exact hq
  | size hr hz =>
    rename_i w r k
    have q : ¬((k : Int) = ((r.length : Int) + 1)) := by omega
    have q1 : ¬((r.length : Int) + 1 = 0) := by omega
    simp [sz_tab hz, dLen, q, q1, outs_eq, List.range_succ]
    exact hq
  | none =>
    simp [dLen, outs_eq, List.range_succ]
    exact hq
  | late hw hv =>
    rename_i w v
    subst hw
    simp [z3, dLen, ofStr_inj]
    rcases hv with h | h
    · have q : ¬(0 ≤ v) := by omega
      simp [q, outs_eq, List.range_succ]; exact hq
    · have q : ¬(v ≤ 9) := by omega
      have q0 : 0 ≤ v := by omega
      simp [q, q0, outs_eq, List.range_succ]; exact hq
  | times hk =>
    rename_i k v
    simp [z5, dLen, ofStr_inj]
    by_cases h1 : -9 ≤ k
    · by_cases h2 : k ≤ 9
      · have q : ¬(0 ≤ v) := by omega
        simp [h1, h2, q, F_Desk_is_box_9, F_Desk_is_box_10, outs_eq, List.range_succ]; exact hq
      · simp [h1, h2, F_Desk_is_box_9, F_Desk_is_box_10, outs_eq, List.range_succ]; exact hq
    · simp [h1, F_Desk_is_box_9, F_Desk_is_box_10, outs_eq, List.range_succ]; exact hq
  | part hk =>
    rename_i k v
    simp [z6, dLen, ofStr_inj]
    by_cases h1 : 1 ≤ k
    · by_cases h2 : k ≤ 9
      · have q : ¬(v ≤ 9) := by omega
        have q0 : 0 ≤ v := by omega
        simp [h1, h2, q, q0, F_Desk_is_box_12, F_Desk_is_box_13, outs_eq, List.range_succ]; exact hq
      · simp [h1, h2, F_Desk_is_box_12, F_Desk_is_box_13, outs_eq, List.range_succ]; exact hq
    · simp [h1, F_Desk_is_box_12, F_Desk_is_box_13, outs_eq, List.range_succ]; exact hq
end Hd
namespace Hd
open PySem PySem.Spec PyProof.Rows L2 Ev
def BadCb (bs : List Bx) (o t h : Int) : Prop := o < 0 ∨ (bs.length : Int) ≤ o ∨ t < 0 ∨ (bs.length : Int) ≤ t ∨ h < 0 ∨ 99 < h ∨ (∃ (k : Nat) (b : Bx), o = k ∧ bs[k]? = some b ∧ b.isOut = true) ∨ (∃ (k : Nat) (b : Bx), t = k ∧ bs[k]? = some b ∧ b.isIn = true)
theorem g_badc {C : Cl} {l : L} {bs : List Bx} {o t h : Int} {Q : L → VS → Prop} (hk : HasF C "kept" (.lst (bs.map Bx.d)) l) (hb : BadCb bs o t h) (hq : Q (.d (.bl false)) [some l, none]) : wp (fn_Desk_is_cable C).run [some l, some (.d (.tup [.int o, .int t, .int h]))] Q := by
  refine wp_def ?_
  show wp (F_Desk_is_cable C) [some l, some (.d (.tup [.int o, .int t, .int h])), none, none, none] _
  unfold HasF at hk
  simp only [F_Desk_is_cable, F_Desk_is_cable_0, wp_sSeq, F_Desk_is_cable_1]
  simp
  simp only [F_Desk_is_cable_2, F_Desk_is_cable_3, F_Desk_is_cable_4]
  by_cases a1 : 0 ≤ o
  · by_cases a2 : o < (bs.length : Int)
    · by_cases a3 : 0 ≤ t
      · by_cases a4 : t < (bs.length : Int)
        · by_cases a5 : 0 ≤ h
          · by_cases a6 : h ≤ 99
            · obtain ⟨o', rfl⟩ : ∃ o' : Nat, o = (o' : Int) := ⟨o.toNat, by omega⟩
              obtain ⟨t', rfl⟩ : ∃ t' : Nat, t = (t' : Int) := ⟨t.toNat, by omega⟩
              have ho : o' < bs.length := by omega
              have ht : t' < bs.length := by omega
              simp [hk, a1, a2, a3, a4, a5, a6]
              have e1 : bs[o']? = some bs[o'] := List.getElem?_eq_getElem ho
              have e2 : bs[t']? = some bs[t'] := List.getElem?_eq_getElem ht
              simp only [F_Desk_is_cable_5]
              simp [hk, Ev.atI_nat, e1, e2]
              by_cases w1 : bs[o'].word = Str.ofString "out"
              · simp [w1, outs_eq, List.range_succ]; exact hq
              · have w2 : bs[t'].word = Str.ofString "in" := by
                  unfold BadCb at hb
                  rcases hb with z | z | z | z | z | z | ⟨k, b, z1, z2, z3⟩ | ⟨k, b, z1, z2, z3⟩
                  any_goals omega
                  · have : k = o' := by omega
                    subst this
                    rw [e1] at z2
                    cases z2
                    exact absurd (word_out.mpr z3) w1
                  · have : k = t' := by omega
                    subst this
                    rw [e2] at z2
                    cases z2
                    exact word_in.mpr z3
                simp [w1, w2, outs_eq, List.range_succ]; exact hq
            · simp [hk, a1, a2, a3, a4, a5, a6, outs_eq, List.range_succ]; exact hq
          · simp [hk, a1, a2, a3, a4, a5, outs_eq, List.range_succ]; exact hq
        · simp [hk, a1, a2, a3, a4, outs_eq, List.range_succ]; exact hq
      · simp [hk, a1, a2, a3, outs_eq, List.range_succ]; exact hq
    · simp [hk, a1, a2, outs_eq, List.range_succ]; exact hq
  · simp [hk, a1, outs_eq, List.range_succ]; exact hq
def twB (bs : List Bx) (cs : List Cb) (a : Nat) : Bool := match bs[a]? with
  | some b => b.isOut && decide (1 < (cs.filter fun c => decide (c.t = a)).length)
  | none => false
theorem g_twice {C : Cl} {l : L} {bs : List Bx} {cs : List Cb} {a : Nat} {b : Bx} {Q : L → VS → Prop} (hk : HasF C "kept" (.lst (bs.map Bx.d)) l) (hw : HasF C "wires" (.lst (cs.map Cb.d)) l) (hc : cs.length ≤ 20) (ha : bs[a]? = some b) (hq : Q (.d (.bl (twB bs cs a))) [some l, none]) : wp (fn_Desk_is_twice C).run [some l, some (.d (.int (a : Int)))] Q := by
  by_cases h1 : b.isOut = true → (cs.filter fun c => decide (c.t = a)).length ≤ 1
  · refine d_is_twice hk hw hc ha h1 ?_
    have : twB bs cs a = false := by
      unfold twB; rw [ha]; simp
      intro z; exact h1 z
    rw [this] at hq; exact hq
  · have ho : b.isOut = true := Classical.byContradiction fun z => h1 fun y => absurd y z
    have hl : 1 < (cs.filter fun c => decide (c.t = a)).length := Classical.byContradiction fun z => h1 fun y => by omega
    have : twB bs cs a = true := by
      unfold twB; rw [ha]; simp [ho]
      exact hl
    rw [this] at hq
    refine wp_def ?_
    show wp (F_Desk_is_twice C) [some l, some (.d (.int (a : Int))), none] _
    unfold HasF at hk hw
    simp [F_Desk_is_twice, F_Desk_is_twice_0, F_Desk_is_twice_1, hk, Ev.atI_nat, ha, word_out.mpr ho]
    have e : lcF (.nm 2) [2] (c2 dEq (fK (fS (f2 dIx (vLook 2) (fK (rt (.int 1)))))) (vLook 1)) (vGet 2) (cs.map Cb.d) [] [some l, some (.d (.int (a : Int))), none] = some ((cs.filter fun c => decide (c.t = a)).map Cb.d, [some l, some (.d (.int (a : Int))), none]) := by
      rw [lcF_pure (fun d => match d with | .tup [.int x, .int y, z] => if y = (a : Int) then some (.tup [.int x, .int y, z]) else none | _ => none) (by simp; omega)]
      · congr 2
        rw [List.filterMap_map, ← fm_filter]
        congr 1
        funext c
        simp only [Function.comp, Cb.d]
        by_cases q : c.t = a
        · simp [q]
        · have : ¬((c.t : Int) = (a : Int)) := by omega
          simp [q, this]
      · intro d hd
        obtain ⟨c, _, rfl⟩ := List.mem_map.mp hd
        simp [wipeV, Cb.d]
    have h2 : (1 : Int) < ((cs.filter fun c => decide (c.t = a)).length : Int) := by omega
    simp [wp_fComp, hw, wipeV, e, restV, keepD, h2, outs_eq, List.range_succ]
    exact hq
theorem wp_ex {α : Type} {m : M α} {s : VS} {Q : α → VS → Prop} (h : wp m s Q) : ∃ r t, Q r t ∧ ∀ Q' : α → VS → Prop, Q' r t → wp m s Q' := by
  unfold wp at h ⊢
  cases e : m s with
  | none => rw [e] at h; exact h.elim
  | some p =>
    obtain ⟨r, t⟩ := p
    rw [e] at h
    cases r with
    | ok a => exact ⟨a, t, h, fun _ z => z⟩
    | error x => exact h.elim
theorem reach_fed {bs : List Bx} {cs : List Cb} {i : Nat} (h : Reach cs false ((List.range bs.length).filter (wordIs bs (Str.ofString "in"))) i) : Fed bs cs i := by
  generalize e : false = sd at h
  induction h with
  | start h =>
    obtain ⟨h1, h2⟩ := List.mem_filter.mp h
    unfold wordIs at h2
    split at h2
    · rename_i b hb
      cases b with
      | inn n => exact .start hb
      | _ => simp [Bx.word, ofStr_inj] at h2
    · cases h2
  | step hc _ ih => subst e; exact .step hc ih
theorem reach_used {bs : List Bx} {cs : List Cb} {i : Nat} (h : Reach cs true ((List.range bs.length).filter (wordIs bs (Str.ofString "out"))) i) : Used bs cs i := by
  generalize e : true = sd at h
  induction h with
  | start h =>
    obtain ⟨h1, h2⟩ := List.mem_filter.mp h
    unfold wordIs at h2
    split at h2
    · rename_i b hb
      cases b with
      | out n => exact .start hb
      | _ => simp [Bx.word, ofStr_inj] at h2
    · cases h2
  | step hc _ ih => subst e; exact .step hc ih
end Hd
namespace Hd
open PySem PySem.Spec PyProof.Rows L2 Ev
def Bad (C : Cl) (ds es : List D) (k : Nat) (y : String) : Prop := ds.length ≤ 1000 ∧ es.length ≤ 1000 ∧ ∃ β γ τ fed used order, Orc C ds es β γ τ fed used order ∧ verd ds.length es.length β γ τ fed used order = some (k, y)
theorem lk_kept {C : Cl} {ds : List D} : HasF C "kept" (.lst ds) (lkL C ds) := fun s => by simp [fldOf, look]
theorem lw_kept {C : Cl} {ds es : List D} : HasF C "kept" (.lst ds) (lwL C ds es) := fun s => by simp [fldOf, look]
theorem lw_wires {C : Cl} {ds es : List D} : HasF C "wires" (.lst es) (lwL C ds es) := fun s => by simp [fldOf, look, ofStr_inj]
theorem lk_names {C : Cl} {ds : List D} : IsC C "names" (lkL C ds) := fun s => ⟨_, rfl, by simp [ofStr_inj]⟩
theorem firstBad_at {n k : Nat} {β : Nat → Bool} (hk : k < n) (h1 : ∀ j, j < k → β j = true) (h2 : β k = false) : firstBad n β = some k := by
  cases e : firstBad n β with
  | none => rw [firstBad_none e k hk] at h2; cases h2
  | some j =>
    obtain ⟨a, b, c⟩ := firstBad_some e
    rcases Nat.lt_trichotomy j k with q | q | q
    · rw [h1 j q] at b; cases b
    · rw [q]
    · rw [c k q] at h2; cases h2
theorem firstBad_ok {n : Nat} {β : Nat → Bool} (h : ∀ j, j < n → β j = true) : firstBad n β = none := by
  cases e : firstBad n β with
  | none => rfl
  | some j =>
    obtain ⟨a, b, c⟩ := firstBad_some e
    rw [h j a] at b; cases b
theorem bad_boxes {C : Cl} {ds es : List D} (h : ¬(1 ≤ ds.length ∧ ds.length ≤ 10)) (hd : ds.length ≤ 1000) (he : es.length ≤ 1000) : Bad C ds es 0 "boxes" := by
  refine ⟨hd, he, fun _ => true, fun _ => true, fun _ => true, [], [], [], ⟨fun _ _ z => absurd z h, fun z => absurd z h, fun z => absurd z h, fun z => absurd z h, fun z => absurd z h, fun z => absurd z h⟩, ?_⟩
  unfold verd; rw [if_pos h]
structure GoodB (bs : List Bx) : Prop where
  box : ∀ b ∈ bs, b.ok
  names : (bs.filterMap Bx.name).Nodup
theorem GoodB.fresh {bs : List Bx} (g : GoodB bs) {a : Nat} {b : Bx} (e : bs[a]? = some b) : ∀ n, b.name = some n → n ∉ (bs.take a).filterMap Bx.name := fun n hn => names_fresh g.names e hn
theorem orc_box {C : Cl} {ds : List D} {bs : List Bx} {rest : List D} (g : GoodB bs) (hd : ds = bs.map Bx.d ++ rest) (h10 : ds.length ≤ 10) {i : Nat} (hi : i < bs.length) {Q : L → VS → Prop} (hq : Q (.d (.bl true)) [some (lkL C ds), none]) : wp (fn_Desk_is_box C).run [some (lkL C ds), some (.d (.int (i : Int)))] Q := by
  have hl : bs.length ≤ ds.length := by rw [hd]; simp
  have e1 : (bs.take i).length = i := by simp; omega
  have e2 : bs[i]? = some bs[i] := List.getElem?_eq_getElem hi
  have := g_box (C := C) (l := lkL C ds) (ds := ds) (pre := bs.take i) (b := bs[i]) (Q := Q) lk_kept lk_names (by rw [e1, hd, List.take_append_of_le_length (by simp; omega), List.map_take]) (by rw [e1]; omega) (by rw [e1, hd, List.getElem?_append_left (by simp; omega), List.getElem?_map, e2]; rfl) (g.box _ (List.getElem_mem hi)) (g.fresh e2) hq
  rw [e1] at this
  exact this
theorem bad_box {C : Cl} {bs : List Bx} {x : D} {rest es : List D} (g : GoodB bs) (hx : BadBx bs x) (h10 : (bs.map Bx.d ++ x :: rest).length ≤ 10) (he : es.length ≤ 1000) : Bad C (bs.map Bx.d ++ x :: rest) es bs.length "box" := by
  generalize hD : bs.map Bx.d ++ x :: rest = ds at h10 ⊢
  have hl : bs.length < ds.length := by rw [← hD]; simp
  have q1 : 1 ≤ ds.length ∧ ds.length ≤ 10 := ⟨by omega, h10⟩
  have no : ¬ ∀ j, j < ds.length → decide (j < bs.length) = true := fun z => by have := z bs.length hl; simp at this
  refine ⟨by omega, he, fun i => decide (i < bs.length), fun _ => true, fun _ => true, [], [], [], ⟨fun i hi _ hj Q hQ => ?_, fun _ z => absurd z no, fun _ z => absurd z no, fun _ z => absurd z no, fun _ z => absurd z no, fun _ z => absurd z no⟩, ?_⟩
  · rcases Nat.lt_trichotomy i bs.length with q | q | q
    · rw [decide_eq_true q] at hQ
      exact orc_box g hD.symm h10 q hQ
    · subst q
      rw [decide_eq_false (Nat.lt_irrefl _)] at hQ
      refine g_bad lk_kept lk_names ?_ (by omega) ?_ hx hQ
      · rw [← hD, List.take_append_of_le_length (by simp), List.take_of_length_le (by simp)]
      · rw [← hD, List.getElem?_append_right (by simp)]; simp
    · have := hj bs.length q; simp at this
  · unfold verd
    rw [if_neg (fun z => z q1), firstBad_at (k := bs.length) hl (fun j hj => decide_eq_true hj) (decide_eq_false (Nat.lt_irrefl _))]
theorem bad_cables {C : Cl} {bs : List Bx} {es : List D} (g : GoodB bs) (h1 : 1 ≤ bs.length) (h10 : bs.length ≤ 10) (hm : 20 < es.length) (he : es.length ≤ 1000) : Bad C (bs.map Bx.d) es 0 "cables" := by
  have q1 : 1 ≤ (bs.map Bx.d).length ∧ (bs.map Bx.d).length ≤ 10 := by simp; omega
  have no : ¬ es.length ≤ 20 := by omega
  refine ⟨by simp; omega, he, fun i => true, fun _ => true, fun _ => true, [], [], [], ⟨fun i hi _ hj Q hQ => orc_box (rest := []) g (by simp) q1.2 (by simpa using hi) hQ, fun _ _ _ _ _ z => absurd z no, fun _ _ z => absurd z no, fun _ _ z => absurd z no, fun _ _ z => absurd z no, fun _ _ z => absurd z no⟩, ?_⟩
  unfold verd
  rw [if_neg (fun z => z q1), firstBad_ok (fun _ _ => rfl)]
  dsimp only
  rw [if_pos no]
structure GoodC (bs : List Bx) (cs : List Cb) : Prop where
  cab : ∀ c ∈ cs, c.o < bs.length ∧ c.t < bs.length ∧ 0 ≤ c.h ∧ c.h ≤ 99
  src : ∀ c ∈ cs, ∀ b, bs[c.o]? = some b → b.isOut = false
  dst : ∀ c ∈ cs, ∀ b, bs[c.t]? = some b → b.isIn = false
theorem orc_cab {C : Cl} {bs : List Bx} {cs : List Cb} {es : List D} (g : GoodC bs cs) {c : Cb} (hc : c ∈ cs) {Q : L → VS → Prop} (hq : Q (.d (.bl true)) [some (lwL C (bs.map Bx.d) es), none]) : wp (fn_Desk_is_cable C).run [some (lwL C (bs.map Bx.d) es), some (.d c.d)] Q := by
  have h := g.cab c hc
  have e1 : bs[c.o]? = some bs[c.o] := List.getElem?_eq_getElem h.1
  have e2 : bs[c.t]? = some bs[c.t] := List.getElem?_eq_getElem h.2.1
  exact d_is_cable lw_kept e1 e2 h.2.2.1 h.2.2.2 (g.src c hc _ e1) (g.dst c hc _ e2) hq
theorem bad_cable {C : Cl} {bs : List Bx} {cs : List Cb} {o t h : Int} {rest : List D} (g : GoodB bs) (gc : GoodC bs cs) (h1 : 1 ≤ bs.length) (h10 : bs.length ≤ 10) (hx : BadCb bs o t h) (h20 : (cs.map Cb.d ++ .tup [.int o, .int t, .int h] :: rest).length ≤ 20) : Bad C (bs.map Bx.d) (cs.map Cb.d ++ .tup [.int o, .int t, .int h] :: rest) cs.length "cable" := by
  generalize hD : cs.map Cb.d ++ .tup [.int o, .int t, .int h] :: rest = es at h20 ⊢
  have hl : cs.length < es.length := by rw [← hD]; simp
  have q1 : 1 ≤ (bs.map Bx.d).length ∧ (bs.map Bx.d).length ≤ 10 := by simp; omega
  have no : ¬ ∀ j, j < es.length → decide (j < cs.length) = true := fun z => by have := z cs.length hl; simp at this
  refine ⟨by simp; omega, by omega, fun i => true, fun i => decide (i < cs.length), fun _ => true, [], [], [], ⟨fun i hi _ hj Q hQ => orc_box (rest := []) g (by simp) q1.2 (by simpa using hi) hQ, fun _ _ i d hd _ hj Q hQ => ?_, fun _ _ _ z => absurd z no, fun _ _ _ z => absurd z no, fun _ _ _ z => absurd z no, fun _ _ _ z => absurd z no⟩, ?_⟩
  · rcases Nat.lt_trichotomy i cs.length with q | q | q
    · rw [decide_eq_true q] at hQ
      rw [← hD, List.getElem?_append_left (by simpa using q), List.getElem?_map, List.getElem?_eq_getElem q] at hd
      cases hd
      exact orc_cab gc (List.getElem_mem q) hQ
    · subst q
      rw [decide_eq_false (Nat.lt_irrefl _)] at hQ
      rw [← hD, List.getElem?_append_right (by simp)] at hd
      simp at hd
      subst hd
      exact g_badc lw_kept hx hQ
    · have := hj cs.length q; simp at this
  · unfold verd
    rw [if_neg (fun z => z q1), firstBad_ok (fun _ _ => rfl)]
    dsimp only
    rw [if_neg (fun z => z h20), firstBad_at (k := cs.length) hl (fun j hj => decide_eq_true hj) (decide_eq_false (Nat.lt_irrefl _))]
structure Whole (C : Cl) (bs : List Bx) (cs : List Cb) (fed used order : List Nat) : Prop where
  orc : Orc C (bs.map Bx.d) (cs.map Cb.d) (fun _ => true) (fun _ => true) (twB bs cs) fed used order
  fed : ∀ i, i ∈ fed ↔ Fed bs cs i
  used : ∀ i, i ∈ used ↔ Used bs cs i
  ord : Ord bs.length cs order
  stuck : Stuck bs.length cs order bs.length
theorem whole {C : Cl} {bs : List Bx} {cs : List Cb} (g : GoodB bs) (gc : GoodC bs cs) (h10 : bs.length ≤ 10) (h20 : cs.length ≤ 20) : ∃ fed used order, Whole C bs cs fed used order := by
  have hc : ∀ c ∈ cs, c.o < bs.length ∧ c.t < bs.length := fun c h => ⟨(gc.cab c h).1, (gc.cab c h).2.1⟩
  obtain ⟨_, _, ⟨fed, f1, f2, rfl, rfl⟩, f3⟩ := wp_ex (d_led (C := C) (l := lwL C (bs.map Bx.d) (cs.map Cb.d)) (n := bs.length) (cs := cs) (st := (List.range bs.length).filter (wordIs bs (Str.ofString "in"))) (sd := false) (Q := fun r t => ∃ found, (∀ i, Reach cs false ((List.range bs.length).filter (wordIs bs (Str.ofString "in"))) i → i ∈ found) ∧ (∀ i ∈ found, Reach cs false ((List.range bs.length).filter (wordIs bs (Str.ofString "in"))) i) ∧ r = .own (nD found) ∧ t = [some (lwL C (bs.map Bx.d) (cs.map Cb.d)), none, none]) lw_wires h10 hc h20 st_nd st_lt fun found a b => ⟨found, a, b, rfl, rfl⟩)
  obtain ⟨_, _, ⟨used, u1, u2, rfl, rfl⟩, u3⟩ := wp_ex (d_led (C := C) (l := lwL C (bs.map Bx.d) (cs.map Cb.d)) (n := bs.length) (cs := cs) (st := (List.range bs.length).filter (wordIs bs (Str.ofString "out"))) (sd := true) (Q := fun r t => ∃ found, (∀ i, Reach cs true ((List.range bs.length).filter (wordIs bs (Str.ofString "out"))) i → i ∈ found) ∧ (∀ i ∈ found, Reach cs true ((List.range bs.length).filter (wordIs bs (Str.ofString "out"))) i) ∧ r = .own (nD found) ∧ t = [some (lwL C (bs.map Bx.d) (cs.map Cb.d)), none, none]) lw_wires h10 hc h20 st_nd st_lt fun found a b => ⟨found, a, b, rfl, rfl⟩)
  obtain ⟨_, _, ⟨order, o1, o2, rfl, rfl⟩, o3⟩ := wp_ex (d_order (C := C) (l := lwL C (bs.map Bx.d) (cs.map Cb.d)) (bs := bs) (cs := cs) (Q := fun r t => ∃ order, Ord bs.length cs order ∧ Stuck bs.length cs order bs.length ∧ r = .own (nD order) ∧ t = [some (lwL C (bs.map Bx.d) (cs.map Cb.d))]) lw_kept lw_wires h10 h20 hc fun order a b => ⟨order, a, b, rfl, rfl⟩)
  refine ⟨fed, used, order, ⟨⟨fun i hi _ hj Q hQ => orc_box (rest := []) g (by simp) (by simp; omega) (by simpa using hi) hQ, fun _ _ i d hd _ hj Q hQ => ?_, fun _ _ _ _ => ⟨(List.range bs.length).filter (wordIs bs (Str.ofString "in")), fun Q hQ => ?_, fun Q hQ => f3 Q hQ⟩, fun _ _ _ _ => ⟨(List.range bs.length).filter (wordIs bs (Str.ofString "out")), fun Q hQ => ?_, fun Q hQ => u3 Q hQ⟩, fun _ _ _ _ i hi Q hQ => ?_, fun _ _ _ _ Q hQ => o3 Q hQ⟩, fun i => ⟨fun h => reach_fed (f2 i h), fun h => f1 i (fed_reach h)⟩, fun i => ⟨fun h => reach_used (u2 i h), fun h => u1 i (used_reach h)⟩, o1, o2⟩⟩
  · rw [List.getElem?_map] at hd
    cases ec : cs[i]? with
    | none => rw [ec] at hd; cases hd
    | some c =>
      rw [ec] at hd
      cases hd
      exact orc_cab gc (List.mem_of_getElem? ec) hQ
  · exact d_ends lw_kept h10 hQ
  · exact d_ends lw_kept h10 hQ
  · have hi : i < bs.length := by simpa using hi
    exact g_twice lw_kept lw_wires h20 (List.getElem?_eq_getElem hi) hQ
def LonOk (bs : List Bx) (cs : List Cb) (i : Nat) : Prop := Fed bs cs i ∧ Used bs cs i ∧ twB bs cs i = false
theorem Whole.lon {C : Cl} {bs : List Bx} {cs : List Cb} {fed used order : List Nat} (w : Whole C bs cs fed used order) (i : Nat) : lonB (twB bs cs) fed used i = true ↔ LonOk bs cs i := by
  unfold lonB LonOk
  simp [w.fed, w.used]
theorem bad_lonely {C : Cl} {bs : List Bx} {cs : List Cb} {k : Nat} (g : GoodB bs) (gc : GoodC bs cs) (h10 : bs.length ≤ 10) (h20 : cs.length ≤ 20) (hk : k < bs.length) (h1 : ∀ j, j < k → LonOk bs cs j) (h2 : ¬ LonOk bs cs k) : Bad C (bs.map Bx.d) (cs.map Cb.d) k "lonely" := by
  obtain ⟨fed, used, order, w⟩ := whole (C := C) g gc h10 h20
  have q1 : 1 ≤ (bs.map Bx.d).length ∧ (bs.map Bx.d).length ≤ 10 := by simp; omega
  refine ⟨by simp; omega, by simp; omega, _, _, _, _, _, _, w.orc, ?_⟩
  unfold verd
  rw [if_neg (fun z => z q1), firstBad_ok (fun _ _ => rfl)]
  dsimp only
  rw [if_neg (fun z => z (by simpa using h20)), firstBad_ok (fun _ _ => rfl)]
  dsimp only
  rw [firstBad_at (k := k) (by simpa using hk) (fun j hj => (w.lon j).mpr (h1 j hj)) (by
    cases e : lonB (twB bs cs) fed used k with
    | false => rfl
    | true => exact absurd ((w.lon k).mp e) h2)]
inductive ZPath (cs : List Cb) : Nat → Nat → Prop
  | one {c : Cb} : c ∈ cs → c.h = 0 → ZPath cs c.o c.t
  | step {a : Nat} {c : Cb} : ZPath cs a c.o → c ∈ cs → c.h = 0 → ZPath cs a c.t
theorem bad_ring {C : Cl} {bs : List Bx} {cs : List Cb} {a : Nat} (g : GoodB bs) (gc : GoodC bs cs) (h1 : 1 ≤ bs.length) (h10 : bs.length ≤ 10) (h20 : cs.length ≤ 20) (hl : ∀ j, j < bs.length → LonOk bs cs j) (hz : ZPath cs a a) : Bad C (bs.map Bx.d) (cs.map Cb.d) 0 "ring" := by
  obtain ⟨fed, used, order, w⟩ := whole (C := C) g gc h10 h20
  have q1 : 1 ≤ (bs.map Bx.d).length ∧ (bs.map Bx.d).length ≤ 10 := by simp; omega
  refine ⟨by simp; omega, by simp; omega, _, _, _, _, _, _, w.orc, ?_⟩
  unfold verd
  rw [if_neg (fun z => z q1), firstBad_ok (fun _ _ => rfl)]
  dsimp only
  rw [if_neg (fun z => z (by simpa using h20)), firstBad_ok (fun _ _ => rfl)]
  dsimp only
  rw [firstBad_ok (fun j hj => (w.lon j).mpr (hl j (by simpa using hj)))]
  dsimp only
  rw [if_neg]
  intro hn
  rw [List.length_map] at hn
  -- all boxes are in the order
  have hall : ∀ x, x < bs.length → x ∈ order := fun x hx => Classical.byContradiction fun hno => by
    have := nodup_len (nodup_snoc w.ord.nd hno) (n := bs.length) fun y hy => by
      rcases List.mem_append.mp hy with z | z
      · exact w.ord.lt y z
      · rw [List.mem_singleton.mp z]; exact hx
    simp at this; omega
  have key : ∀ {x y : Nat}, ZPath cs x y → ∀ j, order[j]? = some y → x ∈ order.take j := by
    intro x y z
    induction z with
    | one hc hz => exact fun j e => w.ord.topo j _ e _ hc rfl hz
    | step _ hc hz ih =>
      intro j e
      have h := w.ord.topo j _ e _ hc rfl hz
      obtain ⟨i, hi⟩ := List.getElem?_of_mem h
      have hij : i < j := by
        have := (List.getElem?_eq_some_iff.mp hi).1
        simp at this; omega
      rw [List.getElem?_take_of_lt hij] at hi
      have h2 := ih i hi
      have := List.take_subset_take_left order (Nat.le_of_lt hij)
      exact this h2
  have hlt : ∀ {x y : Nat}, ZPath cs x y → y < bs.length := by
    intro x y z
    induction z with
    | one hc _ => exact (gc.cab _ hc).2.1
    | step _ hc _ _ => exact (gc.cab _ hc).2.1
  have ha : a < bs.length := hlt hz
  obtain ⟨j, hj⟩ := List.getElem?_of_mem (hall a ha)
  have h := key hz j hj
  obtain ⟨i, hi⟩ := List.getElem?_of_mem h
  have hij : i < j := by
    have := (List.getElem?_eq_some_iff.mp hi).1
    simp at this; omega
  rw [List.getElem?_take_of_lt hij] at hi
  have := (List.getElem?_inj (List.getElem?_eq_some_iff.mp hi).1 w.ord.nd).mp (hi.trans hj.symm)
  omega
theorem good_desk {C : Cl} {bs : List Bx} {cs : List Cb} (g : GoodB bs) (gc : GoodC bs cs) (h1 : 1 ≤ bs.length) (h10 : bs.length ≤ 10) (h20 : cs.length ≤ 20) (hl : ∀ j, j < bs.length → LonOk bs cs j) (hr : ∃ ρ : Nat → Int, ∀ c ∈ cs, c.h = 0 → ρ c.o < ρ c.t) : ∃ fed used order, Orc C (bs.map Bx.d) (cs.map Cb.d) (fun _ => true) (fun _ => true) (twB bs cs) fed used order ∧ verd (bs.map Bx.d).length (cs.map Cb.d).length (fun _ => true) (fun _ => true) (twB bs cs) fed used order = none := by
  obtain ⟨fed, used, order, w⟩ := whole (C := C) g gc h10 h20
  have q1 : 1 ≤ (bs.map Bx.d).length ∧ (bs.map Bx.d).length ≤ 10 := by simp; omega
  refine ⟨_, _, _, w.orc, ?_⟩
  unfold verd
  rw [if_neg (fun z => z q1), firstBad_ok (fun _ _ => rfl)]
  dsimp only
  rw [if_neg (fun z => z (by simpa using h20)), firstBad_ok (fun _ _ => rfl)]
  dsimp only
  rw [firstBad_ok (fun j hj => (w.lon j).mpr (hl j (by simpa using hj)))]
  dsimp only
  rw [if_pos]
  rw [List.length_map]
  exact nodup_full w.ord.nd w.ord.lt (ord_full w.ord w.stuck (fun c h => ⟨(gc.cab c h).1, (gc.cab c h).2.1⟩) hr)
end Hd
namespace Hd
open PySem PySem.Spec PyProof.Rows L2 Ev
theorem WF.gb {bs : List Bx} {cs : List Cb} (w : WF bs cs) : GoodB bs := ⟨w.box, w.names⟩
theorem WF.gc {bs : List Bx} {cs : List Cb} (w : WF bs cs) : GoodC bs cs := ⟨w.cab, w.src, w.dst⟩
theorem WF.pos {bs : List Bx} {cs : List Cb} (w : WF bs cs) : 1 ≤ bs.length := by
  obtain ⟨b, hb, _⟩ := w.mid
  exact List.length_pos_of_mem hb
theorem WF.lon {bs : List Bx} {cs : List Cb} (w : WF bs cs) {j : Nat} (hj : j < bs.length) : LonOk bs cs j := by
  refine ⟨w.fed j hj, w.used j hj, ?_⟩
  unfold twB
  rw [List.getElem?_eq_getElem hj]
  cases e : bs[j] with
  | out n =>
    have := w.one j n (by rw [List.getElem?_eq_getElem hj, e])
    simp [Bx.isOut]
    exact this
  | _ => rfl
theorem good_of {C : Cl} {bs : List Bx} {cs : List Cb} (w : WF bs cs) : ∃ fed used order, Orc C (bs.map Bx.d) (cs.map Cb.d) (fun _ => true) (fun _ => true) (twB bs cs) fed used order ∧ verd (bs.map Bx.d).length (cs.map Cb.d).length (fun _ => true) (fun _ => true) (twB bs cs) fed used order = none := good_desk w.gb w.gc w.pos w.nb w.nc (fun j hj => w.lon hj) w.rank
theorem lon_ext {bs xs : List Bx} {cs ys : List Cb} {j : Nat} (h : LonOk bs cs j) (hj : j < bs.length) (hy : ∀ c ∈ ys, c.t = j → ∀ b, bs[j]? = some b → b.isOut = false) : LonOk (bs ++ xs) (cs ++ ys) j := by
  obtain ⟨h1, h2, h3⟩ := h
  refine ⟨fed_mono (fun i n e => ?_) (fun c hc f => .step (List.mem_append_left _ hc) f) h1, used_mono (fun i n e => ?_) (fun c hc f => .step (List.mem_append_left _ hc) f) h2, ?_⟩
  · rw [List.getElem?_append_left (List.getElem?_eq_some_iff.mp e).1]; exact e
  · rw [List.getElem?_append_left (List.getElem?_eq_some_iff.mp e).1]; exact e
  · unfold twB at h3 ⊢
    rw [List.getElem?_append_left hj, List.getElem?_eq_getElem hj]
    rw [List.getElem?_eq_getElem hj] at h3
    dsimp only at h3 ⊢
    cases ho : bs[j].isOut with
    | false => rfl
    | true =>
      rw [ho] at h3
      have : (ys.filter fun c => decide (c.t = j)) = [] := filter_none fun c hc => by
        have : ¬(c.t = j) := fun z => by
          have := hy c hc z _ (List.getElem?_eq_getElem hj)
          rw [ho] at this; cases this
        simp [this]
      rw [List.filter_append, this, List.append_nil]
      exact h3
theorem gc_app {bs xs : List Bx} {cs ys : List Cb} (g : GoodC bs cs) (hy : GoodC (bs ++ xs) ys) : GoodC (bs ++ xs) (cs ++ ys) := by
  refine ⟨fun c hc => ?_, fun c hc b e => ?_, fun c hc b e => ?_⟩
  · rcases List.mem_append.mp hc with h | h
    · have := g.cab c h; rw [List.length_append]; omega
    · exact hy.cab c h
  · rcases List.mem_append.mp hc with h | h
    · have := g.cab c h
      rw [List.getElem?_append_left this.1] at e
      exact g.src c h b e
    · exact hy.src c h b e
  · rcases List.mem_append.mp hc with h | h
    · have := g.cab c h
      rw [List.getElem?_append_left this.2.1] at e
      exact g.dst c h b e
    · exact hy.dst c h b e
theorem fed_cable {bs : List Bx} {cs : List Cb} {o : Nat} (f : Fed bs cs o) (h : ∀ n, bs[o]? ≠ some (.inn n)) : ∃ c ∈ cs, c.t = o := by
  cases f with
  | start e => exact absurd e (h _)
  | step hc _ => exact ⟨_, hc, rfl⟩
theorem used_cable {bs : List Bx} {cs : List Cb} {o : Nat} (f : Used bs cs o) (h : ∀ n, bs[o]? ≠ some (.out n)) : ∃ c ∈ cs, c.o = o := by
  cases f with
  | start e => exact absurd e (h _)
  | step hc _ => exact ⟨_, hc, rfl⟩
theorem bad_two {C : Cl} {bs : List Bx} {cs : List Cb} {i o : Nat} {n m : Str} (w : WF bs cs) (hi : bs[i]? = some (.inn m)) (ho : bs[o]? = some (.out n)) (h20 : cs.length < 20) : Bad C (bs.map Bx.d) ((cs ++ [(⟨i, o, 1⟩ : Cb)]).map Cb.d) o "lonely" := by
  have hil := (List.getElem?_eq_some_iff.mp hi).1
  have hol := (List.getElem?_eq_some_iff.mp ho).1
  have gy : GoodC (bs ++ []) [(⟨i, o, 1⟩ : Cb)] := by
    refine ⟨fun c hc => ?_, fun c hc b e => ?_, fun c hc b e => ?_⟩ <;> rw [List.mem_singleton.mp hc] at * <;> rw [List.append_nil] at *
    · exact ⟨hil, hol, by simp, by simp⟩
    · rw [hi] at e; cases e; rfl
    · rw [ho] at e; cases e; rfl
  have gc := gc_app w.gc gy
  rw [List.append_nil] at gc
  refine bad_lonely w.gb gc w.nb (by simp; omega) hol (fun j hj => ?_) fun h => ?_
  · have := lon_ext (xs := []) (ys := [(⟨i, o, 1⟩ : Cb)]) (w.lon (j := j) (by omega)) (by omega) fun c hc e => by
      rw [List.mem_singleton.mp hc] at e
      have e : o = j := e
      omega
    rwa [List.append_nil] at this
  · obtain ⟨_, _, h3⟩ := h
    obtain ⟨c, hc, hct⟩ := fed_cable (w.fed o hol) fun n e => by rw [ho] at e; cases e
    have hm : c ∈ cs.filter fun c => decide (c.t = o) := List.mem_filter.mpr ⟨hc, by simp [hct]⟩
    have hl := List.length_pos_of_mem hm
    unfold twB at h3
    rw [ho] at h3
    have h4 : 1 < ((cs ++ [(⟨i, o, 1⟩ : Cb)]).filter fun c => decide (c.t = o)).length := by
      rw [List.filter_append, List.length_append]
      simp at hl ⊢
      omega
    dsimp only at h3
    rw [decide_eq_true h4] at h3
    cases h3
theorem bad_behind {C : Cl} {bs xs : List Bx} {cs ys : List Cb} (w : WF bs cs) (hx : xs ≠ []) (hxm : ∀ b ∈ xs, b.mid = true ∧ b.ok) (h10 : (bs ++ xs).length ≤ 10) (h20 : (cs ++ ys).length ≤ 20)
    (hy : ∀ c ∈ ys, 0 ≤ c.h ∧ c.h ≤ 99 ∧ (∃ b, (bs ++ xs)[c.o]? = some b ∧ b.mid = true) ∧ ∃ b, (bs ++ xs)[c.t]? = some b ∧ b.mid = true)
    (hz : (∀ c ∈ ys, bs.length ≤ c.t → bs.length ≤ c.o) ∨ ∀ c ∈ ys, bs.length ≤ c.o → bs.length ≤ c.t) : Bad C ((bs ++ xs).map Bx.d) ((cs ++ ys).map Cb.d) bs.length "lonely" := by
  have gy : GoodC (bs ++ xs) ys := by
    refine ⟨fun c hc => ?_, fun c hc b e => ?_, fun c hc b e => ?_⟩
    · obtain ⟨h1, h2, ⟨b, h3, _⟩, b', h4, _⟩ := hy c hc
      exact ⟨(List.getElem?_eq_some_iff.mp h3).1, (List.getElem?_eq_some_iff.mp h4).1, h1, h2⟩
    · obtain ⟨h1, h2, ⟨b, h3, h5⟩, b', h4, _⟩ := hy c hc
      rw [e] at h3; cases h3; exact Bx.mid_out h5
    · obtain ⟨h1, h2, ⟨b, h3, _⟩, b', h4, h5⟩ := hy c hc
      rw [e] at h4; cases h4; exact Bx.mid_in h5
  have gb : GoodB (bs ++ xs) := by
    refine ⟨fun b hb => ?_, ?_⟩
    · rcases List.mem_append.mp hb with h | h
      · exact w.box b h
      · exact (hxm b h).2
    · have : xs.filterMap Bx.name = [] := List.filterMap_eq_nil_iff.mpr fun b hb => Bx.mid_name (hxm b hb).1
      rw [List.filterMap_append, this, List.append_nil]
      exact w.names
  have hxl := List.length_pos_iff.mpr hx
  refine bad_lonely gb (gc_app w.gc gy) h10 h20 (by rw [List.length_append]; omega) (fun j hj => ?_) fun h => ?_
  · refine lon_ext (w.lon hj) hj fun c hc e b hb => ?_
    obtain ⟨h1, h2, _, b', h4, h5⟩ := hy c hc
    rw [e, List.getElem?_append_left hj, hb] at h4
    cases h4
    exact Bx.mid_out h5
  · obtain ⟨h1, h2, _⟩ := h
    have new : ∀ i b, bs.length ≤ i → (bs ++ xs)[i]? = some b → b.mid = true := fun i b hi e => by
      rw [List.getElem?_append_right hi] at e
      exact (hxm b (List.mem_of_getElem? e)).1
    rcases hz with hz | hz
    · have key : ∀ i, Fed (bs ++ xs) (cs ++ ys) i → i < bs.length := fun i f => by
        induction f with
        | start e =>
          refine Classical.byContradiction fun z => ?_
          have := new _ _ (by omega) e
          cases this
        | step hc _ ih =>
          rcases List.mem_append.mp hc with h | h
          · exact (w.cab _ h).2.1
          · exact Classical.byContradiction fun z => by have := hz _ h (by omega); omega
      have := key _ h1
      omega
    · have key : ∀ i, Used (bs ++ xs) (cs ++ ys) i → i < bs.length := fun i f => by
        induction f with
        | start e =>
          refine Classical.byContradiction fun z => ?_
          have := new _ _ (by omega) e
          cases this
        | step hc _ ih =>
          rcases List.mem_append.mp hc with h | h
          · exact (w.cab _ h).1
          · exact Classical.byContradiction fun z => by have := hz _ h (by omega); omega
      have := key _ h2
      omega
theorem bad_round {C : Cl} {bs : List Bx} {cs ys : List Cb} {a : Nat} (w : WF bs cs) (h20 : (cs ++ ys).length ≤ 20)
    (hy : ∀ c ∈ ys, 0 ≤ c.h ∧ c.h ≤ 99 ∧ (∃ b, bs[c.o]? = some b ∧ b.mid = true) ∧ ∃ b, bs[c.t]? = some b ∧ b.mid = true) (hz : ZPath (cs ++ ys) a a) : Bad C (bs.map Bx.d) ((cs ++ ys).map Cb.d) 0 "ring" := by
  have gy : GoodC (bs ++ []) ys := by
    rw [List.append_nil]
    refine ⟨fun c hc => ?_, fun c hc b e => ?_, fun c hc b e => ?_⟩
    · obtain ⟨h1, h2, ⟨b, h3, _⟩, b', h4, _⟩ := hy c hc
      exact ⟨(List.getElem?_eq_some_iff.mp h3).1, (List.getElem?_eq_some_iff.mp h4).1, h1, h2⟩
    · obtain ⟨h1, h2, ⟨b, h3, h5⟩, b', h4, _⟩ := hy c hc
      rw [e] at h3; cases h3; exact Bx.mid_out h5
    · obtain ⟨h1, h2, ⟨b, h3, _⟩, b', h4, h5⟩ := hy c hc
      rw [e] at h4; cases h4; exact Bx.mid_in h5
  have gc := gc_app w.gc gy
  rw [List.append_nil] at gc
  refine bad_ring w.gb gc w.pos w.nb h20 (fun j hj => ?_) hz
  have := lon_ext (xs := []) (ys := ys) (w.lon hj) hj fun c hc e b hb => by
    obtain ⟨h1, h2, _, b', h4, h5⟩ := hy c hc
    rw [e, hb] at h4
    cases h4
    exact Bx.mid_out h5
  rwa [List.append_nil] at this
def shf (a i : Nat) : Nat := i + if a ≤ i then 1 else 0
theorem shf_ne {a i : Nat} : shf a i ≠ a := by unfold shf; split <;> omega
theorem shf_lt {a i : Nat} (h : i < a) : shf a i = i := by unfold shf; rw [if_neg (by omega)]; rfl
theorem shf_inj {a i j : Nat} (h : shf a i = shf a j) : i = j := by unfold shf at h; split at h <;> split at h <;> omega
theorem get_shf {bs : List Bx} {x : Bx} {a i : Nat} (ha : a ≤ bs.length) : (bs.take a ++ x :: bs.drop a)[shf a i]? = bs[i]? := by
  have hl : (bs.take a).length = a := by simp; omega
  unfold shf
  split
  · rename_i h
    rw [List.getElem?_append_right (by omega), hl]
    have : i + 1 - a = (i - a) + 1 := by omega
    rw [this, List.getElem?_cons_succ, List.getElem?_drop]
    congr 1; omega
  · rename_i h
    rw [List.getElem?_append_left (by omega), List.getElem?_take_of_lt (by omega)]
    rfl
theorem get_at {bs : List Bx} {x : Bx} {a : Nat} (ha : a ≤ bs.length) : (bs.take a ++ x :: bs.drop a)[a]? = some x := by
  have hl : (bs.take a).length = a := by simp; omega
  rw [List.getElem?_append_right (by omega), hl]; simp
theorem bad_alone {C : Cl} {bs : List Bx} {cs : List Cb} {a : Nat} {x : Bx} (w : WF bs cs) (ha : a ≤ bs.length) (h10 : bs.length < 10) (hx : x = .sum 1 ∨ x = .inn (Str.ofString "lone") ∨ x = .out (Str.ofString "lone")) : Bad C ((bs.take a ++ x :: bs.drop a).map Bx.d) ((cs.map (reCb (shf a))).map Cb.d) a "lonely" := by
  have hlen : (bs.take a ++ x :: bs.drop a).length = bs.length + 1 := by simp; omega
  have hperm : (bs.take a ++ x :: bs.drop a).Perm (x :: bs) := by
    refine List.perm_middle.trans ?_
    rw [List.take_append_drop]
  have hlo : okName (Str.ofString "lone") := ⟨by decide +kernel, by decide +kernel, by decide +kernel⟩
  have gb : GoodB (bs.take a ++ x :: bs.drop a) := by
    refine ⟨fun b hb => ?_, (hperm.filterMap Bx.name).nodup_iff.mpr ?_⟩
    · rcases List.mem_cons.mp (hperm.mem_iff.mp hb) with rfl | h
      · rcases hx with rfl | rfl | rfl
        · exact ⟨by omega, by omega⟩
        · exact hlo
        · exact hlo
      · exact w.box b h
    · have hno : Str.ofString "lone" ∉ bs.filterMap Bx.name := fun z => by
        obtain ⟨b, h1, h2⟩ := List.mem_filterMap.mp z
        exact w.lone b h1 h2
      rcases hx with rfl | rfl | rfl
      · exact w.names
      · exact List.nodup_cons.mpr ⟨hno, w.names⟩
      · exact List.nodup_cons.mpr ⟨hno, w.names⟩
  have cin : ∀ c' ∈ cs.map (reCb (shf a)), ∃ c ∈ cs, c' = reCb (shf a) c := fun c' h => by
    obtain ⟨c, h1, h2⟩ := List.mem_map.mp h
    exact ⟨c, h1, h2.symm⟩
  have slt : ∀ i, i < bs.length → shf a i < bs.length + 1 := fun i h => by unfold shf; split <;> omega
  have gc : GoodC (bs.take a ++ x :: bs.drop a) (cs.map (reCb (shf a))) := by
    refine ⟨fun c' hc => ?_, fun c' hc b e => ?_, fun c' hc b e => ?_⟩ <;> obtain ⟨c, h1, rfl⟩ := cin c' hc
    · have := w.cab c h1
      rw [hlen]
      exact ⟨slt _ this.1, slt _ this.2.1, this.2.2.1, this.2.2.2⟩
    · have e : (bs.take a ++ x :: bs.drop a)[shf a c.o]? = some b := e
      rw [get_shf ha] at e
      exact w.src c h1 b e
    · have e : (bs.take a ++ x :: bs.drop a)[shf a c.t]? = some b := e
      rw [get_shf ha] at e
      exact w.dst c h1 b e
  have fed' : ∀ i, Fed bs cs i → Fed (bs.take a ++ x :: bs.drop a) (cs.map (reCb (shf a))) (shf a i) := fun i f => by
    induction f with
    | start e => exact .start (by rw [get_shf ha]; exact e)
    | step hc _ ih => exact Fed.step (c := reCb (shf a) _) (List.mem_map.mpr ⟨_, hc, rfl⟩) ih
  have used' : ∀ i, Used bs cs i → Used (bs.take a ++ x :: bs.drop a) (cs.map (reCb (shf a))) (shf a i) := fun i f => by
    induction f with
    | start e => exact .start (by rw [get_shf ha]; exact e)
    | step hc _ ih => exact Used.step (c := reCb (shf a) _) (List.mem_map.mpr ⟨_, hc, rfl⟩) ih
  refine bad_lonely gb gc (by omega) (by simpa using w.nc) (by omega) (fun j hj => ?_) fun h => ?_
  · obtain ⟨h1, h2, h3⟩ := w.lon (j := j) (by omega)
    have f := fed' j h1
    have u := used' j h2
    rw [shf_lt hj] at f u
    refine ⟨f, u, ?_⟩
    unfold twB at h3 ⊢
    have e1 : (bs.take a ++ x :: bs.drop a)[j]? = bs[j]? := by
      have := get_shf (x := x) (i := j) ha
      rwa [shf_lt hj] at this
    have e2 : ((cs.map (reCb (shf a))).filter fun c => decide (c.t = j)).length = (cs.filter fun c => decide (c.t = j)).length := by
      rw [List.filter_map, List.length_map]
      congr 1
      apply List.filter_congr
      intro c _
      show decide (shf a c.t = j) = decide (c.t = j)
      by_cases q : c.t = j
      · rw [q, shf_lt hj]
      · have : ¬(shf a c.t = j) := fun z => q (shf_inj (a := a) (by rw [z, shf_lt hj]))
        simp [q, this]
    rw [e1, e2]
    exact h3
  · obtain ⟨h1, h2, _⟩ := h
    rcases hx with rfl | rfl | rfl
    · obtain ⟨c', hc, e⟩ := fed_cable h1 fun n e => by rw [get_at ha] at e; cases e
      obtain ⟨c, _, rfl⟩ := cin c' hc
      exact shf_ne e
    · obtain ⟨c', hc, e⟩ := used_cable h2 fun n e => by rw [get_at ha] at e; cases e
      obtain ⟨c, _, rfl⟩ := cin c' hc
      exact shf_ne e
    · obtain ⟨c', hc, e⟩ := fed_cable h1 fun n e => by rw [get_at ha] at e; cases e
      obtain ⟨c, _, rfl⟩ := cin c' hc
      exact shf_ne e
end Hd
namespace Hd
open PySem PySem.Spec PyProof.Rows L2 Ev
abbrev tD (bs : List Bx) (cs : List Cb) : D := .tup [.lst (bs.map Bx.d), .lst (cs.map Cb.d)]
abbrev endsL (bs : List Bx) (w : String) : List Nat := (List.range bs.length).filter (wordIs bs (Str.ofString w))
abbrev midsL (bs : List Bx) : List Nat := (List.range bs.length).filter (midAt bs)
theorem call_ends {C : Cl} {s : VS} {bs : List Bx} {cs : List Cb} {w : String} {Q : L → VS → Prop} (hb : bs.length ≤ 10) (hq : Q (.own (nD (endsL bs w))) s) : wp (callF (fn__law_ends C) [.dat (tD bs cs), .dat (.str (Str.ofString w))]) s Q := by
  rw [wp_callF]
  simp only [to_some, to_args_dat, argsOf_nil]
  refine ⟨⟨rfl, rfl⟩, wp_def ?_⟩
  show wp (F__law_ends C) [some (.d (tD bs cs)), some (.d (.str (Str.ofString w))), none] _
  simp [F__law_ends, F__law_ends_0, F__law_ends_1, wp_fComp, wipeV]
  refine ⟨by omega, ?_⟩
  refine lcF_inN (fun i acc s => acc = nD ((List.range i).filter (wordIs bs (Str.ofString w))) ∧ s = [some (.d (tD bs cs)), some (.d (.str (Str.ofString w))), none]) ⟨rfl, rfl⟩ ?_ ?_
  · rintro i d acc s N hd ⟨rfl, rfl⟩ hN
    obtain ⟨hin, rfl⟩ := rgD_get hd
    have ei : (0 : Int) + (i : Int) = (i : Int) := by omega
    rw [ei]
    have hrl : ((List.range i).filter (wordIs bs (Str.ofString w))).length ≤ i := by
      have := List.length_filter_le (wordIs bs (Str.ofString w)) (List.range i)
      simpa using this
    have hwi : wordIs bs (Str.ofString w) i = decide (bs[i].word = Str.ofString w) := by unfold wordIs; rw [List.getElem?_eq_getElem hin]
    simp [Ev.atI_nat, List.getElem?_eq_getElem hin, wipeV]
    split
    · rename_i hq
      refine ⟨by omega, hN _ _ ⟨?_, rfl⟩⟩
      rw [List.range_succ, List.filter_append]
      simp [hwi, hq, nD]
    · rename_i hq
      refine hN _ _ ⟨?_, rfl⟩
      rw [List.range_succ, List.filter_append]
      simp [hwi, hq, nD]
  · rintro acc s ⟨rfl, rfl⟩
    rw [rgD_len]
    simp [restV, keepD, outs_eq, List.range_succ]
    exact hq
theorem call_mids {C : Cl} {s : VS} {bs : List Bx} {cs : List Cb} {Q : L → VS → Prop} (hb : bs.length ≤ 10) (hq : Q (.own (nD (midsL bs))) s) : wp (callF (fn__law_mid C) [.dat (tD bs cs)]) s Q := by
  rw [wp_callF]
  simp only [to_some, to_args_dat, argsOf_nil]
  refine ⟨⟨rfl, rfl⟩, wp_def ?_⟩
  show wp (F__law_mid C) [some (.d (tD bs cs)), none] _
  simp [F__law_mid, F__law_mid_0, F__law_mid_1, wp_fComp, wipeV]
  refine ⟨by omega, ?_⟩
  refine lcF_inN (fun i acc s => acc = nD ((List.range i).filter (midAt bs)) ∧ s = [some (.d (tD bs cs)), none]) ⟨rfl, rfl⟩ ?_ ?_
  · rintro i d acc s N hd ⟨rfl, rfl⟩ hN
    obtain ⟨hin, rfl⟩ := rgD_get hd
    have ei : (0 : Int) + (i : Int) = (i : Int) := by omega
    rw [ei]
    have hrl : ((List.range i).filter (midAt bs)).length ≤ i := by
      have := List.length_filter_le (midAt bs) (List.range i)
      simpa using this
    have hwi : midAt bs i = bs[i].mid := by unfold midAt; rw [List.getElem?_eq_getElem hin]
    have hw := word_mid (b := bs[i])
    simp [Ev.atI_nat, List.getElem?_eq_getElem hin, wipeV]
    cases hm : bs[i].mid with
    | false =>
      rw [hm] at hw hwi
      have hw : bs[i].word = Str.ofString "in" ∨ bs[i].word = Str.ofString "out" := by simpa using hw
      rw [if_pos hw]
      refine hN _ _ ⟨?_, rfl⟩
      rw [List.range_succ, List.filter_append]
      simp [hwi, nD]
    | true =>
      rw [hm] at hw hwi
      have hw : ¬(bs[i].word = Str.ofString "in" ∨ bs[i].word = Str.ofString "out") := by simpa using hw
      rw [if_neg hw]
      refine ⟨by omega, hN _ _ ⟨?_, rfl⟩⟩
      rw [List.range_succ, List.filter_append]
      simp [hwi, nD]
  · rintro acc s ⟨rfl, rfl⟩
    rw [rgD_len]
    simp [restV, keepD, outs_eq, List.range_succ]
    exact hq
theorem in_at {bs : List Bx} {k : Nat} (h : k ∈ endsL bs "in") : ∃ n, bs[k]? = some (.inn n) := by
  obtain ⟨h1, h2⟩ := List.mem_filter.mp h
  unfold wordIs at h2
  split at h2
  · rename_i b hb
    cases b with
    | inn n => exact ⟨n, hb⟩
    | _ => simp [Bx.word, ofStr_inj] at h2
  · cases h2
theorem out_at {bs : List Bx} {k : Nat} (h : k ∈ endsL bs "out") : ∃ n, bs[k]? = some (.out n) := by
  obtain ⟨h1, h2⟩ := List.mem_filter.mp h
  unfold wordIs at h2
  split at h2
  · rename_i b hb
    cases b with
    | out n => exact ⟨n, hb⟩
    | _ => simp [Bx.word, ofStr_inj] at h2
  · cases h2
theorem ins_ne {bs : List Bx} {cs : List Cb} (w : WF bs cs) : 0 < (endsL bs "in").length := by
  have key : ∀ i, Fed bs cs i → ∃ j n, bs[j]? = some (Bx.inn n) := fun i f => by
    induction f with
    | start e => exact ⟨_, _, e⟩
    | step _ _ ih => exact ih
  obtain ⟨j, n, e⟩ := key 0 (w.fed 0 w.pos)
  refine List.length_pos_of_mem (a := j) (List.mem_filter.mpr ⟨List.mem_range.mpr (List.getElem?_eq_some_iff.mp e).1, ?_⟩)
  unfold wordIs; rw [e]; exact decide_eq_true rfl
theorem outs_ne {bs : List Bx} {cs : List Cb} (w : WF bs cs) : 0 < (endsL bs "out").length := by
  have key : ∀ i, Used bs cs i → ∃ j n, bs[j]? = some (Bx.out n) := fun i f => by
    induction f with
    | start e => exact ⟨_, _, e⟩
    | step _ _ ih => exact ih
  obtain ⟨j, n, e⟩ := key 0 (w.used 0 w.pos)
  refine List.length_pos_of_mem (a := j) (List.mem_filter.mpr ⟨List.mem_range.mpr (List.getElem?_eq_some_iff.mp e).1, ?_⟩)
  unfold wordIs; rw [e]; exact decide_eq_true rfl
def inName (b : Bx) : Option Str := match b with
  | .inn n => some n
  | _ => none
theorem far_pick {r : Int} (h0 : 0 ≤ r) (h1 : r < 2) : ∃ m : Int, dIx (.lst [.int 1, .int 1000000]) (.int r) = some (.d (.int m)) ∧ 0 < m ∧ m ≤ 1000000 := by
  have : r = 0 ∨ r = 1 := by omega
  rcases this with rfl | rfl
  · exact ⟨1, rfl, by omega, by omega⟩
  · exact ⟨1000000, rfl, by omega, by omega⟩
theorem inn_names {bs : List Bx} {n : Str} (h : n ∈ bs.filterMap inName) : ∃ b ∈ bs, b = .inn n := by
  obtain ⟨b, h1, h2⟩ := List.mem_filterMap.mp h
  cases b with
  | inn m => cases h2; exact ⟨_, h1, rfl⟩
  | _ => cases h2
theorem inn_ne {bs : List Bx} {cs : List Cb} (w : WF bs cs) : ∃ n, (bs.filterMap inName).head? = some n ∧ okName n := by
  obtain ⟨k, hk⟩ := List.exists_mem_of_length_pos (ins_ne w)
  obtain ⟨n, e⟩ := in_at hk
  have hm : n ∈ bs.filterMap inName := List.mem_filterMap.mpr ⟨_, List.mem_of_getElem? e, rfl⟩
  cases e2 : bs.filterMap inName with
  | nil => rw [e2] at hm; cases hm
  | cons x r =>
    refine ⟨x, rfl, ?_⟩
    obtain ⟨b, h1, h2⟩ := inn_names (bs := bs) (n := x) (by rw [e2]; simp)
    have := w.box b h1
    rw [h2] at this
    exact this
theorem call_bad_box {C : Cl} {s : VS} {j : Nat} {xs : List D} {bs : List Bx} {cs : List Cb} {Q : L → VS → Prop} (hs : at? s j = some (.own xs)) (h : Dice xs) (w : WF bs cs) (hq : ∀ (x : D) xs' n, (bs.filterMap inName).head? = some n → Dice xs' → (∀ pre : List Bx, n ∈ pre.filterMap Bx.name → BadBx pre x) → Q (.d x) (s.set j (some (.own xs')))) : wp (callF (fn__law_bad_box C) [.sl j, .dat (tD bs cs)]) s Q := by
  rw [wp_callF]
  simp only [to_args_sl, hs, to_some, to_args_dat, argsOf_nil]
  refine ⟨⟨rfl, rfl⟩, wp_def ?_⟩
  show wp (F__law_bad_box C) [some (.own xs), some (.d (tD bs cs)), none, none, none, none] _
  have hnb := w.nb
  simp only [F__law_bad_box, F__law_bad_box_0, wp_sSeq, F__law_bad_box_1]
  simp
  refine call_off rfl h (by omega) (by omega) fun r ys hy a b => ?_
  obtain ⟨m, em, m1, m2⟩ := far_pick a b
  simp only [L.data, to_some, em]
  simp
  refine call_off rfl hy (by omega) (by omega) fun f zs hz f0 f1 => ?_
  simp
  obtain ⟨far, hfar, g1⟩ : ∃ far : Int, 10 + f = far ∧ 10 ≤ far := ⟨_, rfl, by omega⟩
  rw [hfar]
  obtain ⟨n, hn, hno⟩ := inn_ne w
  have e : lcF (.nm 5) [5] (c2 dEq (fK (fS (f2 dIx (vLook 5) (fK (rt (.int 0)))))) (fK (rt (.str "in")))) (fS (f2 dIx (vLook 5) (fK (rt (.int 1))))) (bs.map Bx.d) [] [some (.own zs), some (.d (tD bs cs)), some (.d (.int far)), none, none, none]
      = some ((bs.filterMap inName).map D.str, [some (.own zs), some (.d (tD bs cs)), some (.d (.int far)), none, none, none]) := by
    rw [lcF_pure (fun d => match d with | .tup [.str w, .str n] => if w = Str.ofString "in" then some (D.str n) else none | _ => none) (by simp; omega)]
    · congr 2
      rw [List.filterMap_map, List.map_filterMap]
      congr 1
      funext b
      cases b <;> simp [Bx.d, inName, Function.comp, ofStr_inj]
    · intro d hd
      obtain ⟨b, _, rfl⟩ := List.mem_map.mp hd
      cases b <;> simp [Bx.d, wipeV, ofStr_inj]
  obtain ⟨r', er⟩ : ∃ r', bs.filterMap inName = n :: r' := by
    cases e2 : bs.filterMap inName with
    | nil => rw [e2] at hn; cases hn
    | cons x r => rw [e2] at hn; cases hn; exact ⟨r, rfl⟩
  simp [F__law_bad_box_2, wp_fComp, wipeV, e, restV, keepD, er]
  simp [F__law_bad_box_3, F__law_bad_box_4, F__law_bad_box_5, F__law_bad_box_6]
  refine call_off rfl hz (by omega) (by omega) fun q vs hv q0 q1 => ?_
  simp
  refine to_atI q0 (by simp; omega) fun x hx => ?_
  simp [outs_eq, List.range_succ]
  refine hq x vs n hn hv fun pre hm => ?_
  simp only [List.mem_cons, List.not_mem_nil, or_false] at hx
  rcases hx with rfl | rfl | rfl | rfl | rfl | rfl | rfl | rfl | rfl | rfl | rfl | rfl | rfl | rfl | rfl | rfl | rfl | rfl | rfl | rfl
  · exact .dblI hno hm
  · exact .dblO hno hm
  · exact .name (.inl rfl) (by simp)
  · exact .name (.inl rfl) (by simp)
  · exact .name (.inr rfl) (by simp)
  · exact .name (.inl rfl) (by simp)
  · exact .size (k := 2) (by simp) (by decide +kernel)
  · exact .late rfl (.inl (by omega))
  · exact .late rfl (.inr (by omega))
  · exact .size (k := 2) (by simp) (by decide +kernel)
  · exact .size (k := 3) (by simp) (by decide +kernel)
  · exact .times (.inr (.inl (by omega)))
  · exact .times (.inl (by omega))
  · exact .part (.inl (by omega))
  · exact .part (.inr (.inl (by omega)))
  · exact .part (.inr (.inr (by omega)))
  · exact .times (.inr (.inr (by omega)))
  · exact .size (k := 0) (by simp) (by decide +kernel)
  · exact .size (k := 2) (by simp) (by decide +kernel)
  · exact .none
end Hd
namespace Hd
open PySem PySem.Spec PyProof.Rows L2 Ev
abbrev wD (ds es : List D) (k : Nat) (y : String) : D := .tup [.lst ds, .lst es, .int (k : Int), .str (Str.ofString y)]
theorem mid_pick {bs : List Bx} {cs : List Cb} (w : WF bs cs) {C : Cl} {s : VS} {j : Nat} {xs : List D} {Q : L → VS → Prop} (hs : at? s j = some (.own xs)) (h : Dice xs) (hq : ∀ (k : Nat) (r : Int) xs', Dice xs' → midAt bs k = true → k < bs.length → atI (nD (midsL bs)) r = some (.int (k : Int)) → Q (.d (.int r)) (s.set j (some (.own xs')))) : wp (callF (fn__law_off C) [.sl j, .dat (.int ((midsL bs).length : Int))]) s Q := by
  have h1 : 0 < (midsL bs).length := mids_ne w
  have h2 : (midsL bs).length ≤ bs.length := by
    have := List.length_filter_le (midAt bs) (List.range bs.length)
    simpa using this
  have h3 := w.nb
  obtain ⟨m, hm⟩ : ∃ m, (midsL bs).length = m := ⟨_, rfl⟩
  have h4 : (0 : Int) < ((midsL bs).length : Int) := by rw [hm] at h1 ⊢; omega
  have h5 : ((midsL bs).length : Int) < 1073741824 := by rw [hm] at h2 ⊢; omega
  refine call_off hs h h4 h5 fun r ys hy a b => ?_
  obtain ⟨r, rfl, _⟩ := nat_of a b
  have hr : r < (midsL bs).length := by omega
  have hm := List.getElem_mem hr
  obtain ⟨m1, m2⟩ := List.mem_filter.mp hm
  refine hq (midsL bs)[r] r ys hy m2 (List.mem_range.mp m1) ?_
  rw [Ev.atI_nat, List.getElem?_map, List.getElem?_eq_getElem hr]
  rfl
theorem midAt_get {bs : List Bx} {k : Nat} (h : midAt bs k = true) : ∃ b, bs[k]? = some b ∧ b.mid = true := by
  unfold midAt at h
  split at h
  · rename_i b hb; exact ⟨b, hb, h⟩
  · cases h
def rc (row : List Nat) (k : Nat) : Cb := ⟨row.getD k 0, row.getD ((k + 1) % row.length) 0, 0⟩
def rcs (row : List Nat) : List Cb := (List.range row.length).map (rc row)
theorem ring6 {C : Cl} {o0 o1 o2 o3 o4 o5 : Option L} {row : List Nat} {Q : Fl → VS → Prop} (h1 : 1 ≤ row.length) (h3 : row.length ≤ 3) (hq : Q (.rt (.own ((rcs row).map Cb.d))) [o0, o1, o2, o3, o4, o5, some (.d (.lst (nD row))), none, none]) : wp (F__law_ring_6 C) [o0, o1, o2, o3, o4, o5, some (.d (.lst (nD row))), none, none] Q := by
  simp [F__law_ring_6, wp_fComp, wipeV]
  refine ⟨by omega, ?_⟩
  refine lcF_inN (fun i acc s => acc = ((List.range i).map (rc row)).map Cb.d ∧ s = [o0, o1, o2, o3, o4, o5, some (.d (.lst (nD row))), none, none]) ⟨rfl, rfl⟩ ?_ ?_
  · rintro i d acc s N hd ⟨rfl, rfl⟩ hN
    obtain ⟨hin, rfl⟩ := rgD_get hd
    have ei : (0 : Int) + (i : Int) = (i : Int) := by omega
    rw [ei]
    have e2 : ((i : Int) + 1) % (row.length : Int) = ((i + 1) % row.length : Nat) := by simp
    have hmod : (i + 1) % row.length < row.length := Nat.mod_lt _ (by omega)
    have hz : ¬(row.length : Int) = 0 := by omega
    simp [bYes, Ev.atI_nat, List.getElem?_eq_getElem hin, wipeV, hz]
    refine ⟨by omega, ?_⟩
    rw [e2, Ev.atI_nat, List.getElem?_map, List.getElem?_eq_getElem hmod]
    simp
    refine ⟨by omega, hN _ _ ⟨?_, rfl⟩⟩
    simp [List.range_succ, rc, Cb.d, List.getElem?_eq_getElem hin, List.getElem?_eq_getElem hmod]
  · rintro acc s ⟨rfl, rfl⟩
    rw [rgD_len]
    simp [restV, keepD]
    simpa [rcs] using hq
theorem ring_fin {C : Cl} {s : VS} {j : Nat} {xs : List D} {bs : List Bx} {cs : List Cb} {k1 k2 k3 : Nat} {Q : L → VS → Prop} (h : Dice xs) (m1 : midAt bs k1 = true) (m2 : midAt bs k2 = true) (m3 : midAt bs k3 = true) (hq : ∀ (ys : List Cb) xs' a, Dice xs' → 1 ≤ ys.length → ys.length ≤ 3 → (∀ c ∈ ys, c.h = 0 ∧ midAt bs c.o = true ∧ midAt bs c.t = true) → ZPath ys a a → Q (.own (ys.map Cb.d)) (s.set j (some (.own xs')))) (row : List Nat) (ds : List D) (hr : row = [k1] ∨ row = [k1, k2] ∨ row = [k1, k3] ∨ row = [k1, k2, k3]) (hds : ds = nD row) : wp (F__law_ring_6 C) [some (.own xs), some (.d (tD bs cs)), some (.d (.lst (nD (midsL bs)))), some (.d (.int (k1 : Int))), some (.d (.int (k2 : Int))), some (.d (.int (k3 : Int))), some (.d (.lst ds)), none, none] (thenF sNil (retF 2 [0] fun l os => Q l (setO s [Pk.sl j, Pk.dat (tD bs cs)] os))) := by
  rw [hds]
  have hl : 1 ≤ row.length ∧ row.length ≤ 3 := by rcases hr with rfl | rfl | rfl | rfl <;> simp
  have hm : ∀ k ∈ row, midAt bs k = true := by
    intro k hk
    rcases hr with rfl | rfl | rfl | rfl <;> simp at hk
    · rw [hk]; exact m1
    · rcases hk with rfl | rfl <;> assumption
    · rcases hk with rfl | rfl <;> assumption
    · rcases hk with rfl | rfl | rfl <;> assumption
  have hz : ZPath (rcs row) k1 k1 := by
    rcases hr with rfl | rfl | rfl | rfl
    · have e : rcs [k1] = [⟨k1, k1, 0⟩] := by simp [rcs, rc, List.range_succ]
      rw [e]; exact ZPath.one (c := ⟨k1, k1, 0⟩) (by simp) rfl
    · have e : rcs [k1, k2] = [⟨k1, k2, 0⟩, ⟨k2, k1, 0⟩] := by simp [rcs, rc, List.range_succ]
      rw [e]; exact ZPath.step (c := ⟨k2, k1, 0⟩) (ZPath.one (c := ⟨k1, k2, 0⟩) (by simp) rfl) (by simp) rfl
    · have e : rcs [k1, k3] = [⟨k1, k3, 0⟩, ⟨k3, k1, 0⟩] := by simp [rcs, rc, List.range_succ]
      rw [e]; exact ZPath.step (c := ⟨k3, k1, 0⟩) (ZPath.one (c := ⟨k1, k3, 0⟩) (by simp) rfl) (by simp) rfl
    · have e : rcs [k1, k2, k3] = [⟨k1, k2, 0⟩, ⟨k2, k3, 0⟩, ⟨k3, k1, 0⟩] := by simp [rcs, rc, List.range_succ]
      rw [e]; exact ZPath.step (c := ⟨k3, k1, 0⟩) (ZPath.step (c := ⟨k2, k3, 0⟩) (ZPath.one (c := ⟨k1, k2, 0⟩) (by simp) rfl) (by simp) rfl) (by simp) rfl
  refine ring6 hl.1 hl.2 ?_
  simp [outs_eq, List.range_succ]
  have := hq (rcs row) xs k1 h (by simpa [rcs] using hl.1) (by simpa [rcs] using hl.2) (fun c hc => ?_) hz
  · simpa using this
  · obtain ⟨k, hk, rfl⟩ := List.mem_map.mp hc
    have hk := List.mem_range.mp hk
    have hmod : (k + 1) % row.length < row.length := Nat.mod_lt _ (by omega)
    refine ⟨rfl, hm _ ?_, hm _ ?_⟩
    · show row.getD k 0 ∈ row
      rw [List.getD_eq_getElem?_getD, List.getElem?_eq_getElem hk]; exact List.getElem_mem hk
    · show row.getD ((k + 1) % row.length) 0 ∈ row
      rw [List.getD_eq_getElem?_getD, List.getElem?_eq_getElem hmod]; exact List.getElem_mem hmod
theorem call_ring {C : Cl} {s : VS} {j : Nat} {xs : List D} {bs : List Bx} {cs : List Cb} {Q : L → VS → Prop} (hs : at? s j = some (.own xs)) (h : Dice xs) (w : WF bs cs) (hq : ∀ (ys : List Cb) xs' a, Dice xs' → 1 ≤ ys.length → ys.length ≤ 3 → (∀ c ∈ ys, c.h = 0 ∧ midAt bs c.o = true ∧ midAt bs c.t = true) → ZPath ys a a → Q (.own (ys.map Cb.d)) (s.set j (some (.own xs')))) : wp (callF (fn__law_ring C) [.sl j, .dat (tD bs cs)]) s Q := by
  rw [wp_callF]
  simp only [to_args_sl, hs, to_some, to_args_dat, argsOf_nil]
  refine ⟨⟨rfl, rfl⟩, wp_def ?_⟩
  show wp (F__law_ring C) [some (.own xs), some (.d (tD bs cs)), none, none, none, none, none, none, none] _
  have hnb := w.nb
  simp only [F__law_ring, F__law_ring_0, wp_sSeq, F__law_ring_1]
  simp
  refine call_mids hnb ?_
  simp only [F__law_ring_2, F__law_ring_3, F__law_ring_4]
  simp
  refine mid_pick w rfl h fun k1 r1 xs h m1 l1 e1 => ?_
  simp [e1]
  refine mid_pick w rfl h fun k2 r2 xs h m2 l2 e2 => ?_
  simp [e2]
  refine mid_pick w rfl h fun k3 r3 xs h m3 l3 e3 => ?_
  simp [e3]
  simp [F__law_ring_5, wp_fComp, wipeV]
  have eA : lcF (.nm 8) [8] (c2 dNe (vLook 8) (vLook 3)) (vGet 8) [D.int (k2 : Int)] [] [some (.own xs), some (.d (tD bs cs)), some (.d (.lst (nD (midsL bs)))), some (.d (.int (k1 : Int))), some (.d (.int (k2 : Int))), some (.d (.int (k3 : Int))), none, none, none]
      = some (nD (if k2 = k1 then [] else [k2]), [some (.own xs), some (.d (tD bs cs)), some (.d (.lst (nD (midsL bs)))), some (.d (.int (k1 : Int))), some (.d (.int (k2 : Int))), some (.d (.int (k3 : Int))), none, none, none]) := by
    rw [lcF_pure (fun d => if (k2 : Int) = (k1 : Int) then none else some (.int (k2 : Int))) (by simp)]
    · by_cases q : k2 = k1
      · simp [q, nD]
      · have q2 : ¬((k2 : Int) = (k1 : Int)) := by omega
        simp [q, q2, nD]
    · intro d hd
      rw [List.mem_singleton.mp hd]
      by_cases q : (k2 : Int) = (k1 : Int) <;> simp [wipeV, q]
  have eB : lcF (.nm 8) [8] (c2 dNotIn (vLook 8) (fK (fTup (aCons (vGet 3) (aCons (vGet 4) aNil))))) (vGet 8) [D.int (k3 : Int)] [] [some (.own xs), some (.d (tD bs cs)), some (.d (.lst (nD (midsL bs)))), some (.d (.int (k1 : Int))), some (.d (.int (k2 : Int))), some (.d (.int (k3 : Int))), none, none, none]
      = some (nD (if k3 = k1 ∨ k3 = k2 then [] else [k3]), [some (.own xs), some (.d (tD bs cs)), some (.d (.lst (nD (midsL bs)))), some (.d (.int (k1 : Int))), some (.d (.int (k2 : Int))), some (.d (.int (k3 : Int))), none, none, none]) := by
    rw [lcF_pure (fun d => if (k3 : Int) = (k1 : Int) ∨ (k3 : Int) = (k2 : Int) then none else some (.int (k3 : Int))) (by simp)]
    · by_cases q : k3 = k1 ∨ k3 = k2
      · have q2 : (k3 : Int) = (k1 : Int) ∨ (k3 : Int) = (k2 : Int) := by omega
        rw [if_pos q]
        simp [q2, nD]
      · have q2 : ¬((k3 : Int) = (k1 : Int) ∨ (k3 : Int) = (k2 : Int)) := by omega
        rw [if_neg q]
        simp [q2, nD]
    · intro d hd
      rw [List.mem_singleton.mp hd]
      by_cases q : (k3 : Int) = (k1 : Int) ∨ (k3 : Int) = (k2 : Int) <;> simp [wipeV, q]
  simp [eA, eB, restV, keepD, wipeV]
  obtain ⟨row, hrow, hds, hn1, hn2⟩ : ∃ row : List Nat, (row = [k1] ∨ row = [k1, k2] ∨ row = [k1, k3] ∨ row = [k1, k2, k3]) ∧ (D.int (k1 : Int) :: (nD (if k2 = k1 then [] else [k2]) ++ nD (if k3 = k1 ∨ k3 = k2 then [] else [k3]))) = nD row ∧ (if k2 = k1 then [] else [k2]).length ≤ 1 ∧ (if k3 = k1 ∨ k3 = k2 then [] else [k3]).length ≤ 1 := by
    by_cases q1 : k2 = k1 <;> by_cases q2 : k3 = k1 ∨ k3 = k2
    · exact ⟨[k1], .inl rfl, by rw [if_pos q1, if_pos q2]; rfl, by rw [if_pos q1]; decide, by rw [if_pos q2]; decide⟩
    · exact ⟨[k1, k3], .inr (.inr (.inl rfl)), by rw [if_pos q1, if_neg q2]; rfl, by rw [if_pos q1]; decide, by rw [if_neg q2]; exact Nat.le_refl 1⟩
    · exact ⟨[k1, k2], .inr (.inl rfl), by rw [if_neg q1, if_pos q2]; rfl, by rw [if_neg q1]; exact Nat.le_refl 1, by rw [if_pos q2]; decide⟩
    · exact ⟨[k1, k2, k3], .inr (.inr (.inr rfl)), by rw [if_neg q1, if_neg q2]; rfl, by rw [if_neg q1]; exact Nat.le_refl 1, by rw [if_neg q2]; exact Nat.le_refl 1⟩
  rw [hds]
  refine ⟨by omega, by omega, ?_⟩
  exact ring_fin h m1 m2 m3 hq row _ hrow rfl
theorem cutL_over {α : Type} {xs : List α} {a : Nat} (h : xs.length ≤ a) : cutL xs none (some (a : Int)) = xs := by
  unfold cutL
  rw [HT.sIx_nat, HT.sIx_none, Nat.min_eq_right h]
  simp
theorem apart2 {C : Cl} {bs : List Bx} {cs ring0 : List Cb} {k1 more : Nat} {ys : List D} {o3 : Option L} {R : L → VS → Prop} (w : WF bs cs) (h9 : bs.length < 9) (h18 : cs.length < 18) (m1 : midAt bs k1 = true) (l1 : k1 < bs.length) (h : Dice ys) (hr : (more = 0 ∧ ring0 = [⟨bs.length, bs.length, 1⟩]) ∨ (more = 1 ∧ ring0 = [⟨bs.length, bs.length + 1, 1⟩, ⟨bs.length + 1, bs.length, 0⟩]))
    (hq : ∀ ds es k y xs', Dice xs' → Bad C ds es k y → R (.d (wD ds es k y)) [some (.own xs'), none]) : wp (F__law_apart_7 C) [some (.own ys), some (.d (tD bs cs)), some (.d (.int (bs.length : Int))), o3, some (.d (.int (k1 : Int))), some (.d (.int (more : Int))), some (.own (ring0.map Cb.d)), some (.d (.lst (bs.map Bx.d))), some (.d (.lst (cs.map Cb.d)))] (thenF (sSeq (F__law_apart_8 C) (sSeq (F__law_apart_11 C) sNil)) (retF 2 [0] R)) := by
  have hrl : 1 ≤ ring0.length ∧ ring0.length ≤ 2 := by rcases hr with ⟨_, rfl⟩ | ⟨_, rfl⟩ <;> simp
  have hml : more ≤ 1 := by omega
  obtain ⟨b1, eb1, hb1⟩ := midAt_get m1
  simp [F__law_apart_7]
  refine call_off rfl h (by omega) (by omega) fun r zs hz a b => ?_
  obtain ⟨lk, elk, hlk⟩ : ∃ lk : Cb, atI [D.tup [.int (bs.length : Int), .int (k1 : Int), .int 0], D.tup [.int (k1 : Int), .int ((bs.length : Int) + (more : Int)), .int 0]] r = some lk.d ∧ (lk = ⟨bs.length, k1, 0⟩ ∨ lk = ⟨k1, bs.length + more, 0⟩) := by
    have : r = 0 ∨ r = 1 := by omega
    rcases this with rfl | rfl
    · exact ⟨⟨bs.length, k1, 0⟩, rfl, .inl rfl⟩
    · exact ⟨⟨k1, bs.length + more, 0⟩, rfl, .inr rfl⟩
  simp [elk]
  refine ⟨by omega, ?_⟩
  simp only [F__law_apart_8]
  simp
  refine call_off rfl hz (by omega) (by omega) fun q vs hv q0 q1 => ?_
  simp
  obtain ⟨ex, hexl, hex, key⟩ : ∃ ex : List Cb, ex.length ≤ 1 ∧ (∀ c ∈ ex, c = ⟨k1, k1, 0⟩) ∧ ((wp (F__law_apart_11 C) [some (.own vs), some (.d (tD bs cs)), some (.d (.int (bs.length : Int))), o3, some (.d (.int (k1 : Int))), some (.d (.int (more : Int))), some (.own ((ring0 ++ lk :: ex).map Cb.d)), some (.d (.lst (bs.map Bx.d))), some (.d (.lst (cs.map Cb.d)))] (thenF sNil (retF 2 [0] R))) → (if q = 0 then wp (F__law_apart_9 C) [some (.own vs), some (.d (tD bs cs)), some (.d (.int (bs.length : Int))), o3, some (.d (.int (k1 : Int))), some (.d (.int (more : Int))), some (.own (ring0.map Cb.d ++ [lk.d])), some (.d (.lst (bs.map Bx.d))), some (.d (.lst (cs.map Cb.d)))] (thenF (sSeq (F__law_apart_11 C) sNil) (retF 2 [0] R)) else wp (F__law_apart_11 C) [some (.own vs), some (.d (tD bs cs)), some (.d (.int (bs.length : Int))), o3, some (.d (.int (k1 : Int))), some (.d (.int (more : Int))), some (.own (ring0.map Cb.d ++ [lk.d])), some (.d (.lst (bs.map Bx.d))), some (.d (.lst (cs.map Cb.d)))] (thenF sNil (retF 2 [0] R)))) := by
    by_cases hq0 : q = 0
    · refine ⟨[⟨k1, k1, 0⟩], by simp, fun c hc => List.mem_singleton.mp hc, fun hh => ?_⟩
      rw [if_pos hq0]
      simp [F__law_apart_9, F__law_apart_10]
      refine ⟨by omega, ?_⟩
      simpa [Cb.d] using hh
    · refine ⟨[], by simp, (fun c hc => by cases hc), fun hh => ?_⟩
      rw [if_neg hq0]
      simpa using hh
  refine key ?_
  have hcut : (20 : Int) - (cs.length : Int) = ((20 - cs.length : Nat) : Int) := by omega
  have hlen4 : (ring0 ++ lk :: ex).length ≤ 4 := by simp; omega
  have htk : cutL ((ring0 ++ lk :: ex).map Cb.d) none (some ((20 : Int) - (cs.length : Int))) = ((ring0 ++ lk :: ex).take (20 - cs.length)).map Cb.d := by
    rw [hcut]
    rcases Nat.lt_or_ge ((ring0 ++ lk :: ex).map Cb.d).length (20 - cs.length) with z | z
    · rw [cutL_over (by omega), List.take_of_length_le (by simpa using Nat.le_of_lt z)]
    · rw [cutL_take z, List.map_take]
  have htk2 : cutL (ring0.map Cb.d ++ lk.d :: ex.map Cb.d) none (some ((20 : Int) - (cs.length : Int))) = ((ring0 ++ lk :: ex).take (20 - cs.length)).map Cb.d := by
    rw [← htk]; simp
  have hto : ((1 : Int) + (more : Int)).toNat = 1 + more := by omega
  simp [F__law_apart_11, htk2, hto]
  refine ⟨by omega, by omega, by omega, ?_⟩
  have hb : ∀ i, bs.length ≤ i → i < bs.length + (1 + more) → ∃ b, (bs ++ List.replicate (1 + more) (Bx.sum 1))[i]? = some b ∧ b.mid = true := fun i i1 i2 => by
    refine ⟨.sum 1, ?_, rfl⟩
    rw [List.getElem?_append_right i1, List.getElem?_replicate, if_pos (by omega)]
  have hk : ∃ b, (bs ++ List.replicate (1 + more) (Bx.sum 1))[k1]? = some b ∧ b.mid = true := ⟨b1, by rw [List.getElem?_append_left l1]; exact eb1, hb1⟩
  have hr0 : ∀ c ∈ ring0, bs.length ≤ c.o ∧ c.o < bs.length + (1 + more) ∧ bs.length ≤ c.t ∧ c.t < bs.length + (1 + more) ∧ 0 ≤ c.h ∧ c.h ≤ 99 := by
    rcases hr with ⟨rfl, rfl⟩ | ⟨rfl, rfl⟩
    · intro c hc; rw [List.mem_singleton.mp hc]; simp
    · intro c hc
      rcases List.mem_cons.mp hc with rfl | hc
      · simp
      · rw [List.mem_singleton.mp hc]; simp
  have hall : ∀ c ∈ (ring0 ++ lk :: ex).take (20 - cs.length), c ∈ ring0 ∨ c = lk ∨ c = ⟨k1, k1, 0⟩ := fun c hc => by
    have := List.mem_of_mem_take hc
    rcases List.mem_append.mp this with z | z
    · exact .inl z
    · rcases List.mem_cons.mp z with z | z
      · exact .inr (.inl z)
      · exact .inr (.inr (hex c z))
  have bad := bad_behind (C := C) (xs := List.replicate (1 + more) (Bx.sum 1)) (ys := (ring0 ++ lk :: ex).take (20 - cs.length)) w (by rw [Nat.add_comm, List.replicate_succ]; simp) (fun b hb => by rw [List.eq_of_mem_replicate hb]; exact ⟨rfl, by show (0 : Int) ≤ 1 ∧ (1 : Int) ≤ 9; omega⟩) (by simp; omega) (by rw [List.length_append, List.length_take]; omega) (fun c hc => ?_) ?_
  · have := hq _ _ _ _ vs hv bad
    simpa [outs_eq, List.range_succ, Bx.d] using this
  · rcases hall c hc with z | z | z
    · have := hr0 c z
      exact ⟨this.2.2.2.2.1, this.2.2.2.2.2, hb _ this.1 this.2.1, hb _ this.2.2.1 this.2.2.2.1⟩
    · rw [z]
      rcases hlk with rfl | rfl
      · exact ⟨by simp, by simp, hb bs.length (by omega) (by omega), hk⟩
      · exact ⟨by simp, by simp, hk, hb (bs.length + more) (by omega) (by omega)⟩
    · rw [z]; exact ⟨by simp, by simp, hk, hk⟩
  · rcases hlk with rfl | rfl
    · refine .inl fun c hc hct => ?_
      rcases hall c hc with z | z | z
      · exact (hr0 c z).1
      · rw [z]; simp
      · rw [z] at hct; simp at hct; omega
    · refine .inr fun c hc hct => ?_
      rcases hall c hc with z | z | z
      · exact (hr0 c z).2.2.1
      · rw [z]; simp
      · rw [z] at hct; simp at hct; omega
theorem call_apart {C : Cl} {s : VS} {j : Nat} {xs : List D} {bs : List Bx} {cs : List Cb} {Q : L → VS → Prop} (hs : at? s j = some (.own xs)) (h : Dice xs) (w : WF bs cs) (h9 : bs.length < 9) (h18 : cs.length < 18) (hq : ∀ ds es k y xs', Dice xs' → Bad C ds es k y → Q (.d (wD ds es k y)) (s.set j (some (.own xs')))) : wp (callF (fn__law_apart C) [.sl j, .dat (tD bs cs)]) s Q := by
  rw [wp_callF]
  simp only [to_args_sl, hs, to_some, to_args_dat, argsOf_nil]
  refine ⟨⟨rfl, rfl⟩, wp_def ?_⟩
  show wp (F__law_apart C) [some (.own xs), some (.d (tD bs cs)), none, none, none, none, none, none, none] _
  have hnb := w.nb
  simp only [F__law_apart, F__law_apart_0, wp_sSeq, F__law_apart_1]
  simp [F__law_apart_2, F__law_apart_3]
  refine call_mids hnb ?_
  simp only [F__law_apart_4]
  simp
  refine mid_pick w rfl h fun k1 r1 xs h m1 l1 e1 => ?_
  simp [e1]
  simp only [F__law_apart_5]
  simp
  refine call_off rfl h (by omega) (by omega) fun r ys hy a b => ?_
  simp [F__law_apart_6]
  have : r = 0 ∨ r = 1 := by omega
  rcases this with rfl | rfl
  · have := apart2 (C := C) (more := 0) (ring0 := [⟨bs.length, bs.length, 1⟩]) (o3 := some (.d (.lst (nD (midsL bs))))) (R := fun l os => Q l (setO s [Pk.sl j, Pk.dat (tD bs cs)] os)) w h9 h18 m1 l1 hy (.inl ⟨rfl, rfl⟩) (fun ds es k y xs' a b => by simpa using hq ds es k y xs' a b)
    simpa [pickI, Cb.d] using this
  · have := apart2 (C := C) (more := 1) (ring0 := [⟨bs.length, bs.length + 1, 1⟩, ⟨bs.length + 1, bs.length, 0⟩]) (o3 := some (.d (.lst (nD (midsL bs))))) (R := fun l os => Q l (setO s [Pk.sl j, Pk.dat (tD bs cs)] os)) w h9 h18 m1 l1 hy (.inr ⟨rfl, rfl⟩) (fun ds es k y xs' a b => by simpa using hq ds es k y xs' a b)
    simpa [pickI, Cb.d] using this
end Hd
namespace Hd
open PySem PySem.Spec PyProof.Rows L2 Ev
theorem endsLen {bs : List Bx} {w : String} : (endsL bs w).length ≤ bs.length := by
  have := List.length_filter_le (wordIs bs (Str.ofString w)) (List.range bs.length)
  simpa using this
theorem out_pick {bs : List Bx} {cs : List Cb} (w : WF bs cs) {C : Cl} {s : VS} {j : Nat} {xs : List D} {Q : L → VS → Prop} (hs : at? s j = some (.own xs)) (h : Dice xs) (hq : ∀ (k : Nat) (n : Str) (r : Int) xs', Dice xs' → bs[k]? = some (.out n) → atI (nD (endsL bs "out")) r = some (.int (k : Int)) → Q (.d (.int r)) (s.set j (some (.own xs')))) : wp (callF (fn__law_off C) [.sl j, .dat (.int ((endsL bs "out").length : Int))]) s Q := by
  have h1 : 0 < (endsL bs "out").length := outs_ne w
  have h2 : (endsL bs "out").length ≤ bs.length := endsLen
  have h3 := w.nb
  obtain ⟨m, hm⟩ : ∃ m, (endsL bs "out").length = m := ⟨_, rfl⟩
  have h4 : (0 : Int) < ((endsL bs "out").length : Int) := by rw [hm] at h1 ⊢; omega
  have h5 : ((endsL bs "out").length : Int) < 1073741824 := by rw [hm] at h2 ⊢; omega
  refine call_off hs h h4 h5 fun r ys hy a b => ?_
  obtain ⟨r, rfl, _⟩ := nat_of a b
  have hr : r < (endsL bs "out").length := by omega
  obtain ⟨n, e⟩ := out_at (List.getElem_mem hr)
  refine hq _ n r ys hy e ?_
  rw [Ev.atI_nat, List.getElem?_map, List.getElem?_eq_getElem hr]
  rfl
theorem in_first {bs : List Bx} {cs : List Cb} (w : WF bs cs) : ∃ (k : Nat) (n : Str), bs[k]? = some (.inn n) ∧ atI (nD (endsL bs "in")) 0 = some (.int (k : Int)) := by
  have h1 : 0 < (endsL bs "in").length := ins_ne w
  obtain ⟨n, e⟩ := in_at (List.getElem_mem h1)
  refine ⟨_, n, e, ?_⟩
  have := Ev.atI_nat (xs := nD (endsL bs "in")) 0
  rw [List.getElem?_map, List.getElem?_eq_getElem h1] at this
  exact this
theorem out_first {bs : List Bx} {cs : List Cb} (w : WF bs cs) : ∃ (k : Nat) (n : Str), bs[k]? = some (.out n) ∧ atI (nD (endsL bs "out")) 0 = some (.int (k : Int)) := by
  have h1 : 0 < (endsL bs "out").length := outs_ne w
  obtain ⟨n, e⟩ := out_at (List.getElem_mem h1)
  refine ⟨_, n, e, ?_⟩
  have := Ev.atI_nat (xs := nD (endsL bs "out")) 0
  rw [List.getElem?_map, List.getElem?_eq_getElem h1] at this
  exact this
abbrev loS (bs : List Bx) (cs : List Cb) (xs : List D) (o : Nat) (way : Int) : VS := [some (.own xs), some (.d (tD bs cs)), some (.d (.lst (nD (endsL bs "out")))), some (.d (.int (o : Int))), some (.d (.int way)), none, none, none, some (.d (.lst (bs.map Bx.d))), some (.d (.lst (cs.map Cb.d))), none, none, none]
theorem lone_tail {C : Cl} {xs : List D} {bs : List Bx} {cs : List Cb} {o : Nat} {way : Int} {R : L → VS → Prop} (h : Dice xs) (w : WF bs cs) (h10 : bs.length < 10) (hq : ∀ ds es k y xs', Dice xs' → Bad C ds es k y → R (.d (wD ds es k y)) [some (.own xs'), none]) : wp (F__law_lonely_11 C) (loS bs cs xs o way) (thenF (sSeq (F__law_lonely_12 C) (sSeq (F__law_lonely_13 C) (sSeq (F__law_lonely_14 C) sNil))) (retF 2 [0] R)) := by
  have hnb := w.nb
  have hnc := w.nc
  simp [F__law_lonely_11]
  refine call_off rfl h (by omega) (by omega) fun p zs hz p0 p1 => ?_
  obtain ⟨p, rfl, _⟩ := nat_of p0 p1
  have hp : p ≤ bs.length := by omega
  simp [F__law_lonely_12, wp_fComp, wipeV]
  have e : lcF (.tp [.nm 10, .nm 11, .nm 12]) [10, 11, 12] bYes (fTup (aCons (fS (f2 dAdd (vLook 10) (fK (fS (fN dIntA (kCons (fK (fBl (c2 dGe (vLook 10) (vLook 5)))) kNil)))))) (aCons (fS (f2 dAdd (vLook 11) (fK (fS (fN dIntA (kCons (fK (fBl (c2 dGe (vLook 11) (vLook 5)))) kNil)))))) (aCons (vGet 12) aNil)))) (cs.map Cb.d) []
      [some (.own zs), some (.d (tD bs cs)), some (.d (.lst (nD (endsL bs "out")))), some (.d (.int (o : Int))), some (.d (.int way)), some (.d (.int (p : Int))), none, none, some (.d (.lst (bs.map Bx.d))), some (.d (.lst (cs.map Cb.d))), none, none, none]
      = some ((cs.map (reCb (shf p))).map Cb.d, [some (.own zs), some (.d (tD bs cs)), some (.d (.lst (nD (endsL bs "out")))), some (.d (.int (o : Int))), some (.d (.int way)), some (.d (.int (p : Int))), none, none, some (.d (.lst (bs.map Bx.d))), some (.d (.lst (cs.map Cb.d))), none, none, none]) := by
    rw [lcF_pure (fun d => match d with | .tup [.int a, .int b, h] => some (.tup [.int (a + if (p : Int) ≤ a then 1 else 0), .int (b + if (p : Int) ≤ b then 1 else 0), h]) | _ => none) (by simp; omega)]
    · congr 2
      rw [List.filterMap_map, List.map_map, ← List.filterMap_eq_map]
      congr 1
      funext c
      simp only [Function.comp, Cb.d, reCb, shf]
      have e1 : ∀ k : Nat, ((k : Int) + if (p : Int) ≤ (k : Int) then 1 else 0) = ((k + if p ≤ k then 1 else 0 : Nat) : Int) := fun k => by
        by_cases z : p ≤ k
        · have z2 : (p : Int) ≤ (k : Int) := by omega
          rw [if_pos z, if_pos z2]; omega
        · have z2 : ¬((p : Int) ≤ (k : Int)) := by omega
          rw [if_neg z, if_neg z2]; omega
      rw [e1, e1]
    · intro d hd
      obtain ⟨c, _, rfl⟩ := List.mem_map.mp hd
      simp [Cb.d, bYes, wipeV]
  rw [e]
  simp [restV, keepD, wipeV, F__law_lonely_13]
  refine call_off rfl hz (by omega) (by omega) fun q vs hv q0 q1 => ?_
  obtain ⟨x, ex, hx⟩ : ∃ x : Bx, atI [D.tup [.str (Str.ofString "sum"), .int 1], D.tup [.str (Str.ofString "in"), .str (Str.ofString "lone")], D.tup [.str (Str.ofString "out"), .str (Str.ofString "lone")]] q = some x.d ∧ (x = .sum 1 ∨ x = .inn (Str.ofString "lone") ∨ x = .out (Str.ofString "lone")) := by
    have : q = 0 ∨ q = 1 ∨ q = 2 := by omega
    rcases this with rfl | rfl | rfl
    · exact ⟨.sum 1, rfl, .inl rfl⟩
    · exact ⟨.inn (Str.ofString "lone"), rfl, .inr (.inl rfl)⟩
    · exact ⟨.out (Str.ofString "lone"), rfl, .inr (.inr rfl)⟩
  simp [ex, F__law_lonely_14]
  rw [cutL_take (by simpa using hp), cutL_drop (by simpa using hp)]
  have := hq _ _ _ _ vs hv (bad_alone (C := C) w hp h10 hx)
  refine ⟨by simp; omega, by simp; omega, ?_⟩
  simpa [outs_eq, List.range_succ] using this
theorem call_lonely {C : Cl} {s : VS} {j : Nat} {xs : List D} {bs : List Bx} {cs : List Cb} {Q : L → VS → Prop} (hs : at? s j = some (.own xs)) (h : Dice xs) (w : WF bs cs) (h10 : bs.length < 10) (hq : ∀ ds es k y xs', Dice xs' → Bad C ds es k y → Q (.d (wD ds es k y)) (s.set j (some (.own xs')))) : wp (callF (fn__law_lonely C) [.sl j, .dat (tD bs cs)]) s Q := by
  rw [wp_callF]
  simp only [to_args_sl, hs, to_some, to_args_dat, argsOf_nil]
  refine ⟨⟨rfl, rfl⟩, wp_def ?_⟩
  show wp (F__law_lonely C) [some (.own xs), some (.d (tD bs cs)), none, none, none, none, none, none, none, none, none, none, none] _
  have hnb := w.nb
  have hnc := w.nc
  simp only [F__law_lonely, F__law_lonely_0, wp_sSeq, F__law_lonely_1]
  simp [F__law_lonely_2]
  refine call_ends hnb ?_
  simp only [F__law_lonely_3]
  simp
  refine out_pick w rfl h fun o n r1 xs h ho e1 => ?_
  simp [e1]
  simp only [F__law_lonely_4]
  simp
  refine call_off rfl h (by omega) (by omega) fun way ys hy a b => ?_
  have hR : ∀ ds es k y xs', Dice xs' → Bad C ds es k y → (fun l os => Q l (setO s [Pk.sl j, Pk.dat (tD bs cs)] os)) (.d (wD ds es k y)) [some (.own xs'), none] := fun ds es k y xs' a b => by simpa using hq ds es k y xs' a b
  have tail := lone_tail (C := C) (o := o) (way := way) (R := fun l os => Q l (setO s [Pk.sl j, Pk.dat (tD bs cs)] os)) hy w h10 hR
  have mid : wp (F__law_lonely_8 C) (loS bs cs ys o way) (thenF (sSeq (F__law_lonely_11 C) (sSeq (F__law_lonely_12 C) (sSeq (F__law_lonely_13 C) (sSeq (F__law_lonely_14 C) sNil)))) (retF 2 [0] fun l os => Q l (setO s [Pk.sl j, Pk.dat (tD bs cs)] os))) := by
    simp only [F__law_lonely_8]
    by_cases c1 : 1 < way
    · by_cases c2 : (bs.length : Int) < 9
      · by_cases c3 : (cs.length : Int) < 18
        · simp [c1, c2, c3, F__law_lonely_9, F__law_lonely_10]
          refine call_apart rfl hy w (by omega) (by omega) fun ds es k y xs' d b => ?_
          simp [outs_eq, List.range_succ]
          simpa using hq ds es k y xs' d b
        · simp [c1, c2, c3]; exact tail
      · simp [c1, c2]; exact tail
    · simp [c1]; exact tail
  simp only [F__law_lonely_5]
  by_cases c1 : way = 0
  · by_cases c2 : (cs.length : Int) < 20
    · obtain ⟨i, m, hi, e2⟩ := in_first w
      simp [c1, c2, F__law_lonely_6, F__law_lonely_7]
      refine call_ends hnb ?_
      simp [e2]
      refine ⟨by omega, ?_⟩
      have := hq _ _ _ _ ys hy (bad_two (C := C) w hi ho (by omega))
      simpa [outs_eq, List.range_succ, Cb.d] using this
    · simp [c1, c2]; rw [c1] at mid; exact mid
  · simp [c1]; exact mid
end Hd
namespace Hd
open PySem PySem.Spec PyProof.Rows L2 Ev
abbrev wrS (bs : List Bx) (cs : List Cb) (xs : List D) (way far : Int) : VS := [some (.own xs), some (.d (tD bs cs)), some (.d (.int way)), some (.d (.int (bs.length : Int))), some (.d (.int far)), none, none, some (.d (.lst (bs.map Bx.d))), some (.d (.lst (cs.map Cb.d))), none, none, none, none, none]
theorem w_boxes {C : Cl} {xs : List D} {bs : List Bx} {cs : List Cb} {way far : Int} {G : M Fl} {R : L → VS → Prop} (h : Dice xs) (w : WF bs cs) (hq : ∀ ds es k y xs', Dice xs' → Bad C ds es k y → R (.d (wD ds es k y)) [some (.own xs'), none]) : wp (F__law_wrong_6 C) (wrS bs cs xs way far) (thenF G (retF 2 [0] R)) := by
  have hnb := w.nb
  simp [F__law_wrong_6, F__law_wrong_7]
  refine ⟨by omega, ?_⟩
  refine call_off rfl h (by omega) (by omega) fun r ys hy a b => ?_
  have : r = 0 ∨ r = 1 := by omega
  rcases this with rfl | rfl
  · have := hq _ _ _ _ ys hy (bad_boxes (C := C) (ds := []) (es := [.tup [.int 0, .int 99, .int 0]]) (by simp) (by simp) (by simp))
    simpa [outs_eq, List.range_succ, atI, ixN, wD] using this
  · have := hq _ _ _ _ ys hy (bad_boxes (C := C) (ds := bs.map Bx.d ++ List.replicate 10 (.tup [.str (Str.ofString "sum"), .int 0])) (es := [.tup [.int 0, .int 99, .int 0]]) (fun z => by have z := z.2; have := w.pos; rw [List.length_append, List.length_map, List.length_replicate] at z; omega) (by simp; omega) (by simp))
    simpa [outs_eq, List.range_succ, atI, ixN, wD] using this
theorem w_cables {C : Cl} {xs : List D} {bs : List Bx} {cs : List Cb} {way far : Int} {G : M Fl} {R : L → VS → Prop} (h : Dice xs) (w : WF bs cs) (hq : ∀ ds es k y xs', Dice xs' → Bad C ds es k y → R (.d (wD ds es k y)) [some (.own xs'), none]) : wp (F__law_wrong_14 C) (wrS bs cs xs way far) (thenF G (retF 2 [0] R)) := by
  have hnb := w.nb
  have hnc := w.nc
  have hcp := wf_cables w
  have key : ∀ E : List D, E.length = cs.length * 21 → R (.d (.tup [.lst (bs.map Bx.d), .lst (cutL E none (some 21)), .int 0, .str (Str.ofString "cables")])) [some (.own xs), none] := fun E hE => by
    have e : cutL E none (some 21) = E.take 21 := cutL_take (a := 21) (by omega)
    have hl : (E.take 21).length = 21 := by rw [List.length_take]; omega
    rw [e]
    exact hq _ _ 0 "cables" xs h (bad_cables w.gb w.pos hnb (by omega) (by omega))
  simp [F__law_wrong_14, F__law_wrong_15, outs_eq, List.range_succ]
  refine ⟨by omega, key _ ?_⟩
  simp only [List.length_append, List.length_map]
  omega
theorem name_pre {bs : List Bx} {n n' : Str} {m a : Nat} (hn : (bs.filterMap inName).head? = some n) (hm : bs[m]? = some (.inn n')) (ha : m < a) : n ∈ (bs.take a).filterMap Bx.name := by
  induction bs generalizing m a with
  | nil => simp at hm
  | cons b r ih =>
    obtain ⟨a, rfl⟩ : ∃ a', a = a' + 1 := ⟨a - 1, by omega⟩
    rw [List.take_succ_cons]
    cases hb : inName b with
    | some x =>
      rw [List.filterMap_cons, hb] at hn
      cases b with
      | inn y =>
        cases hb
        cases hn
        simp [Bx.name]
      | _ => cases hb
    | none =>
      rw [List.filterMap_cons, hb] at hn
      cases m with
      | zero =>
        simp at hm
        subst hm
        cases hb
      | succ m =>
        have := ih hn (by simpa using hm) (a := a) (by omega)
        rw [List.filterMap_cons]
        split
        · exact this
        · exact List.mem_cons_of_mem _ this
theorem min_in {bs : List Bx} {cs : List Cb} (w : WF bs cs) : ∃ (m : Nat) (n : Str), bs[m]? = some (.inn n) ∧ dMin [.lst (nD (endsL bs "in"))] = some (.d (.int (m : Int))) := by
  have h1 : 0 < (endsL bs "in").length := ins_ne w
  have hmem : ∀ k ∈ endsL bs "in", ∃ n, bs[k]? = some (.inn n) := fun k hk => in_at hk
  generalize endsL bs "in" = l at h1 hmem
  cases l with
  | nil => simp at h1
  | cons k r =>
    have e : dMin [.lst (nD (k :: r))] = some (.d (.int (minL (k : Int) (r.map fun (k : Nat) => (k : Int))))) := by
      unfold dMin
      rw [nD_int]
      dsimp only
      rw [intsOf_map]
      rfl
    rw [e]
    obtain ⟨h2, _⟩ := minL_ok (k : Int) (r.map fun (k : Nat) => (k : Int))
    obtain ⟨m, hm, em⟩ : ∃ m ∈ k :: r, minL (k : Int) (r.map fun (k : Nat) => (k : Int)) = (m : Int) := by
      rcases List.mem_cons.mp h2 with z | z
      · exact ⟨k, by simp, z⟩
      · obtain ⟨m, h3, h4⟩ := List.mem_map.mp z
        exact ⟨m, List.mem_cons_of_mem _ h3, h4.symm⟩
    obtain ⟨n, hn⟩ := hmem m hm
    exact ⟨m, n, hn, by rw [em]⟩
theorem w_box {C : Cl} {xs : List D} {bs : List Bx} {cs : List Cb} {way far : Int} {G : M Fl} {R : L → VS → Prop} (h : Dice xs) (w : WF bs cs) (h10 : bs.length < 10) (hq : ∀ ds es k y xs', Dice xs' → Bad C ds es k y → R (.d (wD ds es k y)) [some (.own xs'), none]) : wp (F__law_wrong_9 C) (wrS bs cs xs way far) (thenF G (retF 2 [0] R)) := by
  have hnb := w.nb
  simp only [F__law_wrong_9, wp_sSeq, F__law_wrong_10]
  simp [wp_fComp, wipeV]
  refine ⟨by omega, ?_⟩
  refine lcF_inN (fun i acc s => acc = nD ((List.range i).filter (wordIs bs (Str.ofString "in"))) ∧ s = wrS bs cs xs way far) ⟨rfl, rfl⟩ ?_ ?_
  · rintro i d acc s N hd ⟨rfl, rfl⟩ hN
    obtain ⟨hin, rfl⟩ := rgD_get hd
    have ei : (0 : Int) + (i : Int) = (i : Int) := by omega
    rw [ei]
    have hrl : ((List.range i).filter (wordIs bs (Str.ofString "in"))).length ≤ i := by
      have := List.length_filter_le (wordIs bs (Str.ofString "in")) (List.range i)
      simpa using this
    have hwi : wordIs bs (Str.ofString "in") i = decide (bs[i].word = Str.ofString "in") := by unfold wordIs; rw [List.getElem?_eq_getElem hin]
    simp [Ev.atI_nat, List.getElem?_eq_getElem hin, wipeV]
    split
    · rename_i hq
      refine ⟨by omega, hN _ _ ⟨?_, rfl⟩⟩
      rw [List.range_succ, List.filter_append]
      simp [hwi, hq, nD]
    · rename_i hq
      refine hN _ _ ⟨?_, rfl⟩
      rw [List.range_succ, List.filter_append]
      simp [hwi, hq, nD]
  · rintro acc s ⟨rfl, rfl⟩
    rw [rgD_len]
    obtain ⟨m, n, hm, em⟩ := min_in w
    have hml := (List.getElem?_eq_some_iff.mp hm).1
    simp [restV, keepD, em, F__law_wrong_11]
    refine call_off rfl h (by omega) (by omega) fun r ys hy a b => ?_
    obtain ⟨r, rfl, _⟩ := nat_of a b
    obtain ⟨k, hk⟩ : ∃ k : Nat, (m : Int) + 1 + (r : Int) = (k : Int) := ⟨m + 1 + r, by omega⟩
    have hkl : k ≤ bs.length := by omega
    simp [F__law_wrong_12, hk]
    refine call_bad_box rfl hy w fun x zs n' hn' hz hx => ?_
    have ckl : (bs.take k).length = k := by rw [List.length_take]; omega
    simp [cutL_take (xs := bs.map Bx.d) (a := k) (by simpa using hkl), cutL_drop (xs := bs.map Bx.d) (a := k) (by simpa using hkl)]
    refine ⟨by omega, by omega, ?_⟩
    refine call_off rfl hz (by omega) (by omega) fun q vs hv q0 q1 => ?_
    have gb : GoodB (bs.take k) := ⟨fun b hb => w.box b (List.mem_of_mem_take hb), ((List.take_sublist k bs).filterMap Bx.name).nodup w.names⟩
    have bad := fun es (he : es.length ≤ 1000) => bad_box (C := C) (bs := bs.take k) (x := x) (rest := (bs.drop k).map Bx.d) (es := es) gb (hx _ (name_pre hn' hm (by omega))) (by simp; omega) he
    rw [ckl] at bad
    simp
    refine ⟨by omega, ?_⟩
    have := hq _ _ _ _ vs hv (bad (List.replicate q.toNat (D.tup [D.int 0, D.int 99, D.int 0])) (by simp; omega))
    simpa [outs_eq, List.range_succ] using this
end Hd
namespace Hd
open PySem PySem.Spec PyProof.Rows L2 Ev
abbrev wrT (bs : List Bx) (cs : List Cb) (xs : List D) (way far : Int) (at_ : Nat) : VS := [some (.own xs), some (.d (tD bs cs)), some (.d (.int way)), some (.d (.int (bs.length : Int))), some (.d (.int far)), some (.d (.int (at_ : Int))), none, some (.d (.lst (bs.map Bx.d))), some (.d (.lst (cs.map Cb.d))), none, some (.d (.lst (nD (endsL bs "in")))), some (.d (.lst (nD (endsL bs "out")))), none, none]
theorem w_cable {C : Cl} {xs : List D} {bs : List Bx} {cs : List Cb} {way far : Int} {at_ : Nat} {G : M Fl} {R : L → VS → Prop} (h : Dice xs) (w : WF bs cs) (h20 : cs.length < 20) (hat : at_ ≤ cs.length) (hfar : 0 ≤ far) (hq : ∀ ds es k y xs', Dice xs' → Bad C ds es k y → R (.d (wD ds es k y)) [some (.own xs'), none]) : wp (F__law_wrong_19 C) (wrT bs cs xs way far at_) (thenF G (retF 2 [0] R)) := by
  have hnb := w.nb
  obtain ⟨i, ni, hi, e1⟩ := in_first w
  obtain ⟨o, no, ho, e2⟩ := out_first w
  have hil := (List.getElem?_eq_some_iff.mp hi).1
  have hol := (List.getElem?_eq_some_iff.mp ho).1
  simp only [F__law_wrong_19, wp_sSeq, F__law_wrong_20]
  simp [e1, e2]
  simp only [F__law_wrong_21]
  simp [e1, e2]
  simp only [F__law_wrong_22]
  simp [e1, e2]
  simp only [F__law_wrong_23]
  simp
  refine call_off rfl h (by omega) (by omega) fun q ys hy q0 q1 => ?_
  simp
  refine to_atI q0 (by simp; omega) fun x hx => ?_
  obtain ⟨a, b, c, rfl, hb⟩ : ∃ a b c : Int, x = .tup [.int a, .int b, .int c] ∧ BadCb bs a b c := by
    simp only [List.mem_cons, List.not_mem_nil, or_false] at hx
    rcases hx with rfl | rfl | rfl | rfl | rfl | rfl | rfl | rfl
    · exact ⟨_, _, _, rfl, .inl (by omega)⟩
    · exact ⟨_, _, _, rfl, .inr (.inl (by omega))⟩
    · exact ⟨_, _, _, rfl, .inr (.inr (.inr (.inl (by omega))))⟩
    · exact ⟨_, _, _, rfl, .inr (.inr (.inl (by omega)))⟩
    · exact ⟨_, _, _, rfl, .inr (.inr (.inr (.inr (.inr (.inr (.inl ⟨o, _, rfl, ho, rfl⟩))))))⟩
    · exact ⟨_, _, _, rfl, .inr (.inr (.inr (.inr (.inr (.inr (.inr ⟨i, _, rfl, hi, rfl⟩))))))⟩
    · exact ⟨_, _, _, rfl, .inr (.inr (.inr (.inr (.inl (by omega)))))⟩
    · exact ⟨_, _, _, rfl, .inr (.inr (.inr (.inr (.inr (.inl (by omega))))))⟩
  have hatl : (cs.take at_).length = at_ := by rw [List.length_take]; omega
  have gc : GoodC bs (cs.take at_) := ⟨fun c hc => w.cab c (List.mem_of_mem_take hc), fun c hc => w.src c (List.mem_of_mem_take hc), fun c hc => w.dst c (List.mem_of_mem_take hc)⟩
  have bad := fun rest hr => bad_cable (C := C) (bs := bs) (cs := cs.take at_) (rest := rest) w.gb gc w.pos hnb hb hr
  rw [hatl] at bad
  simp [F__law_wrong_24, cutL_take (xs := cs.map Cb.d) (a := at_) (by simpa using hat), cutL_drop (xs := cs.map Cb.d) (a := at_) (by simpa using hat)]
  obtain ⟨e, he, he2⟩ : ∃ e : Nat, (if (cs.length : Int) < 19 then (1 : Int) else 0) = (e : Int) ∧ cs.length + 1 + e ≤ 20 := by
    by_cases z : (cs.length : Int) < 19
    · exact ⟨1, by rw [if_pos z]; rfl, by omega⟩
    · exact ⟨0, by rw [if_neg z]; rfl, by omega⟩
  rw [he]
  refine ⟨by omega, by omega, by omega, by omega, ?_⟩
  rw [Int.toNat_natCast]
  have := hq _ _ _ _ ys hy (bad (List.replicate e (D.tup [D.int 0, D.int 99, D.int 0]) ++ (cs.drop at_).map Cb.d) (by simp; omega))
  simpa [outs_eq, List.range_succ] using this
theorem w_ring {C : Cl} {xs : List D} {bs : List Bx} {cs : List Cb} {way far : Int} {at_ : Nat} {R : L → VS → Prop} (h : Dice xs) (w : WF bs cs) (hq : ∀ ds es k y xs', Dice xs' → Bad C ds es k y → R (.d (wD ds es k y)) [some (.own xs'), none]) : wp (F__law_wrong_28 C) (wrT bs cs xs way far at_) (thenF (sSeq (F__law_wrong_29 C) (sSeq (F__law_wrong_32 C) sNil)) (retF 2 [0] R)) := by
  have hnb := w.nb
  have hnc := w.nc
  simp [F__law_wrong_28]
  refine call_ring rfl h w fun ys zs a hz y1 y3 hy zp => ?_
  simp only [F__law_wrong_29]
  by_cases c1 : (20 : Int) < (cs.length : Int) + (ys.length : Int)
  · have key : ∀ E : List D, E.length = cs.length + ys.length * 20 → R (.d (.tup [.lst (bs.map Bx.d), .lst (cutL E none (some 21)), .int 0, .str (Str.ofString "cables")])) [some (.own zs), none] := fun E hE => by
      have e : cutL E none (some 21) = E.take 21 := cutL_take (a := 21) (by omega)
      have hl : (E.take 21).length = 21 := by rw [List.length_take]; omega
      rw [e]
      exact hq _ _ 0 "cables" zs hz (bad_cables w.gb w.pos hnb (by omega) (by omega))
    simp [c1, F__law_wrong_30, F__law_wrong_31, outs_eq, List.range_succ, -List.reduceReplicate]
    refine ⟨by omega, by omega, key _ ?_⟩
    simp [-List.reduceReplicate]
    omega
  · simp [c1, F__law_wrong_32, outs_eq, List.range_succ]
    refine ⟨by omega, ?_⟩
    have zp2 : ZPath (cs ++ ys) a a := by
      have mono : ∀ {x y}, ZPath ys x y → ZPath (cs ++ ys) x y := by
        intro x y z
        induction z with
        | one hc hz => exact .one (List.mem_append_right _ hc) hz
        | step _ hc hz ih => exact .step ih (List.mem_append_right _ hc) hz
      exact mono zp
    have := hq _ _ _ _ zs hz (bad_round (C := C) (a := a) w (ys := ys) (by rw [List.length_append]; omega) (fun c hc => by
      obtain ⟨h1, h2, h3⟩ := hy c hc
      exact ⟨by omega, by omega, midAt_get h2, midAt_get h3⟩) zp2)
    simpa [wD] using this
theorem w_tail {C : Cl} {xs : List D} {bs : List Bx} {cs : List Cb} {way far : Int} {R : L → VS → Prop} (h : Dice xs) (w : WF bs cs) (hfar : 0 ≤ far) (hq : ∀ ds es k y xs', Dice xs' → Bad C ds es k y → R (.d (wD ds es k y)) [some (.own xs'), none]) : wp (F__law_wrong_16 C) (wrS bs cs xs way far) (thenF (sSeq (F__law_wrong_17 C) (sSeq (F__law_wrong_18 C) (sSeq (F__law_wrong_25 C) (sSeq (F__law_wrong_28 C) (sSeq (F__law_wrong_29 C) (sSeq (F__law_wrong_32 C) sNil)))))) (retF 2 [0] R)) := by
  have hnb := w.nb
  have hnc := w.nc
  obtain ⟨mm, hm, hm2⟩ : ∃ mm : Nat, (if (cs.length : Int) < 19 then (cs.length : Int) else 19) = (mm : Int) ∧ mm ≤ 19 ∧ mm ≤ cs.length := by
    by_cases z : (cs.length : Int) < 19
    · exact ⟨cs.length, by rw [if_pos z], by omega⟩
    · exact ⟨19, by rw [if_neg z]; rfl, by omega⟩
  simp [F__law_wrong_16, dMin, hm]
  refine call_off rfl h (by omega) (by omega) fun p ys hy p0 p1 => ?_
  obtain ⟨p, rfl, _⟩ := nat_of p0 p1
  simp [F__law_wrong_17]
  refine call_ends hnb ?_
  simp
  refine call_ends hnb ?_
  simp [parSet]
  have tl := w_ring (C := C) (way := way) (far := far) (at_ := p) (R := R) hy w hq
  have mid : wp (F__law_wrong_25 C) (wrT bs cs ys way far p) (thenF (sSeq (F__law_wrong_28 C) (sSeq (F__law_wrong_29 C) (sSeq (F__law_wrong_32 C) sNil))) (retF 2 [0] R)) := by
    simp only [F__law_wrong_25]
    by_cases c1 : way < 7
    · by_cases c2 : (bs.length : Int) < 10
      · simp [c1, c2, F__law_wrong_26, F__law_wrong_27]
        refine call_lonely rfl hy w (by omega) fun ds es k y xs' d b => ?_
        simp [outs_eq, List.range_succ]
        exact hq ds es k y xs' d b
      · simp [c1, c2]; exact tl
    · simp [c1]; exact tl
  simp only [F__law_wrong_18]
  by_cases c1 : way < 5
  · by_cases c2 : (cs.length : Int) < 20
    · simp [c1, c2]
      exact w_cable hy w (by omega) (by omega) hfar hq
    · simp [c1, c2]; exact mid
  · simp [c1]; exact mid
theorem call_wrong {C : Cl} {s : VS} {j : Nat} {xs : List D} {bs : List Bx} {cs : List Cb} {Q : L → VS → Prop} (hs : at? s j = some (.own xs)) (h : Dice xs) (w : WF bs cs) (hq : ∀ ds es k y xs', Dice xs' → Bad C ds es k y → Q (.d (wD ds es k y)) (s.set j (some (.own xs')))) : wp (callF (fn__law_wrong C) [.sl j, .dat (tD bs cs)]) s Q := by
  rw [wp_callF]
  simp only [to_args_sl, hs, to_some, to_args_dat, argsOf_nil]
  refine ⟨⟨rfl, rfl⟩, wp_def ?_⟩
  show wp (F__law_wrong C) [some (.own xs), some (.d (tD bs cs)), none, none, none, none, none, none, none, none, none, none, none, none] _
  have hnb := w.nb
  have hnc := w.nc
  simp only [F__law_wrong, F__law_wrong_0, wp_sSeq, F__law_wrong_1]
  simp [F__law_wrong_2]
  refine call_off rfl h (by omega) (by omega) fun way ys hy w0 w1 => ?_
  simp [F__law_wrong_3, F__law_wrong_4]
  refine call_off rfl hy (by omega) (by omega) fun r zs hz a b => ?_
  obtain ⟨m, em, m1, m2⟩ := far_pick a b
  simp only [L.data, to_some, em]
  simp
  refine call_off rfl hz (by omega) (by omega) fun f vs hv f0 f1 => ?_
  have hR : ∀ ds es k y xs', Dice xs' → Bad C ds es k y → (fun l os => Q l (setO s [Pk.sl j, Pk.dat (tD bs cs)] os)) (.d (wD ds es k y)) [some (.own xs'), none] := fun ds es k y xs' a b => by simpa using hq ds es k y xs' a b
  have tl := w_tail (C := C) (way := way) (far := f) (R := fun l os => Q l (setO s [Pk.sl j, Pk.dat (tD bs cs)] os)) hv w f0 hR
  simp only [F__law_wrong_5]
  by_cases c1 : way = 0
  · subst c1
    simp
    exact w_boxes (R := fun l os => Q l (setO s [Pk.sl j, Pk.dat (tD bs cs)] os)) hv w hR
  simp [c1]
  have t2 : wp (F__law_wrong_13 C) (wrS bs cs vs way f) (thenF (sSeq (F__law_wrong_16 C) (sSeq (F__law_wrong_17 C) (sSeq (F__law_wrong_18 C) (sSeq (F__law_wrong_25 C) (sSeq (F__law_wrong_28 C) (sSeq (F__law_wrong_29 C) (sSeq (F__law_wrong_32 C) sNil))))))) (retF 2 [0] fun l os => Q l (setO s [Pk.sl j, Pk.dat (tD bs cs)] os))) := by
    simp only [F__law_wrong_13]
    by_cases c2 : way = 2
    · subst c2
      simp
      exact w_cables (R := fun l os => Q l (setO s [Pk.sl j, Pk.dat (tD bs cs)] os)) hv w hR
    · simp [c2]; exact tl
  simp only [F__law_wrong_8]
  by_cases c2 : way = 1
  · subst c2
    by_cases c3 : (bs.length : Int) < 10
    · simp [c3]
      exact w_box (R := fun l os => Q l (setO s [Pk.sl j, Pk.dat (tD bs cs)] os)) hv w (by omega) hR
    · simp [c3]; exact t2
  · simp [c2]; exact t2
end Hd
namespace Hd
open PySem PySem.Spec PyProof.Rows L2 Ev
def okAl : Nat → D → Bool
  | _, .non => true
  | _, .bl _ => true
  | _, .int _ => true
  | _, .str _ => true
  | n + 1, .tup xs => decide (xs.length ≤ 1000) && xs.all (okAl n)
  | n + 1, .lst xs => decide (xs.length ≤ 1000) && xs.all (okAl n)
  | _, _ => false
theorem blsOf_rep : ∀ n : Nat, blsOf (List.replicate n (D.bl true)) = some (List.replicate n true)
  | 0 => rfl
  | n + 1 => by rw [List.replicate_succ, blsOf, blsOf_rep n]; rfl
theorem alike_all {C : Cl} {fr : Fn} {x y : D} {xs : List D} {Q : L → VS → Prop} (hl : xs.length ≤ 1000) (hx : ∀ i : Int, dIx x (.int i) = (atI xs i).map L.d) (hy : ∀ i : Int, dIx y (.int i) = (atI xs i).map L.d) (hlen : dLen [y] = some (.d (.int xs.length)))
    (hfr : ∀ d ∈ xs, ∀ (s : VS) (P : L → VS → Prop), P (.d (.bl true)) s → wp (callF fr [.dat d, .dat d]) s P) (hq : Q (.d (.bl true)) [none, none]) :
    wp (F__law_alike_25 C fr) [some (.d x), some (.d y), none, none] (thenF sNil (retF 2 [] Q)) := by
  simp only [F__law_alike_25]
  simp [wp_fComp, hlen, wipeV]
  refine ⟨by omega, ?_⟩
  refine lcF_inN (fun i acc s => acc = List.replicate i (D.bl true) ∧ s = [some (.d x), some (.d y), none, none]) ⟨rfl, rfl⟩ ?_ ?_
  · rintro i d acc s N hd ⟨rfl, rfl⟩ hN
    obtain ⟨hi, rfl⟩ := rgD_get hd
    have ei : (0 : Int) + (i : Int) = (i : Int) := by omega
    rw [ei]
    simp [bYes, hx, hy, Ev.atI_nat, List.getElem?_eq_getElem hi]
    refine hfr _ (List.getElem_mem hi) _ _ ?_
    simp [wipeV]
    refine ⟨by omega, hN _ _ ⟨?_, rfl⟩⟩
    rw [List.replicate_succ']
  · rintro acc s ⟨rfl, rfl⟩
    rw [rgD_len]
    have : dAll [.lst (List.replicate xs.length (D.bl true))] = some (.d (.bl true)) := by
      show (blsOf (List.replicate xs.length (D.bl true))).map _ = _
      rw [blsOf_rep]
      simp
    simp [restV, keepD, this, outs_eq, List.range_succ]
    exact hq
theorem alike_same {C : Cl} : ∀ (n : Nat) (d : D), okAl n d = true → ∀ (s : VS) (Q : L → VS → Prop), Q (.d (.bl true)) s → wp (callF (fn__law_alikeN C (n + 1)) [.dat d, .dat d]) s Q := by
  intro n
  induction n with
  | zero =>
    intro d hd s Q hq
    rw [wp_callF]
    simp only [to_some, to_args_dat, argsOf_nil]
    refine ⟨⟨rfl, by rw [fn__law_alikeN]; rfl⟩, ?_⟩
    rw [fn__law_alikeN]
    refine wp_def ?_
    show wp (F__law_alike C (fn__law_alikeN C 0)) [some (.d d), some (.d d), none, none] _
    cases d with
    | non =>
      have h1 : dIs .non .non = some true := rfl
      simp [F__law_alike, F__law_alike_0, F__law_alike_1, F__law_alike_2, F__law_alike_3, h1, outs_eq, List.range_succ]
      exact hq
    | bl b =>
      have h1 : dIs (.bl b) .non = some false := rfl
      have h2 : dIsi "bool" (.bl b) = some true := rfl
      simp [F__law_alike, F__law_alike_0, F__law_alike_1, F__law_alike_4, F__law_alike_5, F__law_alike_6, h1, h2, outs_eq, List.range_succ]
      exact hq
    | int b =>
      have h1 : dIs (.int b) .non = some false := rfl
      have h2 : dIsi "bool" (.int b) = some false := rfl
      have h3 : dIsi "int" (.int b) = some true := rfl
      simp [F__law_alike, F__law_alike_0, F__law_alike_1, F__law_alike_4, F__law_alike_7, F__law_alike_8, F__law_alike_9, h1, h2, h3, outs_eq, List.range_succ]
      exact hq
    | str b =>
      have h1 : dIs (.str b) .non = some false := rfl
      have h2 : dIsi "bool" (.str b) = some false := rfl
      have h3 : dIsi "int" (.str b) = some false := rfl
      have h4 : dIsi "str" (.str b) = some true := rfl
      simp [F__law_alike, F__law_alike_0, F__law_alike_1, F__law_alike_4, F__law_alike_7, F__law_alike_10, F__law_alike_11, F__law_alike_12, h1, h2, h3, h4, outs_eq, List.range_succ]
      exact hq
    | _ => cases hd
  | succ n ih =>
    intro d hd s Q hq
    rw [wp_callF]
    simp only [to_some, to_args_dat, argsOf_nil]
    refine ⟨⟨rfl, by rw [fn__law_alikeN]; rfl⟩, ?_⟩
    rw [fn__law_alikeN]
    refine wp_def ?_
    show wp (F__law_alike C (fn__law_alikeN C (n + 1))) [some (.d d), some (.d d), none, none] _
    cases d with
    | non =>
      have h1 : dIs .non .non = some true := rfl
      simp [F__law_alike, F__law_alike_0, F__law_alike_1, F__law_alike_2, F__law_alike_3, h1, outs_eq, List.range_succ]
      exact hq
    | bl b =>
      have h1 : dIs (.bl b) .non = some false := rfl
      have h2 : dIsi "bool" (.bl b) = some true := rfl
      simp [F__law_alike, F__law_alike_0, F__law_alike_1, F__law_alike_4, F__law_alike_5, F__law_alike_6, h1, h2, outs_eq, List.range_succ]
      exact hq
    | int b =>
      have h1 : dIs (.int b) .non = some false := rfl
      have h2 : dIsi "bool" (.int b) = some false := rfl
      have h3 : dIsi "int" (.int b) = some true := rfl
      simp [F__law_alike, F__law_alike_0, F__law_alike_1, F__law_alike_4, F__law_alike_7, F__law_alike_8, F__law_alike_9, h1, h2, h3, outs_eq, List.range_succ]
      exact hq
    | str b =>
      have h1 : dIs (.str b) .non = some false := rfl
      have h2 : dIsi "bool" (.str b) = some false := rfl
      have h3 : dIsi "int" (.str b) = some false := rfl
      have h4 : dIsi "str" (.str b) = some true := rfl
      simp [F__law_alike, F__law_alike_0, F__law_alike_1, F__law_alike_4, F__law_alike_7, F__law_alike_10, F__law_alike_11, F__law_alike_12, h1, h2, h3, h4, outs_eq, List.range_succ]
      exact hq
    | tup xs =>
      have hd : (decide (xs.length ≤ 1000) && xs.all (okAl n)) = true := hd
      simp at hd
      have h1 : dIs (.tup xs) .non = some false := rfl
      have h2 : dIsi "bool" (.tup xs) = some false := rfl
      have h3 : dIsi "int" (.tup xs) = some false := rfl
      have h4 : dIsi "str" (.tup xs) = some false := rfl
      have h5 : dIsi "dict" (.tup xs) = some false := rfl
      have h6 : dIsi "tuple" (.tup xs) = some true := rfl
      have h7 : dIsi "list" (.tup xs) = some false := rfl
      simp [F__law_alike, F__law_alike_0, F__law_alike_1, F__law_alike_4, F__law_alike_7, F__law_alike_10, F__law_alike_13, F__law_alike_19, F__law_alike_22, h1, h2, h3, h4, h5, h6, h7]
      exact alike_all hd.1 (fun i => rfl) (fun i => rfl) rfl (fun d hdm s P hP => ih d (hd.2 d hdm) s P hP) hq
    | lst xs =>
      have hd : (decide (xs.length ≤ 1000) && xs.all (okAl n)) = true := hd
      simp at hd
      have h1 : dIs (.lst xs) .non = some false := rfl
      have h2 : dIsi "bool" (.lst xs) = some false := rfl
      have h3 : dIsi "int" (.lst xs) = some false := rfl
      have h4 : dIsi "str" (.lst xs) = some false := rfl
      have h5 : dIsi "dict" (.lst xs) = some false := rfl
      have h6 : dIsi "tuple" (.lst xs) = some false := rfl
      have h7 : dIsi "list" (.lst xs) = some true := rfl
      simp [F__law_alike, F__law_alike_0, F__law_alike_1, F__law_alike_4, F__law_alike_7, F__law_alike_10, F__law_alike_13, F__law_alike_19, F__law_alike_22, h1, h2, h3, h4, h5, h6, h7]
      exact alike_all hd.1 (fun i => rfl) (fun i => rfl) rfl (fun d hdm s P hP => ih d (hd.2 d hdm) s P hP) hq
    | _ => cases hd
theorem call_alike {C : Cl} {s : VS} {d : D} {Q : L → VS → Prop} (h : okAl 5 d = true) (hq : Q (.d (.bl true)) s) : wp (callF (fn__law_alike C) [.dat d, .dat d]) s Q := alike_same 5 d h s Q hq
end Hd
namespace Hd
open PySem PySem.Spec PyProof.Rows L2 Ev
theorem wp_iff_of {α : Type} {F : M α} {s t : VS} {a : α} {Q : α → VS → Prop} (e : F s = some (.ok a, t)) : wp F s Q ↔ Q a t := by unfold wp; rw [e]; exact Iff.rfl
theorem run_ex {n nn : Nat} {io : List Nat} {F : M Fl} {s : VS} {a : L} (key : wp F (s ++ List.replicate (nn - n) none) (retF n io fun l _ => l = a)) : ∃ t, mkRun n nn io F s = some (.ok a, t) := by
  obtain ⟨l, t, e, q⟩ := wp_out (wp_def key)
  rw [q] at e
  exact ⟨t, e⟩
theorem is_ok {C : Cl} {x : Xn} (h1 : x.C = C.BadDesk) (nd : (exs C).Nodup) : ∃ t, mkRun 2 5 [] (F__law_is C x) [none, some (.d (.str (Str.ofString "desk")))] = some (.ok (.d (.bl true)), t) := by
  have n1 : ¬(C.BadDesk = C.TooLate) := fun z => by rw [exs, z] at nd; simp at nd
  have n2 : ¬(C.BadDesk = C.BadDelays) := fun z => by rw [exs, z] at nd; simp at nd
  have n3 : ¬(C.BadDesk = C.BadStreams) := fun z => by rw [exs, z] at nd; simp at nd
  have n4 : ¬(C.BadDesk = C.BadChange) := fun z => by rw [exs, z] at nd; simp at nd
  have n5 : ¬(C.BadDesk = C.BadText) := fun z => by rw [exs, z] at nd; simp at nd
  refine run_ex (n := 2) (nn := 5) (io := []) (F := F__law_is C x) (s := [none, some (.d (.str (Str.ofString "desk")))]) (a := .d (.bl true)) ?_
  show wp (F__law_is C x) [none, some (.d (.str (Str.ofString "desk"))), none, none, none] _
  simp only [F__law_is, F__law_is_0, wp_sSeq, F__law_is_1, F__law_is_2, F__law_is_3, h1, n1, n2, n3, n4, n5]
  simp
  simp [F__law_is_4, wp_fComp, wipeV]
  have e : ∀ st : VS, st = [none, some (.d (.str (Str.ofString "desk"))), some (.d (.lst [.bl true, .bl false, .bl false, .bl false, .bl false, .bl false])), some (.d (.lst [.str (Str.ofString "desk"), .str (Str.ofString "late"), .str (Str.ofString "delays"), .str (Str.ofString "streams"), .str (Str.ofString "change"), .str (Str.ofString "text")])), none] → lcF (.nm 4) [4] bYes (fBl (c2 dEq (vLook 1) (vLook 4))) [.str (Str.ofString "desk"), .str (Str.ofString "late"), .str (Str.ofString "delays"), .str (Str.ofString "streams"), .str (Str.ofString "change"), .str (Str.ofString "text")] [] st = some ([.bl true, .bl false, .bl false, .bl false, .bl false, .bl false], st) := by
    rintro st rfl
    rw [lcF_pure (fun d => match d with | .str z => some (.bl (decide (Str.ofString "desk" = z))) | _ => none) (by simp)]
    · simp [ofStr_inj]
    · intro d hd
      simp only [List.mem_cons, List.not_mem_nil, or_false] at hd
      rcases hd with rfl | rfl | rfl | rfl | rfl | rfl <;> simp [bYes, wipeV, ofStr_inj]
  rw [e _ rfl]
  have e2 : dEq (.lst [.bl true, .bl false, .bl false, .bl false, .bl false, .bl false]) (.lst [.bl true, .bl false, .bl false, .bl false, .bl false, .bl false]) = some true := by rfl
  simp only [to_some, e2]
theorem call_refused {C : Cl} {s : VS} {ds es : List D} {k : Nat} {y : String} {Q : L → VS → Prop} (nd : (exs C).Nodup) (hb : Bad C ds es k y) (hq : Q (.d (.bl true)) s) : wp (callF (fn__law_refused C) [.dat (wD ds es k y)]) s Q := by
  obtain ⟨hd, he, β, γ, τ, fed, used, order, O, hv⟩ := hb
  rw [wp_callF]
  simp only [to_some, to_args_dat, argsOf_nil]
  refine ⟨⟨rfl, rfl⟩, wp_def ?_⟩
  show wp (F__law_refused C) [some (.d (wD ds es k y)), none] _
  simp only [F__law_refused, F__law_refused_0, wp_sSeq, F__law_refused_1]
  refine wp_sTry ?_
  simp [F__law_refused_2, F__law_refused_3, wpx_fMake]
  refine wpx_makeF (ls := [some (.d (.lst ds)), some (.d (.lst es))]) rfl rfl rfl ?_
  refine initX (l1 := .d (.lst ds)) (l2 := .d (.lst es)) rfl rfl hd he O (fun z => by rw [hv] at z; cases z) fun k' y' hv' s' hs' => ?_
  rw [hv] at hv'
  cases hv'
  match s', hs' with
  | [o, o1, o2], _ =>
    refine ⟨o, [o1, o2], rfl, ?_⟩
    have e1 : setO [some (L.d (wD ds es k y)), none] [Pk.dat (D.lst ds), Pk.dat (D.lst es)] [o1, o2] = [some (L.d (wD ds es k y)), none] := by simp
    rw [e1]
    refine ⟨⟨by simp [exs], by simp⟩, ?_⟩
    simp only [F__law_refused_4, wp_sSeq, F__law_refused_5]
    obtain ⟨t, ik⟩ := is_ok (C := C) (x := XD C k y) rfl nd
    generalize hrun : (fun x => mkRun 2 5 [] (F__law_is C x)) = run
    have ik : run (XD C k y) [none, some (.d (.str (Str.ofString "desk")))] = some (.ok (.d (.bl true)), t) := by rw [← hrun]; exact ik
    simp [wp_fAskE]
    rw [wp_iff_of ik]
    simp
    have el : List.lookup (Str.ofString "at") [(Str.ofString "why", D.str (Str.ofString y)), (Str.ofString "at", D.int (k : Int))] = some (.int (k : Int)) := by
      have n1 : (Str.ofString "at" == Str.ofString "why") = false := by decide +kernel
      have n2 : (Str.ofString "at" == Str.ofString "at") = true := by decide +kernel
      rw [List.lookup, n1]
      dsimp only
      rw [List.lookup, n2]
    simp [el, wD]
    refine call_alike (by simp [okAl]) ?_
    simp [outs_eq, List.range_succ]
    exact hq
end Hd
namespace Hd
open PySem PySem.Spec PyProof.Rows L2 Ev
theorem okD_mono : True := trivial
theorem okD_str {n : Nat} {z : Str} (h : PyData.strOk z = true) : okD n (.str z) = true := by cases n <;> exact h
theorem strOk_name {z : Str} (h : okName z) : PyData.strOk z = true := by
  unfold PyData.strOk
  rw [Array.all_eq_true']
  intro c hc
  have h1 := h.2.2 c (Array.mem_toList_iff.mpr hc)
  have h2 : ∀ c ∈ small.cps.toList, c < 1114112 := by decide +kernel
  exact decide_eq_true (h2 c h1)
theorem okD_bx {b : Bx} (h : b.ok) : okD 18 b.d = true := by
  have w1 : PyData.strOk (Str.ofString "in") = true := by decide +kernel
  have w2 : PyData.strOk (Str.ofString "out") = true := by decide +kernel
  have w3 : PyData.strOk (Str.ofString "sum") = true := by decide +kernel
  have w4 : PyData.strOk (Str.ofString "most") = true := by decide +kernel
  have w5 : PyData.strOk (Str.ofString "times") = true := by decide +kernel
  have w6 : PyData.strOk (Str.ofString "part") = true := by decide +kernel
  cases b with
  | inn n => show (okD 17 (.str (Str.ofString "in")) && (okD 17 (.str n) && true)) = true; rw [okD_str w1, okD_str (strOk_name h)]; rfl
  | out n => show (okD 17 (.str (Str.ofString "out")) && (okD 17 (.str n) && true)) = true; rw [okD_str w2, okD_str (strOk_name h)]; rfl
  | sum v => show (okD 17 (.str (Str.ofString "sum")) && (true && true)) = true; rw [okD_str w3]; rfl
  | most v => show (okD 17 (.str (Str.ofString "most")) && (true && true)) = true; rw [okD_str w4]; rfl
  | times k v => show (okD 17 (.str (Str.ofString "times")) && (true && (true && true))) = true; rw [okD_str w5]; rfl
  | part k v => show (okD 17 (.str (Str.ofString "part")) && (true && (true && true))) = true; rw [okD_str w6]; rfl
theorem eqDp_same {d : D} {n : Nat} (h : okD n d = true) (hn : n ≤ 64) : eqDp d d = some true := by
  obtain ⟨p, e, a, b⟩ := okD_py d h
  have hs : SeqAt.shaped p = true := by
    unfold SeqAt.shaped
    rw [a, Bool.true_and]
    exact decide_eq_true (Nat.le_trans b hn)
  unfold eqDp
  rw [e]
  dsimp only
  rw [hs]
  simp [SeqAt.eqv_refl p a]
theorem okD_desk {bs : List Bx} {cs : List Cb} (w : WF bs cs) : okD 20 (.lst [.lst (bs.map Bx.d), .lst (cs.map Cb.d)]) = true := by
  refine okD_all fun d hd => ?_
  simp only [List.mem_cons, List.not_mem_nil, or_false] at hd
  rcases hd with rfl | rfl
  · exact okD_all fun d hd => by obtain ⟨b, hb, rfl⟩ := List.mem_map.mp hd; exact okD_bx (w.box b hb)
  · exact okD_all fun d hd => by obtain ⟨c, hc, rfl⟩ := List.mem_map.mp hd; exact okD_cb (n := 17) c
theorem wp_ofx {α : Type} {F : M α} {s : VS} {Q : α → VS → Prop} (h : wpx (fun _ _ => False) F s Q) : wp F s Q := by
  rcases wpx_out h with ⟨a, s', e, q⟩ | ⟨x, s', e, q⟩
  · unfold wp; rw [e]; exact q
  · exact q.elim
theorem make_desk {C : Cl} {s : VS} {ks : List Pk} {l1 l2 : L} {bs : List Bx} {cs : List Cb} {Q : L → VS → Prop} (h1 : argsOf s ks = some [some l1, some l2]) (h2 : slND ks = true) (h3 : ks.length = 2) (r1 : resL l1 = some (.lst (bs.map Bx.d))) (r2 : resL l2 = some (.lst (cs.map Cb.d))) (hb : bs.length ≤ 10) (hc : cs.length ≤ 20)
    (g : ∃ fed used order, Orc C (bs.map Bx.d) (cs.map Cb.d) (fun _ => true) (fun _ => true) (twB bs cs) fed used order ∧ verd (bs.map Bx.d).length (cs.map Cb.d).length (fun _ => true) (fun _ => true) (twB bs cs) fed used order = none)
    (hq : ∀ order, Q (loL C (bs.map Bx.d) (cs.map Cb.d) order) (setO s ks [some l1, some l2])) : wp (makeF C.Desk (fn_Desk___init__ C) ks) s Q := by
  obtain ⟨fed, used, order, O, hv⟩ := g
  refine wp_ofx (wpx_makeF h1 h2 (by rw [h3]; rfl) ?_)
  refine initX r1 r2 (by simp; omega) (by simp; omega) O (fun _ => ⟨rfl, _, _, rfl, hq order⟩) fun k y z => ?_
  rw [hv] at z; cases z
structure OkA (n : Nat) (d : D) : Prop where
  h : okAl n d = true
theorem okAl_box (b : Bx) : okAl 3 b.d = true := by cases b <;> rfl
theorem okAl_cab (c : Cb) : okAl 3 c.d = true := rfl
theorem okAl_desk {bs : List Bx} {cs : List Cb} (w : WF bs cs) : okAl 5 (.lst [.lst (bs.map Bx.d), .lst (cs.map Cb.d)]) = true := by
  have h1 : okAl 4 (.lst (bs.map Bx.d)) = true := by
    show (decide ((bs.map Bx.d).length ≤ 1000) && (bs.map Bx.d).all (okAl 3)) = true
    have := w.nb
    rw [Bool.and_eq_true]
    exact ⟨decide_eq_true (by simp; omega), List.all_eq_true.mpr fun d hd => by obtain ⟨b, _, rfl⟩ := List.mem_map.mp hd; exact okAl_box b⟩
  have h2 : okAl 4 (.lst (cs.map Cb.d)) = true := by
    show (decide ((cs.map Cb.d).length ≤ 1000) && (cs.map Cb.d).all (okAl 3)) = true
    have := w.nc
    rw [Bool.and_eq_true]
    exact ⟨decide_eq_true (by simp; omega), List.all_eq_true.mpr fun d hd => by obtain ⟨b, _, rfl⟩ := List.mem_map.mp hd; exact okAl_cab b⟩
  show (decide (2 ≤ 1000) && (okAl 4 (.lst (bs.map Bx.d)) && (okAl 4 (.lst (cs.map Cb.d)) && true))) = true
  rw [h1, h2]; rfl
theorem call_alikeS {C : Cl} {s : VS} {d : D} {Q : L → VS → Prop} (h : OkA 5 d) (hq : Q (.d (.bl true)) s) : wp (callF (fn__law_alike C) [.dat d, .dat d]) s Q := call_alike h.h hq
theorem okA_desk {bs : List Bx} {cs : List Cb} (w : WF bs cs) : OkA 5 (.lst [.lst (bs.map Bx.d), .lst (cs.map Cb.d)]) := OkA.mk (okAl_desk w)
theorem t_alike {C : Cl} {s : VS} {bs : List Bx} {cs : List Cb} {Q : L → VS → Prop} (w : WF bs cs) (hq : Q (.d (.bl true)) s) : wp (callF (fn__law_alike C) [.dat (.lst [.lst (bs.map Bx.d), .lst (cs.map Cb.d)]), .dat (.lst [.lst (bs.map Bx.d), .lst (cs.map Cb.d)])]) s Q := call_alikeS (okA_desk w) hq
end Hd
namespace Hd
open PySem PySem.Spec PyProof.Rows L2 Ev
structure IsDesk (C : Cl) (bs : List Bx) (cs : List Cb) (order : List Nat) (dk : D) : Prop where
  kept : ∀ s, fldOf C.Desk (Str.ofString "kept") s (.dat dk) = some (.lst (bs.map Bx.d))
  wires : ∀ s, fldOf C.Desk (Str.ofString "wires") s (.dat dk) = some (.lst (cs.map Cb.d))
  order : ∀ s, fldOf C.Desk (Str.ofString "order") s (.dat dk) = some (.lst (nD order))
  cls : ∀ s m, m ≠ Str.ofString "kept" → m ≠ Str.ofString "wires" → m ≠ Str.ofString "order" → ∃ fs, clsOf s (.dat dk) = some (C.Desk, fs) ∧ m ∉ fs
theorem isDesk_ok {C : Cl} {bs : List Bx} {cs : List Cb} {order : List Nat} : IsDesk C bs cs order (deskD C.Desk bs cs order) := by
  refine ⟨fun s => by simp [fldOf, look], fun s => by simp [fldOf, look, ofStr_inj], fun s => by simp [fldOf, look, ofStr_inj], fun s m h1 h2 h3 => ⟨_, rfl, by simp [h1, h2, h3]⟩⟩
theorem to_clsD {C : Cl} {bs : List Bx} {cs : List Cb} {order : List Nat} {dk : D} {m : Str} {s : VS} {P : VS → Prop} (h : IsDesk C bs cs order dk) (h1 : m ≠ Str.ofString "kept") (h2 : m ≠ Str.ofString "wires") (h3 : m ≠ Str.ofString "order") (hp : P s) : to (clsOf s (.dat dk)) s fun p s => (p.1 = C.Desk ∧ m ∉ p.2) ∧ P s := by
  obtain ⟨fs, e, hm⟩ := h.cls s m h1 h2 h3
  rw [e]
  exact ⟨⟨rfl, hm⟩, hp⟩
theorem boxes_ok {C : Cl} {bs : List Bx} {cs : List Cb} {order : List Nat} {dk : D} {Q : L → VS → Prop} (hd : IsDesk C bs cs order dk) (hq : Q (.own (bs.map Bx.d)) [some (.d dk)]) : wp (fn_Desk_boxes C).run [some (.d dk)] Q := by
  refine wp_def ?_
  show wp (F_Desk_boxes C) [some (.d dk)] _
  simp [F_Desk_boxes, F_Desk_boxes_0, F_Desk_boxes_1, hd.kept, outs_eq, List.range_succ]
  exact hq
theorem cables_ok {C : Cl} {bs : List Bx} {cs : List Cb} {order : List Nat} {dk : D} {Q : L → VS → Prop} (hd : IsDesk C bs cs order dk) (hq : Q (.own (cs.map Cb.d)) [some (.d dk)]) : wp (fn_Desk_cables C).run [some (.d dk)] Q := by
  refine wp_def ?_
  show wp (F_Desk_cables C) [some (.d dk)] _
  simp [F_Desk_cables, F_Desk_cables_0, F_Desk_cables_1, hd.wires, outs_eq, List.range_succ]
  exact hq
theorem call_boxes {C : Cl} {s : VS} {bs : List Bx} {cs : List Cb} {order : List Nat} {dk : D} {Q : L → VS → Prop} (hd : IsDesk C bs cs order dk) (hq : Q (.own (bs.map Bx.d)) s) : wp (callF (fn_Desk_boxes C) [.dat dk]) s Q := by
  rw [wp_callF]
  simp only [to_some, to_args_dat, argsOf_nil]
  exact ⟨⟨rfl, rfl⟩, boxes_ok hd hq⟩
theorem call_cables {C : Cl} {s : VS} {bs : List Bx} {cs : List Cb} {order : List Nat} {dk : D} {Q : L → VS → Prop} (hd : IsDesk C bs cs order dk) (hq : Q (.own (cs.map Cb.d)) s) : wp (callF (fn_Desk_cables C) [.dat dk]) s Q := by
  rw [wp_callF]
  simp only [to_some, to_args_dat, argsOf_nil]
  exact ⟨⟨rfl, rfl⟩, cables_ok hd hq⟩
theorem F345 {C : Cl} {ns : List Int} {xs : List D} {bs : List Bx} {cs : List Cb} {G : M Fl} {Q : Fl → VS → Prop} (w : WF bs cs)
    (hq : ∀ order, wp G [some (.d (.scr ns)), some (.own xs), some (.d (tD bs cs)), some (.oll [.own (bs.map Bx.d), .own (cs.map Cb.d)]), some (.d (deskD C.Desk bs cs order)), none, none, none, none] Q) :
    wp (sSeq (F_law_3 C) (sSeq (F_law_4 C) (sSeq (F_law_5 C) G))) [some (.d (.scr ns)), some (.own xs), some (.d (tD bs cs)), none, none, none, none, none, none] Q := by
  simp [F_law_3, F_law_4]
  refine wp_fMakeN (l0 := .own (bs.map Bx.d)) (l1 := .own (cs.map Cb.d)) rfl ?_
  refine make_desk (l1 := .own (bs.map Bx.d)) (l2 := .own (cs.map Cb.d)) (bs := bs) (cs := cs) rfl rfl rfl rfl rfl w.nb w.nc (good_of w) fun order => ?_
  refine ⟨.own (bs.map Bx.d), .own (cs.map Cb.d), rfl, ?_⟩
  have hdt : (loL C (bs.map Bx.d) (cs.map Cb.d) order).data = some (deskD C.Desk bs cs order) := rfl
  rw [hdt]
  simp [F_law_5]
  refine wp_cNeS (l := .oll [.own (bs.map Bx.d), .own (cs.map Cb.d)]) rfl ?_
  simp
  refine ⟨rfl, ?_⟩
  have e : (L.oll [.own (bs.map Bx.d), .own (cs.map Cb.d)]).view = .lst [.lst (bs.map Bx.d), .lst (cs.map Cb.d)] := rfl
  rw [e, eqDp_same (okD_desk w) (by omega)]
  simp
  exact hq order
theorem turn1 {C : Cl} {ns : List Int} {xs : List D} {bs : List Bx} {cs : List Cb} {dk : D} {order : List Nat} {l1 l2 : List D} {o5 o7 : Option L} {Q : Fl → VS → Prop} (w : WF bs cs) (hd : IsDesk C bs cs order dk)
    (hq : Q .nx [some (.d (.scr ns)), some (.own xs), some (.d (tD bs cs)), some (.oll [.own [], .own []]), some (.d dk), o5, none, none, none]) :
    wp (F_law_9 C) [some (.d (.scr ns)), some (.own xs), some (.d (tD bs cs)), some (.oll [.own l1, .own l2]), some (.d dk), o5, none, o7, none] Q := by
  simp [F_law_9, F_law_10, wp_fMeth]
  refine to_clsD hd (by simp [ofStr_inj]) (by simp [ofStr_inj]) (by simp [ofStr_inj]) ?_
  refine call_boxes hd ?_
  simp
  refine to_clsD hd (by simp [ofStr_inj]) (by simp [ofStr_inj]) (by simp [ofStr_inj]) ?_
  refine call_cables hd ?_
  simp
  refine t_alike w ?_
  simp [F_law_13]
  refine wp_sClearN ?_
  simp [wp_fMeth]
  refine to_clsD hd (by simp [ofStr_inj]) (by simp [ofStr_inj]) (by simp [ofStr_inj]) ?_
  refine call_boxes hd ?_
  simp
  refine to_clsD hd (by simp [ofStr_inj]) (by simp [ofStr_inj]) (by simp [ofStr_inj]) ?_
  refine call_cables hd ?_
  simp
  exact ⟨⟨rfl, rfl⟩, hq⟩
def lgB : List Bx := [.inn "a"] ++ List.replicate 8 (.sum 9) ++ [.out "abcdefgh"]
def lgC : List Cb := (List.range 9).map (fun k => ⟨k, k + 1, 99⟩) ++ List.replicate 11 ⟨0, 1, 0⟩
theorem lg_good {C : Cl} : ∃ fed used order, Orc C (lgB.map Bx.d) (lgC.map Cb.d) (fun _ => true) (fun _ => true) (twB lgB lgC) fed used order ∧ verd (lgB.map Bx.d).length (lgC.map Cb.d).length (fun _ => true) (fun _ => true) (twB lgB lgC) fed used order = none := by
  have step : ∀ k, k < 9 → (⟨k, k + 1, 99⟩ : Cb) ∈ lgC := fun k hk => List.mem_append_left _ (List.mem_map.mpr ⟨k, List.mem_range.mpr hk, rfl⟩)
  have hfed : ∀ k, k < 10 → Fed lgB lgC k := by
    intro k
    induction k with
    | zero => exact fun _ => .start rfl
    | succ k ih => exact fun hk => Fed.step (c := ⟨k, k + 1, 99⟩) (step k (by omega)) (ih (by omega))
  have hused : ∀ k, k < 10 → Used lgB lgC (9 - k) := by
    intro k
    induction k with
    | zero => exact fun _ => .start rfl
    | succ k ih =>
      intro hk
      have := Used.step (c := ⟨9 - (k + 1), 9 - (k + 1) + 1, 99⟩) (step _ (by omega)) (by
        have e : 9 - (k + 1) + 1 = 9 - k := by omega
        show Used lgB lgC (9 - (k + 1) + 1)
        rw [e]; exact ih (by omega))
      exact this
  refine good_desk ⟨?_, ?_⟩ ⟨?_, ?_, ?_⟩ (by decide) (by decide) (by decide) ?_ ?_
  · intro b hb
    simp [lgB, -List.reduceReplicate] at hb
    rcases hb with rfl | ⟨_, rfl⟩ | rfl
    · exact ⟨by decide, by decide, by decide⟩
    · exact ⟨by decide, by decide⟩
    · exact ⟨by decide, by decide, by decide⟩
  · decide
  · intro c hc
    simp [lgC, -List.reduceReplicate] at hc
    have hl : lgB.length = 10 := by decide
    rcases hc with ⟨k, hk, rfl⟩ | ⟨_, rfl⟩ <;> (rw [hl]; simp; try omega)
  · intro c hc b hb
    simp [lgC, -List.reduceReplicate] at hc
    rcases hc with ⟨k, hk, rfl⟩ | ⟨_, rfl⟩
    · have : k = 0 ∨ k = 1 ∨ k = 2 ∨ k = 3 ∨ k = 4 ∨ k = 5 ∨ k = 6 ∨ k = 7 ∨ k = 8 := by omega
      rcases this with rfl | rfl | rfl | rfl | rfl | rfl | rfl | rfl | rfl <;> (cases hb; rfl)
    · cases hb; rfl
  · intro c hc b hb
    simp [lgC, -List.reduceReplicate] at hc
    rcases hc with ⟨k, hk, rfl⟩ | ⟨_, rfl⟩
    · have : k = 0 ∨ k = 1 ∨ k = 2 ∨ k = 3 ∨ k = 4 ∨ k = 5 ∨ k = 6 ∨ k = 7 ∨ k = 8 := by omega
      rcases this with rfl | rfl | rfl | rfl | rfl | rfl | rfl | rfl | rfl <;> (cases hb; rfl)
    · cases hb; rfl
  · intro j hj
    have hl : lgB.length = 10 := by decide
    rw [hl] at hj
    refine ⟨hfed j hj, ?_, ?_⟩
    · have := hused (9 - j) (by omega)
      have e : 9 - (9 - j) = j := by omega
      rw [e] at this; exact this
    · have : ∀ j, j < 10 → twB lgB lgC j = false := by decide
      exact this j hj
  · refine ⟨fun k => k, fun c hc h0 => ?_⟩
    simp [lgC, -List.reduceReplicate] at hc
    rcases hc with ⟨k, hk, rfl⟩ | ⟨_, rfl⟩
    · simp at h0
    · simp
end Hd
namespace Hd
open PySem PySem.Spec PyProof.Rows L2 Ev
theorem chain_ok {C : Cl} {o0 o1 o2 o3 o4 : L} {o5 : Option L} : ∃ F, F = F_law_14 C ∧ ∀ Q : Fl → VS → Prop, Q .nx [some o0, some o1, some o2, some o3, some o4, o5, some (.own (((List.range 9).map (fun k => (⟨k, k + 1, 99⟩ : Cb))).map Cb.d)), none, none] →
    wp F [some o0, some o1, some o2, some o3, some o4, o5, none, none, none] Q := by
  refine ⟨_, rfl, fun Q hq => ?_⟩
  simp [F_law_14, wp_fComp, wipeV]
  rw [lcF_pure (fun d => match d with | .int k => some (.tup [.int k, .int (k + 1), .int 99]) | _ => none) (by simp [rgD])]
  · simp [rgD, List.range_succ]
    simpa [restV, keepD, List.range_succ, Cb.d] using hq
  · intro d hd
    simp only [rgD, List.mem_map, List.mem_range] at hd
    obtain ⟨k, hk, rfl⟩ := hd
    simp [bYes, wipeV]
theorem lg_bs : lgB.map Bx.d = (.tup [.str "in", .str "a"] :: (List.replicate 8 (D.tup [.str "sum", .int 9]))) ++ [.tup [.str "out", .str "abcdefgh"]] := rfl
theorem lg_cs : lgC.map Cb.d = ((List.range 9).map (fun k => (⟨k, k + 1, 99⟩ : Cb))).map Cb.d ++ List.replicate 11 (.tup [.int 0, .int 1, .int 0]) := rfl
theorem long_ok {C : Cl} {ch : List D} {o0 o1 o2 o3 o4 : L} {o5 : Option L} {Q : Fl → VS → Prop} (hch : ((List.range 9).map (fun k => (⟨k, k + 1, 99⟩ : Cb))).map Cb.d = ch) (hq : Q .nx [some o0, some o1, some o2, some o3, some o4, o5, some (.own ch), none, none]) :
    wp (F_law_15 C) [some o0, some o1, some o2, some o3, some o4, o5, some (.own ch), none, none] Q := by
  have hcl : ch.length = 9 := by rw [← hch]; rfl
  simp [F_law_15, wp_fMake, -List.reduceReplicate, hcl]
  have e1 : D.tup [D.str (Str.ofString "in"), D.str (Str.ofString "a")] :: (List.replicate 8 (D.tup [D.str (Str.ofString "sum"), D.int 9]) ++ [D.tup [D.str (Str.ofString "out"), D.str (Str.ofString "abcdefgh")]]) = lgB.map Bx.d := lg_bs.symm
  have e2 : ch ++ List.replicate 11 (D.tup [D.int 0, D.int 1, D.int 0]) = lgC.map Cb.d := by rw [← hch]; exact lg_cs.symm
  rw [e1, e2]
  refine make_desk (l1 := .d (.lst (lgB.map Bx.d))) (l2 := .d (.lst (lgC.map Cb.d))) (bs := lgB) (cs := lgC) rfl rfl rfl rfl rfl (by decide) (by decide) lg_good fun order => ?_
  exact hq
theorem law_true (C : Cl) (ns : List Int) (nd : (exs C).Nodup) (hl : ns.length ≤ 63) : ∃ ps, (fn_law C).run [some (.d (.scr ns))] = some (.ok (.d (.bl true)), ps) := by
  have main : wp (fn_law C).run [some (.d (.scr ns))] fun l os => l = .d (.bl true) := by
    refine wp_def ?_
    show wp (F_law C) [some (.d (.scr ns)), none, none, none, none, none, none, none, none] _
    simp only [F_law, F_law_0, wp_sSeq, F_law_1]
    simp
    refine call_dice (by omega) (by omega) hl fun xs h => ?_
    simp [F_law_2]
    refine call_desk rfl h (by omega) (by omega) fun bs cs ys hy w => ?_
    simp only [data_d, to_some, List.length_cons, List.length_nil, List.set_cons_succ, List.set_cons_zero]
    refine ⟨by omega, ?_⟩
    refine F345 w fun order => ?_
    obtain ⟨dk, hdk, hd⟩ : ∃ dk, deskD C.Desk bs cs order = dk ∧ IsDesk C bs cs order dk := ⟨_, rfl, isDesk_ok⟩
    rw [hdk]
    obtain ⟨F14, hF14, h14⟩ := chain_ok (C := C) (o0 := .d (.scr ns)) (o1 := .own ys) (o2 := .d (tD bs cs)) (o3 := .oll [.own [], .own []]) (o4 := .d dk) (o5 := some (.d (.int 1)))
    rw [← hF14]
    simp [F_law_8]
    rw [show rgD 0 2 = [D.int 0, D.int 1] from rfl]
    simp [wp_loop_cons]
    refine turn1 w hd ?_
    simp
    refine turn1 w hd ?_
    simp
    refine h14 _ ?_
    clear hF14 h14 F14
    generalize hch : ((List.range 9).map (fun k => (⟨k, k + 1, 99⟩ : Cb))).map Cb.d = ch0
    simp
    refine long_ok hch ?_
    simp [F_law_16]
    refine call_wrong rfl hy w fun ds es k y zs hz hb => ?_
    simp
    refine call_refused nd hb ?_
    simp
  obtain ⟨l, ps, e, rfl⟩ := wp_out main
  exact ⟨ps, e⟩
end Hd
theorem PySem.Challenge.cw_evenlate_k01_desks_refused_holds : PySem.Challenge.rw_evenlate_k01_desks_refused.Holds := by
  exact Hd.holds_of Hd.law_true
