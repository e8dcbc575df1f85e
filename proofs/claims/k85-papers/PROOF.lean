import PyProof.Rows.All
import Wide.All
import OpenK.AllK
import Wide.FinOn
import HandS.ForMost
import HandS.Walk
import HandS.Star
import HandS.TupLe
import HandS.Strs
import HandS.WideBits
import HandS.Flow
import HandS.Style
import HandS.SortInts
import HandS.SortRule
import HandS.SetBool
import HandS.IsInst
import HandS.Defaults
import HandS.Codes
import HandS.Conv
import HandS.More
import HandS.SortOrd
import HandS.SetFor
import HandS.Words
import PySem.Challenge.RW_strictranks_k85_whole_papers_put_togethe
import KE.KStateDown
import Lean
import HandS.Base
import HandS.Call
import HandS.Ends
import HandS.WordsExc
import HandS.Head0
import HandS.Head1
import HandS.Head2
import HandS.HeadEnd
import HandS.HeadHook1
import HandS.HeadHook2
section
set_option Elab.async false
set_option linter.all false
set_option maxRecDepth 100000
set_option maxHeartbeats 2000000
/-! Denotations over the hand layer: slots that hold pure data, what an expression, a statement, a def does to them. -/
namespace Dn
open PySem L2

/-! ### heaps -/
def Ex (H H' : Hp) : Prop := ∀ a o, H a = some o → H' a = some o
theorem Ex.rfl' {H : Hp} : Ex H H := fun _ _ h => h
theorem Ex.trans {H H1 H2 : Hp} (a : Ex H H1) (b : Ex H1 H2) : Ex H H2 := fun x o h => b x o (a x o h)
theorem Ex.new {H : Hp} {p : Addr} {o : HO} (h : H p = none) : Ex H (upd H p o) := fun a u e => by
  rw [upd_ne (ne_of_none e h)]; exact e
theorem Ex.back {H H' : Hp} {p : Addr} (e : Ex H H') (h : H' p = none) : H p = none := by
  cases q : H p with
  | none => rfl
  | some o => rw [e p o q] at h; cases h
theorem Ex.both {F H : Hp} {p : Addr} {o : HO} (e : Ex F H) : Ex (upd F p o) (upd H p o) := fun a u h => by
  by_cases q : a = p
  · subst q; rw [upd_same] at h ⊢; exact h
  · rw [upd_ne q] at h ⊢; exact e a u h
/-- what is written at a place that F does not know -/
theorem Ex.mut {F H : Hp} {p : Addr} {o : HO} (e : Ex F H) (h : F p = none) : Ex F (upd H p o) := fun a u q => by
  rw [upd_ne (ne_of_none q h)]; exact e a u q

/-! ### data in a heap -/
mutual
inductive Re (H : Hp) : V → PyData → Prop
  | non : Re H .non .none
  | bl (b : Bool) : Re H (.bl b) (.bool b)
  | int (i : Int) : Re H (.int i) (.int i)
  | str (x : Str) : Re H (.str x) (.str x)
  | lst {a : Addr} {xs : List V} {ds : List PyData} : H a = some (.lst xs) → ReA H xs ds → Re H (.ref a) (.list ds)
  | tup {a : Addr} {xs : List V} {ds : List PyData} : H a = some (.tup xs) → ReA H xs ds → Re H (.ref a) (.tuple ds)
inductive ReA (H : Hp) : List V → List PyData → Prop
  | nil : ReA H [] []
  | cons {v : V} {vs : List V} {d : PyData} {ds : List PyData} : Re H v d → ReA H vs ds → ReA H (v :: vs) (d :: ds)
end
mutual
theorem Re.mono {H H' : Hp} (e : Ex H H') : ∀ {v : V} {d : PyData}, Re H v d → Re H' v d
  | _, _, .non => .non
  | _, _, .bl b => .bl b
  | _, _, .int i => .int i
  | _, _, .str x => .str x
  | _, _, .lst h t => .lst (e _ _ h) (ReA.mono e t)
  | _, _, .tup h t => .tup (e _ _ h) (ReA.mono e t)
theorem ReA.mono {H H' : Hp} (e : Ex H H') : ∀ {vs : List V} {ds : List PyData}, ReA H vs ds → ReA H' vs ds
  | _, _, .nil => .nil
  | _, _, .cons h t => .cons (Re.mono e h) (ReA.mono e t)
end
mutual
theorem Re.dp {K : PySem.W.Frag} {H : Hp} : ∀ {v : V} {d : PyData}, Re H v d → Dp K H v d
  | _, _, .non => .non
  | _, _, .bl b => .bl b
  | _, _, .int i => .int i
  | _, _, .str x => .str x
  | _, _, .lst h t => .lst (SqL.of h) (ReA.dp t)
  | _, _, .tup h t => .tup (SqT.of h) (ReA.dp t)
theorem ReA.dp {K : PySem.W.Frag} {H : Hp} : ∀ {vs : List V} {ds : List PyData}, ReA H vs ds → DpAll K H vs ds
  | _, _, .nil => .nil
  | _, _, .cons h t => .cons (Re.dp h) (ReA.dp t)
end
theorem ReA.length {H : Hp} : ∀ {vs : List V} {ds : List PyData}, ReA H vs ds → vs.length = ds.length
  | _, _, .nil => rfl
  | _, _, .cons _ t => congrArg Nat.succ (ReA.length t)
theorem ReA.get {H : Hp} : ∀ {vs : List V} {ds : List PyData} {i : Nat} {d : PyData}, ReA H vs ds → ds[i]? = some d → ∃ v, vs[i]? = some v ∧ Re H v d
  | _, _, _, _, .nil, e => by simp at e
  | _, _, 0, _, .cons h _, e => by
    simp at e; subst e; exact ⟨_, rfl, h⟩
  | _, _, i + 1, _, .cons _ t, e => by
    obtain ⟨v, e1, e2⟩ := ReA.get (i := i) t (by simpa using e)
    exact ⟨v, by simpa using e1, e2⟩
theorem ReA.get' {H : Hp} : ∀ {vs : List V} {ds : List PyData} {i : Nat} {v : V}, ReA H vs ds → vs[i]? = some v → ∃ d, ds[i]? = some d ∧ Re H v d
  | _, _, _, _, .nil, e => by simp at e
  | _, _, 0, _, .cons h _, e => by
    simp at e; subst e; exact ⟨_, rfl, h⟩
  | _, _, i + 1, _, .cons _ t, e => by
    obtain ⟨v, e1, e2⟩ := ReA.get' (i := i) t (by simpa using e)
    exact ⟨v, by simpa using e1, e2⟩
theorem ReA.append {H : Hp} : ∀ {vs ws : List V} {ds es : List PyData}, ReA H vs ds → ReA H ws es → ReA H (vs ++ ws) (ds ++ es)
  | _, _, _, _, .nil, s => s
  | _, _, _, _, .cons h t, s => .cons h (ReA.append t s)
theorem ReA.take {H : Hp} : ∀ {vs : List V} {ds : List PyData} (n : Nat), ReA H vs ds → ReA H (vs.take n) (ds.take n)
  | _, _, 0, _ => .nil
  | _, _, _ + 1, .nil => .nil
  | _, _, n + 1, .cons h t => .cons h (ReA.take n t)
theorem ReA.drop {H : Hp} : ∀ {vs : List V} {ds : List PyData} (n : Nat), ReA H vs ds → ReA H (vs.drop n) (ds.drop n)
  | _, _, 0, r => r
  | _, _, _ + 1, .nil => .nil
  | _, _, n + 1, .cons _ t => ReA.drop n t
theorem ReA.set {H : Hp} {v : V} {d : PyData} (h : Re H v d) : ∀ {vs : List V} {ds : List PyData} (n : Nat), ReA H vs ds → ReA H (vs.set n v) (ds.set n d)
  | _, _, _, .nil => .nil
  | _, _, 0, .cons _ t => .cons h t
  | _, _, n + 1, .cons q t => .cons q (ReA.set h n t)
theorem ReA.reverse {H : Hp} : ∀ {vs : List V} {ds : List PyData}, ReA H vs ds → ReA H vs.reverse ds.reverse
  | _, _, .nil => .nil
  | _, _, .cons h t => by
    rw [List.reverse_cons, List.reverse_cons]
    exact ReA.append (ReA.reverse t) (.cons h .nil)
theorem ReA.eraseIdx {H : Hp} : ∀ {vs : List V} {ds : List PyData} (n : Nat), ReA H vs ds → ReA H (vs.eraseIdx n) (ds.eraseIdx n)
  | _, _, _, .nil => .nil
  | _, _, 0, .cons _ t => t
  | _, _, n + 1, .cons q t => .cons q (ReA.eraseIdx n t)
theorem ReA.dropLast {H : Hp} {vs : List V} {ds : List PyData} (h : ReA H vs ds) : ReA H vs.dropLast ds.dropLast := by
  rw [List.dropLast_eq_take, List.dropLast_eq_take, h.length]
  exact h.take _
theorem ReA.ints {H : Hp} : ∀ {vs : List V} {ns : List Int}, ReA H vs (ns.map .int) → vs = ns.map V.int
  | _, [], .nil => rfl
  | _, _ :: _, .cons h t => by
    cases h; rw [List.map_cons, ReA.ints t]
theorem ReA.of_ints {H : Hp} : ∀ (ns : List Int), ReA H (ns.map V.int) (ns.map .int)
  | [] => .nil
  | _ :: r => .cons (.int _) (ReA.of_ints r)
theorem ReA.strs {H : Hp} : ∀ {vs : List V} {ns : List Str}, ReA H vs (ns.map .str) → vs = ns.map V.str
  | _, [], .nil => rfl
  | _, _ :: _, .cons h t => by
    cases h; rw [List.map_cons, ReA.strs t]
theorem ReA.of_strs {H : Hp} : ∀ (ns : List Str), ReA H (ns.map V.str) (ns.map .str)
  | [] => .nil
  | _ :: r => .cons (.str _) (ReA.of_strs r)
theorem ReA.bools {H : Hp} : ∀ {vs : List V} {ns : List Bool}, ReA H vs (ns.map .bool) → vs = ns.map V.bl
  | _, [], .nil => rfl
  | _, _ :: _, .cons h t => by
    cases h; rw [List.map_cons, ReA.bools t]

/-! ### slots -/
inductive Sl where
  /-- data that nobody changes -/
  | fz (d : PyData)
  /-- a list of ours that no other thing holds -/
  | ol (ds : List PyData)
  /-- a dict of ours, keys ints and texts -/
  | od (kvs : List (Key × PyData))
  /-- the script: a list of ints, read only -/
  | sx (ns : List Int)
  /-- the caller's list that is lent -/
  | pu (ds : List PyData)
def Sl.own : Sl → Bool
  | .ol _ => true
  | .od _ => true
  | .pu _ => true
  | _ => false
abbrev Ro := List (Option Sl)
abbrev KvR (F : Hp) : List (Key × V) → List (Key × PyData) → Prop := Paired fun p q => p.1 = q.1 ∧ Re F p.2 q.2
/-- what stands aside: a heap that stays as it is, the place of what is lent -/
structure Bs where
  hp : Hp
  pu : Addr
def Bs.up (B : Bs) (p : Addr) (u : HO) : Bs := ⟨upd B.hp p u, B.pu⟩
/-- the value of a slot -/
def SlOk (K : PySem.W.Frag) (B : Bs) (F H : Hp) (v : V) : Sl → Prop
  | .fz d => Re F v d
  | .ol ds => ∃ a xs, v = .ref a ∧ H a = some (.lst xs) ∧ F a = none ∧ B.hp a = none ∧ ReA F xs ds
  | .od kvs => ∃ a ks, v = .ref a ∧ H a = some (.dK ks) ∧ F a = none ∧ B.hp a = none ∧ KvR F ks kvs
  | .sx ns => ∃ a, v = .ref a ∧ SqL K F a (ns.map V.int)
  | .pu ds => ∃ a xs, v = .ref a ∧ H a = some (.lst xs) ∧ F a = none ∧ B.hp a = none ∧ ReA F xs ds ∧ a = B.pu
structure Ok (K : PySem.W.Frag) (B : Bs) (σ : L2.St) (F H : Hp) (ρ : Ro) : Prop where
  fh : Ex F H
  bh : Ex B.hp H
  len : σ.length = ρ.length
  sl : ∀ (i : Nat) (s : Sl), ρ[i]? = some (some s) → ∃ v, σ[i]? = some (some v) ∧ SlOk K B F H v s
  ds : ∀ (i j : Nat) (s t : Sl) (v : V), i ≠ j → ρ[i]? = some (some s) → ρ[j]? = some (some t) → s.own = true → t.own = true → σ[i]? = some (some v) → σ[j]? = some (some v) → False
/-- F grows to F', and takes nothing of B that it had not -/
structure Gr (B F F' : Hp) : Prop where
  ex : Ex F F'
  nn : ∀ a o, B a = some o → F a = none → F' a = none
theorem Gr.rfl' {B F : Hp} : Gr B F F := ⟨Ex.rfl', fun _ _ _ h => h⟩
theorem Gr.trans {B F F1 F2 : Hp} (a : Gr B F F1) (b : Gr B F1 F2) : Gr B F F2 := ⟨a.ex.trans b.ex, fun x o h e => b.nn x o h (a.nn x o h e)⟩
theorem Gr.new {B F H : Hp} {p : Addr} {o : HO} (fh : Ex F H) (bh : Ex B H) (h : H p = none) : Gr B F (upd F p o) := ⟨Ex.new (fh.back h), fun a u e q => by
  rw [upd_ne (ne_of_none (bh a u e) h)]; exact q⟩
theorem Gr.less {B B' F F' : Hp} (e : Ex B B') (g : Gr B' F F') : Gr B F F' := ⟨g.ex, fun a o h q => g.nn a o (e a o h) q⟩
theorem ex_sql {K : PySem.W.Frag} {H H' : Hp} {a : Addr} {xs : List V} (e : Ex H H') (h : SqL K H a xs) : SqL K H' a xs := by
  rcases h with (h | ⟨o, h⟩) | h
  · exact .inl (.inl (e _ _ h))
  · exact .inl (.inr ⟨o, e _ _ h⟩)
  · exact .inr h
theorem KvR.mono {F F' : Hp} (e : Ex F F') : ∀ {ks : List (Key × V)} {kvs : List (Key × PyData)}, KvR F ks kvs → KvR F' ks kvs
  | _, _, .nil => .nil
  | _, _, .cons h t => .cons ⟨h.1, h.2.mono e⟩ (KvR.mono e t)

section
variable {K : PySem.W.Frag} {B : Bs} {F F' H H' : Hp} {σ : L2.St} {ρ : Ro}
/-- everything that stood stands -/
theorem SlOk.kept {v : V} {s : Sl} (g : Gr H F F') (e : Ex H H') (h : SlOk K B F H v s) : SlOk K B F' H' v s := by
  cases s with
  | fz d => exact Re.mono g.ex h
  | ol ds => obtain ⟨a, xs, e1, e2, e3, e4, e5⟩ := h; exact ⟨a, xs, e1, e _ _ e2, g.nn _ _ e2 e3, e4, e5.mono g.ex⟩
  | od kvs => obtain ⟨a, xs, e1, e2, e3, e4, e5⟩ := h; exact ⟨a, xs, e1, e _ _ e2, g.nn _ _ e2 e3, e4, KvR.mono g.ex e5⟩
  | sx ns => obtain ⟨a, e1, e2⟩ := h; exact ⟨a, e1, ex_sql g.ex e2⟩
  | pu ds => obtain ⟨a, xs, e1, e2, e3, e4, e5, e6⟩ := h; exact ⟨a, xs, e1, e _ _ e2, g.nn _ _ e2 e3, e4, e5.mono g.ex, e6⟩
theorem Ok.kept (o : Ok K B σ F H ρ) (g : Gr H F F') (e : Ex H H') (fh : Ex F' H') : Ok K B σ F' H' ρ :=
  ⟨fh, o.bh.trans e, o.len, fun i s q => let ⟨v, e1, e2⟩ := o.sl i s q; ⟨v, e1, e2.kept g e⟩, o.ds⟩
/-- a new object, known -/
theorem Ok.new (o : Ok K B σ F H ρ) {p : Addr} {u : HO} (h : H p = none) : Ok K B σ (upd F p u) (upd H p u) ρ :=
  o.kept (Gr.new o.fh Ex.rfl' h) (Ex.new h) o.fh.both
/-- a new object, not known -/
theorem Ok.newH (o : Ok K B σ F H ρ) {p : Addr} {u : HO} (h : H p = none) : Ok K B σ F (upd H p u) ρ :=
  o.kept Gr.rfl' (Ex.new h) (o.fh.trans (Ex.new h))
theorem Ok.less {B' : Bs} (o : Ok K B' σ F H ρ) (e : Ex B.hp B'.hp) (ep : B'.pu = B.pu) : Ok K B σ F H ρ := by
  refine ⟨o.fh, e.trans o.bh, o.len, fun i s q => ?_, o.ds⟩
  obtain ⟨v, e1, e2⟩ := o.sl i s q
  refine ⟨v, e1, ?_⟩
  cases s with
  | fz d => exact e2
  | ol ds => obtain ⟨a, xs, h1, h2, h3, h4, h5⟩ := e2; exact ⟨a, xs, h1, h2, h3, e.back h4, h5⟩
  | od kvs => obtain ⟨a, xs, h1, h2, h3, h4, h5⟩ := e2; exact ⟨a, xs, h1, h2, h3, e.back h4, h5⟩
  | sx ns => exact e2
  | pu ds => obtain ⟨a, xs, h1, h2, h3, h4, h5, h6⟩ := e2; exact ⟨a, xs, h1, h2, h3, e.back h4, h5, h6.trans ep⟩
/-- the address of one's own thing -/
theorem SlOk.addr {v : V} {s : Sl} (h : SlOk K B F H v s) (w : s.own = true) : ∃ a o, v = .ref a ∧ H a = some o ∧ F a = none ∧ B.hp a = none := by
  cases s with
  | fz d => cases w
  | ol ds => obtain ⟨a, xs, h1, h2, h3, h4, h5⟩ := h; exact ⟨a, _, h1, h2, h3, h4⟩
  | od kvs => obtain ⟨a, xs, h1, h2, h3, h4, h5⟩ := h; exact ⟨a, _, h1, h2, h3, h4⟩
  | sx ns => cases w
  | pu ds => obtain ⟨a, xs, h1, h2, h3, h4, h5, _⟩ := h; exact ⟨a, _, h1, h2, h3, h4⟩
/-- the slot that owns p -/
def NoOwn (σ : L2.St) (ρ : Ro) (p : Addr) : Prop := ∀ (i : Nat) (s : Sl), ρ[i]? = some (some s) → s.own = true → σ[i]? ≠ some (some (.ref p))
theorem Ok.noOwn_of (o : Ok K B σ F H ρ) {p : Addr} {u : HO} (h : B.hp p = some u) : NoOwn σ ρ p := fun i s q w e => by
  obtain ⟨v, e1, e2⟩ := o.sl i s q
  rw [e1] at e; cases e
  obtain ⟨a, _, z, _, _, z2⟩ := e2.addr w
  cases z
  rw [h] at z2; cases z2
theorem Ok.noOwn_new (o : Ok K B σ F H ρ) {p : Addr} (h : H p = none) : NoOwn σ ρ p := fun i s q w e => by
  obtain ⟨v, e1, e2⟩ := o.sl i s q
  rw [e1] at e; cases e
  obtain ⟨a, _, z, z1, _, _⟩ := e2.addr w
  cases z
  rw [h] at z1; cases z1
/-- a thing at p is written that no slot owns and F does not know -/
theorem SlOk.wrote {v : V} {s : Sl} {p : Addr} {u : HO} (h : SlOk K B F H v s) (w : s.own = true → v ≠ .ref p) : SlOk K B F (upd H p u) v s := by
  cases s with
  | fz d => exact h
  | ol ds => obtain ⟨a, xs, h1, h2, h3, h4, h5⟩ := h; exact ⟨a, xs, h1, by rw [upd_ne (fun e => w rfl (by rw [h1, e]))]; exact h2, h3, h4, h5⟩
  | od kvs => obtain ⟨a, xs, h1, h2, h3, h4, h5⟩ := h; exact ⟨a, xs, h1, by rw [upd_ne (fun e => w rfl (by rw [h1, e]))]; exact h2, h3, h4, h5⟩
  | sx ns => exact h
  | pu ds => obtain ⟨a, xs, h1, h2, h3, h4, h5, h6⟩ := h; exact ⟨a, xs, h1, by rw [upd_ne (fun e => w rfl (by rw [h1, e]))]; exact h2, h3, h4, h5, h6⟩
/-- .. that the base holds -/
theorem Ok.swapB {p : Addr} {u u' : HO} (o : Ok K (B.up p u) σ F H ρ) (hf : F p = none) (hb : B.hp p = none) : Ok K (B.up p u') σ F (upd H p u') ρ := by
  have no := o.noOwn_of (p := p) (u := u) upd_same
  refine ⟨o.fh.mut hf, fun a x e => ?_, o.len, fun i s q => ?_, o.ds⟩
  · have e : upd B.hp p u' a = some x := e
    by_cases z : a = p
    · subst z; rw [upd_same] at e ⊢; exact e
    · rw [upd_ne z] at e ⊢; exact o.bh a x (by show upd B.hp p u a = _; rw [upd_ne z]; exact e)
  · obtain ⟨v, e1, e2⟩ := o.sl i s q
    refine ⟨v, e1, ?_⟩
    have nv : s.own = true → v ≠ .ref p := fun w z => no i s q w (by rw [e1, z])
    have e3 := e2.wrote (u := u') nv
    cases s with
    | fz d => exact e3
    | ol ds => obtain ⟨a, xs, h1, h2, h3, h4, h5⟩ := e3; exact ⟨a, xs, h1, h2, h3, by show upd B.hp p u' a = _; rw [upd_ne (fun e => nv rfl (by rw [h1, e]))]; have h4 : upd B.hp p u a = _ := h4; rw [upd_ne (fun e => nv rfl (by rw [h1, e]))] at h4; exact h4, h5⟩
    | od kvs => obtain ⟨a, xs, h1, h2, h3, h4, h5⟩ := e3; exact ⟨a, xs, h1, h2, h3, by show upd B.hp p u' a = _; rw [upd_ne (fun e => nv rfl (by rw [h1, e]))]; have h4 : upd B.hp p u a = _ := h4; rw [upd_ne (fun e => nv rfl (by rw [h1, e]))] at h4; exact h4, h5⟩
    | sx ns => exact e3
    | pu ds => obtain ⟨a, xs, h1, h2, h3, h4, h5, h6⟩ := e3; exact ⟨a, xs, h1, h2, h3, by show upd B.hp p u' a = _; rw [upd_ne (fun e => nv rfl (by rw [h1, e]))]; have h4 : upd B.hp p u a = _ := h4; rw [upd_ne (fun e => nv rfl (by rw [h1, e]))] at h4; exact h4, h5, h6⟩
/-- the base takes on a thing that no slot owns -/
theorem Ok.more {p : Addr} {u : HO} (o : Ok K B σ F H ρ) (h : H p = some u) (no : NoOwn σ ρ p) : Ok K (B.up p u) σ F H ρ := by
  refine ⟨o.fh, fun a x e => ?_, o.len, fun i s q => ?_, o.ds⟩
  · have e : upd B.hp p u a = some x := e
    by_cases z : a = p
    · subst z; rw [upd_same] at e; cases e; exact h
    · rw [upd_ne z] at e; exact o.bh a x e
  · obtain ⟨v, e1, e2⟩ := o.sl i s q
    refine ⟨v, e1, ?_⟩
    have nv : s.own = true → v ≠ .ref p := fun w z => no i s q w (by rw [e1, z])
    cases s with
    | fz d => exact e2
    | ol ds => obtain ⟨a, xs, h1, h2, h3, h4, h5⟩ := e2; exact ⟨a, xs, h1, h2, h3, by show upd B.hp p u a = _; rw [upd_ne (fun e => nv rfl (by rw [h1, e]))]; exact h4, h5⟩
    | od kvs => obtain ⟨a, xs, h1, h2, h3, h4, h5⟩ := e2; exact ⟨a, xs, h1, h2, h3, by show upd B.hp p u a = _; rw [upd_ne (fun e => nv rfl (by rw [h1, e]))]; exact h4, h5⟩
    | sx ns => exact e2
    | pu ds => obtain ⟨a, xs, h1, h2, h3, h4, h5, h6⟩ := e2; exact ⟨a, xs, h1, h2, h3, by show upd B.hp p u a = _; rw [upd_ne (fun e => nv rfl (by rw [h1, e]))]; exact h4, h5, h6⟩
/-- a thing at p that no slot owns and the base has not becomes known -/
theorem Ok.freeze {p : Addr} {u : HO} (o : Ok K B σ F H ρ) (h : H p = some u) (hf : F p = none) (no : NoOwn σ ρ p) : Ok K B σ (upd F p u) H ρ := by
  refine ⟨fun a x e => ?_, o.bh, o.len, fun i s q => ?_, o.ds⟩
  · by_cases z : a = p
    · subst z; rw [upd_same] at e; cases e; exact h
    · rw [upd_ne z] at e; exact o.fh a x e
  · obtain ⟨v, e1, e2⟩ := o.sl i s q
    refine ⟨v, e1, ?_⟩
    have nv : s.own = true → v ≠ .ref p := fun w z => no i s q w (by rw [e1, z])
    have fe : Ex F (upd F p u) := Ex.new hf
    cases s with
    | fz d => exact Re.mono fe e2
    | ol ds => obtain ⟨a, xs, h1, h2, h3, h4, h5⟩ := e2; exact ⟨a, xs, h1, h2, by rw [upd_ne (fun e => nv rfl (by rw [h1, e]))]; exact h3, h4, h5.mono fe⟩
    | od kvs => obtain ⟨a, xs, h1, h2, h3, h4, h5⟩ := e2; exact ⟨a, xs, h1, h2, by rw [upd_ne (fun e => nv rfl (by rw [h1, e]))]; exact h3, h4, KvR.mono fe h5⟩
    | sx ns => obtain ⟨a, h1, h2⟩ := e2; exact ⟨a, h1, ex_sql fe h2⟩
    | pu ds => obtain ⟨a, xs, h1, h2, h3, h4, h5, h6⟩ := e2; exact ⟨a, xs, h1, h2, by rw [upd_ne (fun e => nv rfl (by rw [h1, e]))]; exact h3, h4, h5.mono fe, h6⟩
theorem gr_freeze {B : Hp} {p : Addr} {u : HO} (hf : F p = none) (hb : B p = none) : Gr B F (upd F p u) := ⟨Ex.new hf, fun a x e q => by
  rw [upd_ne (ne_of_none e hb)]; exact q⟩
/-- a slot is stored: its value is known, or p is owned anew -/
theorem Ok.store (o : Ok K B σ F H ρ) {i : Nat} {v : V} {s : Sl} (h : SlOk K B F H v s) (hn : s.own = true → ∀ p, v = .ref p → NoOwn σ ρ p) : Ok K B (σ.set i (some v)) F H (ρ.set i (some s)) := by
  refine ⟨o.fh, o.bh, by rw [List.length_set, List.length_set]; exact o.len, fun j t q => ?_, fun j k t t' w ne q1 q2 w1 w2 e1 e2 => ?_⟩
  · by_cases z : j = i
    · subst z
      have hl : j < ρ.length := by
        rw [← List.length_set]; exact (List.getElem?_eq_some_iff.mp q).1
      rw [List.getElem?_set_self hl] at q; cases q
      exact ⟨v, by rw [List.getElem?_set_self (by rw [o.len]; exact hl)], h⟩
    · rw [List.getElem?_set_ne (Ne.symm z)] at q ⊢
      exact o.sl j t q
  · have hj : ∀ {j : Nat} {t : Sl}, (ρ.set i (some s))[j]? = some (some t) → j < ρ.length := fun {j t} q => by
      rw [← List.length_set]; exact (List.getElem?_eq_some_iff.mp q).1
    have lj := hj q1
    have lk := hj q2
    by_cases z1 : j = i
    · subst z1
      rw [List.getElem?_set_self lj] at q1; cases q1
      rw [List.getElem?_set_self (by rw [o.len]; exact lj)] at e1; cases e1
      rw [List.getElem?_set_ne ne] at q2 e2
      obtain ⟨a, _, rfl, _⟩ := h.addr w1
      exact hn w1 a rfl k t' q2 w2 e2
    · rw [List.getElem?_set_ne (Ne.symm z1)] at q1 e1
      by_cases z2 : k = i
      · subst z2
        rw [List.getElem?_set_self lk] at q2; cases q2
        rw [List.getElem?_set_self (by rw [o.len]; exact lk)] at e2; cases e2
        obtain ⟨a, _, rfl, _⟩ := h.addr w2
        exact hn w2 a rfl j t q1 w1 e1
      · rw [List.getElem?_set_ne (Ne.symm z2)] at q2 e2
        exact o.ds j k t t' w ne q1 q2 w1 w2 e1 e2
theorem Ok.storeF (o : Ok K B σ F H ρ) {i : Nat} {v : V} {d : PyData} (h : Re F v d) : Ok K B (σ.set i (some v)) F H (ρ.set i (some (.fz d))) := o.store h fun w => by cases w
/-- forgetting -/
theorem Ok.forget (o : Ok K B σ F H ρ) {ρ' : Ro} (hl : ρ'.length = ρ.length) (h : ∀ (i : Nat) (s : Sl), ρ'[i]? = some (some s) → ρ[i]? = some (some s)) : Ok K B σ F H ρ' :=
  ⟨o.fh, o.bh, o.len.trans hl.symm, fun i s q => o.sl i s (h i s q), fun i j s t v ne q1 q2 => o.ds i j s t v ne (h i s q1) (h j t q2)⟩
/-- one's own list is changed -/
theorem Ok.mutL (o : Ok K B σ F H ρ) {i : Nat} {ds ds' : List PyData} {xs' : List V} {a : Addr} (hi : ρ[i]? = some (some (.ol ds))) (hs : σ[i]? = some (some (.ref a))) (h : ReA F xs' ds') : Ok K B σ F (upd H a (.lst xs')) (ρ.set i (some (.ol ds'))) := by
  have hl : i < ρ.length := (List.getElem?_eq_some_iff.mp hi).1
  obtain ⟨v, e1, b, xs, e2, e3, e4, e5, e6⟩ := o.sl i _ hi
  rw [hs] at e1; cases e1; cases e2
  refine ⟨o.fh.mut e4, o.bh.mut e5, by rw [List.length_set]; exact o.len, fun j t q => ?_, fun j k t t' w ne q1 q2 w1 w2 z1 z2 => ?_⟩
  · by_cases z : j = i
    · subst z
      rw [List.getElem?_set_self hl] at q; cases q
      exact ⟨_, hs, a, xs', rfl, upd_same, e4, e5, h⟩
    · rw [List.getElem?_set_ne (Ne.symm z)] at q
      obtain ⟨v, f1, f2⟩ := o.sl j t q
      exact ⟨v, f1, f2.wrote fun w e => o.ds j i t _ v z q hi w rfl f1 (by rw [e]; exact hs)⟩
  · have back : ∀ {j : Nat} {t : Sl}, (ρ.set i (some (.ol ds')))[j]? = some (some t) → t.own = true → ∃ t', ρ[j]? = some (some t') ∧ t'.own = true := fun {j t} q w => by
      by_cases z : j = i
      · subst z; exact ⟨_, hi, rfl⟩
      · rw [List.getElem?_set_ne (Ne.symm z)] at q; exact ⟨t, q, w⟩
    obtain ⟨u1, r1, w1'⟩ := back q1 w1
    obtain ⟨u2, r2, w2'⟩ := back q2 w2
    exact o.ds j k u1 u2 w ne r1 r2 w1' w2' z1 z2
theorem Ok.mutP (o : Ok K B σ F H ρ) {i : Nat} {ds ds' : List PyData} {xs' : List V} {a : Addr} (hi : ρ[i]? = some (some (.pu ds))) (hs : σ[i]? = some (some (.ref a))) (h : ReA F xs' ds') : Ok K B σ F (upd H a (.lst xs')) (ρ.set i (some (.pu ds'))) := by
  have hl : i < ρ.length := (List.getElem?_eq_some_iff.mp hi).1
  obtain ⟨v, e1, b, xs, e2, e3, e4, e5, e6, e7⟩ := o.sl i _ hi
  rw [hs] at e1; cases e1; cases e2
  refine ⟨o.fh.mut e4, o.bh.mut e5, by rw [List.length_set]; exact o.len, fun j t q => ?_, fun j k t t' w ne q1 q2 w1 w2 z1 z2 => ?_⟩
  · by_cases z : j = i
    · subst z
      rw [List.getElem?_set_self hl] at q; cases q
      exact ⟨_, hs, a, xs', rfl, upd_same, e4, e5, h, e7⟩
    · rw [List.getElem?_set_ne (Ne.symm z)] at q
      obtain ⟨v, f1, f2⟩ := o.sl j t q
      exact ⟨v, f1, f2.wrote fun w e => o.ds j i t _ v z q hi w rfl f1 (by rw [e]; exact hs)⟩
  · have back : ∀ {j : Nat} {t : Sl}, (ρ.set i (some (.pu ds')))[j]? = some (some t) → t.own = true → ∃ t', ρ[j]? = some (some t') ∧ t'.own = true := fun {j t} q w => by
      by_cases z : j = i
      · subst z; exact ⟨_, hi, rfl⟩
      · rw [List.getElem?_set_ne (Ne.symm z)] at q; exact ⟨t, q, w⟩
    obtain ⟨u1, r1, w1'⟩ := back q1 w1
    obtain ⟨u2, r2, w2'⟩ := back q2 w2
    exact o.ds j k u1 u2 w ne r1 r2 w1' w2' z1 z2
theorem Ok.mutD (o : Ok K B σ F H ρ) {i : Nat} {ds ds' : List (Key × PyData)} {xs' : List (Key × V)} {a : Addr} (hi : ρ[i]? = some (some (.od ds))) (hs : σ[i]? = some (some (.ref a))) (h : KvR F xs' ds') : Ok K B σ F (upd H a (.dK xs')) (ρ.set i (some (.od ds'))) := by
  have hl : i < ρ.length := (List.getElem?_eq_some_iff.mp hi).1
  obtain ⟨v, e1, b, xs, e2, e3, e4, e5, e6⟩ := o.sl i _ hi
  rw [hs] at e1; cases e1; cases e2
  refine ⟨o.fh.mut e4, o.bh.mut e5, by rw [List.length_set]; exact o.len, fun j t q => ?_, fun j k t t' w ne q1 q2 w1 w2 z1 z2 => ?_⟩
  · by_cases z : j = i
    · subst z
      rw [List.getElem?_set_self hl] at q; cases q
      exact ⟨_, hs, a, xs', rfl, upd_same, e4, e5, h⟩
    · rw [List.getElem?_set_ne (Ne.symm z)] at q
      obtain ⟨v, f1, f2⟩ := o.sl j t q
      exact ⟨v, f1, f2.wrote fun w e => o.ds j i t _ v z q hi w rfl f1 (by rw [e]; exact hs)⟩
  · have back : ∀ {j : Nat} {t : Sl}, (ρ.set i (some (.od ds')))[j]? = some (some t) → t.own = true → ∃ t', ρ[j]? = some (some t') ∧ t'.own = true := fun {j t} q w => by
      by_cases z : j = i
      · subst z; exact ⟨_, hi, rfl⟩
      · rw [List.getElem?_set_ne (Ne.symm z)] at q; exact ⟨t, q, w⟩
    obtain ⟨u1, r1, w1'⟩ := back q1 w1
    obtain ⟨u2, r2, w2'⟩ := back q2 w2
    exact o.ds j k u1 u2 w ne r1 r2 w1' w2' z1 z2
end
end Dn
end
section
set_option Elab.async false
set_option linter.all false
set_option maxRecDepth 100000
set_option maxHeartbeats 2000000
namespace Dn
open PySem L2 PySem.Spec PyProof.Rows
/-! ### what readings mean -/
abbrev PG := Ro → Option PyData
abbrev MG := Ro → Option (PyData × Ro)
/-- a reading that changes nothing and gives known data -/
def Pu (K : PySem.W.Frag) (te : TE) (g : PG) : Prop := ∀ ρ d, g ρ = some d → ∀ B σ F H, Ok K B σ F H ρ → ∀ Q : VK, (∀ v, Re F v d → Q v H) → te σ H Q
/-- data, or a list of ours whose items are data, or the script -/
def Rd1 (K : PySem.W.Frag) (F H : Hp) (v : V) (d : PyData) : Prop := Re F v d ∨ (∃ (a : Addr) (xs : List V) (ds : List PyData), v = .ref a ∧ d = .list ds ∧ H a = some (.lst xs) ∧ ReA F xs ds) ∨ (∃ (a : Addr) (ns : List Int), v = .ref a ∧ d = .list (ns.map PyData.int) ∧ SqL K F a (ns.map V.int))
def Rr (K : PySem.W.Frag) (te : TE) (g : PG) : Prop := ∀ ρ d, g ρ = some d → ∀ B σ F H, Ok K B σ F H ρ → ∀ Q : VK, (∀ v, Rd1 K F H v d → Q v H) → te σ H Q
def Mo (K : PySem.W.Frag) (te : TE) (g : MG) : Prop := ∀ ρ d ρ', g ρ = some (d, ρ') → ∀ B σ F H, Ok K B σ F H ρ → ∀ Q : VK, (∀ v F' H', Ok K B σ F' H' ρ' → Gr B.hp F F' → Re F' v d → Q v H') → te σ H Q
/-- a new list -/
def Nw (K : PySem.W.Frag) (te : TE) (g : Ro → Option (List PyData × Ro)) : Prop := ∀ ρ ds ρ', g ρ = some (ds, ρ') → ∀ B σ F H, Ok K B σ F H ρ → ∀ Q : VK,
  (∀ p xs F' H', Ok K B σ F' H' ρ' → Gr B.hp F F' → H' p = some (.lst xs) → F' p = none → B.hp p = none → NoOwn σ ρ' p → ReA F' xs ds → Q (.ref p) H') → te σ H Q
def Tp (K : PySem.W.Frag) (tt : TT) (g : Ro → Option Bool) : Prop := ∀ ρ b, g ρ = some b → ∀ B σ F H, Ok K B σ F H ρ → ∀ Q : Bool → Hp → Prop, Q b H → tt σ H Q
def Tm (K : PySem.W.Frag) (tt : TT) (g : Ro → Option (Bool × Ro)) : Prop := ∀ ρ b ρ', g ρ = some (b, ρ') → ∀ B σ F H, Ok K B σ F H ρ → ∀ Q : Bool → Hp → Prop, (∀ F' H', Ok K B σ F' H' ρ' → Gr B.hp F F' → Q b H') → tt σ H Q
def Ag (K : PySem.W.Frag) (ta : TA) (g : Ro → Option (List PyData × Ro)) : Prop := ∀ ρ ds ρ', g ρ = some (ds, ρ') → ∀ B σ F H, Ok K B σ F H ρ → ∀ Q : List V → Hp → Prop, (∀ vs F' H', Ok K B σ F' H' ρ' → Gr B.hp F F' → ReA F' vs ds → Q vs H') → ta σ H Q
structure JP (X : Cx) (e : Expr) (te : TE) (g : PG) : Prop where
  pe : PE X e te
  ev : Pu X.K te g
structure JR (X : Cx) (e : Expr) (te : TE) (g : PG) : Prop where
  pe : PE X e te
  ev : Rr X.K te g
structure JM (X : Cx) (e : Expr) (te : TE) (g : MG) : Prop where
  pe : PE X e te
  ev : Mo X.K te g
structure JN (X : Cx) (e : Expr) (te : TE) (g : Ro → Option (List PyData × Ro)) : Prop where
  pe : PE X e te
  ev : Nw X.K te g
structure JT (X : Cx) (e : Expr) (tt : TT) (g : Ro → Option Bool) : Prop where
  pt : PT X e tt
  ev : Tp X.K tt g
structure JTM (X : Cx) (e : Expr) (tt : TT) (g : Ro → Option (Bool × Ro)) : Prop where
  pt : PT X e tt
  ev : Tm X.K tt g
structure JA (X : Cx) (es : List Expr) (ta : TA) (g : Ro → Option (List PyData × Ro)) : Prop where
  pa : PA X es ta
  ev : Ag X.K ta g

/-! ### from one to another -/
def liftP (g : PG) : MG := fun ρ => (g ρ).map fun d => (d, ρ)
def nwM (g : Ro → Option (List PyData × Ro)) : MG := fun ρ => (g ρ).map fun p => (.list p.1, p.2)
def liftT (g : Ro → Option Bool) : Ro → Option (Bool × Ro) := fun ρ => (g ρ).map fun b => (b, ρ)
section
variable {X : Cx} {e : Expr} {te : TE} {tt : TT}
theorem JP.m {g : PG} (h : JP X e te g) : JM X e te (liftP g) := ⟨h.pe, fun ρ d ρ' q B σ F H o Q k => by
  unfold liftP at q
  cases z : g ρ with
  | none => rw [z] at q; cases q
  | some x =>
    rw [z] at q; cases q
    exact h.ev ρ d z B σ F H o Q fun v r => k v F H o Gr.rfl' r⟩
theorem JP.r {g : PG} (h : JP X e te g) : JR X e te g := ⟨h.pe, fun ρ d q B σ F H o Q k => h.ev ρ d q B σ F H o Q fun v r => k v (.inl r)⟩
theorem JN.m {g : Ro → Option (List PyData × Ro)} (h : JN X e te g) : JM X e te (nwM g) := ⟨h.pe, fun ρ d ρ' q B σ F H o Q k => by
  unfold nwM at q
  cases z : g ρ with
  | none => rw [z] at q; cases q
  | some x =>
    rw [z] at q; cases q
    refine h.ev ρ x.1 x.2 z B σ F H o Q fun p xs F' H' o' gr hp hf hb no ra => ?_
    exact k _ (upd F' p (.lst xs)) H' (o'.freeze hp hf no) (gr.trans (gr_freeze hf hb)) (.lst upd_same (ra.mono (Ex.new hf)))⟩
theorem JT.m {g : Ro → Option Bool} (h : JT X e tt g) : JTM X e tt (liftT g) := ⟨h.pt, fun ρ d ρ' q B σ F H o Q k => by
  unfold liftT at q
  cases z : g ρ with
  | none => rw [z] at q; cases q
  | some x =>
    rw [z] at q; cases q
    exact h.ev ρ d z B σ F H o Q (k F H o Gr.rfl')⟩
end

/-! ### names and constants -/
def cG (d : PyData) : PG := fun _ => some d
/-- a slot of data -/
def vG (i : Nat) : PG := fun ρ => match ρ[i]? with
  | some (some (.fz d)) => some d
  | _ => none
/-- a slot as it may be read -/
def rG (i : Nat) : PG := fun ρ => match ρ[i]? with
  | some (some (.fz d)) => some d
  | some (some (.ol ds)) => some (.list ds)
  | some (some (.sx ns)) => some (.list (ns.map .int))
  | some (some (.pu ds)) => some (.list ds)
  | _ => none
/-- a slot whose list is given away -/
def fG (i : Nat) : MG := fun ρ => match ρ[i]? with
  | some (some (.fz d)) => some (d, ρ)
  | some (some (.ol ds)) => some (.list ds, ρ.set i (some (.fz (.list ds))))
  | _ => none
theorem vG_some {i : Nat} {ρ : Ro} {d : PyData} (h : vG i ρ = some d) : ρ[i]? = some (some (.fz d)) := by
  unfold vG at h
  split at h
  · rename_i e; cases h; exact e
  · cases h
section
variable {X : Cx} {x : Str} {pos : Pos}
theorem ev_vG {K : PySem.W.Frag} (i : Nat) : Pu K (tVar i) (vG i) := fun ρ d q B σ F H o Q k => by
  obtain ⟨v, e1, e2⟩ := o.sl i _ (vG_some q)
  exact ⟨v, e1, k v e2⟩
theorem ev_rG {K : PySem.W.Frag} (i : Nat) : Rr K (tVar i) (rG i) := fun ρ d q B σ F H o Q k => by
  unfold rG at q
  split at q
  · rename_i e; cases q
    obtain ⟨v, e1, e2⟩ := o.sl i _ e
    exact ⟨v, e1, k v (.inl e2)⟩
  · rename_i e; cases q
    obtain ⟨v, e1, a, xs, h1, h2, h3, h4, h5⟩ := o.sl i _ e
    exact ⟨v, e1, k v (.inr (.inl ⟨a, xs, _, h1, rfl, h2, h5⟩))⟩
  · rename_i e; cases q
    obtain ⟨v, e1, a, h1, h2⟩ := o.sl i _ e
    exact ⟨v, e1, k v (.inr (.inr ⟨a, _, h1, rfl, h2⟩))⟩
  · rename_i e; cases q
    obtain ⟨v, e1, a, xs, h1, h2, h3, h4, h5, _⟩ := o.sl i _ e
    exact ⟨v, e1, k v (.inr (.inl ⟨a, xs, _, h1, rfl, h2, h5⟩))⟩
  · cases q
theorem ev_fG {K : PySem.W.Frag} (i : Nat) : Mo K (tVar i) (fG i) := fun ρ d ρ' q B σ F H o Q k => by
  unfold fG at q
  split at q
  · rename_i e; cases q
    obtain ⟨v, e1, e2⟩ := o.sl i _ e
    exact ⟨v, e1, k v F H o Gr.rfl' e2⟩
  · rename_i ds e; cases q
    obtain ⟨v, e1, a, xs, h1, h2, h3, h4, h5⟩ := o.sl i _ e
    subst h1
    refine ⟨_, e1, ?_⟩
    have hl : i < ρ.length := (List.getElem?_eq_some_iff.mp e).1
    -- the slot is forgotten, the list is known, the slot is told
    have o1 : Ok K B σ F H (ρ.set i none) := o.forget (by rw [List.length_set]) fun j s z => by
      by_cases w : j = i
      · subst w; rw [List.getElem?_set_self hl] at z; cases z
      · rw [List.getElem?_set_ne (Ne.symm w)] at z; exact z
    have no : NoOwn σ (ρ.set i none) a := fun j s z w y => by
      by_cases u : j = i
      · subst u; rw [List.getElem?_set_self hl] at z; cases z
      · rw [List.getElem?_set_ne (Ne.symm u)] at z
        exact o.ds j i s _ _ u z e w rfl y e1
    have o2 := o1.freeze h2 h3 no
    have r : Re (upd F a (.lst xs)) (.ref a) (.list ds) := .lst upd_same (h5.mono (Ex.new h3))
    have o3 := o2.storeF (i := i) r
    rw [List.set_set] at o3
    have es : σ.set i (some (.ref a)) = σ := by
      apply List.ext_getElem?
      intro j
      by_cases u : i = j
      · subst u; rw [List.getElem?_set_self (by rw [o.len]; exact hl), e1]
      · rw [List.getElem?_set_ne u]
    rw [es] at o3
    exact k _ _ H o3 (gr_freeze h3 h4) r
  · cases q
theorem p_var (i : Nat) (hN : X.N[i]? = some x := by rfl) (hv : Vis X.env.scope x := by first | exact Or.inl rfl | exact Or.inr (Or.inl rfl) | exact Or.inr (Or.inr rfl)) (hd : (x == ("__debug__" : Str)) = false := by decide)
    (hcd : (x == ("__classdict__" : Str)) = false := by decide) : JP X (.Name x pos) (tVar i) (vG i) := ⟨pe_var hN hv hd hcd, ev_vG i⟩
theorem r_var (i : Nat) (hN : X.N[i]? = some x := by rfl) (hv : Vis X.env.scope x := by first | exact Or.inl rfl | exact Or.inr (Or.inl rfl) | exact Or.inr (Or.inr rfl)) (hd : (x == ("__debug__" : Str)) = false := by decide)
    (hcd : (x == ("__classdict__" : Str)) = false := by decide) : JR X (.Name x pos) (tVar i) (rG i) := ⟨pe_var hN hv hd hcd, ev_rG i⟩
theorem m_var (i : Nat) (hN : X.N[i]? = some x := by rfl) (hv : Vis X.env.scope x := by first | exact Or.inl rfl | exact Or.inr (Or.inl rfl) | exact Or.inr (Or.inr rfl)) (hd : (x == ("__debug__" : Str)) = false := by decide)
    (hcd : (x == ("__classdict__" : Str)) = false := by decide) : JM X (.Name x pos) (tVar i) (fG i) := ⟨pe_var hN hv hd hcd, ev_fG i⟩
theorem ev_c {K : PySem.W.Frag} {v : V} {d : PyData} (h : ∀ F, Re F v d) : Pu K (tC v) (cG d) := fun ρ e q B σ F H o Q k => by
  cases q; exact k v (h F)
theorem p_int {i : Int} {j : Nat} : JP X (.Constant (.int i) j pos) (tC (.int i)) (cG (.int i)) := ⟨pe_int, ev_c fun _ => .int i⟩
theorem p_bl {b : Bool} {j : Nat} : JP X (.Constant (.bool b) j pos) (tC (.bl b)) (cG (.bool b)) := ⟨pe_bl, ev_c fun _ => .bl b⟩
theorem p_non {j : Nat} : JP X (.Constant .none j pos) (tC .non) (cG .none) := ⟨pe_non, ev_c fun _ => .non⟩
theorem p_str {s : Str} {j : Nat} : JP X (.Constant (.str s) j pos) (tC (.str s)) (cG (.str s)) := ⟨pe_str, ev_c fun _ => .str s⟩
theorem p_globI {i : Int} (hm : ∃ t, X.mg x = some (.int i t)) (hg : Gl X x := by rfl) (hd : (x == ("__debug__" : Str)) = false := by decide) : JP X (.Name x pos) (tC (.int i)) (cG (.int i)) := by
  obtain ⟨t, hm⟩ := hm
  exact ⟨pe_glob hg hm ⟨t, rfl⟩ hd, ev_c fun _ => .int i⟩
theorem p_globS {i : Str} (hm : ∃ t, X.mg x = some (.str i t)) (hg : Gl X x := by rfl) (hd : (x == ("__debug__" : Str)) = false := by decide) : JP X (.Name x pos) (tC (.str i)) (cG (.str i)) := by
  obtain ⟨t, hm⟩ := hm
  exact ⟨pe_glob hg hm ⟨t, rfl⟩ hd, ev_c fun _ => .str i⟩
end

/-! ### operators whose result is a number, a text, a truth value -/
/-- r gives f of the data; K F H: where the data are -/
def OpD (K : PySem.W.Frag) (r : R2) (f : PyData → PyData → Option PyData) : Prop := ∀ d e z, f d e = some z → ∀ F H x y, Ex F H → Re F x d → Re F y e → ∀ Q : VK, (∀ v, (∀ F', Re F' v z) → Q v H) → r x y H Q
/-- the first may be a list of ours -/
def OpDR (K : PySem.W.Frag) (r : R2) (f : PyData → PyData → Option PyData) : Prop := ∀ d e z, f d e = some z → ∀ F H x y, Ex F H → Rd1 K F H x d → Rd1 K F H y e → ∀ Q : VK, (∀ v, (∀ F', Re F' v z) → Q v H) → r x y H Q
def op2 (f : PyData → PyData → Option PyData) (a b : PG) : PG := fun ρ => (a ρ).bind fun x => (b ρ).bind fun y => f x y
def op2M (f : PyData → PyData → Option PyData) (a b : MG) : MG := fun ρ => (a ρ).bind fun p => (b p.2).bind fun q => (f p.1 q.1).map fun z => (z, q.2)
theorem op2_some {f : PyData → PyData → Option PyData} {a b : PG} {ρ : Ro} {z : PyData} (h : op2 f a b ρ = some z) : ∃ x y, a ρ = some x ∧ b ρ = some y ∧ f x y = some z := by
  unfold op2 at h
  cases e1 : a ρ with
  | none => rw [e1] at h; cases h
  | some x =>
    cases e2 : b ρ with
    | none => rw [e1, e2] at h; cases h
    | some y => rw [e1, e2] at h; exact ⟨x, y, rfl, rfl, h⟩
theorem op2M_some {f : PyData → PyData → Option PyData} {a b : MG} {ρ ρ' : Ro} {z : PyData} (h : op2M f a b ρ = some (z, ρ')) : ∃ x ρ1 y, a ρ = some (x, ρ1) ∧ b ρ1 = some (y, ρ') ∧ f x y = some z := by
  unfold op2M at h
  cases e1 : a ρ with
  | none => rw [e1] at h; cases h
  | some x =>
    cases e2 : b x.2 with
    | none => rw [e1] at h; simp [e2] at h
    | some y =>
      cases e3 : f x.1 y.1 with
      | none => rw [e1] at h; simp [e2, e3] at h
      | some u => rw [e1] at h; simp [e2, e3] at h; obtain ⟨h1, h2⟩ := h; subst h1 h2; exact ⟨x.1, x.2, y.1, rfl, e2, e3⟩
section
variable {X : Cx} {ea eb : Expr} {ta tb : TE} {r : R2} {f : PyData → PyData → Option PyData} {pos : Pos}
theorem ev_op {K : PySem.W.Frag} (hr : OpD K r f) {a b : PG} (ha : Pu K ta a) (hb : Pu K tb b) : Pu K (tOp r ta tb) (op2 f a b) := fun ρ d q B σ F H o Q k => by
  obtain ⟨x, y, e1, e2, e3⟩ := op2_some q
  exact ha ρ x e1 B σ F H o _ fun v rv => hb ρ y e2 B σ F H o _ fun u ru => hr x y d e3 F H v u o.fh rv ru Q fun w rw => k w (rw F)
theorem ev_opR {K : PySem.W.Frag} (hr : OpDR K r f) {a b : PG} (ha : Rr K ta a) (hb : Rr K tb b) : Pu K (tOp r ta tb) (op2 f a b) := fun ρ d q B σ F H o Q k => by
  obtain ⟨x, y, e1, e2, e3⟩ := op2_some q
  exact ha ρ x e1 B σ F H o _ fun v rv => hb ρ y e2 B σ F H o _ fun u ru => hr x y d e3 F H v u o.fh rv ru Q fun w rw => k w (rw F)
theorem ev_opM {K : PySem.W.Frag} (hr : OpD K r f) {a b : MG} (ha : Mo K ta a) (hb : Mo K tb b) : Mo K (tOp r ta tb) (op2M f a b) := fun ρ d ρ' q B σ F H o Q k => by
  obtain ⟨x, ρ1, y, e1, e2, e3⟩ := op2M_some q
  refine ha ρ x ρ1 e1 B σ F H o _ fun v F1 H1 o1 g1 rv => hb ρ1 y ρ' e2 B σ F1 H1 o1 _ fun u F2 H2 o2 g2 ru => ?_
  exact hr x y d e3 F2 H2 v u o2.fh (rv.mono g2.ex) ru Q fun w rw => k w F2 H2 o2 (g1.trans g2) (rw F2)
theorem p_op {op : Operator} (ho : OpR X (binaryOp op) r) (hr : OpD X.K r f) {a b : PG} (ha : JP X ea ta a) (hb : JP X eb tb b) : JP X (.BinOp ea op eb pos) (tOp r ta tb) (op2 f a b) := ⟨pe_op ho ha.pe hb.pe, ev_op hr ha.ev hb.ev⟩
theorem m_op {op : Operator} (ho : OpR X (binaryOp op) r) (hr : OpD X.K r f) {a b : MG} (ha : JM X ea ta a) (hb : JM X eb tb b) : JM X (.BinOp ea op eb pos) (tOp r ta tb) (op2M f a b) := ⟨pe_op ho ha.pe hb.pe, ev_opM hr ha.ev hb.ev⟩
theorem p_cmp {op : CmpOp} (ho : OpR X (compareOp op) r) (hr : OpD X.K r f) {a b : PG} (ha : JP X ea ta a) (hb : JP X eb tb b) (hm : behindInMarks op eb = false) : JP X (.Compare ea [op] [eb] pos) (tOp r ta tb) (op2 f a b) := ⟨pe_cmpR ho ha.pe hb.pe hm, ev_op hr ha.ev hb.ev⟩
theorem p_cmpR {op : CmpOp} (ho : OpR X (compareOp op) r) (hr : OpDR X.K r f) {a b : PG} (ha : JR X ea ta a) (hb : JR X eb tb b) (hm : behindInMarks op eb = false) : JP X (.Compare ea [op] [eb] pos) (tOp r ta tb) (op2 f a b) := ⟨pe_cmpR ho ha.pe hb.pe hm, ev_opR hr ha.ev hb.ev⟩
theorem m_cmp {op : CmpOp} (ho : OpR X (compareOp op) r) (hr : OpD X.K r f) {a b : MG} (ha : JM X ea ta a) (hb : JM X eb tb b) (hm : behindInMarks op eb = false) : JM X (.Compare ea [op] [eb] pos) (tOp r ta tb) (op2M f a b) := ⟨pe_cmpR ho ha.pe hb.pe hm, ev_opM hr ha.ev hb.ev⟩
end
/-! ints -/
def iiG (g : Int → Int → Int) : PyData → PyData → Option PyData
  | .int i, .int j => some (.int (g i j))
  | _, _ => none
def iiC (C : Int → Int → Bool) (g : Int → Int → Int) : PyData → PyData → Option PyData
  | .int i, .int j => if C i j then some (.int (g i j)) else none
  | _, _ => none
def iiB (g : Int → Int → Bool) : PyData → PyData → Option PyData
  | .int i, .int j => some (.bool (g i j))
  | _, _ => none
section
variable {K : PySem.W.Frag}
theorem opd_ii {g : Int → Int → Int} : OpD K (rI0 fun i j => .int (g i j)) (iiG g) := fun d e z q F H x y _ rx ry Q k => by
  cases d <;> cases e <;> simp only [iiG] at q <;> try cases q
  cases rx; cases ry
  exact ⟨_, _, rfl, rfl, k _ fun _ => .int _⟩
theorem opd_ic {C : Int → Int → Prop} {c : Int → Int → Bool} {g : Int → Int → Int} (hc : ∀ i j, c i j = true → C i j) : OpD K (rI C fun i j => .int (g i j)) (iiC c g) := fun d e z q F H x y _ rx ry Q k => by
  cases d <;> cases e <;> simp only [iiC] at q <;> try cases q
  cases rx; cases ry
  split at q
  · rename_i h; cases q
    exact ⟨_, _, rfl, rfl, hc _ _ h, k _ fun _ => .int _⟩
  · cases q
theorem opd_ib {g : Int → Int → Bool} : OpD K (rI0 fun i j => .bl (g i j)) (iiB g) := fun d e z q F H x y _ rx ry Q k => by
  cases d <;> cases e <;> simp only [iiB] at q <;> try cases q
  cases rx; cases ry
  exact ⟨_, _, rfl, rfl, k _ fun _ => .bl _⟩
end
/-! the ints' operators, by name -/
abbrev addI := iiG fun i j => i + j
abbrev subI := iiG fun i j => i - j
abbrev mulI := iiC (fun i j => decide (Builtin.Int.intBits i + Builtin.Int.intBits j ≤ 1000000)) fun i j => i * j
abbrev fdivI := iiC (fun _ j => decide (j ≠ 0 ∧ j.natAbs < 1073741824)) fun i j => i.fdiv j
abbrev modI := iiC (fun _ j => decide (0 < j)) fun i j => i % j
abbrev powI := iiC (fun i j => decide (0 ≤ j ∧ (Builtin.Int.intBits i : Int) * j ≤ 2 ^ 27)) fun i j => i ^ j.toNat
abbrev shlI := iiC (fun i j => decide (0 ≤ j ∧ (Builtin.Int.intBits i : Int) + j ≤ 2 ^ 27)) fun i j => i * 2 ^ j.toNat
abbrev shrI := iiC (fun _ j => decide (0 ≤ j)) fun i j => i / 2 ^ j.toNat
abbrev andI := iiG Builtin.bitAnd
abbrev orI := iiG Builtin.bitOr
abbrev xorI := iiG Builtin.bitXor
abbrev ltI := iiB fun i j => decide (i < j)
abbrev leI := iiB fun i j => decide (i ≤ j)
abbrev gtI := iiB fun i j => decide (j < i)
abbrev geI := iiB fun i j => decide (j ≤ i)
section
variable {X : Cx}
theorem op_powX : OpR X (binaryOp .Pow) (rI (fun i j => 0 ≤ j ∧ (Builtin.Int.intBits i : Int) * j ≤ 2 ^ 27) fun i j => .int (i ^ j.toNat)) := opI fun _ _ _ _ _ _ _ hc q => pow_int hc.1 hc.2 q
end
end Dn
end
section
set_option Elab.async false
set_option linter.all false
set_option maxRecDepth 100000
set_option maxHeartbeats 2000000
namespace Dn
open PySem L2 PySem.Spec PyProof.Rows
/-! ### readable data as the layer's data -/
section
variable {K : PySem.W.Frag} {F H : Hp} {v : V} {d : PyData}
theorem dp_ints {K : PySem.W.Frag} {H : Hp} : ∀ (ns : List Int), DpAll K H (ns.map V.int) (ns.map .int)
  | [] => .nil
  | _ :: r => .cons (.int _) (dp_ints r)
theorem Rd1.dp (e : Ex F H) (h : Rd1 K F H v d) : Dp K H v d := by
  rcases h with h | ⟨a, xs, ds, rfl, rfl, h1, h2⟩ | ⟨a, ns, rfl, rfl, h1⟩
  · exact (h.mono e).dp
  · exact .lst (SqL.of h1) (h2.mono e).dp
  · exact .lst (ex_sql e h1) (dp_ints ns)
theorem Rd1.of (h : Re F v d) : Rd1 K F H v d := .inl h
/-- a list that is read -/
theorem Rd1.lst {ds : List PyData} (e : Ex F H) (h : Rd1 K F H v (.list ds)) : ∃ a xs, v = .ref a ∧ SqL K H a xs ∧ ReA F xs ds := by
  rcases h with h | ⟨a, xs, es, rfl, q, h1, h2⟩ | ⟨a, ns, rfl, q, h1⟩
  · cases h with
    | lst h1 h2 => exact ⟨_, _, rfl, SqL.of (e _ _ h1), h2⟩
  · cases q; exact ⟨a, xs, rfl, SqL.of h1, h2⟩
  · cases q; exact ⟨a, _, rfl, ex_sql e h1, ReA.of_ints ns⟩
theorem Rd1.tup {ds : List PyData} (e : Ex F H) (h : Rd1 K F H v (.tuple ds)) : ∃ a xs, v = .ref a ∧ H a = some (.tup xs) ∧ ReA F xs ds := by
  rcases h with h | ⟨a, xs, es, rfl, q, h1, h2⟩ | ⟨a, ns, rfl, q, h1⟩
  · cases h with
    | tup h1 h2 => exact ⟨_, _, rfl, e _ _ h1, h2⟩
  · cases q
  · cases q
theorem Rd1.re (h : Rd1 K F H v d) (hd : ∀ ds, d ≠ .list ds) : Re F v d := by
  rcases h with h | ⟨a, xs, es, rfl, q, h1, h2⟩ | ⟨a, ns, rfl, q, h1⟩
  · exact h
  · exact absurd q (hd _)
  · exact absurd q (hd _)
end
/-! ### ==, != -/
def eqA (d e : PyData) : Option PyData := match d, e with
  | .int i, .int j => some (.bool (i == j))
  | .str i, .str j => some (.bool (i == j))
  | .bool i, .bool j => some (.bool (i == j))
  | d, e => if SeqAt.shaped d && SeqAt.shaped e then some (.bool (PyData.eqv d e)) else none
def neA (d e : PyData) : Option PyData := (eqA d e).bind fun x => match x with
  | .bool b => some (.bool (!b))
  | _ => none
def rEqA (K : PySem.W.Frag) : R2 := fun x y H Q => rEq x y H Q ∨ rEqD K x y H Q
def rNeA (K : PySem.W.Frag) : R2 := fun x y H Q => rNe x y H Q ∨ rNeD K x y H Q
section
variable {X : Cx} {K : PySem.W.Frag}
theorem op_eqA {j : Nat} (hr : Room j X.A) : OpR X (compareOp .Eq) (rEqA X.K) := op_eq.or (op_eqD hr.units)
theorem op_neA {j : Nat} (hr : Room j X.A) : OpR X (compareOp .NotEq) (rNeA X.K) := op_ne.or (op_neD hr.units)
/-- what eqA says, and how -/
theorem eqA_cases {d e z : PyData} (h : eqA d e = some z) : (∃ i j, d = .int i ∧ e = .int j ∧ z = .bool (i == j)) ∨ (∃ i j, d = .str i ∧ e = .str j ∧ z = .bool (i == j)) ∨ (∃ i j, d = .bool i ∧ e = .bool j ∧ z = .bool (i == j)) ∨
    (SeqAt.shaped d = true ∧ SeqAt.shaped e = true ∧ z = .bool (PyData.eqv d e)) := by
  unfold eqA at h
  split at h
  · cases h; exact .inl ⟨_, _, rfl, rfl, rfl⟩
  · cases h; exact .inr (.inl ⟨_, _, rfl, rfl, rfl⟩)
  · cases h; exact .inr (.inr (.inl ⟨_, _, rfl, rfl, rfl⟩))
  · split at h
    · rename_i q; cases h
      rw [Bool.and_eq_true] at q
      exact .inr (.inr (.inr ⟨q.1, q.2, rfl⟩))
    · cases h
theorem opd_eqA : OpDR K (rEqA K) eqA := fun d e z q F H x y fh rx ry Q k => by
  rcases eqA_cases q with ⟨i, j, rfl, rfl, rfl⟩ | ⟨i, j, rfl, rfl, rfl⟩ | ⟨i, j, rfl, rfl, rfl⟩ | ⟨s1, s2, rfl⟩
  · cases rx.re (by simp); cases ry.re (by simp)
    refine .inl ⟨rfl, ?_⟩
    rw [dec_int]; exact k _ fun _ => .bl _
  · cases rx.re (by simp); cases ry.re (by simp)
    refine .inl ⟨rfl, ?_⟩
    rw [dec_str]; exact k _ fun _ => .bl _
  · cases rx.re (by simp); cases ry.re (by simp)
    refine .inl ⟨rfl, ?_⟩
    rw [dec_bl]; exact k _ fun _ => .bl _
  · exact .inr ⟨d, e, rx.dp fh, ry.dp fh, s1, s2, k _ fun _ => .bl _⟩
theorem opd_neA : OpDR K (rNeA K) neA := fun d e z q F H x y fh rx ry Q k => by
  unfold neA at q
  cases q1 : eqA d e with
  | none => rw [q1] at q; cases q
  | some u =>
    rw [q1] at q
    rcases eqA_cases q1 with ⟨i, j, rfl, rfl, rfl⟩ | ⟨i, j, rfl, rfl, rfl⟩ | ⟨i, j, rfl, rfl, rfl⟩ | ⟨s1, s2, rfl⟩
    · cases rx.re (by simp); cases ry.re (by simp); cases q
      refine .inl ⟨rfl, ?_⟩
      rw [dec_int]; exact k _ fun _ => .bl _
    · cases rx.re (by simp); cases ry.re (by simp); cases q
      refine .inl ⟨rfl, ?_⟩
      rw [dec_str]; exact k _ fun _ => .bl _
    · cases rx.re (by simp); cases ry.re (by simp); cases q
      refine .inl ⟨rfl, ?_⟩
      rw [dec_bl]; exact k _ fun _ => .bl _
    · cases q
      exact .inr ⟨d, e, rx.dp fh, ry.dp fh, s1, s2, k _ fun _ => .bl _⟩
theorem OpDR.d {r : R2} {f : PyData → PyData → Option PyData} (h : OpDR K r f) : OpD K r f := fun d e z q F H x y fh rx ry Q k => h d e z q F H x y fh (.inl rx) (.inl ry) Q k

/-! ### is -/
def nonD : PyData → Bool
  | .none => true
  | _ => false
def isN (d e : PyData) : Option PyData := match e with
  | .none => some (.bool (nonD d))
  | _ => none
def isnN (d e : PyData) : Option PyData := match e with
  | .none => some (.bool (!nonD d))
  | _ => none
theorem Rd1.isnon {F H : Hp} {v : V} {d : PyData} (h : Rd1 K F H v d) : decide (v = .non) = nonD d := by
  rcases h with h | ⟨a, xs, es, rfl, rfl, h1, h2⟩ | ⟨a, ns, rfl, rfl, h1⟩
  · cases h <;> simp [nonD]
  · simp [nonD]
  · simp [nonD]
theorem opd_isN : OpDR K (fun x y H Q => y = .non ∧ Q (.bl (decide (x = .non))) H) isN := fun d e z q F H x y fh rx ry Q k => by
  unfold isN at q
  split at q
  · cases q; cases ry.re (by simp)
    refine ⟨rfl, ?_⟩
    rw [rx.isnon]; exact k _ fun _ => .bl _
  · cases q
theorem opd_isnN : OpDR K (fun x y H Q => y = .non ∧ Q (.bl (!decide (x = .non))) H) isnN := fun d e z q F H x y fh rx ry Q k => by
  unfold isnN at q
  split at q
  · cases q; cases ry.re (by simp)
    refine ⟨rfl, ?_⟩
    rw [rx.isnon]; exact k _ fun _ => .bl _
  · cases q
def isB (d e : PyData) : Option PyData := match d, e with
  | .bool a, .bool b => some (.bool (a == b))
  | _, _ => none
def isnB (d e : PyData) : Option PyData := match d, e with
  | .bool a, .bool b => some (.bool (!(a == b)))
  | _, _ => none
theorem opd_isB : OpD K (fun x y H Q => ∃ a b : Bool, x = .bl a ∧ y = .bl b ∧ Q (.bl (decide (a = b))) H) isB := fun d e z q F H x y fh rx ry Q k => by
  unfold isB at q
  split at q
  · cases q; cases rx; cases ry
    refine ⟨_, _, rfl, rfl, ?_⟩
    rw [← Bool.beq_eq_decide_eq]; exact k _ fun _ => .bl _
  · cases q
theorem opd_isnB : OpD K (fun x y H Q => ∃ a b : Bool, x = .bl a ∧ y = .bl b ∧ Q (.bl (!decide (a = b))) H) isnB := fun d e z q F H x y fh rx ry Q k => by
  unfold isnB at q
  split at q
  · cases q; cases rx; cases ry
    refine ⟨_, _, rfl, rfl, ?_⟩
    rw [← Bool.beq_eq_decide_eq]; exact k _ fun _ => .bl _
  · cases q

/-! ### in -/
def flatD : PyData → Bool
  | .none => true
  | .bool _ => true
  | .int _ => true
  | .str _ => true
  | _ => false
def eqF : PyData → PyData → Bool
  | .none, .none => true
  | .bool a, .bool b => a == b
  | .bool a, .int b => (if a then 1 else 0) == b
  | .int a, .bool b => a == (if b then 1 else 0)
  | .int a, .int b => a == b
  | .str a, .str b => a == b
  | _, _ => false
def inA (d e : PyData) : Option PyData := match e with
  | .list ds => if flatD d && ds.all flatD then some (.bool (ds.any fun y => eqF y d)) else none
  | .tuple ds => if flatD d && ds.all flatD then some (.bool (ds.any fun y => eqF y d)) else none
  | .str j => match d with
    | .str i => some (.bool (!(Builtin.Str.occurrences j i 0 j.length 1).isEmpty))
    | _ => none
  | _ => none
def notInA (d e : PyData) : Option PyData := (inA d e).bind fun x => match x with
  | .bool b => some (.bool (!b))
  | _ => none
theorem flat_of {F : Hp} {v : V} {d : PyData} (h : Re F v d) (hd : flatD d = true) : flatV v = true := by
  cases h <;> first | rfl | cases hd
theorem eq_of {F : Hp} {v u : V} {d e : PyData} (h : Re F v d) (h2 : Re F u e) (hd : flatD d = true) (he : flatD e = true) : eqV v u = eqF d e := by
  cases h <;> cases h2 <;> first | rfl | cases hd | cases he
theorem flats_of {F : Hp} : ∀ {vs : List V} {ds : List PyData}, ReA F vs ds → ds.all flatD = true → vs.all flatV = true
  | _, _, .nil, _ => rfl
  | _, _, .cons h t, q => by
    rw [List.all_cons, Bool.and_eq_true] at q ⊢
    exact ⟨flat_of h q.1, flats_of t q.2⟩
theorem any_of {F : Hp} {u : V} {e : PyData} (h2 : Re F u e) (he : flatD e = true) : ∀ {vs : List V} {ds : List PyData}, ReA F vs ds → ds.all flatD = true → inV u vs = ds.any fun y => eqF y e
  | _, _, .nil, _ => rfl
  | _, _, .cons h t, q => by
    rw [List.all_cons, Bool.and_eq_true] at q
    have ih := any_of h2 he t q.2
    show (_ :: _).any _ = _
    rw [List.any_cons, List.any_cons, eq_of h h2 q.1 he]
    exact congrArg _ ih
def rInA (K : PySem.W.Frag) : R2 := fun x y H Q => rIn K false x y H Q ∨ ∃ i j, x = .str i ∧ y = .str j ∧ Q (.bl (!(Builtin.Str.occurrences j i 0 j.length 1).isEmpty)) H
def rNotInA (K : PySem.W.Frag) : R2 := fun x y H Q => rIn K true x y H Q ∨ ∃ i j, x = .str i ∧ y = .str j ∧ Q (.bl (!(!(Builtin.Str.occurrences j i 0 j.length 1).isEmpty))) H
theorem op_inA : OpR X (compareOp .In) (rInA X.K) := op_in_seq.or op_in_str
theorem op_notInA : OpR X (compareOp .NotIn) (rNotInA X.K) := op_notIn_seq.or op_notin_str
theorem opd_inA : OpDR K (rInA K) inA := fun d e z q F H x y fh rx ry Q k => by
  unfold inA at q
  split at q
  · split at q
    · rename_i w; cases q
      rw [Bool.and_eq_true] at w
      obtain ⟨a, xs, rfl, h1, h2⟩ := ry.lst fh
      have r := rx.re (d := d) (by rintro ds rfl; cases w.1)
      refine .inl ⟨a, xs, rfl, .inl h1, flat_of r w.1, flats_of h2 w.2, ?_⟩
      rw [if_neg Bool.false_ne_true, any_of r w.1 h2 w.2]
      exact k _ fun _ => .bl _
    · cases q
  · split at q
    · rename_i w; cases q
      rw [Bool.and_eq_true] at w
      obtain ⟨a, xs, rfl, h1, h2⟩ := ry.tup fh
      have r := rx.re (d := d) (by rintro ds rfl; cases w.1)
      refine .inl ⟨a, xs, rfl, .inr (SqT.of h1), flat_of r w.1, flats_of h2 w.2, ?_⟩
      rw [if_neg Bool.false_ne_true, any_of r w.1 h2 w.2]
      exact k _ fun _ => .bl _
    · cases q
  · split at q
    · cases q
      cases rx.re (by simp); cases ry.re (by simp)
      exact .inr ⟨_, _, rfl, rfl, k _ fun _ => .bl _⟩
    · cases q
  · cases q
theorem opd_notInA : OpDR K (rNotInA K) notInA := fun d e z q F H x y fh rx ry Q k => by
  unfold notInA inA at q
  cases e with
  | list ds =>
    simp only at q
    split at q
    · rename_i w; cases q
      rw [Bool.and_eq_true] at w
      obtain ⟨a, xs, rfl, h1, h2⟩ := ry.lst fh
      have r := rx.re (d := d) (by rintro ds rfl; cases w.1)
      refine .inl ⟨a, xs, rfl, .inl h1, flat_of r w.1, flats_of h2 w.2, ?_⟩
      rw [if_pos rfl, any_of r w.1 h2 w.2]
      exact k _ fun _ => .bl _
    · cases q
  | tuple ds =>
    simp only at q
    split at q
    · rename_i w; cases q
      rw [Bool.and_eq_true] at w
      obtain ⟨a, xs, rfl, h1, h2⟩ := ry.tup fh
      have r := rx.re (d := d) (by rintro ds rfl; cases w.1)
      refine .inl ⟨a, xs, rfl, .inr (SqT.of h1), flat_of r w.1, flats_of h2 w.2, ?_⟩
      rw [if_pos rfl, any_of r w.1 h2 w.2]
      exact k _ fun _ => .bl _
    · cases q
  | str j =>
    cases d with
    | str i =>
      simp only at q; cases q
      cases rx.re (by simp); cases ry.re (by simp)
      exact .inr ⟨_, _, rfl, rfl, k _ fun _ => .bl _⟩
    | _ => cases q
  | _ => cases q
end
/-! ### an item -/
def ixD (d e : PyData) : Option PyData := match d, e with
  | .list ds, .int i => atI ds i
  | .tuple ds, .int i => atI ds i
  | .str z, .int i => if z.length ≤ 1000000 then (atI z.cps.toList i).map fun c => .str ⟨#[c]⟩ else none
  | _, _ => none
/-- r gives f of the data, the answer stands where the data do -/
def OpF (K : PySem.W.Frag) (r : R2) (f : PyData → PyData → Option PyData) : Prop := ∀ d e z, f d e = some z → ∀ F H x y, Ex F H → Rd1 K F H x d → Re F y e → ∀ Q : VK, (∀ v, Re F v z → Q v H) → r x y H Q
theorem ReA.atI {F : Hp} {vs : List V} {ds : List PyData} {i : Int} {d : PyData} (h : ReA F vs ds) (q : L2.atI ds i = some d) : ∃ v, L2.atI vs i = some v ∧ Re F v d := by
  unfold L2.atI at q ⊢
  rw [h.length]
  cases e : ixN ds.length i with
  | none => rw [e] at q; cases q
  | some j =>
    rw [e] at q
    exact h.get q
theorem big_line {n : Nat} (h : n ≤ 1000000) : n ≤ sizeLine := Nat.le_trans h (by decide)
theorem big_lt {n : Nat} (h : n ≤ 1000000) : n < sizeLine := Nat.lt_of_le_of_lt h (by decide)
section
variable {X : Cx} {K : PySem.W.Frag} {ea eb : Expr} {ta tb : TE} {r : R2} {f : PyData → PyData → Option PyData} {pos : Pos}
theorem opf_ix : OpF K (rIx K) ixD := fun d e z q F H x y fh rx ry Q k => by
  unfold ixD at q
  split at q
  · obtain ⟨a, xs, rfl, h1, h2⟩ := rx.lst fh
    obtain ⟨v, e1, e2⟩ := h2.atI q
    cases ry
    exact .inl ⟨a, xs, _, v, rfl, rfl, h1, e1, k v e2⟩
  · obtain ⟨a, xs, rfl, h1, h2⟩ := rx.tup fh
    obtain ⟨v, e1, e2⟩ := h2.atI q
    cases ry
    exact .inr (.inl ⟨a, xs, _, v, rfl, rfl, SqT.of h1, e1, k v e2⟩)
  · split at q
    · rename_i z i w
      cases rx.re (by simp); cases ry
      cases e : atI z.cps.toList i with
      | none => rw [e] at q; cases q
      | some c =>
        rw [e] at q; cases q
        exact .inr (.inr ⟨_, _, c, rfl, rfl, big_line w, e, k _ (.str _)⟩)
    · cases q
  · cases q
theorem ev_opF (hr : OpF K r f) {a b : PG} (ha : Rr K ta a) (hb : Pu K tb b) : Pu K (tOp r ta tb) (op2 f a b) := fun ρ d q B σ F H o Q k => by
  obtain ⟨x, y, e1, e2, e3⟩ := op2_some q
  exact ha ρ x e1 B σ F H o _ fun v rv => hb ρ y e2 B σ F H o _ fun u ru => hr x y d e3 F H v u o.fh rv ru Q k
theorem ev_opFM (hr : OpF K r f) {a b : MG} (ha : Mo K ta a) (hb : Mo K tb b) : Mo K (tOp r ta tb) (op2M f a b) := fun ρ d ρ' q B σ F H o Q k => by
  obtain ⟨x, ρ1, y, e1, e2, e3⟩ := op2M_some q
  refine ha ρ x ρ1 e1 B σ F H o _ fun v F1 H1 o1 g1 rv => hb ρ1 y ρ' e2 B σ F1 H1 o1 _ fun u F2 H2 o2 g2 ru => ?_
  exact hr x y d e3 F2 H2 v u o2.fh (.inl (rv.mono g2.ex)) ru Q fun w rw => k w F2 H2 o2 (g1.trans g2) rw
theorem p_ix {a b : PG} (ha : JR X ea ta a) (hb : JP X eb tb b) (hs : PlainIx eb := by exact fun _ _ => rfl) : JP X (.Subscript ea eb pos) (tOp (rIx X.K) ta tb) (op2 ixD a b) := ⟨pe_ix ix_seq ha.pe hb.pe hs, ev_opF opf_ix ha.ev hb.ev⟩
theorem m_ix {a b : MG} (ha : JM X ea ta a) (hb : JM X eb tb b) (hs : PlainIx eb := by exact fun _ _ => rfl) : JM X (.Subscript ea eb pos) (tOp (rIx X.K) ta tb) (op2M ixD a b) := ⟨pe_ix ix_seq ha.pe hb.pe hs, ev_opFM opf_ix ha.ev hb.ev⟩
end
/-! ### unary -/
def op1 (f : PyData → Option PyData) (a : PG) : PG := fun ρ => (a ρ).bind f
def op1M (f : PyData → Option PyData) (a : MG) : MG := fun ρ => (a ρ).bind fun p => (f p.1).map fun z => (z, p.2)
theorem op1M_some {f : PyData → Option PyData} {a : MG} {ρ ρ' : Ro} {z : PyData} (h : op1M f a ρ = some (z, ρ')) : ∃ x, a ρ = some (x, ρ') ∧ f x = some z := by
  unfold op1M at h
  cases e1 : a ρ with
  | none => rw [e1] at h; cases h
  | some p =>
    rw [e1] at h
    cases e2 : f p.1 with
    | none => simp [e2] at h
    | some u => simp [e2] at h; obtain ⟨h1, h2⟩ := h; subst h1 h2; exact ⟨p.1, rfl, e2⟩
def negD : PyData → Option PyData
  | .int i => some (.int (-i))
  | _ => none
theorem p_neg {X : Cx} {ea : Expr} {ta : TE} {pos : Pos} {a : PG} (ha : JP X ea ta a) : JP X (.UnaryOp .USub ea pos) (tUn (rU fun i => .int (-i)) ta) (op1 negD a) := ⟨pe_un un_neg ha.pe, fun ρ d q B σ F H o Q k => by
  unfold op1 at q
  cases e : a ρ with
  | none => rw [e] at q; cases q
  | some x =>
    rw [e] at q
    refine ha.ev ρ x e B σ F H o _ fun v rv => ?_
    cases x <;> simp [negD] at q
    subst q; cases rv
    exact ⟨_, rfl, k _ (.int _)⟩⟩
/-! ### built-ins of one argument -/
def CB1 (K : PySem.W.Frag) (r : List V → Hp → VK → Prop) (f : PyData → Option PyData) : Prop := ∀ d z, f d = some z → ∀ F H x, Ex F H → Rd1 K F H x d → ∀ Q : VK, (∀ v, (∀ F', Re F' v z) → Q v H) → r [x] H Q
def CB2 (K : PySem.W.Frag) (r : List V → Hp → VK → Prop) (f : PyData → PyData → Option PyData) : Prop := ∀ d e z, f d e = some z → ∀ F H x y, Ex F H → Re F x d → Re F y e → ∀ Q : VK, (∀ v, (∀ F', Re F' v z) → Q v H) → r [x, y] H Q
/-- a new list out of one -/
def CBN (K : PySem.W.Frag) (r : List V → Hp → VK → Prop) (f : PyData → Option (List PyData)) : Prop := ∀ d zs, f d = some zs → ∀ F H x, Ex F H → Rd1 K F H x d → ∀ Q : VK, (∀ p xs, H p = none → ReA F xs zs → Q (.ref p) (upd H p (.lst xs))) → r [x] H Q
def nw1 (f : PyData → Option (List PyData)) (a : PG) : Ro → Option (List PyData × Ro) := fun ρ => (a ρ).bind fun x => (f x).map fun z => (z, ρ)
def nw1M (f : PyData → Option (List PyData)) (a : MG) : Ro → Option (List PyData × Ro) := fun ρ => (a ρ).bind fun p => (f p.1).map fun z => (z, p.2)
theorem nw1_some {f : PyData → Option (List PyData)} {a : PG} {ρ ρ' : Ro} {z : List PyData} (h : nw1 f a ρ = some (z, ρ')) : ∃ x, a ρ = some x ∧ f x = some z ∧ ρ' = ρ := by
  unfold nw1 at h
  cases e1 : a ρ with
  | none => rw [e1] at h; cases h
  | some p =>
    rw [e1] at h
    cases e2 : f p with
    | none => simp [e2] at h
    | some u => simp [e2] at h; obtain ⟨h1, h2⟩ := h; subst h1 h2; exact ⟨p, rfl, e2, rfl⟩
theorem nw1M_some {f : PyData → Option (List PyData)} {a : MG} {ρ ρ' : Ro} {z : List PyData} (h : nw1M f a ρ = some (z, ρ')) : ∃ x, a ρ = some (x, ρ') ∧ f x = some z := by
  unfold nw1M at h
  cases e1 : a ρ with
  | none => rw [e1] at h; cases h
  | some p =>
    rw [e1] at h
    cases e2 : f p.1 with
    | none => simp [e2] at h
    | some u => simp [e2] at h; obtain ⟨h1, h2⟩ := h; subst h1 h2; exact ⟨p.1, rfl, e2⟩
section
variable {X : Cx} {K : PySem.W.Frag} {ea eb e : Expr} {ta tb te : TE} {f : PyData → Option PyData} {f2 : PyData → PyData → Option PyData} {fl : PyData → Option (List PyData)} {r : List V → Hp → VK → Prop} {a b : PG} {am bm : MG}
theorem ev_cb1 (hr : CB1 K r f) (ha : Rr K ta a) : Pu K (tCB r (tCons ta tNil)) (op1 f a) := fun ρ d q B σ F H o Q k => by
  unfold op1 at q
  cases e : a ρ with
  | none => rw [e] at q; cases q
  | some x =>
    rw [e] at q
    exact ha ρ x e B σ F H o _ fun v rv => hr x d q F H v o.fh rv Q fun w rw => k w (rw F)
theorem ev_cb1M (hr : CB1 K r f) (ha : Mo K ta am) : Mo K (tCB r (tCons ta tNil)) (op1M f am) := fun ρ d ρ' q B σ F H o Q k => by
  obtain ⟨x, e1, e2⟩ := op1M_some q
  exact ha ρ x ρ' e1 B σ F H o _ fun v F1 H1 o1 g1 rv => hr x d e2 F1 H1 v o1.fh (.inl rv) Q fun w rw => k w F1 H1 o1 g1 (rw F1)
theorem ev_cb2 (hr : CB2 K r f2) (ha : Pu K ta a) (hb : Pu K tb b) : Pu K (tCB r (tCons ta (tCons tb tNil))) (op2 f2 a b) := fun ρ d q B σ F H o Q k => by
  obtain ⟨x, y, e1, e2, e3⟩ := op2_some q
  exact ha ρ x e1 B σ F H o _ fun v rv => hb ρ y e2 B σ F H o _ fun u ru => hr x y d e3 F H v u o.fh rv ru Q fun w rw => k w (rw F)
theorem ev_cb2M (hr : CB2 K r f2) (ha : Mo K ta am) (hb : Mo K tb bm) : Mo K (tCB r (tCons ta (tCons tb tNil))) (op2M f2 am bm) := fun ρ d ρ' q B σ F H o Q k => by
  obtain ⟨x, ρ1, y, e1, e2, e3⟩ := op2M_some q
  refine ha ρ x ρ1 e1 B σ F H o _ fun v F1 H1 o1 g1 rv => hb ρ1 y ρ' e2 B σ F1 H1 o1 _ fun u F2 H2 o2 g2 ru => ?_
  exact hr x y d e3 F2 H2 v u o2.fh (rv.mono g2.ex) ru Q fun w rw => k w F2 H2 o2 (g1.trans g2) (rw F2)
theorem ev_cbn (hr : CBN K r fl) (ha : Rr K ta a) : Nw K (tCB r (tCons ta tNil)) (nw1 fl a) := fun ρ d ρ' q B σ F H o Q k => by
  obtain ⟨x, e1, e2, rfl⟩ := nw1_some q
  refine ha ρ' x e1 B σ F H o _ fun v rv => hr x d e2 F H v o.fh rv Q fun p xs hp ra => ?_
  exact k p xs F _ (o.newH hp) Gr.rfl' upd_same (o.fh.back hp) (o.bh.back hp) (o.noOwn_new hp) ra
theorem ev_cbnM (hr : CBN K r fl) (ha : Mo K ta am) : Nw K (tCB r (tCons ta tNil)) (nw1M fl am) := fun ρ d ρ' q B σ F H o Q k => by
  obtain ⟨x, e1, e2⟩ := nw1M_some q
  refine ha ρ x ρ' e1 B σ F H o _ fun v F1 H1 o1 g1 rv => hr x d e2 F1 H1 v o1.fh (.inl rv) Q fun p xs hp ra => ?_
  exact k p xs F1 _ (o1.newH hp) g1 upd_same (o1.fh.back hp) (o1.bh.back hp) (o1.noOwn_new hp) ra
end
/-! what they are worth -/
def lenD : PyData → Option PyData
  | .list ds => some (.int ds.length)
  | .tuple ds => some (.int ds.length)
  | .str z => if z.length ≤ 1000000 then some (.int z.length) else none
  | _ => none
def intsOf : List PyData → Option (List Int)
  | [] => some []
  | .int i :: r => (intsOf r).map fun l => i :: l
  | _ :: _ => none
def boolsOf : List PyData → Option (List Bool)
  | [] => some []
  | .bool i :: r => (boolsOf r).map fun l => i :: l
  | _ :: _ => none
def strsOf : List PyData → Option (List Str)
  | [] => some []
  | .str i :: r => (strsOf r).map fun l => i :: l
  | _ :: _ => none
theorem intsOf_eq : ∀ {ds : List PyData} {ns : List Int}, intsOf ds = some ns → ds = ns.map .int
  | [], _, h => by cases h; rfl
  | .int i :: r, ns, h => by
    unfold intsOf at h
    cases e : intsOf r with
    | none => rw [e] at h; cases h
    | some l => rw [e] at h; cases h; rw [intsOf_eq e]; rfl
  | .none :: _, _, h => by cases h
  | .bool _ :: _, _, h => by cases h
  | .str _ :: _, _, h => by cases h
  | .list _ :: _, _, h => by cases h
  | .tuple _ :: _, _, h => by cases h
  | .dict _ :: _, _, h => by cases h
theorem intsOf_map : ∀ ns : List Int, intsOf (ns.map .int) = some ns
  | [] => rfl
  | i :: r => by
    show (intsOf (r.map .int)).map _ = _
    rw [intsOf_map r]; rfl
theorem boolsOf_eq : ∀ {ds : List PyData} {ns : List Bool}, boolsOf ds = some ns → ds = ns.map .bool
  | [], _, h => by cases h; rfl
  | .bool i :: r, ns, h => by
    unfold boolsOf at h
    cases e : boolsOf r with
    | none => rw [e] at h; cases h
    | some l => rw [e] at h; cases h; rw [boolsOf_eq e]; rfl
  | .none :: _, _, h => by cases h
  | .int _ :: _, _, h => by cases h
  | .str _ :: _, _, h => by cases h
  | .list _ :: _, _, h => by cases h
  | .tuple _ :: _, _, h => by cases h
  | .dict _ :: _, _, h => by cases h
theorem boolsOf_map : ∀ ns : List Bool, boolsOf (ns.map .bool) = some ns
  | [] => rfl
  | i :: r => by
    show (boolsOf (r.map .bool)).map _ = _
    rw [boolsOf_map r]; rfl
theorem strsOf_eq : ∀ {ds : List PyData} {ns : List Str}, strsOf ds = some ns → ds = ns.map .str
  | [], _, h => by cases h; rfl
  | .str i :: r, ns, h => by
    unfold strsOf at h
    cases e : strsOf r with
    | none => rw [e] at h; cases h
    | some l => rw [e] at h; cases h; rw [strsOf_eq e]; rfl
  | .none :: _, _, h => by cases h
  | .int _ :: _, _, h => by cases h
  | .bool _ :: _, _, h => by cases h
  | .list _ :: _, _, h => by cases h
  | .tuple _ :: _, _, h => by cases h
  | .dict _ :: _, _, h => by cases h
theorem strsOf_map : ∀ ns : List Str, strsOf (ns.map .str) = some ns
  | [] => rfl
  | i :: r => by
    show (strsOf (r.map .str)).map _ = _
    rw [strsOf_map r]; rfl
def sumD : PyData → Option PyData
  | .list ds => (intsOf ds).map fun ns => .int ns.sum
  | _ => none
def allD : PyData → Option PyData
  | .list ds => (boolsOf ds).map fun ns => .bool (ns.all id)
  | _ => none
def anyD : PyData → Option PyData
  | .list ds => (boolsOf ds).map fun ns => .bool (ns.any id)
  | _ => none
def absD : PyData → Option PyData
  | .int i => some (.int (if i < 0 then -i else i))
  | _ => none
def intD : PyData → Option PyData
  | .int i => some (.int i)
  | .bool b => some (.int (if b then 1 else 0))
  | _ => none
def minD (d e : PyData) : Option PyData := match d, e with
  | .int i, .int j => some (.int (if j < i then j else i))
  | _, _ => none
def maxD (d e : PyData) : Option PyData := match d, e with
  | .int i, .int j => some (.int (if j > i then j else i))
  | _, _ => none
def listD : PyData → Option (List PyData)
  | .list ds => some ds
  | .tuple ds => some ds
  | _ => none
section
variable {X : Cx} {K : PySem.W.Frag}
theorem cb_len : CB1 K (fun xs H Q => ∃ x n, xs = [x] ∧ LenV K x H n ∧ Q (.int n) H) lenD := fun d z q F H x fh rx Q k => by
  unfold lenD at q
  split at q
  · cases q
    obtain ⟨a, xs, rfl, h1, h2⟩ := rx.lst fh
    exact ⟨_, _, rfl, .inl ⟨xs, h1, rfl⟩, by rw [h2.length]; exact k _ fun _ => .int _⟩
  · cases q
    obtain ⟨a, xs, rfl, h1, h2⟩ := rx.tup fh
    exact ⟨_, _, rfl, .inr ⟨xs, SqT.of h1, rfl⟩, by rw [h2.length]; exact k _ fun _ => .int _⟩
  · split at q
    · rename_i w; cases q
      cases rx.re (by simp)
      exact ⟨_, _, rfl, ⟨big_line w, rfl⟩, k _ fun _ => .int _⟩
    · cases q
  · cases q
theorem cb_sum : CB1 K (rSum K) sumD := fun d z q F H x fh rx Q k => by
  unfold sumD at q
  split at q
  · rename_i ds
    cases e : intsOf ds with
    | none => rw [e] at q; cases q
    | some ns =>
      rw [e] at q; cases q
      obtain ⟨a, xs, rfl, h1, h2⟩ := rx.lst fh
      rw [intsOf_eq e] at h2
      rw [h2.ints] at h1
      exact ⟨a, ns, rfl, h1, k _ fun _ => .int _⟩
  · cases q
theorem cb_all : CB1 K (rAll K) allD := fun d z q F H x fh rx Q k => by
  unfold allD at q
  split at q
  · rename_i ds
    cases e : boolsOf ds with
    | none => rw [e] at q; cases q
    | some ns =>
      rw [e] at q; cases q
      obtain ⟨a, xs, rfl, h1, h2⟩ := rx.lst fh
      rw [boolsOf_eq e] at h2
      rw [h2.bools] at h1
      exact ⟨a, ns, rfl, h1, k _ fun _ => .bl _⟩
  · cases q
theorem cb_any : CB1 K (rAny K) anyD := fun d z q F H x fh rx Q k => by
  unfold anyD at q
  split at q
  · rename_i ds
    cases e : boolsOf ds with
    | none => rw [e] at q; cases q
    | some ns =>
      rw [e] at q; cases q
      obtain ⟨a, xs, rfl, h1, h2⟩ := rx.lst fh
      rw [boolsOf_eq e] at h2
      rw [h2.bools] at h1
      exact ⟨a, ns, rfl, h1, k _ fun _ => .bl _⟩
  · cases q
theorem cb_abs : CB1 K (fun xs H Q => ∃ i : Int, xs = [.int i] ∧ Q (.int (if i < 0 then -i else i)) H) absD := fun d z q F H x fh rx Q k => by
  unfold absD at q
  split at q
  · cases q; cases rx.re (by simp)
    exact ⟨_, rfl, k _ fun _ => .int _⟩
  · cases q
theorem cb_int : CB1 K (fun xs H Q => (∃ i, xs = [.int i] ∧ Q (.int i) H) ∨ ∃ k, xs = [.bl k] ∧ Q (.int (if k then 1 else 0)) H) intD := fun d z q F H x fh rx Q k => by
  unfold intD at q
  split at q
  · cases q; cases rx.re (by simp)
    exact .inl ⟨_, rfl, k _ fun _ => .int _⟩
  · cases q; cases rx.re (by simp)
    exact .inr ⟨_, rfl, k _ fun _ => .int _⟩
  · cases q
theorem cb_min : CB2 K (fun xs H Q => ∃ i j : Int, xs = [.int i, .int j] ∧ Q (.int (if j < i then j else i)) H) minD := fun d e z q F H x y fh rx ry Q k => by
  unfold minD at q
  split at q
  · cases q; cases rx; cases ry
    exact ⟨_, _, rfl, k _ fun _ => .int _⟩
  · cases q
theorem cb_max : CB2 K (fun xs H Q => ∃ i j : Int, xs = [.int i, .int j] ∧ Q (.int (if j > i then j else i)) H) maxD := fun d e z q F H x y fh rx ry Q k => by
  unfold maxD at q
  split at q
  · cases q; cases rx; cases ry
    exact ⟨_, _, rfl, k _ fun _ => .int _⟩
  · cases q
theorem cbn_list : CBN K (fun xs H Q => ∃ p ys, xs = [.ref p] ∧ (SqL K H p ys ∨ SqT K H p ys) ∧ ∀ l, H l = none → Q (.ref l) (upd H l (.lst ys))) listD := fun d z q F H x fh rx Q k => by
  unfold listD at q
  split at q
  · cases q
    obtain ⟨a, xs, rfl, h1, h2⟩ := rx.lst fh
    exact ⟨a, xs, rfl, .inl h1, fun l hl => k l xs hl h2⟩
  · cases q
    obtain ⟨a, xs, rfl, h1, h2⟩ := rx.tup fh
    exact ⟨a, xs, rfl, .inr (SqT.of h1), fun l hl => k l xs hl h2⟩
  · cases q
end
end Dn
end
section
set_option Elab.async false
set_option linter.all false
set_option maxRecDepth 100000
set_option maxHeartbeats 2000000
namespace Dn
open PySem L2 PySem.Spec PyProof.Rows
/-! ### truth values: and, or, not, if -/
def boolOf : PyData → Option Bool
  | .bool b => some b
  | _ => none
def andG (a b : PG) : PG := fun ρ => (a ρ).bind fun x => (boolOf x).bind fun c => if c = true then b ρ else some (.bool false)
def orG (a b : PG) : PG := fun ρ => (a ρ).bind fun x => (boolOf x).bind fun c => if c = true then some (.bool true) else b ρ
def notD : PyData → Option PyData
  | .bool b => some (.bool (!b))
  | _ => none
def andM (a b : MG) : MG := fun ρ => (a ρ).bind fun p => (boolOf p.1).bind fun c => if c = true then b p.2 else some (.bool false, p.2)
def orM (a b : MG) : MG := fun ρ => (a ρ).bind fun p => (boolOf p.1).bind fun c => if c = true then some (.bool true, p.2) else b p.2
theorem boolOf_eq {d : PyData} {b : Bool} (h : boolOf d = some b) : d = .bool b := by
  cases d <;> first | cases h; rfl | cases h
/-- a bind that gives something -/
theorem bind_some' {α β : Type} {o : Option α} {f : α → Option β} {z : β} (h : o.bind f = some z) : ∃ x, o = some x ∧ f x = some z := by
  cases o with
  | none => cases h
  | some x => exact ⟨x, rfl, h⟩
theorem map_some' {α β : Type} {o : Option α} {f : α → β} {z : β} (h : o.map f = some z) : ∃ x, o = some x ∧ f x = z := by
  cases o with
  | none => cases h
  | some x => cases h; exact ⟨x, rfl, rfl⟩
def tb (g : PG) : Ro → Option Bool := fun ρ => (g ρ).bind boolOf
def tbM (g : MG) : Ro → Option (Bool × Ro) := fun ρ => (g ρ).bind fun p => (boolOf p.1).map fun b => (b, p.2)
def tAndG (a b : Ro → Option Bool) : Ro → Option Bool := fun ρ => (a ρ).bind fun c => if c = true then b ρ else some false
def tOrG (a b : Ro → Option Bool) : Ro → Option Bool := fun ρ => (a ρ).bind fun c => if c = true then some true else b ρ
def tNotG (a : Ro → Option Bool) : Ro → Option Bool := fun ρ => (a ρ).map fun c => !c
def tAndM (a b : Ro → Option (Bool × Ro)) : Ro → Option (Bool × Ro) := fun ρ => (a ρ).bind fun p => if p.1 = true then b p.2 else some (false, p.2)
def tOrM (a b : Ro → Option (Bool × Ro)) : Ro → Option (Bool × Ro) := fun ρ => (a ρ).bind fun p => if p.1 = true then some (true, p.2) else b p.2
def tNotM (a : Ro → Option (Bool × Ro)) : Ro → Option (Bool × Ro) := fun ρ => (a ρ).map fun p => (!p.1, p.2)
def ifG (c : Ro → Option Bool) (a b : PG) : PG := fun ρ => (c ρ).bind fun k => if k = true then a ρ else b ρ
def ifM (c : Ro → Option (Bool × Ro)) (a b : MG) : MG := fun ρ => (c ρ).bind fun p => if p.1 = true then a p.2 else b p.2
section
variable {X : Cx} {K : PySem.W.Frag} {ea eb c : Expr} {ta tb' : TE} {tt tu : TT} {rest : List Expr} {pos : Pos} {a b : PG} {am bm : MG} {g h : Ro → Option Bool} {gm hm : Ro → Option (Bool × Ro)}
theorem p_not (ha : JP X ea ta a) : JP X (.UnaryOp .Not ea pos) (tNotV ta) (op1 notD a) := ⟨pe_not ha.pe, fun ρ d q B σ F H o Q k => by
  obtain ⟨x, e1, e2⟩ := bind_some' q
  refine ha.ev ρ x e1 B σ F H o _ fun v rv => ?_
  cases x <;> simp [notD] at e2
  subst e2; cases rv
  exact ⟨_, rfl, k _ (.bl _)⟩⟩
theorem m_not (ha : JM X ea ta am) : JM X (.UnaryOp .Not ea pos) (tNotV ta) (op1M notD am) := ⟨pe_not ha.pe, fun ρ d ρ' q B σ F H o Q k => by
  obtain ⟨x, e1, e2⟩ := op1M_some q
  refine ha.ev ρ x ρ' e1 B σ F H o _ fun v F1 H1 o1 g1 rv => ?_
  cases x <;> simp [notD] at e2
  subst e2; cases rv
  exact ⟨_, rfl, k _ F1 H1 o1 g1 (.bl _)⟩⟩
theorem p_one {op} (ha : JP X ea ta a) : JP X (.BoolOp op [ea] pos) ta a := ⟨pe_one ha.pe, ha.ev⟩
theorem m_one {op} (ha : JM X ea ta am) : JM X (.BoolOp op [ea] pos) ta am := ⟨pe_one ha.pe, ha.ev⟩
theorem p_and (ha : JP X ea ta a) (hb : JP X (.BoolOp .And (eb :: rest) pos) tb' b) : JP X (.BoolOp .And (ea :: eb :: rest) pos) (tAndV ta tb') (andG a b) := ⟨pe_and ha.pe hb.pe, fun ρ d q B σ F H o Q k => by
  obtain ⟨x, e1, q⟩ := bind_some' q
  obtain ⟨c, e2, q⟩ := bind_some' q
  refine ha.ev ρ x e1 B σ F H o _ fun v rv => ?_
  rw [boolOf_eq e2] at rv; cases rv
  refine ⟨c, rfl, ?_⟩
  cases c with
  | true => rw [if_pos rfl] at q ⊢; exact hb.ev ρ d q B σ F H o Q k
  | false => rw [if_neg Bool.false_ne_true] at q ⊢; cases q; exact k _ (.bl _)⟩
theorem p_or (ha : JP X ea ta a) (hb : JP X (.BoolOp .Or (eb :: rest) pos) tb' b) : JP X (.BoolOp .Or (ea :: eb :: rest) pos) (tOrV ta tb') (orG a b) := ⟨pe_or ha.pe hb.pe, fun ρ d q B σ F H o Q k => by
  obtain ⟨x, e1, q⟩ := bind_some' q
  obtain ⟨c, e2, q⟩ := bind_some' q
  refine ha.ev ρ x e1 B σ F H o _ fun v rv => ?_
  rw [boolOf_eq e2] at rv; cases rv
  refine ⟨c, rfl, ?_⟩
  cases c with
  | true => rw [if_pos rfl] at q ⊢; cases q; exact k _ (.bl _)
  | false => rw [if_neg Bool.false_ne_true] at q ⊢; exact hb.ev ρ d q B σ F H o Q k⟩
theorem m_and (ha : JM X ea ta am) (hb : JM X (.BoolOp .And (eb :: rest) pos) tb' bm) : JM X (.BoolOp .And (ea :: eb :: rest) pos) (tAndV ta tb') (andM am bm) := ⟨pe_and ha.pe hb.pe, fun ρ d ρ' q B σ F H o Q k => by
  obtain ⟨x, e1, q⟩ := bind_some' q
  obtain ⟨c, e2, q⟩ := bind_some' q
  refine ha.ev ρ x.1 x.2 e1 B σ F H o _ fun v F1 H1 o1 g1 rv => ?_
  rw [boolOf_eq e2] at rv; cases rv
  refine ⟨c, rfl, ?_⟩
  cases c with
  | true => rw [if_pos rfl] at q ⊢; exact hb.ev x.2 d ρ' q B σ F1 H1 o1 Q fun v F2 H2 o2 g2 r => k v F2 H2 o2 (g1.trans g2) r
  | false => rw [if_neg Bool.false_ne_true] at q ⊢; cases q; exact k _ F1 H1 o1 g1 (.bl _)⟩
theorem m_or (ha : JM X ea ta am) (hb : JM X (.BoolOp .Or (eb :: rest) pos) tb' bm) : JM X (.BoolOp .Or (ea :: eb :: rest) pos) (tOrV ta tb') (orM am bm) := ⟨pe_or ha.pe hb.pe, fun ρ d ρ' q B σ F H o Q k => by
  obtain ⟨x, e1, q⟩ := bind_some' q
  obtain ⟨c, e2, q⟩ := bind_some' q
  refine ha.ev ρ x.1 x.2 e1 B σ F H o _ fun v F1 H1 o1 g1 rv => ?_
  rw [boolOf_eq e2] at rv; cases rv
  refine ⟨c, rfl, ?_⟩
  cases c with
  | true => rw [if_pos rfl] at q ⊢; cases q; exact k _ F1 H1 o1 g1 (.bl _)
  | false => rw [if_neg Bool.false_ne_true] at q ⊢; exact hb.ev x.2 d ρ' q B σ F1 H1 o1 Q fun v F2 H2 o2 g2 r => k v F2 H2 o2 (g1.trans g2) r⟩
/-! tests -/
theorem tp_B (ha : Pu K ta a) : Tp K (tB ta) (tb a) := fun ρ d q B σ F H o Q k => by
  obtain ⟨x, e1, e2⟩ := bind_some' q
  refine ha ρ x e1 B σ F H o _ fun v rv => ?_
  rw [boolOf_eq e2] at rv; cases rv
  exact ⟨_, rfl, k⟩
theorem tm_B (ha : Mo K ta am) : Tm K (tB ta) (tbM am) := fun ρ d ρ' q B σ F H o Q k => by
  obtain ⟨x, e1, q⟩ := bind_some' q
  obtain ⟨c, e2, q⟩ := map_some' q
  cases q
  refine ha ρ x.1 x.2 e1 B σ F H o _ fun v F1 H1 o1 g1 rv => ?_
  rw [boolOf_eq e2] at rv; cases rv
  exact ⟨_, rfl, k F1 H1 o1 g1⟩
theorem t_val (ha : JP X ea ta a) (he : ∀ whole, isTrue ea X.env whole = (do let v ← whole; standAt ea.pos; holding [v] (truthy v)) := by intro _; rfl) : JT X ea (tB ta) (tb a) := ⟨pt_val ha.pe he, tp_B ha.ev⟩
theorem tm_val (ha : JM X ea ta am) (he : ∀ whole, isTrue ea X.env whole = (do let v ← whole; standAt ea.pos; holding [v] (truthy v)) := by intro _; rfl) : JTM X ea (tB ta) (tbM am) := ⟨pt_val ha.pe he, tm_B ha.ev⟩
theorem t_cmp {op : CmpOp} {r : R2} {f : PyData → PyData → Option PyData} (ho : OpR X (compareOp op) r) (hr : OpD X.K r f) (ha : JP X ea ta a) (hb : JP X eb tb' b) (hm : behindInMarks op eb = false) : JT X (.Compare ea [op] [eb] pos) (tTest (tOp r ta tb')) (tb (op2 f a b)) := ⟨pt_cmpR ho ha.pe hb.pe hm, tp_B (ev_op hr ha.ev hb.ev)⟩
theorem t_cmpR {op : CmpOp} {r : R2} {f : PyData → PyData → Option PyData} (ho : OpR X (compareOp op) r) (hr : OpDR X.K r f) (ha : JR X ea ta a) (hb : JR X eb tb' b) (hm : behindInMarks op eb = false) : JT X (.Compare ea [op] [eb] pos) (tTest (tOp r ta tb')) (tb (op2 f a b)) := ⟨pt_cmpR ho ha.pe hb.pe hm, tp_B (ev_opR hr ha.ev hb.ev)⟩
theorem tm_cmp {op : CmpOp} {r : R2} {f : PyData → PyData → Option PyData} (ho : OpR X (compareOp op) r) (hr : OpD X.K r f) (ha : JM X ea ta am) (hb : JM X eb tb' bm) (hm : behindInMarks op eb = false) : JTM X (.Compare ea [op] [eb] pos) (tTest (tOp r ta tb')) (tbM (op2M f am bm)) := ⟨pt_cmpR ho ha.pe hb.pe hm, tm_B (ev_opM hr ha.ev hb.ev)⟩
/-- tests that are chains of and, or: PW in the place of PT -/
structure JW (X : Cx) (e : Expr) (tt : TT) (g : Ro → Option Bool) : Prop where
  pw : PW X e tt
  ev : Tp X.K tt g
structure JWM (X : Cx) (e : Expr) (tt : TT) (g : Ro → Option (Bool × Ro)) : Prop where
  pw : PW X e tt
  ev : Tm X.K tt g
theorem JW.t (w : JW X c tt g) : JT X c tt g := ⟨w.pw.pt, w.ev⟩
theorem JWM.t (w : JWM X c tt gm) : JTM X c tt gm := ⟨w.pw.pt, w.ev⟩
theorem w_and1 (ha : JT X ea tt g) : JW X (.BoolOp .And [ea] pos) tt g := ⟨pw_and1 ha.pt, ha.ev⟩
theorem w_or1 (ha : JT X ea tt g) : JW X (.BoolOp .Or [ea] pos) tt g := ⟨pw_or1 ha.pt, ha.ev⟩
theorem wm_and1 (ha : JTM X ea tt gm) : JWM X (.BoolOp .And [ea] pos) tt gm := ⟨pw_and1 ha.pt, ha.ev⟩
theorem wm_or1 (ha : JTM X ea tt gm) : JWM X (.BoolOp .Or [ea] pos) tt gm := ⟨pw_or1 ha.pt, ha.ev⟩
theorem w_and (ha : JT X ea tt g) (hb : JW X (.BoolOp .And (eb :: rest) pos) tu h) : JW X (.BoolOp .And (ea :: eb :: rest) pos) (tAnd tt tu) (tAndG g h) := ⟨pw_and ha.pt hb.pw, fun ρ d q B σ F H o Q k => by
  obtain ⟨c, e1, q⟩ := bind_some' q
  refine ha.ev ρ c e1 B σ F H o _ ?_
  cases c with
  | true => rw [if_pos rfl] at q ⊢; exact hb.ev ρ d q B σ F H o Q k
  | false => rw [if_neg Bool.false_ne_true] at q ⊢; cases q; exact k⟩
theorem w_or (ha : JT X ea tt g) (hb : JW X (.BoolOp .Or (eb :: rest) pos) tu h) : JW X (.BoolOp .Or (ea :: eb :: rest) pos) (tOr tt tu) (tOrG g h) := ⟨pw_or ha.pt hb.pw, fun ρ d q B σ F H o Q k => by
  obtain ⟨c, e1, q⟩ := bind_some' q
  refine ha.ev ρ c e1 B σ F H o _ ?_
  cases c with
  | true => rw [if_pos rfl] at q ⊢; cases q; exact k
  | false => rw [if_neg Bool.false_ne_true] at q ⊢; exact hb.ev ρ d q B σ F H o Q k⟩
theorem wm_and (ha : JTM X ea tt gm) (hb : JWM X (.BoolOp .And (eb :: rest) pos) tu hm) : JWM X (.BoolOp .And (ea :: eb :: rest) pos) (tAnd tt tu) (tAndM gm hm) := ⟨pw_and ha.pt hb.pw, fun ρ d ρ' q B σ F H o Q k => by
  obtain ⟨c, e1, q⟩ := bind_some' q
  refine ha.ev ρ c.1 c.2 e1 B σ F H o _ fun F1 H1 o1 g1 => ?_
  cases z : c.1 with
  | true => rw [z] at q; rw [if_pos rfl] at q ⊢; exact hb.ev c.2 d ρ' q B σ F1 H1 o1 Q fun F2 H2 o2 g2 => k F2 H2 o2 (g1.trans g2)
  | false => rw [z] at q; rw [if_neg Bool.false_ne_true] at q ⊢; cases q; exact k F1 H1 o1 g1⟩
theorem wm_or (ha : JTM X ea tt gm) (hb : JWM X (.BoolOp .Or (eb :: rest) pos) tu hm) : JWM X (.BoolOp .Or (ea :: eb :: rest) pos) (tOr tt tu) (tOrM gm hm) := ⟨pw_or ha.pt hb.pw, fun ρ d ρ' q B σ F H o Q k => by
  obtain ⟨c, e1, q⟩ := bind_some' q
  refine ha.ev ρ c.1 c.2 e1 B σ F H o _ fun F1 H1 o1 g1 => ?_
  cases z : c.1 with
  | true => rw [z] at q; rw [if_pos rfl] at q ⊢; cases q; exact k F1 H1 o1 g1
  | false => rw [z] at q; rw [if_neg Bool.false_ne_true] at q ⊢; exact hb.ev c.2 d ρ' q B σ F1 H1 o1 Q fun F2 H2 o2 g2 => k F2 H2 o2 (g1.trans g2)⟩
theorem t_not (ha : JT X ea tt g) : JT X (.UnaryOp .Not ea pos) (tNot tt) (tNotG g) := ⟨pt_not ha.pt, fun ρ d q B σ F H o Q k => by
  obtain ⟨c, e1, q⟩ := map_some' q
  subst q
  exact ha.ev ρ c e1 B σ F H o _ k⟩
theorem tm_not (ha : JTM X ea tt gm) : JTM X (.UnaryOp .Not ea pos) (tNot tt) (tNotM gm) := ⟨pt_not ha.pt, fun ρ d ρ' q B σ F H o Q k => by
  obtain ⟨c, e1, q⟩ := map_some' q
  cases q
  exact ha.ev ρ c.1 c.2 e1 B σ F H o _ k⟩
theorem p_if (hc : JT X c tt g) (ha : JP X ea ta a) (hb : JP X eb tb' b) : JP X (.IfExp c ea eb pos) (tIf tt ta tb') (ifG g a b) := ⟨pe_ifExp hc.pt ha.pe hb.pe, fun ρ d q B σ F H o Q k => by
  obtain ⟨z, e1, q⟩ := bind_some' q
  refine hc.ev ρ z e1 B σ F H o _ ?_
  cases z with
  | true => rw [if_pos rfl] at q ⊢; exact ha.ev ρ d q B σ F H o Q k
  | false => rw [if_neg Bool.false_ne_true] at q ⊢; exact hb.ev ρ d q B σ F H o Q k⟩
theorem m_if (hc : JTM X c tt gm) (ha : JM X ea ta am) (hb : JM X eb tb' bm) : JM X (.IfExp c ea eb pos) (tIf tt ta tb') (ifM gm am bm) := ⟨pe_ifExp hc.pt ha.pe hb.pe, fun ρ d ρ' q B σ F H o Q k => by
  obtain ⟨c, e1, q⟩ := bind_some' q
  refine hc.ev ρ c.1 c.2 e1 B σ F H o _ fun F1 H1 o1 g1 => ?_
  cases z : c.1 with
  | true => rw [z] at q; rw [if_pos rfl] at q ⊢; exact ha.ev c.2 d ρ' q B σ F1 H1 o1 Q fun v F2 H2 o2 g2 r => k v F2 H2 o2 (g1.trans g2) r
  | false => rw [z] at q; rw [if_neg Bool.false_ne_true] at q ⊢; exact hb.ev c.2 d ρ' q B σ F1 H1 o1 Q fun v F2 H2 o2 g2 r => k v F2 H2 o2 (g1.trans g2) r⟩
end
/-! ### arguments, displays -/
abbrev AG := Ro → Option (List PyData × Ro)
def aNil : AG := fun ρ => some ([], ρ)
def aCons (a : MG) (r : AG) : AG := fun ρ => (a ρ).bind fun p => (r p.2).map fun q => (p.1 :: q.1, q.2)
def aStar (a : MG) (r : AG) : AG := fun ρ => (a ρ).bind fun p => match p.1 with
  | .list ds => (r p.2).map fun q => (ds ++ q.1, q.2)
  | .tuple ds => (r p.2).map fun q => (ds ++ q.1, q.2)
  | _ => none
def tupM (a : AG) : MG := fun ρ => (a ρ).bind fun p => if p.1.length ≤ 1000000 then some (.tuple p.1, p.2) else none
def lstN (a : AG) : AG := fun ρ => (a ρ).bind fun p => if p.1.length ≤ 1000000 then some p else none
section
variable {X : Cx} {K : PySem.W.Frag} {e : Expr} {es : List Expr} {te : TE} {t : TA} {a : MG} {r : AG} {p pos : Pos}
theorem a_nil : JA X [] tNil aNil := ⟨pa_nil, fun ρ d ρ' q B σ F H o Q k => by
  cases q
  exact k [] F H o Gr.rfl' .nil⟩
theorem a_cons (ha : JM X e te a) (hr : JA X es t r) (hs : starEach (e :: es) X.env = (false, eval e X.env) :: starEach es X.env := by rfl) : JA X (e :: es) (tCons te t) (aCons a r) := ⟨pa_cons ha.pe hr.pa hs, fun ρ d ρ' q B σ F H o Q k => by
  obtain ⟨x, e1, q⟩ := bind_some' q
  obtain ⟨y, e2, q⟩ := map_some' q
  cases q
  refine ha.ev ρ x.1 x.2 e1 B σ F H o _ fun v F1 H1 o1 g1 rv => ?_
  exact hr.ev x.2 y.1 y.2 e2 B σ F1 H1 o1 _ fun vs F2 H2 o2 g2 rs => k _ F2 H2 o2 (g1.trans g2) (.cons (rv.mono g2.ex) rs)⟩
theorem a_star (ha : JM X e te a) (hr : JA X es t r) (hs : starEach (.Starred e p :: es) X.env = (true, eval e X.env) :: starEach es X.env := by rfl) : JA X (.Starred e p :: es) (StX.tStar X.K te t) (aStar a r) := ⟨StX.pa_star ha.pe hr.pa hs, fun ρ d ρ' q B σ F H o Q k => by
  obtain ⟨x, e1, q⟩ := bind_some' q
  refine ha.ev ρ x.1 x.2 e1 B σ F H o _ fun v F1 H1 o1 g1 rv => ?_
  obtain ⟨x1, x2⟩ := x
  cases x1 <;> try cases q
  · obtain ⟨y, e2, q⟩ := map_some' q
    cases q
    cases rv with
    | lst h1 h2 =>
      refine ⟨_, _, rfl, .inr (SqL.of (o1.fh _ _ h1)), ?_⟩
      exact hr.ev x2 y.1 y.2 e2 B σ F1 H1 o1 _ fun vs F2 H2 o2 g2 rs => k _ F2 H2 o2 (g1.trans g2) ((h2.mono g2.ex).append rs)
  · obtain ⟨y, e2, q⟩ := map_some' q
    cases q
    cases rv with
    | tup h1 h2 =>
      refine ⟨_, _, rfl, .inl (SqT.of (o1.fh _ _ h1)), ?_⟩
      exact hr.ev x2 y.1 y.2 e2 B σ F1 H1 o1 _ fun vs F2 H2 o2 g2 rs => k _ F2 H2 o2 (g1.trans g2) ((h2.mono g2.ex).append rs)⟩
theorem m_tup {x1} (h : JA X es t r) : JM X (.Tuple es x1 pos) (tTup t) (tupM r) := ⟨pe_tup h.pa, fun ρ d ρ' q B σ F H o Q k => by
  obtain ⟨x, e1, q⟩ := bind_some' q
  split at q
  · rename_i w; cases q
    refine h.ev ρ x.1 x.2 e1 B σ F H o _ fun vs F1 H1 o1 g1 rs => ⟨by rw [rs.length]; exact big_line w, fun p hp => ?_⟩
    exact k _ _ _ (o1.new hp) (g1.trans (Gr.new o1.fh o1.bh hp)) (.tup upd_same (rs.mono (Ex.new (o1.fh.back hp))))
  · cases q⟩
theorem n_lst (h : JA X es t r) : JN X (.List es pos) (tLst t) (lstN r) := ⟨pe_lst h.pa, fun ρ d ρ' q B σ F H o Q k => by
  obtain ⟨x, e1, q⟩ := bind_some' q
  split at q
  · rename_i w; cases q
    refine h.ev ρ d ρ' e1 B σ F H o _ fun vs F1 H1 o1 g1 rs => ⟨by rw [rs.length]; exact big_line w, fun p hp => ?_⟩
    exact k p vs F1 _ (o1.newH hp) g1 upd_same (o1.fh.back hp) (o1.bh.back hp) (o1.noOwn_new hp) rs
  · cases q⟩
end
/-! ### slices of lists, list + list, list * int -/
def cutD (ds : List PyData) (lo hi : Option Int) : List PyData := (ds.drop (HT.sIx ds.length 0 lo)).take (HT.sIx ds.length ds.length hi - HT.sIx ds.length 0 lo)
abbrev OG := Ro → Option (Option Int)
def oNone : OG := fun _ => some none
def intOf : PyData → Option Int
  | .int i => some i
  | _ => none
theorem intOf_eq {d : PyData} {b : Int} (h : intOf d = some b) : d = .int b := by
  cases d <;> first | cases h; rfl | cases h
def oSome (a : PG) : OG := fun ρ => (a ρ).bind fun x => (intOf x).map some
structure JO (X : Cx) (e : Option Expr) (t : TO) (g : OG) : Prop where
  po : PO X e t
  ev : ∀ ρ d, g ρ = some d → ∀ B σ F H, Ok X.K B σ F H ρ → ∀ Q : Option Int → Hp → Prop, Q d H → t σ H Q
def cutN (a : PG) (lo hi : OG) : AG := fun ρ => (a ρ).bind fun x => (listOf x).bind fun ds => (lo ρ).bind fun l => (hi ρ).map fun u => (cutD ds l u, ρ)
where listOf : PyData → Option (List PyData)
  | .list ds => some ds
  | _ => none
def catN (a b : MG) : AG := fun ρ => (a ρ).bind fun p => (cutN.listOf p.1).bind fun ds => (b p.2).bind fun q => (cutN.listOf q.1).bind fun es => if ds.length + es.length ≤ 1000000 then some (ds ++ es, q.2) else none
def revN (a : PG) : AG := fun ρ => (a ρ).bind fun x => (cutN.listOf x).map fun ds => (ds.reverse, ρ)
def repN (a : MG) (b : PG) : AG := fun ρ => (a ρ).bind fun p => (cutN.listOf p.1).bind fun ds => (b p.2).bind fun q => (intOf q).bind fun n => if 0 ≤ n ∧ n ≤ 1000000 ∧ ds.length * n.toNat ≤ 1000000 then some ((List.replicate n.toNat ds).flatten, p.2) else none
theorem listOf_eq {d : PyData} {ds : List PyData} (h : cutN.listOf d = some ds) : d = .list ds := by
  cases d <;> first | cases h; rfl | cases h
theorem ReA.cut {F : Hp} {xs : List V} {ds : List PyData} (h : ReA F xs ds) (lo hi : Option Int) : ReA F (cutV xs lo hi) (cutD ds lo hi) := by
  unfold cutV cutD
  rw [h.length]
  exact (h.drop _).take _
section
variable {X : Cx} {K : PySem.W.Frag} {ea eb e : Expr} {ta tb' te : TE} {a b : PG} {am bm : MG} {lo hi : Option Expr} {tl th : TO} {gl gh : OG} {pos p2 p3 : Pos}
theorem o_none : JO X none tNoPart oNone := ⟨po_none, fun ρ d q B σ F H o Q k => by cases q; exact k⟩
theorem o_some (h : JP X e te a) : JO X (some e) (tPart te) (oSome a) := ⟨po_some h.pe, fun ρ d q B σ F H o Q k => by
  obtain ⟨x, e1, q⟩ := bind_some' q
  obtain ⟨i, e2, q⟩ := map_some' q
  subst q
  refine h.ev ρ x e1 B σ F H o _ fun v rv => ?_
  cases intOf_eq e2; cases rv
  exact ⟨_, rfl, k⟩⟩
theorem n_cut (ha : JR X ea ta a) (hl : JO X lo tl gl) (hh : JO X hi th gh) : JN X (.Subscript ea (.Slice lo hi none p2) pos) (tSl (rSlL X.K) ta tl th) (cutN a gl gh) := ⟨pe_slice sl_list ha.pe hl.po hh.po, fun ρ d ρ' q B σ F H o Q k => by
  obtain ⟨x, e1, q⟩ := bind_some' q
  obtain ⟨ds, e2, q⟩ := bind_some' q
  obtain ⟨l, e3, q⟩ := bind_some' q
  obtain ⟨u, e4, q⟩ := map_some' q
  cases q
  cases listOf_eq e2
  refine ha.ev ρ _ e1 B σ F H o _ fun v rv => hl.ev ρ l e3 B σ F H o _ (hh.ev ρ u e4 B σ F H o _ ?_)
  obtain ⟨p, xs, rfl, h1, h2⟩ := rv.lst o.fh
  exact ⟨p, xs, rfl, h1, fun p' hp => k p' _ F _ (o.newH hp) Gr.rfl' upd_same (o.fh.back hp) (o.bh.back hp) (o.noOwn_new hp) (h2.cut l u)⟩⟩
theorem n_rev {k1 : Nat} {p1 : Pos} (ha : JR X ea ta a) : JN X (.Subscript ea (.Slice none none (some (.UnaryOp .USub (.Constant (.int 1) k1 p1) p2)) p3) pos) (tRevL X.K ta) (revN a) := ⟨pe_revL ha.pe, fun ρ d ρ' q B σ F H o Q k => by
  obtain ⟨x, e1, q⟩ := bind_some' q
  obtain ⟨ds, e2, q⟩ := map_some' q
  cases q
  cases listOf_eq e2
  refine ha.ev ρ _ e1 B σ F H o _ fun v rv => ?_
  obtain ⟨p, xs, rfl, h1, h2⟩ := rv.lst o.fh
  exact ⟨p, xs, rfl, h1, fun p' hp => k p' _ F _ (o.newH hp) Gr.rfl' upd_same (o.fh.back hp) (o.bh.back hp) (o.noOwn_new hp) h2.reverse⟩⟩
theorem n_cat (ha : JM X ea ta am) (hb : JM X eb tb' bm) : JN X (.BinOp ea .Add eb pos) (tOp rCat ta tb') (catN am bm) := ⟨pe_op op_cat ha.pe hb.pe, fun ρ d ρ' q B σ F H o Q k => by
  obtain ⟨x, e1, q⟩ := bind_some' q
  obtain ⟨ds, e2, q⟩ := bind_some' q
  obtain ⟨y, e3, q⟩ := bind_some' q
  obtain ⟨es, e4, q⟩ := bind_some' q
  split at q
  · rename_i w; cases q
    refine ha.ev ρ x.1 x.2 e1 B σ F H o _ fun v F1 H1 o1 g1 rv => hb.ev x.2 y.1 y.2 e3 B σ F1 H1 o1 _ fun u F2 H2 o2 g2 ru => ?_
    rw [listOf_eq e2] at rv
    rw [listOf_eq e4] at ru
    cases rv with
    | lst h1 h2 =>
      cases ru with
      | lst h3 h4 =>
        refine ⟨_, _, _, _, rfl, rfl, o2.fh _ _ (g2.ex _ _ h1), o2.fh _ _ h3, by rw [h2.length, h4.length]; exact big_line w, fun p hp => ?_⟩
        exact k p _ F2 _ (o2.newH hp) (g1.trans g2) upd_same (o2.fh.back hp) (o2.bh.back hp) (o2.noOwn_new hp) ((h2.mono g2.ex).append h4)
  · cases q⟩
theorem rep_re {F : Hp} {xs : List V} {ds : List PyData} (h : ReA F xs ds) : ∀ n : Nat, ReA F (List.replicate n xs).flatten (List.replicate n ds).flatten
  | 0 => .nil
  | n + 1 => by
    rw [List.replicate_succ, List.replicate_succ, List.flatten_cons, List.flatten_cons]
    exact h.append (rep_re h n)
theorem n_rep (ha : JM X ea ta am) (hb : JP X eb tb' b) : JN X (.BinOp ea .Mult eb pos) (tOp rRep ta tb') (repN am b) := ⟨pe_op op_rep ha.pe hb.pe, fun ρ d ρ' q B σ F H o Q k => by
  obtain ⟨x, e1, q⟩ := bind_some' q
  obtain ⟨ds, e2, q⟩ := bind_some' q
  obtain ⟨y, e3, q⟩ := bind_some' q
  obtain ⟨n, e4, q⟩ := bind_some' q
  split at q
  · rename_i w; cases q
    refine ha.ev ρ x.1 x.2 e1 B σ F H o _ fun v F1 H1 o1 g1 rv => hb.ev x.2 y e3 B σ F1 H1 o1 _ fun u ru => ?_
    rw [listOf_eq e2] at rv
    rw [intOf_eq e4] at ru
    cases ru
    cases rv with
    | lst h1 h2 =>
      obtain ⟨w1, w2, w3⟩ := w
      refine ⟨_, n, _, rfl, rfl, o1.fh _ _ h1, by omega, by omega, by rw [h2.length]; exact big_line w3, fun p hp => ?_⟩
      exact k p _ F1 _ (o1.newH hp) g1 upd_same (o1.fh.back hp) (o1.bh.back hp) (o1.noOwn_new hp) (rep_re h2 _)
  · cases q⟩
end
end Dn
end
section
set_option Elab.async false
set_option linter.all false
set_option maxRecDepth 100000
set_option maxHeartbeats 2000000
namespace Dn
open PySem L2 PySem.Spec PyProof.Rows
/-! ### promises -/
/-- data in, data out, nothing else changed -/
def spD (n : Nat) (g : List PyData → Option PyData) : Sp := fun vs H Q _ => ∃ F ds d, Ex F H ∧ ReA F vs ds ∧ ds.length = n ∧ g ds = some d ∧
  ∀ v F' H', Ex H H' → Ex F' H' → Gr H F F' → Re F' v d → Q v H'
/-- the first argument a list of the caller's that is changed -/
def spP (n : Nat) (g : List PyData → List PyData → Option (PyData × List PyData)) : Sp := fun vs H Q _ => ∃ p vs' xs F ps ds d ps', vs = .ref p :: vs' ∧ Ex F H ∧ F p = none ∧ H p = some (.lst xs) ∧ ReA F xs ps ∧ ReA F vs' ds ∧ ds.length = n ∧ g ps ds = some (d, ps') ∧
  ∀ v F' H' xs', (∀ a o, a ≠ p → H a = some o → H' a = some o) → Ex F' H' → Gr H F F' → H' p = some (.lst xs') → ReA F' xs' ps' → Re F' v d → Q v H'
/-- the first argument the script -/
def spS (K : PySem.W.Frag) (n : Nat) (g : List Int → List PyData → Option PyData) : Sp := fun vs H Q _ => ∃ p vs' F ns ds d, vs = .ref p :: vs' ∧ Ex F H ∧ SqL K F p (ns.map V.int) ∧ ReA F vs' ds ∧ ds.length = n ∧ g ns ds = some d ∧
  ∀ v F' H', Ex H H' → Ex F' H' → Gr H F F' → Re F' v d → Q v H'
/-- the content of a list that is ours, or lent -/
def olAt (ρ : Ro) (i : Nat) : Option (List PyData) := match ρ[i]? with
  | some (some (.ol ps)) => some ps
  | some (some (.pu ps)) => some ps
  | _ => none
/-- .. changed -/
def olSet (ρ : Ro) (i : Nat) (ps : List PyData) : Ro := match ρ[i]? with
  | some (some (.pu _)) => ρ.set i (some (.pu ps))
  | _ => ρ.set i (some (.ol ps))
def sxAt (ρ : Ro) (i : Nat) : Option (List Int) := match ρ[i]? with
  | some (some (.sx ns)) => some ns
  | _ => none
theorem olAt_some {ρ : Ro} {i : Nat} {ps : List PyData} (h : olAt ρ i = some ps) : ρ[i]? = some (some (.ol ps)) ∨ ρ[i]? = some (some (.pu ps)) := by
  unfold olAt at h
  split at h
  · rename_i e; cases h; exact .inl e
  · rename_i e; cases h; exact .inr e
  · cases h
theorem sxAt_some {ρ : Ro} {i : Nat} {ps : List Int} (h : sxAt ρ i = some ps) : ρ[i]? = some (some (.sx ps)) := by
  unfold sxAt at h
  split at h
  · rename_i e; cases h; exact e
  · cases h
def callG (n : Nat) (g : List PyData → Option PyData) (dvs : List PyData) (as : AG) : MG := fun ρ => (as ρ).bind fun p => if (p.1 ++ dvs).length = n then (g (p.1 ++ dvs)).map fun d => (d, p.2) else none
def callPG (n : Nat) (g : List PyData → List PyData → Option (PyData × List PyData)) (i : Nat) (dvs : List PyData) (as : AG) : MG := fun ρ => (olAt ρ i).bind fun _ => (as ρ).bind fun p => (olAt p.2 i).bind fun ps => if (p.1 ++ dvs).length = n then (g ps (p.1 ++ dvs)).map fun q => (q.1, olSet p.2 i q.2) else none
def callSG (n : Nat) (g : List Int → List PyData → Option PyData) (i : Nat) (dvs : List PyData) (as : AG) : MG := fun ρ => (sxAt ρ i).bind fun ns => (as ρ).bind fun p => if (p.1 ++ dvs).length = n then (g ns (p.1 ++ dvs)).map fun d => (d, p.2) else none
/-- constants that stand nowhere -/
inductive CoA : List V → List PyData → Prop
  | nil : CoA [] []
  | cons {v : V} {d : PyData} {vs : List V} {ds : List PyData} : (∀ F, Re F v d) → CoA vs ds → CoA (v :: vs) (d :: ds)
theorem CoA.re {F : Hp} : ∀ {vs : List V} {ds : List PyData}, CoA vs ds → ReA F vs ds
  | _, _, .nil => .nil
  | _, _, .cons h t => .cons (h F) t.re
section
variable {X : Cx} {K : PySem.W.Frag} {x : Str} {e : Expr} {es : List Expr} {t : TA} {r : AG} {p pos : Pos} {j k : Nat} {vds : List V} {dvs : List PyData}
theorem ev_call {n : Nat} {g : List PyData → Option PyData} {E : XK} (hd : CoA vds dvs) (ha : Ag K t r) : Mo K (tCall (spD n g) vds E t) (callG n g dvs r) := fun ρ d ρ' q B σ F H o Q k => by
  obtain ⟨y, e1, q⟩ := bind_some' q
  split at q
  · rename_i w
    obtain ⟨z, e2, q⟩ := map_some' q
    cases q
    refine ha ρ y.1 y.2 e1 B σ F H o _ fun vs F1 H1 o1 g1 rs => ?_
    refine ⟨F1, y.1 ++ dvs, d, o1.fh, rs.append hd.re, w, e2, fun v F' H' eh ef gr rv => ?_⟩
    exact k v F' H' (o1.kept gr eh ef) (g1.trans (gr.less o1.bh)) rv
  · cases q
theorem m_call {n : Nat} {g : List PyData → Option PyData} (c : C8.Cal X.prog X.w X.K X.mg X.base k x (spD n g) vds) (hd : CoA vds dvs) (hr : Room j X.A) (hk : k ≤ j) (ha : JA X (e :: es) t r) (hg : Gl X x := by rfl)
    (hdb : (x == ("__debug__" : Str)) = false := by decide) (he : starEach (e :: es) X.env = (false, eval e X.env) :: starEach es X.env := by rfl) (hpl : (backTo pos (starEach es X.env)).any (·.1) = false := by rfl) :
    JM X (.Call (.Name x p) (e :: es) [] pos) (tCall (spD n g) vds E0 t) (callG n g dvs r) := ⟨C8.pe_c c hr hk hg ha.pa hdb he hpl, ev_call hd ha.ev⟩
/-- all stands but one's own list at a, which is another now -/
theorem Ok.keptX {B : Bs} {F F' H H' : Hp} {σ : L2.St} {ρ : Ro} {i : Nat} {ps ps' : List PyData} {a : Addr} {xs' : List V} (o : Ok K B σ F H ρ) (ei : ρ[i]? = some (some (.ol ps))) (es : σ[i]? = some (some (.ref a)))
    (eh : ∀ b u, b ≠ a → H b = some u → H' b = some u) (fh : Ex F' H') (g : Gr H F F') (hp : H' a = some (.lst xs')) (rp : ReA F' xs' ps') : Ok K B σ F' H' (ρ.set i (some (.ol ps'))) := by
  have hl : i < ρ.length := (List.getElem?_eq_some_iff.mp ei).1
  obtain ⟨v, e3, a', xs, rfl, h2, h3, h4, h5⟩ := o.sl i _ ei
  rw [es] at e3; cases e3
  refine ⟨fh, fun b u q => eh b u (ne_of_none q h4) (o.bh b u q), by rw [List.length_set]; exact o.len, fun j t q => ?_, fun j k t t' w ne q1 q2 w1 w2 z1 z2 => ?_⟩
  · by_cases z : j = i
    · subst z
      rw [List.getElem?_set_self hl] at q; cases q
      exact ⟨_, es, a, xs', rfl, hp, g.nn _ _ h2 h3, h4, rp⟩
    · rw [List.getElem?_set_ne (Ne.symm z)] at q
      obtain ⟨v, f1, f2⟩ := o.sl j t q
      refine ⟨v, f1, ?_⟩
      have nv : t.own = true → v ≠ .ref a := fun w e => o.ds j i t _ v z q ei w rfl f1 (by rw [e]; exact es)
      cases t with
      | fz d => exact Re.mono g.ex f2
      | ol ds => obtain ⟨b, ys, g1, g2, g3, g4, g5⟩ := f2; exact ⟨b, ys, g1, eh _ _ (fun e => nv rfl (by rw [g1, e])) g2, g.nn _ _ g2 g3, g4, g5.mono g.ex⟩
      | od kvs => obtain ⟨b, ys, g1, g2, g3, g4, g5⟩ := f2; exact ⟨b, ys, g1, eh _ _ (fun e => nv rfl (by rw [g1, e])) g2, g.nn _ _ g2 g3, g4, KvR.mono g.ex g5⟩
      | sx ns => obtain ⟨b, g1, g2⟩ := f2; exact ⟨b, g1, ex_sql g.ex g2⟩
      | pu ds => obtain ⟨b, ys, g1, g2, g3, g4, g5, g6⟩ := f2; exact ⟨b, ys, g1, eh _ _ (fun e => nv rfl (by rw [g1, e])) g2, g.nn _ _ g2 g3, g4, g5.mono g.ex, g6⟩
  · have back : ∀ {j : Nat} {t : Sl}, (ρ.set i (some (.ol ps')))[j]? = some (some t) → t.own = true → ∃ t', ρ[j]? = some (some t') ∧ t'.own = true := fun {j t} q w => by
      by_cases z : j = i
      · subst z; exact ⟨_, ei, rfl⟩
      · rw [List.getElem?_set_ne (Ne.symm z)] at q; exact ⟨t, q, w⟩
    obtain ⟨u1, r1, w1'⟩ := back q1 w1
    obtain ⟨u2, r2, w2'⟩ := back q2 w2
    exact o.ds j k u1 u2 w ne r1 r2 w1' w2' z1 z2
/-- all stands but one's own list at a, which is another now -/
theorem Ok.keptP {B : Bs} {F F' H H' : Hp} {σ : L2.St} {ρ : Ro} {i : Nat} {ps ps' : List PyData} {a : Addr} {xs' : List V} (o : Ok K B σ F H ρ) (ei : ρ[i]? = some (some (.pu ps))) (es : σ[i]? = some (some (.ref a)))
    (eh : ∀ b u, b ≠ a → H b = some u → H' b = some u) (fh : Ex F' H') (g : Gr H F F') (hp : H' a = some (.lst xs')) (rp : ReA F' xs' ps') : Ok K B σ F' H' (ρ.set i (some (.pu ps'))) := by
  have hl : i < ρ.length := (List.getElem?_eq_some_iff.mp ei).1
  obtain ⟨v, e3, a', xs, rfl, h2, h3, h4, h5, h6⟩ := o.sl i _ ei
  rw [es] at e3; cases e3
  refine ⟨fh, fun b u q => eh b u (ne_of_none q h4) (o.bh b u q), by rw [List.length_set]; exact o.len, fun j t q => ?_, fun j k t t' w ne q1 q2 w1 w2 z1 z2 => ?_⟩
  · by_cases z : j = i
    · subst z
      rw [List.getElem?_set_self hl] at q; cases q
      exact ⟨_, es, a, xs', rfl, hp, g.nn _ _ h2 h3, h4, rp, h6⟩
    · rw [List.getElem?_set_ne (Ne.symm z)] at q
      obtain ⟨v, f1, f2⟩ := o.sl j t q
      refine ⟨v, f1, ?_⟩
      have nv : t.own = true → v ≠ .ref a := fun w e => o.ds j i t _ v z q ei w rfl f1 (by rw [e]; exact es)
      cases t with
      | fz d => exact Re.mono g.ex f2
      | ol ds => obtain ⟨b, ys, g1, g2, g3, g4, g5⟩ := f2; exact ⟨b, ys, g1, eh _ _ (fun e => nv rfl (by rw [g1, e])) g2, g.nn _ _ g2 g3, g4, g5.mono g.ex⟩
      | od kvs => obtain ⟨b, ys, g1, g2, g3, g4, g5⟩ := f2; exact ⟨b, ys, g1, eh _ _ (fun e => nv rfl (by rw [g1, e])) g2, g.nn _ _ g2 g3, g4, KvR.mono g.ex g5⟩
      | sx ns => obtain ⟨b, g1, g2⟩ := f2; exact ⟨b, g1, ex_sql g.ex g2⟩
      | pu ds => obtain ⟨b, ys, g1, g2, g3, g4, g5, g6⟩ := f2; exact ⟨b, ys, g1, eh _ _ (fun e => nv rfl (by rw [g1, e])) g2, g.nn _ _ g2 g3, g4, g5.mono g.ex, g6⟩
  · have back : ∀ {j : Nat} {t : Sl}, (ρ.set i (some (.pu ps')))[j]? = some (some t) → t.own = true → ∃ t', ρ[j]? = some (some t') ∧ t'.own = true := fun {j t} q w => by
      by_cases z : j = i
      · subst z; exact ⟨_, ei, rfl⟩
      · rw [List.getElem?_set_ne (Ne.symm z)] at q; exact ⟨t, q, w⟩
    obtain ⟨u1, r1, w1'⟩ := back q1 w1
    obtain ⟨u2, r2, w2'⟩ := back q2 w2
    exact o.ds j k u1 u2 w ne r1 r2 w1' w2' z1 z2
/-- a list of ours, or lent: where it stands -/
theorem Ok.at {B : Bs} {F H : Hp} {σ : L2.St} {ρ : Ro} {i : Nat} {ps : List PyData} (o : Ok K B σ F H ρ) (e : olAt ρ i = some ps) : ∃ a xs, σ[i]? = some (some (.ref a)) ∧ H a = some (.lst xs) ∧ F a = none ∧ B.hp a = none ∧ ReA F xs ps := by
  rcases olAt_some e with e | e
  · obtain ⟨v, e3, a, xs, rfl, h2, h3, h4, h5⟩ := o.sl i _ e
    exact ⟨a, xs, e3, h2, h3, h4, h5⟩
  · obtain ⟨v, e3, a, xs, rfl, h2, h3, h4, h5, _⟩ := o.sl i _ e
    exact ⟨a, xs, e3, h2, h3, h4, h5⟩
theorem Ok.keptO {B : Bs} {F F' H H' : Hp} {σ : L2.St} {ρ : Ro} {i : Nat} {ps ps' : List PyData} {a : Addr} {xs' : List V} (o : Ok K B σ F H ρ) (e : olAt ρ i = some ps) (es : σ[i]? = some (some (.ref a)))
    (eh : ∀ b u, b ≠ a → H b = some u → H' b = some u) (fh : Ex F' H') (g : Gr H F F') (hp : H' a = some (.lst xs')) (rp : ReA F' xs' ps') : Ok K B σ F' H' (olSet ρ i ps') := by
  rcases olAt_some e with e | e
  · have z : olSet ρ i ps' = ρ.set i (some (.ol ps')) := by unfold olSet; rw [e]
    rw [z]; exact o.keptX e es eh fh g hp rp
  · have z : olSet ρ i ps' = ρ.set i (some (.pu ps')) := by unfold olSet; rw [e]
    rw [z]; exact o.keptP e es eh fh g hp rp
/-- a list of ours, or lent, is written -/
theorem Ok.mutO {B : Bs} {F H : Hp} {σ : L2.St} {ρ : Ro} {i : Nat} {ps ps' : List PyData} {a : Addr} {xs' : List V} (o : Ok K B σ F H ρ) (e : olAt ρ i = some ps) (es : σ[i]? = some (some (.ref a))) (rp : ReA F xs' ps') : Ok K B σ F (upd H a (.lst xs')) (olSet ρ i ps') := by
  rcases olAt_some e with e | e
  · have z : olSet ρ i ps' = ρ.set i (some (.ol ps')) := by unfold olSet; rw [e]
    rw [z]; exact o.mutL e es rp
  · have z : olSet ρ i ps' = ρ.set i (some (.pu ps')) := by unfold olSet; rw [e]
    rw [z]; exact o.mutP e es rp
/-- the first argument is the name of a list of ours -/
theorem ev_callP {n i : Nat} {g : List PyData → List PyData → Option (PyData × List PyData)} {E : XK} (hd : CoA vds dvs) (ha : Ag K t r) : Mo K (tCall (spP n g) vds E (tCons (tVar i) t)) (callPG n g i dvs r) := fun ρ d ρ' q B σ F H o Q k => by
  obtain ⟨ps0, e0, q⟩ := bind_some' q
  obtain ⟨y, e1, q⟩ := bind_some' q
  obtain ⟨ps, e2, q⟩ := bind_some' q
  split at q
  · rename_i w
    obtain ⟨z, e3, q⟩ := map_some' q
    cases q
    obtain ⟨a0, _, es0, _⟩ := o.at e0
    refine ⟨_, es0, ha ρ y.1 y.2 e1 B σ F H o _ fun vs F1 H1 o1 g1 rs => ?_⟩
    obtain ⟨a, xs, e4, h2, h3, h4, h5⟩ := o1.at e2
    rw [es0] at e4; cases e4
    refine ⟨a0, vs ++ vds, xs, F1, ps, y.1 ++ dvs, z.1, z.2, rfl, o1.fh, h3, h2, h5, rs.append hd.re, w, e3, fun v F' H' xs' eh ef gr hp rp rv => ?_⟩
    exact k v F' H' (o1.keptO e2 es0 eh ef gr hp rp) (g1.trans (gr.less o1.bh)) rv
  · cases q
theorem ev_callS {n i : Nat} {g : List Int → List PyData → Option PyData} {E : XK} (hd : CoA vds dvs) (ha : Ag K t r) : Mo K (tCall (spS K n g) vds E (tCons (tVar i) t)) (callSG n g i dvs r) := fun ρ d ρ' q B σ F H o Q k => by
  obtain ⟨ns, e0, q⟩ := bind_some' q
  obtain ⟨y, e1, q⟩ := bind_some' q
  split at q
  · rename_i w
    obtain ⟨z, e3, q⟩ := map_some' q
    cases q
    obtain ⟨v0, es0, a0, rfl, hs⟩ := o.sl i _ (sxAt_some e0)
    refine ⟨_, es0, ha ρ y.1 y.2 e1 B σ F H o _ fun vs F1 H1 o1 g1 rs => ?_⟩
    refine ⟨a0, vs ++ vds, F1, ns, y.1 ++ dvs, d, rfl, o1.fh, ex_sql g1.ex hs, rs.append hd.re, w, e3, fun v F' H' eh ef gr rv => ?_⟩
    exact k v F' H' (o1.kept gr eh ef) (g1.trans (gr.less o1.bh)) rv
  · cases q
theorem m_callP {n : Nat} {y : Str} {yp : Pos} {g : List PyData → List PyData → Option (PyData × List PyData)} (i : Nat) (c : C8.Cal X.prog X.w X.K X.mg X.base k x (spP n g) vds) (hd : CoA vds dvs) (hr : Room j X.A) (hk : k ≤ j) (ha : JA X es t r) (hN : X.N[i]? = some y := by rfl) (hv : Vis X.env.scope y := by first | exact Or.inl rfl | exact Or.inr (Or.inl rfl) | exact Or.inr (Or.inr rfl)) (hg : Gl X x := by rfl)
    (hdy : (y == ("__debug__" : Str)) = false := by decide) (hcy : (y == ("__classdict__" : Str)) = false := by decide) (hdb : (x == ("__debug__" : Str)) = false := by decide) (he : starEach (.Name y yp :: es) X.env = (false, eval (.Name y yp) X.env) :: starEach es X.env := by rfl) (hpl : (backTo pos (starEach es X.env)).any (·.1) = false := by rfl) :
    JM X (.Call (.Name x p) (.Name y yp :: es) [] pos) (tCall (spP n g) vds E0 (tCons (tVar i) t)) (callPG n g i dvs r) := ⟨C8.pe_c c hr hk hg (pa_cons (pe_var hN hv hdy hcy) ha.pa he) hdb he hpl, ev_callP hd ha.ev⟩
theorem m_callS {n : Nat} {y : Str} {yp : Pos} {g : List Int → List PyData → Option PyData} (i : Nat) (c : C8.Cal X.prog X.w X.K X.mg X.base k x (spS X.K n g) vds) (hd : CoA vds dvs) (hr : Room j X.A) (hk : k ≤ j) (ha : JA X es t r) (hN : X.N[i]? = some y := by rfl) (hv : Vis X.env.scope y := by first | exact Or.inl rfl | exact Or.inr (Or.inl rfl) | exact Or.inr (Or.inr rfl)) (hg : Gl X x := by rfl)
    (hdy : (y == ("__debug__" : Str)) = false := by decide) (hcy : (y == ("__classdict__" : Str)) = false := by decide) (hdb : (x == ("__debug__" : Str)) = false := by decide) (he : starEach (.Name y yp :: es) X.env = (false, eval (.Name y yp) X.env) :: starEach es X.env := by rfl) (hpl : (backTo pos (starEach es X.env)).any (·.1) = false := by rfl) :
    JM X (.Call (.Name x p) (.Name y yp :: es) [] pos) (tCall (spS X.K n g) vds E0 (tCons (tVar i) t)) (callSG n g i dvs r) := ⟨C8.pe_c c hr hk hg (pa_cons (pe_var hN hv hdy hcy) ha.pa he) hdb he hpl, ev_callS hd ha.ev⟩
end
end Dn
end
section
set_option Elab.async false
set_option linter.all false
set_option maxRecDepth 100000
set_option maxHeartbeats 2000000
namespace Dn
open PySem L2 PySem.Spec PyProof.Rows
/-! ### targets -/
abbrev DG := PyData → Ro → Option Ro
def TgD (K : PySem.W.Frag) (g : TG) (vs : List Nat) (td : DG) : Prop := ∀ d ρ ρ', td d ρ = some ρ' → ∀ B σ F H x, Ok K B σ F H ρ → Re F x d → ∀ Q : L2.St → Hp → Prop,
  (∀ σ', Ok K B σ' F H ρ' → σ'.length = σ.length → (∀ i : Nat, i ∉ vs → σ'[i]? = σ[i]?) → Q σ' H) → g x σ H Q
def TgsD (K : PySem.W.Frag) (g : TGs) (vs : List Nat) (td : List PyData → Ro → Option Ro) : Prop := ∀ d ρ ρ', td d ρ = some ρ' → ∀ B σ F H x, Ok K B σ F H ρ → ReA F x d → ∀ Q : L2.St → Hp → Prop,
  (∀ σ', Ok K B σ' F H ρ' → σ'.length = σ.length → (∀ i : Nat, i ∉ vs → σ'[i]? = σ[i]?) → Q σ' H) → g x σ H Q
structure JG (X : Cx) (tg : Expr) (g : TG) (vs : List Nat) (td : DG) : Prop where
  pg : L2.PG X tg g
  ev : TgD X.K g vs td
structure JGs (X : Cx) (tg : List Expr) (g : TGs) (vs : List Nat) (td : List PyData → Ro → Option Ro) : Prop where
  pg : L2.PGs X tg g
  ev : TgsD X.K g vs td
def nmT (i : Nat) : DG := fun d ρ => some (ρ.set i (some (.fz d)))
def nilT : List PyData → Ro → Option Ro
  | [], ρ => some ρ
  | _, _ => none
def consT (t : DG) (u : List PyData → Ro → Option Ro) : List PyData → Ro → Option Ro
  | d :: ds, ρ => (t d ρ).bind fun ρ1 => u ds ρ1
  | [], _ => none
def tupT (n : Nat) (u : List PyData → Ro → Option Ro) : DG := fun d ρ => match d with
  | .tuple ds => if ds.length = n then u ds ρ else none
  | _ => none
section
variable {X : Cx} {x : Str} {pos : Pos} {e : Expr} {es : List Expr} {t : TG} {u : TGs} {vs ws : List Nat} {td : DG} {ud : List PyData → Ro → Option Ro}
theorem g_name (i : Nat) (hN : X.N.Nodup) (hi : X.N[i]? = some x := by rfl) (hx : Loc X.env.scope x := by first | exact Or.inl rfl | exact Or.inr rfl) (hf : X.fn x = true ∨ X.env.scope.names.lookup x = some .local := by first | exact .inl rfl | exact .inr rfl) : JG X (.Name x pos) (gName i) [i] (nmT i) :=
  ⟨pg_name hN hi hx hf, fun d ρ ρ' q B σ F H v o r Q k => by
    cases q
    exact k _ (o.storeF r) (by rw [List.length_set]) fun j hj => by
      rw [List.getElem?_set_ne (fun z => hj (by rw [z]; simp))]⟩
theorem gs_nil : JGs X [] gNil [] nilT := ⟨pgs_nil, fun d ρ ρ' q B σ F H v o r Q k => by
  cases r with
  | nil => cases q; exact ⟨rfl, k σ o rfl fun _ _ => rfl⟩
  | cons _ _ => cases q⟩
theorem gs_cons (h1 : JG X e t vs td) (h2 : JGs X es u ws ud) (hs : (assignEach (e :: es) X.env).map (·.2) = assign e X.env :: (assignEach es X.env).map (·.2) := by rfl) : JGs X (e :: es) (gCons t u) (vs ++ ws) (consT td ud) := ⟨pgs_cons h1.pg h2.pg hs, fun d ρ ρ' q B σ F H v o r Q k => by
  cases r with
  | nil => cases q
  | cons a b =>
    obtain ⟨ρ1, e1, e2⟩ := bind_some' q
    refine ⟨_, _, rfl, h1.ev _ ρ ρ1 e1 B σ F H _ o a _ fun σ1 o1 l1 f1 => h2.ev _ ρ1 ρ' e2 B σ1 F H _ o1 b _ fun σ2 o2 l2 f2 => ?_⟩
    exact k σ2 o2 (l2.trans l1) fun i hi => by
      rw [List.mem_append, not_or] at hi
      rw [f2 i hi.2, f1 i hi.1]⟩
theorem g_tup {k : Nat} {n : Nat} (hc : X.calm = true) (h : JGs X es u ws ud) (hn : (assignEach es X.env).length = n := by rfl) (hst : (assignEach es X.env).findIdx? (·.1) = none := by rfl) : JG X (.Tuple es k pos) (gTup X.K n u) ws (tupT n ud) := ⟨pg_tup hc h.pg hn hst, fun d ρ ρ' q B σ F H v o r Q k => by
  cases d <;> try cases q
  rename_i ds
  unfold tupT at q
  simp only at q
  split at q
  · rename_i w
    cases r with
    | tup h1 h2 => exact ⟨_, _, rfl, SqT.of (o.fh _ _ h1), by rw [h2.length]; exact w, h.ev ds ρ ρ' q B σ F H _ o h2 Q k⟩
  · cases q⟩
end
/-! ### what is walked -/
def WalkD (J : It) (F0 : Hp) (ds : List PyData) : Prop := ∃ (G : Hp → Prop) (Y : Nat → Hp → V → Hp → Prop), Walk J ds.length G Y ∧ (∀ H, Ex F0 H → G H) ∧
  ∀ i H x H' F, i < ds.length → Ex F0 F → Ex F H → Y i H x H' → (H' = H ∧ ∃ d, ds[i]? = some d ∧ Re F x d) ∨ ∃ T o d, H T = none ∧ H' = upd H T o ∧ ds[i]? = some d ∧ Re (upd F T o) x d
def ItD (K : PySem.W.Frag) (wi : TI) (g : AG) : Prop := ∀ ρ ds ρ', g ρ = some (ds, ρ') → ∀ B σ F H, Ok K B σ F H ρ → ∀ R : It → Hp → Prop, (∀ J F' H', Ok K B σ F' H' ρ' → Gr B.hp F F' → WalkD J F' ds → R J H') → wi σ H R
structure JI (X : Cx) (tg iter : Expr) (wi : TI) (g : AG) : Prop where
  pi : PI X tg iter wi
  ev : ItD X.K wi g
def listI (g : MG) : AG := fun ρ => (g ρ).bind fun p => (cutN.listOf p.1).map fun ds => (ds, p.2)
def signsD (z : Str) : List PyData := z.cps.toList.map fun c => .str ⟨#[c]⟩
def strI (g : PG) : AG := fun ρ => (g ρ).bind fun d => match d with
  | .str z => some (signsD z, ρ)
  | _ => none
def rangeD (lo : Int) (n : Nat) : List PyData := (List.range n).map fun i => .int (lo + (i : Nat))
def rng1I (g : MG) : AG := fun ρ => (g ρ).bind fun p => (intOf p.1).bind fun n => if -1000000 ≤ n ∧ n ≤ 1000000 then some (rangeD 0 n.toNat, p.2) else none
def rng2I (a b : PG) : AG := fun ρ => (a ρ).bind fun x => (intOf x).bind fun lo => (b ρ).bind fun y => (intOf y).bind fun hi => if -1000000 ≤ lo ∧ lo ≤ 1000000 ∧ -1000000 ≤ hi ∧ hi ≤ 1000000 then some (rangeD lo (hi - lo).toNat, ρ) else none
def rng3D (lo c : Int) (n : Nat) : List PyData := (List.range n).map fun i => .int (lo + (i : Nat) * c)
def enumFrom (k : Nat) : List PyData → List PyData
  | [] => []
  | d :: ds => .tuple [.int k, d] :: enumFrom (k + 1) ds
def enumI (g : MG) : AG := fun ρ => (g ρ).bind fun p => (cutN.listOf p.1).map fun ds => (enumFrom 0 ds, p.2)
def zipD : List PyData → List PyData → List PyData
  | d :: ds, e :: es => .tuple [d, e] :: zipD ds es
  | _, _ => []
def zipI (a : AG) : AG := fun ρ => (a ρ).bind fun p => match p.1 with
  | [.list ds, .list es] => some (zipD ds es, p.2)
  | _ => none
theorem enumFrom_len : ∀ (k : Nat) (ds : List PyData), (enumFrom k ds).length = ds.length
  | _, [] => rfl
  | k, d :: ds => congrArg Nat.succ (enumFrom_len (k + 1) ds)
theorem enumFrom_get : ∀ (k : Nat) (ds : List PyData) (i : Nat), (enumFrom k ds)[i]? = (ds[i]?).map fun d => .tuple [.int ((k + i : Nat) : Int), d]
  | _, [], i => by simp [enumFrom]
  | k, d :: ds, 0 => by simp [enumFrom]
  | k, d :: ds, i + 1 => by
    have := enumFrom_get (k + 1) ds i
    simp only [enumFrom, List.getElem?_cons_succ]
    rw [this, show k + 1 + i = k + (i + 1) by omega]
theorem zipD_len : ∀ (ds es : List PyData), (zipD ds es).length = min ds.length es.length
  | [], es => by simp [zipD]
  | d :: ds, [] => by simp [zipD]
  | d :: ds, e :: es => by
    simp only [zipD, List.length_cons]
    rw [zipD_len ds es]
    omega
theorem zipD_get : ∀ (ds es : List PyData) (i : Nat) (d e : PyData), ds[i]? = some d → es[i]? = some e → (zipD ds es)[i]? = some (.tuple [d, e])
  | [], es, i, d, e, h, _ => by simp at h
  | d :: ds, [], i, _, e, _, h => by simp at h
  | d :: ds, e :: es, 0, _, _, h1, h2 => by
    simp at h1 h2; subst h1 h2; rfl
  | d :: ds, e :: es, i + 1, d', e', h1, h2 => zipD_get ds es i d' e' (by simpa using h1) (by simpa using h2)
theorem walkD_list {K : PySem.W.Frag} {F0 : Hp} {a : Addr} {xs : List V} {ds : List PyData} (h : ∀ H, Ex F0 H → SqL K H a xs) (r : ReA F0 xs ds) : WalkD (Itl K a) F0 ds := by
  refine ⟨_, _, by rw [← r.length]; exact walk_list (K := K) (a := a) (xs := xs), h, fun i H x H' F hi e1 e2 y => .inl ?_⟩
  obtain ⟨rfl, hx⟩ := y
  obtain ⟨d, hd, rd⟩ := r.get' hx
  exact ⟨rfl, d, hd, rd.mono e1⟩
theorem walkD_range {F0 : Hp} (lo : Int) (n : Nat) : WalkD (Itr lo n) F0 (rangeD lo n) := by
  refine ⟨_, _, by rw [show (rangeD lo n).length = n by simp [rangeD]]; exact walk_range, fun _ _ => trivial, fun i H x H' F hi e1 e2 y => .inl ?_⟩
  obtain ⟨rfl, rfl⟩ := y
  have hi : i < n := by simpa [rangeD] using hi
  refine ⟨rfl, _, ?_, .int _⟩
  unfold rangeD
  rw [List.getElem?_map, List.getElem?_range hi]
  all_goals rfl
theorem walkD_rangeC {F0 : Hp} (lo c : Int) (n : Nat) : WalkD (Itc lo c n) F0 (rng3D lo c n) := by
  refine ⟨_, _, by rw [show (rng3D lo c n).length = n by simp [rng3D]]; exact walk_rangeC, fun _ _ => trivial, fun i H x H' F hi e1 e2 y => .inl ?_⟩
  obtain ⟨rfl, rfl⟩ := y
  have hi : i < n := by simpa [rng3D] using hi
  refine ⟨rfl, _, ?_, .int _⟩
  unfold rng3D
  rw [List.getElem?_map, List.getElem?_range hi]
  all_goals rfl
theorem walkD_enum {K : PySem.W.Frag} {F0 : Hp} {a : Addr} {xs : List V} {ds : List PyData} (h : ∀ H, Ex F0 H → SqL K H a xs) (r : ReA F0 xs ds) : WalkD (Ite K a) F0 (enumFrom 0 ds) := by
  refine ⟨_, _, by rw [enumFrom_len, ← r.length]; exact walk_enum (K := K) (a := a) (xs := xs), h, fun i H x H' F hi e1 e2 y => .inr ?_⟩
  obtain ⟨T, y1, y2, rfl, nT, rfl, e3, e4⟩ := y
  cases e3
  obtain ⟨d, hd, rd⟩ := r.get' e4
  refine ⟨T, _, .tuple [.int (i : Nat), d], nT, rfl, ?_, .tup upd_same (.cons (.int _) (.cons ((rd.mono e1).mono (Ex.new (e2.back nT))) .nil))⟩
  rw [enumFrom_get, hd, Nat.zero_add]
  all_goals rfl
theorem walkD_zip {K : PySem.W.Frag} {F0 : Hp} {a b : Addr} {xs ys : List V} {ds es : List PyData} (h : ∀ H, Ex F0 H → SqL K H a xs) (h' : ∀ H, Ex F0 H → SqL K H b ys) (r : ReA F0 xs ds) (r' : ReA F0 ys es) : WalkD (Itz K a b) F0 (zipD ds es) := by
  refine ⟨_, _, walk_zip (K := K) (a := a) (b := b) (xs := xs) (ys := ys) (by rw [zipD_len, r.length, r'.length]), fun H e => ⟨h H e, h' H e⟩, fun i H x H' F hi e1 e2 y => .inr ?_⟩
  obtain ⟨T, y1, y2, rfl, nT, rfl, e3, e4⟩ := y
  obtain ⟨d, hd, rd⟩ := r.get' e3
  obtain ⟨d', hd', rd'⟩ := r'.get' e4
  have up := Ex.new (o := .tup [y1, y2]) (e2.back nT)
  exact ⟨T, _, .tuple [d, d'], nT, rfl, zipD_get ds es i d d' hd hd', .tup upd_same (.cons ((rd.mono e1).mono up) (.cons ((rd'.mono e1).mono up) .nil))⟩
section
variable {X : Cx} {tg e eb : Expr} {te tb' : TE} {g gb : MG} {gp gq : PG} {p pos : Pos}
theorem i_list (h : JM X e te g) : JI X tg e (iList X.K te) (listI g) := ⟨pi_list h.pe, fun ρ ds ρ' q B σ F H o R k => by
  obtain ⟨y, e1, q⟩ := bind_some' q
  obtain ⟨zs, e2, q⟩ := map_some' q
  cases q
  refine h.ev ρ y.1 y.2 e1 B σ F H o _ fun v F1 H1 o1 g1 rv => ?_
  rw [listOf_eq e2] at rv
  cases rv with
  | lst h1 h2 => exact ⟨_, rfl, ⟨_, SqL.of (o1.fh _ _ h1)⟩, k _ F1 H1 o1 g1 (walkD_list (fun H eh => SqL.of (eh _ _ h1)) h2)⟩⟩
theorem i_str (h : JP X e te gp) : JI X tg e (iStr te) (strI gp) := ⟨pi_str h.pe, fun ρ ds ρ' q B σ F H o R k => by
  obtain ⟨y, e1, q⟩ := bind_some' q
  cases y <;> try cases q
  rename_i z
  refine h.ev ρ _ e1 B σ F H o _ fun v rv => ?_
  cases rv
  refine ⟨z, rfl, k _ F H o Gr.rfl' ⟨_, _, by rw [show (signsD z).length = z.cps.size by simp [signsD]]; exact walk_str, fun _ _ => trivial, fun i H x H' F hi e1 e2 y => .inl ?_⟩⟩
  obtain ⟨rfl, c, hc, rfl⟩ := y
  refine ⟨rfl, _, ?_, .str _⟩
  unfold signsD
  rw [List.getElem?_map, Array.getElem?_toList, hc]
  all_goals rfl⟩
theorem i_range1 (h : JM X e te g) (hm : X.mg "range" = none) (hg : Gl X "range" := by rfl) (hs : starEach [e] X.env = [(false, eval e X.env)] := by rfl) (hs1 : starEach (e :: []) X.env = (false, eval e X.env) :: starEach [] X.env := by rfl) : JI X tg (.Call (.Name "range" p) [e] [] pos) (iRng1 (tCons te tNil)) (rng1I g) := ⟨pi_range1 hg hm (pa_cons h.pe pa_nil hs1) hs, fun ρ ds ρ' q B σ F H o R k => by
  obtain ⟨y, e1, q⟩ := bind_some' q
  obtain ⟨n, e2, q⟩ := bind_some' q
  split at q
  · rename_i w; cases q
    refine h.ev ρ y.1 y.2 e1 B σ F H o _ fun v F1 H1 o1 g1 rv => ?_
    rw [intOf_eq e2] at rv
    cases rv
    refine ⟨n, rfl, by omega, by omega, k _ F1 H1 o1 g1 (walkD_range 0 n.toNat)⟩
  · cases q⟩
theorem i_range2 (h : JP X e te gp) (h' : JP X eb tb' gq) (hm : X.mg "range" = none) (hg : Gl X "range" := by rfl) (hs : starEach [e, eb] X.env = [(false, eval e X.env), (false, eval eb X.env)] := by rfl) (hs2 : starEach [eb] X.env = [(false, eval eb X.env)] := by rfl) (hs1 : starEach (e :: [eb]) X.env = (false, eval e X.env) :: starEach [eb] X.env := by rfl) (hs3 : starEach (eb :: []) X.env = (false, eval eb X.env) :: starEach [] X.env := by rfl) : JI X tg (.Call (.Name "range" p) [e, eb] [] pos) (iRng2 (tCons te (tCons tb' tNil))) (rng2I gp gq) := ⟨pi_range2 hg hm (pa_cons h.pe (pa_cons h'.pe pa_nil hs3) hs1) hs hs2, fun ρ ds ρ' q B σ F H o R k => by
  obtain ⟨y, e1, q⟩ := bind_some' q
  obtain ⟨lo, e2, q⟩ := bind_some' q
  obtain ⟨y', e3, q⟩ := bind_some' q
  obtain ⟨n, e4, q⟩ := bind_some' q
  split at q
  · rename_i w; cases q
    refine h.ev ρ y e1 B σ F H o _ fun v rv => h'.ev ρ y' e3 B σ F H o _ fun u ru => ?_
    rw [intOf_eq e2] at rv
    rw [intOf_eq e4] at ru
    cases rv; cases ru
    exact ⟨lo, n, rfl, ⟨by omega, by omega, by omega, by omega⟩, k _ F H o Gr.rfl' (walkD_range lo _)⟩
  · cases q⟩
theorem i_enum {elts : List Expr} {kk : Nat} {tpos : Pos} (h : JM X e te g) (hm : X.mg "enumerate" = none) (hg : Gl X "enumerate" := by rfl) (hs : starEach [e] X.env = [(false, eval e X.env)] := by rfl) (hs1 : starEach (e :: []) X.env = (false, eval e X.env) :: starEach [] X.env := by rfl) : JI X (.Tuple elts kk tpos) (.Call (.Name "enumerate" p) [e] [] pos) (iEnum X.K (tCons te tNil)) (enumI g) := ⟨pi_enum hg hm (pa_cons h.pe pa_nil hs1) hs, fun ρ ds ρ' q B σ F H o R k => by
  obtain ⟨y, e1, q⟩ := bind_some' q
  obtain ⟨zs, e2, q⟩ := map_some' q
  cases q
  refine h.ev ρ y.1 y.2 e1 B σ F H o _ fun v F1 H1 o1 g1 rv => ?_
  rw [listOf_eq e2] at rv
  cases rv with
  | lst h1 h2 => exact ⟨_, _, rfl, SqL.of (o1.fh _ _ h1), k _ F1 H1 o1 g1 (walkD_enum (fun H eh => SqL.of (eh _ _ h1)) h2)⟩⟩
theorem i_zip {elts : List Expr} {kk : Nat} {tpos : Pos} {ta : TA} {r : AG} (h : JA X [e, eb] ta r) (hm : X.mg "zip" = none) (hg : Gl X "zip" := by rfl) (hs : starEach [e, eb] X.env = (false, eval e X.env) :: starEach [eb] X.env := by rfl) (hpl : (backTo pos (starEach [eb] X.env)).any (·.1) = false := by rfl) : JI X (.Tuple elts kk tpos) (.Call (.Name "zip" p) [e, eb] [] pos) (iZip X.K ta) (zipI r) := ⟨pi_zip hg hm h.pa hs hpl, fun ρ ds ρ' q B σ F H o R k => by
  obtain ⟨y, e1, q⟩ := bind_some' q
  split at q
  · rename_i ds1 es1 w
    cases q
    refine h.ev ρ y.1 y.2 e1 B σ F H o _ fun vs F1 H1 o1 g1 rv => ?_
    rw [w] at rv
    cases rv with
    | cons h1 t =>
      cases t with
      | cons h2 t =>
        cases t
        cases h1 with
        | lst a1 a2 =>
          cases h2 with
          | lst b1 b2 => exact ⟨_, _, _, _, rfl, SqL.of (o1.fh _ _ a1), SqL.of (o1.fh _ _ b1), k _ F1 H1 o1 g1 (walkD_zip (fun H eh => SqL.of (eh _ _ a1)) (fun H eh => SqL.of (eh _ _ b1)) a2 b2)⟩
  · cases q⟩
end
end Dn
end
section
set_option Elab.async false
set_option linter.all false
set_option maxRecDepth 100000
set_option maxHeartbeats 2000000
namespace Dn
open PySem L2 PySem.Spec PyProof.Rows
/-! ### the slots of a comprehension -/
def wipeR (ρ : Ro) : List Nat → Ro
  | [] => ρ
  | v :: vs => (wipeR ρ vs).set v none
def fzOf : Option (Option Sl) → Option Sl
  | some (some (.fz d)) => some (.fz d)
  | _ => none
/-- the slots vs as they were -/
def putBack (ρ ρ' : Ro) : List Nat → Ro
  | [] => ρ'
  | v :: vs => (putBack ρ ρ' vs).set v (fzOf ρ[v]?)
theorem wipeR_len (ρ : Ro) : ∀ vs, (wipeR ρ vs).length = ρ.length
  | [] => rfl
  | v :: vs => by unfold wipeR; rw [List.length_set, wipeR_len ρ vs]
theorem putBack_len (ρ ρ' : Ro) : ∀ vs, (putBack ρ ρ' vs).length = ρ'.length
  | [] => rfl
  | v :: vs => by unfold putBack; rw [List.length_set, putBack_len ρ ρ' vs]
theorem wipeR_some {ρ : Ro} {i : Nat} {s : Sl} : ∀ {vs : List Nat}, (wipeR ρ vs)[i]? = some (some s) → ρ[i]? = some (some s) ∧ i ∉ vs
  | [], h => ⟨h, by simp⟩
  | v :: vs, h => by
    unfold wipeR at h
    by_cases hi : v = i
    · subst hi
      by_cases hv : v < (wipeR ρ vs).length
      · rw [List.getElem?_set_self hv] at h; cases h
      · rw [List.getElem?_eq_none (by rw [List.length_set]; omega)] at h; cases h
    · rw [List.getElem?_set_ne hi] at h
      obtain ⟨h1, h2⟩ := wipeR_some h
      exact ⟨h1, by simp only [List.mem_cons, not_or]; exact ⟨fun e => hi e.symm, h2⟩⟩
theorem wipe_out {σ : L2.St} {i : Nat} : ∀ {vs : List Nat}, i ∉ vs → (wipe σ vs)[i]? = σ[i]?
  | [], _ => rfl
  | v :: vs, h => by
    simp only [List.mem_cons, not_or] at h
    unfold wipe
    rw [List.getElem?_set_ne (fun e => h.1 e.symm)]
    exact wipe_out h.2
theorem putBack_out {ρ ρ' : Ro} {i : Nat} : ∀ {vs : List Nat}, i ∉ vs → (putBack ρ ρ' vs)[i]? = ρ'[i]?
  | [], _ => rfl
  | v :: vs, h => by
    simp only [List.mem_cons, not_or] at h
    unfold putBack
    rw [List.getElem?_set_ne (fun e => h.1 e.symm)]
    exact putBack_out h.2
theorem putBack_in {ρ ρ' : Ro} {i : Nat} {s : Sl} : ∀ {vs : List Nat}, i ∈ vs → (putBack ρ ρ' vs)[i]? = some (some s) → ∃ d, s = .fz d ∧ ρ[i]? = some (some (.fz d))
  | v :: vs, h, q => by
    unfold putBack at q
    by_cases hi : v = i
    · subst hi
      by_cases hv : v < (putBack ρ ρ' vs).length
      · rw [List.getElem?_set_self hv] at q
        have q := Option.some.inj q
        unfold fzOf at q
        split at q
        · rename_i d e; cases q; exact ⟨d, rfl, e⟩
        · cases q
      · rw [List.getElem?_eq_none (by rw [List.length_set]; omega)] at q; cases q
    · rw [List.getElem?_set_ne hi] at q
      rcases List.mem_cons.mp h with e | h
      · exact absurd e.symm hi
      · exact putBack_in h q
/-- two slot lists that part at most at vs -/
theorem wipe_agree {σ σ' : L2.St} {vs : List Nat} (hl : σ'.length = σ.length) (h : ∀ i : Nat, i ∉ vs → σ'[i]? = σ[i]?) : wipe σ' vs = wipe σ vs := by
  have in_none : ∀ {τ : L2.St} {ws : List Nat} {i : Nat}, i ∈ ws → i < τ.length → (wipe τ ws)[i]? = some none := by
    intro τ ws
    induction ws with
    | nil => intro i hi; simp at hi
    | cons w ws ih =>
      intro i hi hlt
      unfold wipe
      by_cases e : w = i
      · subst e; rw [List.getElem?_set_self (by rw [wipe_length]; exact hlt)]
      · rw [List.getElem?_set_ne e]
        rcases List.mem_cons.mp hi with e' | hi
        · exact absurd e'.symm e
        · exact ih hi hlt
  apply List.ext_getElem?
  intro i
  by_cases hi : i ∈ vs
  · by_cases hlt : i < σ.length
    · rw [in_none hi hlt, in_none hi (by rw [hl]; exact hlt)]
    · rw [List.getElem?_eq_none (by rw [wipe_length]; omega), List.getElem?_eq_none (by rw [wipe_length]; omega)]
  · rw [wipe_out hi, wipe_out hi, h i hi]
section
variable {K : PySem.W.Frag} {B B' : Bs} {F F' H H' : Hp} {σ σ' : L2.St} {ρ ρ' : Ro} {vs : List Nat}
theorem Ok.wiped (o : Ok K B σ F H ρ) (vs : List Nat) : Ok K B (wipe σ vs) F H (wipeR ρ vs) := by
  refine ⟨o.fh, o.bh, by rw [wipe_length, wipeR_len]; exact o.len, fun i s q => ?_, fun i j s t v ne q1 q2 w1 w2 e1 e2 => ?_⟩
  · obtain ⟨q, hi⟩ := wipeR_some q
    obtain ⟨v, e1, e2⟩ := o.sl i s q
    exact ⟨v, by rw [wipe_out hi]; exact e1, e2⟩
  · obtain ⟨q1, h1⟩ := wipeR_some q1
    obtain ⟨q2, h2⟩ := wipeR_some q2
    rw [wipe_out h1] at e1
    rw [wipe_out h2] at e2
    exact o.ds i j s t v ne q1 q2 w1 w2 e1 e2
theorem Ok.rewiped (o : Ok K B σ' F H ρ) (e : wipe σ' vs = wipe σ vs) : Ok K B (wipe σ vs) F H (wipeR ρ vs) := by
  rw [← e]; exact o.wiped vs
theorem Ok.putBack (o1 : Ok K B σ F H ρ) (o2 : Ok K B' (wipe σ vs) F' H' ρ') (eb : Ex B.hp B'.hp) (ep : B'.pu = B.pu) (ef : Ex F F') : Ok K B σ F' H' (putBack ρ ρ' vs) := by
  have o2 := o2.less eb ep
  refine ⟨o2.fh, o2.bh, by rw [putBack_len, ← o2.len, wipe_length], fun i s q => ?_, fun i j s t v ne q1 q2 w1 w2 e1 e2 => ?_⟩
  · by_cases hi : i ∈ vs
    · obtain ⟨d, rfl, e⟩ := putBack_in hi q
      obtain ⟨v, e1, e2⟩ := o1.sl i _ e
      exact ⟨v, e1, Re.mono ef e2⟩
    · rw [putBack_out hi] at q
      obtain ⟨v, e1, e2⟩ := o2.sl i s q
      exact ⟨v, by rw [wipe_out hi] at e1; exact e1, e2⟩
  · have out : ∀ {i : Nat} {s : Sl}, (Dn.putBack ρ ρ' vs)[i]? = some (some s) → s.own = true → i ∉ vs := fun {i s} q w hi => by
      obtain ⟨d, rfl, _⟩ := putBack_in hi q
      cases w
    have h1 := out q1 w1
    have h2 := out q2 w2
    rw [putBack_out h1] at q1
    rw [putBack_out h2] at q2
    exact o2.ds i j s t v ne q1 q2 w1 w2 (by rw [wipe_out h1]; exact e1) (by rw [wipe_out h2]; exact e2)
end
/-! ### comprehensions -/
abbrev TMG := Ro → Option (Bool × Ro)
def yesM : TMG := fun ρ => some (true, ρ)
def lcL (vs : List Nat) (td : DG) (tt : TMG) (g : MG) : List PyData → Ro → Option (List PyData × Ro)
  | [], ρ => some ([], ρ)
  | d :: ds, ρ => (td d ρ).bind fun ρ1 => (tt ρ1).bind fun p => if p.1 = true then (g p.2).bind fun q => (lcL vs td tt g ds (wipeR q.2 vs)).map fun r => (q.1 :: r.1, r.2) else lcL vs td tt g ds (wipeR p.2 vs)
def lcN (gi : AG) (vs : List Nat) (td : DG) (tt : TMG) (g : MG) : AG := fun ρ => (gi ρ).bind fun p => if p.1.length ≤ 1000000 then (lcL vs td tt g p.1 (wipeR p.2 vs)).map fun r => (r.1, putBack p.2 r.2 vs) else none
theorem lcL_cons {vs : List Nat} {td : DG} {tt : TMG} {g : MG} {d : PyData} {ds : List PyData} {ρ : Ro} {z : List PyData × Ro} (h : lcL vs td tt g (d :: ds) ρ = some z) :
    ∃ ρ1 b ρ2, td d ρ = some ρ1 ∧ tt ρ1 = some (b, ρ2) ∧ ((b = true ∧ ∃ y ρ3 r, g ρ2 = some (y, ρ3) ∧ lcL vs td tt g ds (wipeR ρ3 vs) = some r ∧ z = (y :: r.1, r.2)) ∨ (b = false ∧ lcL vs td tt g ds (wipeR ρ2 vs) = some z)) := by
  obtain ⟨ρ1, e1, q⟩ := bind_some' h
  obtain ⟨p, e2, q⟩ := bind_some' q
  refine ⟨ρ1, p.1, p.2, e1, e2, ?_⟩
  split at q
  · rename_i w
    obtain ⟨y, e3, q⟩ := bind_some' q
    obtain ⟨r, e4, q⟩ := map_some' q
    exact .inl ⟨w, y.1, y.2, r, e3, e4, q.symm⟩
  · rename_i w
    exact .inr ⟨Bool.eq_false_iff.mpr w, q⟩
section
variable {K : PySem.W.Frag} {wi : TI} {g : TG} {tt : TT} {te : TE} {vs : List Nat} {gi : AG} {td : DG} {gt : TMG} {ge : MG}
/-- what holds between two turns -/
structure LcInv (K : PySem.W.Frag) (B : Bs) (σ : L2.St) (F0 : Hp) (vs : List Nat) (td : DG) (gt : TMG) (ge : MG) (ds total : List PyData) (ρe : Ro) (D : Addr) (i : Nat) (H : Hp) : Prop where
  ex : ∃ F acc accd rest ρ, Ok K (B.up D (.lst acc)) (wipe σ vs) F H ρ ∧ Gr B.hp F0 F ∧ F D = none ∧ ReA F acc accd ∧ lcL vs td gt ge (ds.drop i) ρ = some (rest, ρe) ∧ total = accd ++ rest ∧ accd.length ≤ i
theorem ev_lc (hi : ItD K wi gi) (hg : TgD K g vs td) (ht : Tm K tt gt) (he : Mo K te ge) : Nw K (tLc wi g tt te vs) (lcN gi vs td gt ge) := fun ρ zs ρ' q B σ F H o Q k => by
  obtain ⟨p, e1, q⟩ := bind_some' q
  split at q
  · rename_i hsz
    obtain ⟨r, e2, q⟩ := map_some' q
    cases q
    refine hi ρ p.1 p.2 e1 B σ F H o _ fun J F1 H1 o1 g1 wd => ?_
    intro D hD
    obtain ⟨G, Y, W, hG, hY⟩ := wd
    have hF1 : F1 D = none := o1.fh.back hD
    have hB : B.hp D = none := o1.bh.back hD
    refine lc_it W (LcInv K B σ F1 vs td gt ge p.1 r.1 r.2 D) ?_ ?_ ?_ ?_
    · refine ⟨F1, [], [], r.1, wipeR p.2 vs, ?_, Gr.rfl', hF1, .nil, e2, rfl, Nat.le_refl _⟩
      exact ((o1.newH hD).more upd_same (o1.noOwn_new hD)).wiped vs
    · intro i H' hle ⟨F2, acc, accd, rest, ρ2, o2, g2, _⟩
      exact hG H' (g2.ex.trans o2.fh)
    · intro i x H2 H3 hlt ⟨F2, acc, accd, rest, ρ2, o2, g2, f2, ra, hl, ht', hn⟩ y
      -- the item, in the heap that knows it
      have item : ∃ F3 d, Ok K (B.up D (.lst acc)) (wipe σ vs) F3 H3 ρ2 ∧ Gr B.hp F2 F3 ∧ F3 D = none ∧ p.1[i]? = some d ∧ Re F3 x d := by
        rcases hY i H2 x H3 F2 hlt g2.ex o2.fh y with ⟨rfl, d, hd, rd⟩ | ⟨T, u, d, nT, rfl, hd, rd⟩
        · exact ⟨F2, d, o2, Gr.rfl', f2, hd, rd⟩
        · have o3 := o2.new (u := u) nT
          have nDT : D ≠ T := ne_of_none (o2.bh D _ upd_same) nT
          refine ⟨upd F2 T u, d, o3, ?_, by rw [upd_ne nDT]; exact f2, hd, rd⟩
          exact Gr.new o2.fh (Ex.trans (Ex.new hB) o2.bh) nT
      obtain ⟨F3, d, o3, g3, f3, hd, rd⟩ := item
      have hdrop : p.1.drop i = d :: p.1.drop (i + 1) := by
        obtain ⟨hlt', e⟩ := List.getElem?_eq_some_iff.mp hd
        rw [← e]; exact List.drop_eq_getElem_cons hlt'
      rw [hdrop] at hl
      obtain ⟨ρ3, b, ρ4, t1, t2, t3⟩ := lcL_cons hl
      refine hg d ρ2 ρ3 t1 _ (wipe σ vs) F3 H3 x o3 rd _ fun σ4 o4 l4 a4 => ?_
      have hw : wipe σ4 vs = wipe σ vs := by
        have h1 := wipe_agree l4 a4
        rw [h1]
        exact wipe_agree (wipe_length σ vs) fun i hi => wipe_out hi
      refine ⟨hw, ht ρ3 b ρ4 t2 _ σ4 F3 H3 o4 _ fun F5 H5 o5 g5 => ?_⟩
      have f5 : F5 D = none := g5.nn D _ upd_same f3
      have gb : Gr B.hp F2 F5 := g3.trans (g5.less (Ex.new hB))
      rcases t3 with ⟨rfl, yv, ρ5, r', t4, t5, t6⟩ | ⟨rfl, t4⟩
      · rw [if_pos rfl]
        refine he ρ4 yv ρ5 t4 _ σ4 F5 H5 o5 _ fun v F6 H6 o6 g6 rv => ?_
        have f6 : F6 D = none := g6.nn D _ upd_same f5
        refine ⟨acc, o6.bh D _ upd_same, ?_, ?_⟩
        · have := ra.length
          have : i < 1000000 := Nat.lt_of_lt_of_le hlt hsz
          exact big_lt (by omega)
        · refine ⟨F6, acc ++ [v], accd ++ [yv], r'.1, wipeR ρ5 vs, (o6.rewiped hw).swapB f6 hB, g2.trans (gb.trans (g6.less (Ex.new hB))), f6, ?_, ?_, ?_, by rw [List.length_append]; exact Nat.succ_le_succ hn⟩
          · exact (ra.mono (gb.trans (g6.less (Ex.new hB))).ex).append (.cons rv .nil)
          · obtain ⟨z1, z2⟩ := Prod.mk.inj t6
            rw [t5, z2]
          · obtain ⟨z1, z2⟩ := Prod.mk.inj t6
            rw [ht', z1, List.append_assoc]; rfl
      · rw [if_neg Bool.false_ne_true]
        exact ⟨F5, acc, accd, rest, wipeR ρ4 vs, o5.rewiped hw, g2.trans gb, f5, ra.mono gb.ex, t4, ht', Nat.le_succ_of_le hn⟩
    · intro H' ⟨F2, acc, accd, rest, ρ2, o2, g2, f2, ra, hl, ht', hn⟩
      rw [List.drop_length] at hl
      cases hl
      rw [List.append_nil] at ht'
      subst ht'
      have o3 : Ok K B σ F2 H' (putBack p.2 r.2 vs) := o1.putBack o2 (Ex.new hB) rfl g2.ex
      refine k D acc F2 H' o3 (g1.trans g2) (o2.bh D _ upd_same) f2 hB ?_ ra
      intro i s q w e
      have hi : i ∉ vs := fun hi => by
        obtain ⟨d, rfl, _⟩ := putBack_in hi q
        cases w
      rw [putBack_out hi] at q
      exact o2.noOwn_of (p := D) upd_same i s q w (by rw [wipe_out hi]; exact e)
  · cases q
end
section
variable {X : Cx} {elt tg iter : Expr} {scope : Scope} {own : List (Str × Nat)} {pos : Pos} {wi : TI} {g : TG} {tt : TT} {te : TE} {vs : List Nat} {gi : AG} {td : DG} {gt : TMG} {ge : MG}
/-- a block's tests: none, one -/
structure JTs (X : Cx) (ifs : List Expr) (tt : TT) (g : TMG) : Prop where
  pt : PTs X ifs tt
  ev : Tm X.K tt g
theorem ts_nil : JTs X [] tYes yesM := ⟨pts_nil, fun ρ b ρ' q B σ F H o Q k => by
  cases q; exact k F H o Gr.rfl'⟩
theorem ts_one {c : Expr} {gm : TMG} (h : JTM X c tt gm) : JTs X [c] tt gm := ⟨pts_one h.pt, h.ev⟩
theorem TgD.sub {K : PySem.W.Frag} {ws : List Nat} (h : TgD K g vs td) (hs : ∀ i ∈ vs, i ∈ ws) : TgD K g ws td := fun d ρ ρ' q B σ F H x o r Q k =>
  h d ρ ρ' q B σ F H x o r Q fun σ' o' l a => k σ' o' l fun i hi => a i fun z => hi (hs i z)
theorem n_lc {ifs : List Expr} (hc : X.calm = true) (hN : X.N.Nodup) (hi : JI X tg iter wi gi) (ok : BlkOk X.N X.env.scope scope own)
    (hg : ∀ (s : Shared) (H : Hp) (C : Addr) (cl : List (Str × Addr)) (fp : List Addr), JG (X.blk s H scope (compEnvC scope cl C X.env) fp) tg g vs td)
    (ht : ∀ (s : Shared) (H : Hp) (C : Addr) (cl : List (Str × Addr)) (fp : List Addr), JTs (X.blk s H scope (compEnvC scope cl C X.env) fp) ifs tt gt)
    (he : ∀ (s : Shared) (H : Hp) (C : Addr) (cl : List (Str × Addr)) (fp : List Addr), JM (X.blk s H scope (compEnvC scope cl C X.env) fp) elt te ge)
    (hv : ∀ i ∈ vs, i ∈ own.map (·.2) := by decide) (hs : ∀ x, foldedSetIterable iter X.env x = pure x := by intro _; rfl) :
    JN X (.ListComp elt [⟨tg, iter, ifs, 0⟩] scope pos) (tLc wi g tt te (own.map (·.2))) (lcN gi (own.map (·.2)) td gt ge) :=
  ⟨pe_lc hc hN hi.pi ok (fun s H C cl fp => (hg s H C cl fp).pg) (fun s H C cl fp => (ht s H C cl fp).pt) (fun s H C cl fp => (he s H C cl fp).pe) hs,
   ev_lc hi.ev ((hg {} (fun _ => none) 0 [] []).ev.sub hv) (ht {} (fun _ => none) 0 [] []).ev (he {} (fun _ => none) 0 [] []).ev⟩
end
end Dn
end
section
set_option Elab.async false
set_option linter.all false
set_option maxRecDepth 100000
set_option maxHeartbeats 2000000
namespace Dn
open PySem L2 PySem.Spec PyProof.Rows
/-! ### statements -/
inductive Out where
  | nx
  | rt (d : PyData)
  | bk
  | ct
abbrev SG := Ro → Option (Out × Ro)
def Fin (K : PySem.W.Frag) (B : Bs) (F : Hp) (D : Ends) (ρ' : Ro) : Out → Prop
  | .nx => ∀ σ' F' H', Ok K B σ' F' H' ρ' → Gr B.hp F F' → D.nx σ' H'
  | .rt d => ∀ v σ' F' H', Ok K B σ' F' H' ρ' → Gr B.hp F F' → Re F' v d → D.rt v H'
  | .bk => ∀ σ' F' H', Ok K B σ' F' H' ρ' → Gr B.hp F F' → D.bk σ' H'
  | .ct => ∀ σ' F' H', Ok K B σ' F' H' ρ' → Gr B.hp F F' → D.ct σ' H'
def Sd (K : PySem.W.Frag) (ts : TS) (g : SG) : Prop := ∀ ρ o ρ', g ρ = some (o, ρ') → ∀ B σ F H, Ok K B σ F H ρ → ∀ D : Ends, Fin K B F D ρ' o → ts D σ H
structure JS (X : Cx) (st : Stmt) (ts : TS) (g : SG) : Prop where
  ps : PS X st ts
  ev : Sd X.K ts g
structure JB (X : Cx) (st : List Stmt) (ts : TS) (g : SG) : Prop where
  ps : PSs X st ts
  ev : Sd X.K ts g
def nxG : SG := fun ρ => some (.nx, ρ)
def bkG : SG := fun ρ => some (.bk, ρ)
def ctG : SG := fun ρ => some (.ct, ρ)
def noG : SG := fun _ => none
def seqG (a b : SG) : SG := fun ρ => (a ρ).bind fun p => match p.1 with
  | .nx => b p.2
  | .rt d => some (.rt d, p.2)
  | .bk => some (.bk, p.2)
  | .ct => some (.ct, p.2)
def rtG (g : MG) : SG := fun ρ => (g ρ).map fun p => (.rt p.1, p.2)
def drG (g : MG) : SG := fun ρ => (g ρ).map fun p => (.nx, p.2)
def setG (i : Nat) (g : MG) : SG := fun ρ => (g ρ).map fun p => (.nx, p.2.set i (some (.fz p.1)))
def newG (i : Nat) (g : AG) : SG := fun ρ => (g ρ).map fun p => (.nx, p.2.set i (some (.ol p.1)))
def asgG (td : DG) (g : MG) : SG := fun ρ => (g ρ).bind fun p => (td p.1 p.2).map fun ρ' => (.nx, ρ')
def iffG (c : TMG) (a b : SG) : SG := fun ρ => (c ρ).bind fun p => if p.1 = true then a p.2 else b p.2
def whileL (c : TMG) (b : SG) : Nat → SG
  | 0, _ => none
  | n + 1, ρ => (c ρ).bind fun p => if p.1 = true then (b p.2).bind fun q => match q.1 with
      | .nx => whileL c b n q.2
      | .ct => whileL c b n q.2
      | .bk => some (.nx, q.2)
      | .rt d => some (.rt d, q.2)
    else some (.nx, p.2)
def forL (td : DG) (b : SG) : List PyData → SG
  | [], ρ => some (.nx, ρ)
  | d :: ds, ρ => (td d ρ).bind fun ρ1 => (b ρ1).bind fun q => match q.1 with
      | .nx => forL td b ds q.2
      | .ct => forL td b ds q.2
      | .bk => some (.nx, q.2)
      | .rt d => some (.rt d, q.2)
def forG (gi : AG) (td : DG) (b : SG) : SG := fun ρ => (gi ρ).bind fun p => forL td b p.1 p.2
section
variable {K : PySem.W.Frag} {B : Bs} {F F' : Hp} {D : Ends} {ρ' : Ro}
theorem Fin.grow {o : Out} (g : Gr B.hp F F') (h : Fin K B F D ρ' o) : Fin K B F' D ρ' o := by
  cases o with
  | nx => exact fun σ' F2 H' a b => h σ' F2 H' a (g.trans b)
  | rt d => exact fun v σ' F2 H' a b => h v σ' F2 H' a (g.trans b)
  | bk => exact fun σ' F2 H' a b => h σ' F2 H' a (g.trans b)
  | ct => exact fun σ' F2 H' a b => h σ' F2 H' a (g.trans b)
end
section
variable {X : Cx} {K : PySem.W.Frag} {st : Stmt} {rest : List Stmt} {t u : TS} {a b : SG} {e c tg iter : Expr} {te : TE} {tt : TT} {g : MG} {gn : AG} {gt : TMG} {pos : Pos} {x : Str} {wi : TI} {tgt : TG} {vs : List Nat} {td : DG} {A Bd : List Stmt}
theorem b_nil : JB X [] tNext nxG := ⟨pss_nil, fun ρ o ρ' q B σ F H ok D f => by
  cases q; exact f σ F H ok Gr.rfl'⟩
theorem ev_seq (h1 : Sd K t a) (h2 : Sd K u b) : Sd K (tSeq t u) (seqG a b) := fun ρ o ρ' q B σ F H ok D f => by
  obtain ⟨p, e1, q⟩ := bind_some' q
  obtain ⟨p1, p2⟩ := p
  cases p1 with
  | nx => exact h1 ρ .nx p2 e1 B σ F H ok _ fun σ' F' H' o' gr => h2 p2 o ρ' q B σ' F' H' o' D (f.grow gr)
  | rt d => cases q; exact h1 ρ _ p2 e1 B σ F H ok _ f
  | bk => cases q; exact h1 ρ _ p2 e1 B σ F H ok _ f
  | ct => cases q; exact h1 ρ _ p2 e1 B σ F H ok _ f
theorem b_cons (h1 : JS X st t a) (h2 : JB X rest u b) : JB X (st :: rest) (tSeq t u) (seqG a b) := ⟨pss_cons h1.ps h2.ps, ev_seq h1.ev h2.ev⟩
theorem b_one (h1 : JS X st t a) : JB X [st] t a := ⟨pss_one h1.ps, h1.ev⟩
theorem s_never : JS X st tNever noG := ⟨ps_never, fun ρ o ρ' q => by cases q⟩
theorem b_never : JB X A tNever noG := ⟨pss_never, fun ρ o ρ' q => by cases q⟩
theorem s_pass : JS X (.Pass pos) tNext nxG := ⟨ps_pass, fun ρ o ρ' q B σ F H ok D f => by
  cases q; exact f σ F H ok Gr.rfl'⟩
theorem s_break : JS X (.Break pos) tBreak bkG := ⟨ps_break, fun ρ o ρ' q B σ F H ok D f => by
  cases q; exact f σ F H ok Gr.rfl'⟩
theorem s_continue : JS X (.Continue pos) tCont ctG := ⟨ps_continue, fun ρ o ρ' q B σ F H ok D f => by
  cases q; exact f σ F H ok Gr.rfl'⟩
theorem s_ret (h : JM X e te g) : JS X (.Return (some e) pos) (tRet te) (rtG g) := ⟨ps_ret h.pe, fun ρ o ρ' q B σ F H ok D f => by
  obtain ⟨p, e1, q⟩ := map_some' q
  cases q
  exact h.ev ρ p.1 p.2 e1 B σ F H ok _ fun v F' H' o' gr rv => f v σ F' H' o' gr rv⟩
theorem s_expr (h : JM X e te g) (hs : swapsWith e none pos.line X.env = pure false := by rfl) : JS X (.Expr e pos) (tDrop te) (drG g) := ⟨ps_expr h.pe hs, fun ρ o ρ' q B σ F H ok D f => by
  obtain ⟨p, e1, q⟩ := map_some' q
  cases q
  exact h.ev ρ p.1 p.2 e1 B σ F H ok _ fun v F' H' o' gr rv => f σ F' H' o' gr⟩
theorem ev_set (i : Nat) (h : Mo K te g) : Sd K (tAsg te (gName i)) (setG i g) := fun ρ o ρ' q B σ F H ok D f => by
  obtain ⟨p, e1, q⟩ := map_some' q
  cases q
  exact h ρ p.1 p.2 e1 B σ F H ok _ fun v F' H' o' gr rv => f _ F' H' (o'.storeF rv) gr
theorem ev_new (i : Nat) (h : Nw K te gn) : Sd K (tAsg te (gName i)) (newG i gn) := fun ρ o ρ' q B σ F H ok D f => by
  obtain ⟨p, e1, q⟩ := map_some' q
  cases q
  refine h ρ p.1 p.2 e1 B σ F H ok _ fun q xs F' H' o' gr hp hf hb no ra => f _ F' H' ?_ gr
  exact o'.store (s := .ol p.1) ⟨q, xs, rfl, hp, hf, hb, ra⟩ fun _ p' e => by cases e; exact no
theorem s_set {pos' : Pos} (i : Nat) (hN : X.N.Nodup) (h : JM X e te g) (hi : X.N[i]? = some x := by rfl) (hx : Loc X.env.scope x := by first | exact Or.inl rfl | exact Or.inr rfl) (hs : swapsWith e (some (.Name x pos')) pos.line X.env = pure false := by rfl) (hf : X.fn x = true ∨ X.env.scope.names.lookup x = some .local := by first | exact .inl rfl | exact .inr rfl) :
    JS X (.Assign [.Name x pos'] e pos) (tAsg te (gName i)) (setG i g) := ⟨ps_set hN hi hx h.pe hs hf, ev_set i h.ev⟩
theorem s_new {pos' : Pos} (i : Nat) (hN : X.N.Nodup) (h : JN X e te gn) (hi : X.N[i]? = some x := by rfl) (hx : Loc X.env.scope x := by first | exact Or.inl rfl | exact Or.inr rfl) (hs : swapsWith e (some (.Name x pos')) pos.line X.env = pure false := by rfl) (hf : X.fn x = true ∨ X.env.scope.names.lookup x = some .local := by first | exact .inl rfl | exact .inr rfl) :
    JS X (.Assign [.Name x pos'] e pos) (tAsg te (gName i)) (newG i gn) := ⟨ps_set hN hi hx h.pe hs hf, ev_new i h.ev⟩
theorem s_asg (h : JM X e te g) (ht : JG X tg tgt vs td) (hs : swapsWithSole [tg] e pos.line X.env = pure false := by rfl) (hw : swappedStores [tg] e X.env = pure none := by rfl) (h1 : (assignEach [tg] X.env).map (·.2) = [assign tg X.env] := by rfl) : JS X (.Assign [tg] e pos) (tAsg te tgt) (asgG td g) := ⟨ps_asg h.pe ht.pg hs hw h1, fun ρ o ρ' q B σ F H ok D f => by
  obtain ⟨p, e1, q⟩ := bind_some' q
  obtain ⟨r, e2, q⟩ := map_some' q
  cases q
  exact h.ev ρ p.1 p.2 e1 B σ F H ok _ fun v F' H' o' gr rv => ht.ev p.1 p.2 ρ' e2 B σ F' H' v o' rv _ fun σ' o2 _ _ => f σ' F' H' o2 gr⟩
theorem s_if (hc : JTM X c tt gt) (ha : JB X A t a) (hb : JB X Bd u b) : JS X (.If c A Bd pos) (tIfS tt t u) (iffG gt a b) := ⟨ps_if hc.pt ha.ps hb.ps, fun ρ o ρ' q B σ F H ok D f => by
  obtain ⟨p, e1, q⟩ := bind_some' q
  refine hc.ev ρ p.1 p.2 e1 B σ F H ok _ fun F' H' o' gr => ?_
  cases z : p.1 with
  | true => rw [z] at q; rw [if_pos rfl] at q ⊢; exact ha.ev p.2 o ρ' q B σ F' H' o' D (f.grow gr)
  | false => rw [z] at q; rw [if_neg Bool.false_ne_true] at q ⊢; exact hb.ev p.2 o ρ' q B σ F' H' o' D (f.grow gr)⟩
theorem ev_while (n : Nat) (hc : Tm K tt gt) (hb : Sd K t b) : Sd K (tWhile tt t) (whileL gt b n) := fun ρ o ρ' q B σ F H ok D f => by
  refine ⟨fun m σ' H' => ∃ F' ρ1, Ok K B σ' F' H' ρ1 ∧ Gr B.hp F F' ∧ whileL gt b m ρ1 = some (o, ρ'), ⟨n, F, ρ, ok, Gr.rfl', q⟩, ?_⟩
  rintro m σ1 H1 ⟨F1, ρ1, o1, g1, w⟩
  cases m with
  | zero => cases w
  | succ m =>
    obtain ⟨p, e1, w⟩ := bind_some' w
    refine hc ρ1 p.1 p.2 e1 B σ1 F1 H1 o1 _ fun F2 H2 o2 g2 => ?_
    cases z : p.1 with
    | false =>
      rw [z] at w
      rw [if_neg Bool.false_ne_true] at w ⊢
      cases w
      exact f σ1 F2 H2 o2 (g1.trans g2)
    | true =>
      rw [z] at w
      rw [if_pos rfl] at w ⊢
      obtain ⟨r, e2, w⟩ := bind_some' w
      obtain ⟨r1, r2⟩ := r
      refine ⟨fun σ' H' => ∃ F' ρ1, Ok K B σ' F' H' ρ1 ∧ Gr B.hp F F' ∧ whileL gt b m ρ1 = some (o, ρ'), fun σ' H' h => ⟨m, Nat.lt_succ_self m, h⟩, ?_⟩
      refine hb p.2 r1 r2 e2 B σ1 F2 H2 o2 _ ?_
      cases r1 with
      | nx => exact fun σ' F' H' o' gr => ⟨F', r2, o', (g1.trans g2).trans gr, w⟩
      | ct => exact fun σ' F' H' o' gr => ⟨F', r2, o', (g1.trans g2).trans gr, w⟩
      | bk => cases w; exact fun σ' F' H' o' gr => f σ' F' H' o' ((g1.trans g2).trans gr)
      | rt d => cases w; exact fun v σ' F' H' o' gr rv => f v σ' F' H' o' ((g1.trans g2).trans gr) rv
theorem s_while (n : Nat) (hp : PassesOwn (model X.prog X.w) X.A X.env X.xe) (hc : JTM X c tt gt) (hb : JB X A t b) : JS X (.While c A [] pos) (tWhile tt t) (whileL gt b n) := ⟨ps_while hp hc.pt hb.ps, ev_while n hc.ev hb.ev⟩
theorem ev_for (hi : ItD K wi gn) (hg : TgD K tgt vs td) (hb : Sd K t b) : Sd K (tFor wi tgt t) (forG gn td b) := fun ρ o ρ' q B σ F H ok D f => by
  obtain ⟨p, e1, q⟩ := bind_some' q
  refine hi ρ p.1 p.2 e1 B σ F H ok _ fun J F1 H1 o1 g1 wd => ?_
  obtain ⟨G, Y, W, hG, hY⟩ := wd
  refine for_it W (fun i σ' H' => ∃ F' ρ1, Ok K B σ' F' H' ρ1 ∧ Gr B.hp F1 F' ∧ forL td b (p.1.drop i) ρ1 = some (o, ρ')) ⟨F1, p.2, o1, Gr.rfl', q⟩ ?_ ?_ ?_
  · rintro i σ' H' hle ⟨F2, ρ2, o2, g2, _⟩
    exact hG H' (g2.ex.trans o2.fh)
  · rintro i x σ2 H2 H3 hlt ⟨F2, ρ2, o2, g2, w⟩ y
    have item : ∃ F3 d, Ok K B σ2 F3 H3 ρ2 ∧ Gr B.hp F2 F3 ∧ p.1[i]? = some d ∧ Re F3 x d := by
      rcases hY i H2 x H3 F2 hlt g2.ex o2.fh y with ⟨rfl, d, hd, rd⟩ | ⟨T, u, d, nT, rfl, hd, rd⟩
      · exact ⟨F2, d, o2, Gr.rfl', hd, rd⟩
      · exact ⟨upd F2 T u, d, o2.new nT, Gr.new o2.fh o2.bh nT, hd, rd⟩
    obtain ⟨F3, d, o3, g3, hd, rd⟩ := item
    have hdrop : p.1.drop i = d :: p.1.drop (i + 1) := by
      obtain ⟨hlt', e⟩ := List.getElem?_eq_some_iff.mp hd
      rw [← e]; exact List.drop_eq_getElem_cons hlt'
    rw [hdrop] at w
    obtain ⟨ρ3, t1, w⟩ := bind_some' w
    obtain ⟨r, t2, w⟩ := bind_some' w
    obtain ⟨r1, r2⟩ := r
    refine hg d ρ2 ρ3 t1 B σ2 F3 H3 x o3 rd _ fun σ4 o4 _ _ => ?_
    refine hb ρ3 r1 r2 t2 B σ4 F3 H3 o4 _ ?_
    cases r1 with
    | nx => exact fun σ' F' H' o' gr => ⟨F', r2, o', (g2.trans g3).trans gr, w⟩
    | ct => exact fun σ' F' H' o' gr => ⟨F', r2, o', (g2.trans g3).trans gr, w⟩
    | bk => cases w; exact fun σ' F' H' o' gr => f σ' F' H' o' (g1.trans ((g2.trans g3).trans gr))
    | rt d => cases w; exact fun v σ' F' H' o' gr rv => f v σ' F' H' o' (g1.trans ((g2.trans g3).trans gr)) rv
  · rintro σ' H' ⟨F2, ρ2, o2, g2, w⟩
    rw [List.drop_length] at w
    cases w
    exact f σ' F2 H' o2 (g1.trans g2)
theorem s_for (hp : PassesOwn (model X.prog X.w) X.A X.env X.xe) (hc : X.calm = true) (hi : JI X tg iter wi gn) (hg : JG X tg tgt vs td) (hb : JB X A t b) (hs : ∀ x, foldedSetIterable iter X.env x = pure x := by intro _; rfl) : JS X (.For tg iter A [] pos) (tFor wi tgt t) (forG gn td b) := ⟨ps_for hp hc hi.pi hg.pg hb.ps hs, ev_for hi.ev hg.ev hb.ev⟩
/-! y = [.. for ..] -/
variable {elt : Expr} {scope : Scope} {own : List (Str × Nat)} {spos py : Pos} {gi : AG} {ge : MG} {ifs : List Expr} {y : Str}
theorem s_setLc (i : Nat) (hc : X.calm = true) (hN : X.N.Nodup) (hi : JI X tg iter wi gi) (ok : BlkOk X.N X.env.scope scope own)
    (hg : ∀ (s : Shared) (H : Hp) (C : Addr) (cl : List (Str × Addr)) (fp : List Addr), JG (X.blk s H scope (compEnvC scope cl C X.env) fp) tg tgt vs td)
    (ht : ∀ (s : Shared) (H : Hp) (C : Addr) (cl : List (Str × Addr)) (fp : List Addr), JTs (X.blk s H scope (compEnvC scope cl C X.env) fp) ifs tt gt)
    (he : ∀ (s : Shared) (H : Hp) (C : Addr) (cl : List (Str × Addr)) (fp : List Addr), JM (X.blk s H scope (compEnvC scope cl C X.env) fp) elt te ge)
    (hsw : swapsWith (.ListComp elt [⟨tg, iter, ifs, 0⟩] scope pos) (some (.Name y py)) spos.line X.env = pure true) (hy : X.N[i]? = some y := by rfl) (hyl : X.env.scope.names.lookup y = some .local := by rfl)
    (hv : ∀ i ∈ vs, i ∈ own.map (·.2) := by decide) (hs : ∀ x, foldedSetIterable iter X.env x = pure x := by intro _; rfl) :
    JS X (.Assign [.Name y py] (.ListComp elt [⟨tg, iter, ifs, 0⟩] scope pos) spos) (tAsg (tLc wi tgt tt te (own.map (·.2))) (gName i)) (setG i (nwM (lcN gi (own.map (·.2)) td gt ge))) :=
  ⟨ps_setLc hc hN hy hyl hsw hi.pi ok (fun s H C cl fp => (hg s H C cl fp).pg) (fun s H C cl fp => (ht s H C cl fp).pt) (fun s H C cl fp => (he s H C cl fp).pe) hs,
   ev_set i (JN.m (X := X) (e := .ListComp elt [⟨tg, iter, ifs, 0⟩] scope pos) (n_lc hc hN hi ok hg ht he hv hs)).ev⟩
theorem s_newLc (i : Nat) (hc : X.calm = true) (hN : X.N.Nodup) (hi : JI X tg iter wi gi) (ok : BlkOk X.N X.env.scope scope own)
    (hg : ∀ (s : Shared) (H : Hp) (C : Addr) (cl : List (Str × Addr)) (fp : List Addr), JG (X.blk s H scope (compEnvC scope cl C X.env) fp) tg tgt vs td)
    (ht : ∀ (s : Shared) (H : Hp) (C : Addr) (cl : List (Str × Addr)) (fp : List Addr), JTs (X.blk s H scope (compEnvC scope cl C X.env) fp) ifs tt gt)
    (he : ∀ (s : Shared) (H : Hp) (C : Addr) (cl : List (Str × Addr)) (fp : List Addr), JM (X.blk s H scope (compEnvC scope cl C X.env) fp) elt te ge)
    (hsw : swapsWith (.ListComp elt [⟨tg, iter, ifs, 0⟩] scope pos) (some (.Name y py)) spos.line X.env = pure true) (hy : X.N[i]? = some y := by rfl) (hyl : X.env.scope.names.lookup y = some .local := by rfl)
    (hv : ∀ i ∈ vs, i ∈ own.map (·.2) := by decide) (hs : ∀ x, foldedSetIterable iter X.env x = pure x := by intro _; rfl) :
    JS X (.Assign [.Name y py] (.ListComp elt [⟨tg, iter, ifs, 0⟩] scope pos) spos) (tAsg (tLc wi tgt tt te (own.map (·.2))) (gName i)) (newG i (lcN gi (own.map (·.2)) td gt ge)) :=
  ⟨ps_setLc hc hN hy hyl hsw hi.pi ok (fun s H C cl fp => (hg s H C cl fp).pg) (fun s H C cl fp => (ht s H C cl fp).pt) (fun s H C cl fp => (he s H C cl fp).pe) hs,
   ev_new i (n_lc (X := X) (pos := pos) hc hN hi ok hg ht he hv hs).ev⟩
end
end Dn
end
section
set_option Elab.async false
set_option linter.all false
set_option maxRecDepth 100000
set_option maxHeartbeats 2000000
namespace Dn
open PySem L2 PySem.Spec PyProof.Rows
/-! ### values that go into slots -/
abbrev VG := Ro → Option (Sl × Ro)
def Vl (K : PySem.W.Frag) (te : TE) (g : VG) : Prop := ∀ ρ s ρ', g ρ = some (s, ρ') → ∀ B σ F H, Ok K B σ F H ρ → ∀ Q : VK, (∀ v F' H', Ok K B σ F' H' ρ' → Gr B.hp F F' → SlOk K B F' H' v s → (s.own = true → ∀ p, v = .ref p → NoOwn σ ρ' p) → Q v H') → te σ H Q
structure JV (X : Cx) (e : Expr) (te : TE) (g : VG) : Prop where
  pe : PE X e te
  ev : Vl X.K te g
def fzV (g : MG) : VG := fun ρ => (g ρ).map fun p => (.fz p.1, p.2)
def olV (g : AG) : VG := fun ρ => (g ρ).map fun p => (.ol p.1, p.2)
def odV : VG := fun ρ => some (.od [], ρ)
def setVG (i : Nat) (g : VG) : SG := fun ρ => (g ρ).map fun p => (.nx, p.2.set i (some p.1))
def parG (i j : Nat) (a b : VG) : SG := fun ρ => (a ρ).bind fun p => (b p.2).map fun q => (.nx, (q.2.set i (some p.1)).set j (some q.1))
def par3G (i j l : Nat) (a b c : VG) : SG := fun ρ => (a ρ).bind fun p => (b p.2).bind fun q => (c q.2).map fun r => (.nx, ((r.2.set i (some p.1)).set j (some q.1)).set l (some r.1))
section
variable {X : Cx} {K : PySem.W.Frag} {e ea eb ec : Expr} {te ta tb' tc : TE} {g : MG} {gn : AG} {pos : Pos} {x y z : Str} {a b c : VG}
theorem vl_m (h : Mo K te g) : Vl K te (fzV g) := fun ρ s ρ' q B σ F H o Q k => by
  obtain ⟨p, e1, q⟩ := map_some' q
  cases q
  exact h ρ p.1 p.2 e1 B σ F H o _ fun v F' H' o' gr rv => k v F' H' o' gr rv fun w => by cases w
theorem vl_n (h : Nw K te gn) : Vl K te (olV gn) := fun ρ s ρ' q B σ F H o Q k => by
  obtain ⟨p, e1, q⟩ := map_some' q
  cases q
  exact h ρ p.1 p.2 e1 B σ F H o _ fun q xs F' H' o' gr hp hf hb no ra => k _ F' H' o' gr ⟨q, xs, rfl, hp, hf, hb, ra⟩ fun _ p' e => by cases e; exact no
theorem v_m (h : JM X e te g) : JV X e te (fzV g) := ⟨h.pe, vl_m h.ev⟩
theorem v_n (h : JN X e te gn) : JV X e te (olV gn) := ⟨h.pe, vl_n h.ev⟩
theorem v_dict : JV X (.Dict [] [] pos) tDNewK odV := ⟨pe_dnewK, fun ρ s ρ' q B σ F H o Q k => by
  cases q
  intro p hp
  exact k _ F _ (o.newH hp) Gr.rfl' ⟨p, [], rfl, upd_same, o.fh.back hp, o.bh.back hp, .nil⟩ fun _ p' e => by cases e; exact o.noOwn_new hp⟩
theorem ev_setV (i : Nat) (h : Vl K te a) : Sd K (tAsg te (gName i)) (setVG i a) := fun ρ o ρ' q B σ F H ok D f => by
  obtain ⟨p, e1, q⟩ := map_some' q
  cases q
  exact h ρ p.1 p.2 e1 B σ F H ok _ fun v F' H' o' gr sv no => f _ F' H' (o'.store sv no) gr
theorem s_setV {pos' : Pos} (i : Nat) (hN : X.N.Nodup) (h : JV X e te a) (hi : X.N[i]? = some x := by rfl) (hx : Loc X.env.scope x := by first | exact Or.inl rfl | exact Or.inr rfl) (hs : swapsWith e (some (.Name x pos')) pos.line X.env = pure false := by rfl) (hf : X.fn x = true ∨ X.env.scope.names.lookup x = some .local := by first | exact .inl rfl | exact .inr rfl) :
    JS X (.Assign [.Name x pos'] e pos) (tAsg te (gName i)) (setVG i a) := ⟨ps_set hN hi hx h.pe hs hf, ev_setV i h.ev⟩
/-- a value stands while what stands aside stands -/
theorem SlOk.frame {B : Bs} {F F' H H' : Hp} {v : V} {s : Sl} (h : SlOk K B F H v s) (ef : Ex F F') (hs : s.own = true → ∀ p u, v = .ref p → H p = some u → H' p = some u ∧ F' p = none) : SlOk K B F' H' v s := by
  cases s with
  | fz d => exact Re.mono ef h
  | ol ds => obtain ⟨a, xs, rfl, h2, h3, h4, h5⟩ := h; obtain ⟨z1, z2⟩ := hs rfl a _ rfl h2; exact ⟨a, xs, rfl, z1, z2, h4, h5.mono ef⟩
  | od kvs => obtain ⟨a, xs, rfl, h2, h3, h4, h5⟩ := h; obtain ⟨z1, z2⟩ := hs rfl a _ rfl h2; exact ⟨a, xs, rfl, z1, z2, h4, KvR.mono ef h5⟩
  | sx ns => obtain ⟨a, h1, h2⟩ := h; exact ⟨a, h1, ex_sql ef h2⟩
  | pu ds => obtain ⟨a, xs, rfl, h2, h3, h4, h5, h6⟩ := h; obtain ⟨z1, z2⟩ := hs rfl a _ rfl h2; exact ⟨a, xs, rfl, z1, z2, h4, h5.mono ef, h6⟩
/-- a further value beside one that goes into a slot -/
theorem Vl.beside {s : Sl} {v : V} {B : Bs} {σ : L2.St} {F H : Hp} {ρ : Ro} (hb : Vl K tb' b) {t : Sl} {ρ' : Ro} (q : b ρ = some (t, ρ')) (o : Ok K B σ F H ρ) (sv : SlOk K B F H v s) (no : s.own = true → ∀ p, v = .ref p → NoOwn σ ρ p) {Q : VK}
    (k : ∀ w F' H', Ok K B σ F' H' ρ' → Gr B.hp F F' → SlOk K B F' H' v s → SlOk K B F' H' w t → (s.own = true → ∀ p, v = .ref p → NoOwn σ ρ' p ∧ (t.own = true → w ≠ .ref p)) → (t.own = true → ∀ p, w = .ref p → NoOwn σ ρ' p) → Q w H') : tb' σ H Q := by
  cases z : s.own with
  | false => exact hb ρ t ρ' q B σ F H o Q fun w F' H' o' gr sw no' => k w F' H' o' gr (sv.frame gr.ex fun u => by rw [z] at u; cases u) sw (fun u => by rw [z] at u; cases u) no'
  | true =>
    obtain ⟨p, u, rfl, hp, hf, hb'⟩ := sv.addr z
    have o2 := o.more hp (no z p rfl)
    refine hb ρ t ρ' q _ σ F H o2 Q fun w F' H' o' gr sw no' => ?_
    have hp' : H' p = some u := o'.bh p u upd_same
    have hf' : F' p = none := gr.nn p u upd_same hf
    have eB : Ex B.hp (B.up p u).hp := Ex.new hb'
    have sw' : SlOk K B F' H' w t := by
      cases t with
      | fz d => exact sw
      | ol ds => obtain ⟨a, xs, h1, h2, h3, h4, h5⟩ := sw; exact ⟨a, xs, h1, h2, h3, eB.back h4, h5⟩
      | od kvs => obtain ⟨a, xs, h1, h2, h3, h4, h5⟩ := sw; exact ⟨a, xs, h1, h2, h3, eB.back h4, h5⟩
      | sx ns => exact sw
      | pu ds => obtain ⟨a, xs, h1, h2, h3, h4, h5, h6⟩ := sw; exact ⟨a, xs, h1, h2, h3, eB.back h4, h5, h6⟩
    refine k w F' H' (o'.less eB rfl) (gr.less eB) (sv.frame gr.ex fun _ p' u' e hu => ?_) sw' (fun _ p' e => ?_) no'
    · cases e
      rw [hp] at hu; cases hu
      exact ⟨hp', hf'⟩
    · cases e
      refine ⟨o'.noOwn_of (p := p) (u := u) upd_same, fun wt e => ?_⟩
      obtain ⟨a, _, rfl, _, _, h4⟩ := sw.addr wt
      cases e
      have : upd B.hp p u p = none := h4
      rw [upd_same] at this; cases this
theorem NoOwn.set {σ : L2.St} {ρ : Ro} {p : Addr} {i : Nat} {v : V} {s : Sl} (h : NoOwn σ ρ p) (hl : σ.length = ρ.length) (hv : s.own = true → v ≠ .ref p) : NoOwn (σ.set i (some v)) (ρ.set i (some s)) p := fun j t q w e => by
  by_cases z : i = j
  · subst z
    have hi : i < ρ.length := by rw [← List.length_set]; exact (List.getElem?_eq_some_iff.mp q).1
    rw [List.getElem?_set_self hi] at q; cases q
    rw [List.getElem?_set_self (by rw [hl]; exact hi)] at e
    have e : v = .ref p := Option.some.inj (Option.some.inj e)
    exact hv w e
  · rw [List.getElem?_set_ne z] at q e
    exact h j t q w e
theorem s_par {px py pt : Pos} {kt k2 : Nat} {pt2 : Pos} (i j : Nat) (hc : X.calm = true) (hN : X.N.Nodup) (ha : JV X ea ta a) (hb : JV X eb tb' b) (hij : i ≠ j := by decide) (hi : X.N[i]? = some x := by rfl) (hj : X.N[j]? = some y := by rfl)
    (hx : X.env.scope.names.lookup x = some .local := by rfl) (hy : X.env.scope.names.lookup y = some .local := by rfl) (hw : swappedStores [.Tuple [.Name x px, .Name y py] kt pt] (.Tuple [ea, eb] k2 pt2) X.env = pure (some [x, y]) := by rfl)
    (hs : swapsWithSole [.Tuple [.Name x px, .Name y py] kt pt] (.Tuple [ea, eb] k2 pt2) pos.line X.env = pure false := by rfl)
    (h1 : starEach (ea :: [eb]) X.env = (false, eval ea X.env) :: starEach [eb] X.env := by rfl) (h2 : starEach (eb :: []) X.env = (false, eval eb X.env) :: starEach [] X.env := by rfl) :
    JS X (.Assign [.Tuple [.Name x px, .Name y py] kt pt] (.Tuple [ea, eb] k2 pt2) pos) (tPar i j (tCons ta (tCons tb' tNil))) (parG i j a b) := ⟨ps_par hc hN hi hj hij hx hy (pa_cons ha.pe (pa_cons hb.pe pa_nil h2) h1) hw hs, fun ρ o ρ' q B σ F H ok D f => by
  obtain ⟨p, e1, q⟩ := bind_some' q
  obtain ⟨r, e2, q⟩ := map_some' q
  cases q
  refine ha.ev ρ p.1 p.2 e1 B σ F H ok _ fun v F1 H1 o1 g1 sv no => ?_
  refine hb.ev.beside (t := r.1) (ρ' := r.2) e2 o1 sv no fun w F2 H2 o2 g2 sv2 sw n1 n2 => ?_
  refine ⟨v, w, rfl, f _ F2 H2 ?_ (g1.trans g2)⟩
  have o3 := o2.store (i := i) sv2 fun hs p e => (n1 hs p e).1
  refine o3.store sw fun ht p' e => ?_
  subst e
  exact (n2 ht p' rfl).set o2.len fun hs e => (n1 hs p' e).2 ht rfl⟩
end
/-! ### lists of ours are written -/
def appG (i : Nat) (g : MG) : SG := fun ρ => (olAt ρ i).bind fun _ => (g ρ).bind fun p => (olAt p.2 i).bind fun ds => if ds.length ≤ 1000000 then some (.nx, olSet p.2 i (ds ++ [p.1])) else none
def extG (i : Nat) (g : MG) : SG := fun ρ => (olAt ρ i).bind fun _ => (g ρ).bind fun p => (cutN.listOf p.1).bind fun es => (olAt p.2 i).bind fun ds => if ds.length + es.length ≤ 1000000 then some (.nx, olSet p.2 i (ds ++ es)) else none
def stG (i : Nat) (gi : PG) (g : MG) : SG := fun ρ => (g ρ).bind fun p => (olAt p.2 i).bind fun ds => (gi p.2).bind fun x => (intOf x).bind fun n => (ixN ds.length n).map fun j => (.nx, olSet p.2 i (ds.set j p.1))
def keyOf : PyData → Option Key
  | .int i => some (.inl i)
  | .str s => some (.inr s)
  | _ => none
theorem keyOf_kV {F : Hp} {v : V} {d : PyData} {k : Key} (h : keyOf d = some k) (r : Re F v d) : v = kV k := by
  cases d <;> first | (cases h; cases r; rfl) | cases h
def odAt (ρ : Ro) (i : Nat) : Option (List (Key × PyData)) := match ρ[i]? with
  | some (some (.od kvs)) => some kvs
  | _ => none
theorem odAt_some {ρ : Ro} {i : Nat} {ps : List (Key × PyData)} (h : odAt ρ i = some ps) : ρ[i]? = some (some (.od ps)) := by
  unfold odAt at h
  split at h
  · rename_i e; cases h; exact e
  · cases h
def putD (kvs : List (Key × PyData)) (k : Key) (v : PyData) : List (Key × PyData) :=
  if (kvs.any fun kv => decide (kv.1 = k)) = true then kvs.map (fun kv => if kv.1 = k then (kv.1, v) else kv) else kvs ++ [(k, v)]
def valD (kvs : List (Key × PyData)) (k : Key) : Option PyData := (kvs.find? fun kv => decide (kv.1 = k)).map (·.2)
def putG (i : Nat) (gk : PG) (g : MG) : SG := fun ρ => (g ρ).bind fun p => (odAt p.2 i).bind fun kvs => (gk p.2).bind fun x => (keyOf x).bind fun k => if kvs.length ≤ 1000000 then some (.nx, p.2.set i (some (.od (putD kvs k p.1)))) else none
theorem KvR.append {F : Hp} : ∀ {ks ls : List (Key × V)} {kvs lvs : List (Key × PyData)}, KvR F ks kvs → KvR F ls lvs → KvR F (ks ++ ls) (kvs ++ lvs)
  | _, _, _, _, .nil, s => s
  | _, _, _, _, .cons h t, s => .cons h (KvR.append t s)
theorem KvR.any {F : Hp} {k : Key} : ∀ {ks : List (Key × V)} {kvs : List (Key × PyData)}, KvR F ks kvs → (ks.any fun kv => decide (kv.1 = k)) = (kvs.any fun kv => decide (kv.1 = k))
  | _, _, .nil => rfl
  | _, _, .cons h t => by rw [List.any_cons, List.any_cons, h.1, KvR.any t]
theorem KvR.upd {F : Hp} {k : Key} {v : V} {d : PyData} (r : Re F v d) : ∀ {ks : List (Key × V)} {kvs : List (Key × PyData)}, KvR F ks kvs → KvR F (ks.map fun kv => if kv.1 = k then (kv.1, v) else kv) (kvs.map fun kv => if kv.1 = k then (kv.1, d) else kv)
  | _, _, .nil => .nil
  | _, _, .cons (a := p) (b := q) h t => by
    rw [List.map_cons, List.map_cons]
    refine .cons ?_ (KvR.upd r t)
    by_cases z : p.1 = k
    · rw [if_pos z, if_pos (h.1 ▸ z)]; exact ⟨h.1, r⟩
    · rw [if_neg z, if_neg (fun e => z (h.1.trans e))]; exact h
theorem KvR.put {F : Hp} {k : Key} {v : V} {d : PyData} (r : Re F v d) {ks : List (Key × V)} {kvs : List (Key × PyData)} (h : KvR F ks kvs) : KvR F (putK ks k v) (putD kvs k d) := by
  unfold putK putD
  rw [h.any]
  split
  · exact h.upd r
  · exact h.append (.cons ⟨rfl, r⟩ .nil)
theorem KvR.val {F : Hp} {k : Key} : ∀ {ks : List (Key × V)} {kvs : List (Key × PyData)}, KvR F ks kvs → (∀ d, valD kvs k = some d → ∃ v, valV ks k = some v ∧ Re F v d) ∧ (valD kvs k = none → valV ks k = none)
  | _, _, .nil => ⟨fun d q => (by have q' : (none : Option PyData) = some d := q; exact nomatch q'), fun _ => rfl⟩
  | _, _, .cons (a := p) (b := q) h t => by
    have ih := KvR.val (k := k) t
    by_cases z : q.1 = k
    · refine ⟨fun d e => ?_, fun e => ?_⟩
      · have e1 : ∀ r, valD (q :: r) k = some q.2 := fun r => by simp [valD, List.find?_cons, z]
        rw [e1] at e; cases e
        exact ⟨p.2, valV_pos (h.1.trans z), h.2⟩
      · simp [valD, List.find?_cons, z] at e
    · have e0 : ∀ r, valD (q :: r) k = valD r k := fun r => by simp [valD, List.find?_cons, z]
      rw [valV_neg (fun e => z (h.1.symm.trans e)), e0]
      exact ih
theorem KvR.len {F : Hp} : ∀ {ks : List (Key × V)} {kvs : List (Key × PyData)}, KvR F ks kvs → ks.length = kvs.length
  | _, _, .nil => rfl
  | _, _, .cons _ t => congrArg Nat.succ (KvR.len t)
theorem KvR.keys {F : Hp} : ∀ {ks : List (Key × V)} {kvs : List (Key × PyData)}, KvR F ks kvs → ks.map (·.1) = kvs.map (·.1)
  | _, _, .nil => rfl
  | _, _, .cons h t => by rw [List.map_cons, List.map_cons, h.1, KvR.keys t]
section
variable {X : Cx} {K : PySem.W.Frag} {e ei : Expr} {te ti : TE} {g : MG} {gi : PG} {pos p1 p2 p3 : Pos} {x : Str}
theorem ty_list {H : Hp} {a : Addr} {xs : List V} (h : H a = some (.lst xs)) : tyV K "list" (.ref a) H := .inl ⟨rfl, xs, SqL.of h⟩
theorem ev_app (i : Nat) (h : Mo K te g) : Sd K (tDrop (tBM K "list" rAppend (tVar i) (tCons te tNil))) (appG i g) := fun ρ o ρ' q B σ F H ok D f => by
  obtain ⟨d0, e0, q⟩ := bind_some' q
  obtain ⟨p, e1, q⟩ := bind_some' q
  obtain ⟨ds, e2, q⟩ := bind_some' q
  split at q
  · rename_i w; cases q
    obtain ⟨a, xs, es, hp, hf, hb, ra⟩ := ok.at e0
    refine ⟨_, es, ty_list hp, h ρ p.1 p.2 e1 B σ F H ok _ fun v F1 H1 o1 g1 rv => ?_⟩
    obtain ⟨a', xs', es', hp', hf', hb', ra'⟩ := o1.at e2
    rw [es] at es'; cases es'
    refine ⟨a, xs', v, rfl, rfl, hp', by rw [ra'.length]; exact big_lt w, f σ F1 _ (o1.mutO e2 es (ra'.append (.cons rv .nil))) g1⟩
  · cases q
theorem ev_ext (i : Nat) (h : Mo K te g) : Sd K (tDrop (tBM K "list" rExtend (tVar i) (tCons te tNil))) (extG i g) := fun ρ o ρ' q B σ F H ok D f => by
  obtain ⟨d0, e0, q⟩ := bind_some' q
  obtain ⟨p, e1, q⟩ := bind_some' q
  obtain ⟨es1, e3, q⟩ := bind_some' q
  obtain ⟨ds, e2, q⟩ := bind_some' q
  split at q
  · rename_i w; cases q
    obtain ⟨a, xs, es, hp, hf, hb, ra⟩ := ok.at e0
    refine ⟨_, es, ty_list hp, h ρ p.1 p.2 e1 B σ F H ok _ fun v F1 H1 o1 g1 rv => ?_⟩
    obtain ⟨a', xs', es', hp', hf', hb', ra'⟩ := o1.at e2
    rw [es] at es'; cases es'
    rw [listOf_eq e3] at rv
    cases rv with
    | lst h1 h2 => exact ⟨a, _, xs', _, rfl, rfl, hp', o1.fh _ _ h1, by rw [ra'.length, h2.length]; exact big_line w, f σ F1 _ (o1.mutO e2 es (ra'.append h2)) g1⟩
  · cases q
theorem s_app {y : Str} (i : Nat) (h : JM X e te g) (hN : X.N[i]? = some y := by rfl) (hv : Vis X.env.scope y := by first | exact Or.inl rfl | exact Or.inr (Or.inl rfl) | exact Or.inr (Or.inr rfl)) (hd : (y == ("__debug__" : Str)) = false := by decide) (hcd : (y == ("__classdict__" : Str)) = false := by decide)
    (hbase : attributeBase (.Name y p1) "append" X.env (eval (.Name y p1) X.env) = eval (.Name y p1) X.env := by rfl) (hfew : ((backTo p3 (starEach [e] X.env)).all (fun x => !x.1) && (backToKw p3 (keywordEach [] X.env)).all (fun x => x.1.isSome) && decide ([e].length + ([] : List Keyword).length + (if ([] : List Keyword).isEmpty then 0 else 1) < 30)) = true := by rfl)
    (hline : (p2.endLine == p3.line) = true := by rfl) (hs : starEach (e :: []) X.env = (false, eval e X.env) :: starEach [] X.env := by rfl) (hplain : (backTo p3 (starEach [] X.env)).any (·.1) = false := by rfl) (hsw : swapsWith (.Call (.Attribute (.Name y p1) "append" p2) [e] [] p3) none pos.line X.env = pure false := by rfl) :
    JS X (.Expr (.Call (.Attribute (.Name y p1) "append" p2) [e] [] p3) pos) (tDrop (tBM X.K "list" rAppend (tVar i) (tCons te tNil))) (appG i g) :=
  ⟨ps_expr (pe_bm PySem.F.plainAttrs_list PySem.F.slot_list_append PySem.F.type_list_append mt_append (pe_var hN hv hd hcd) (pa_cons h.pe pa_nil hs) hbase hfew hline hs hplain) hsw, ev_app i h.ev⟩
theorem s_ext {y : Str} (i : Nat) (h : JM X e te g) (hN : X.N[i]? = some y := by rfl) (hv : Vis X.env.scope y := by first | exact Or.inl rfl | exact Or.inr (Or.inl rfl) | exact Or.inr (Or.inr rfl)) (hd : (y == ("__debug__" : Str)) = false := by decide) (hcd : (y == ("__classdict__" : Str)) = false := by decide)
    (hbase : attributeBase (.Name y p1) "extend" X.env (eval (.Name y p1) X.env) = eval (.Name y p1) X.env := by rfl) (hfew : ((backTo p3 (starEach [e] X.env)).all (fun x => !x.1) && (backToKw p3 (keywordEach [] X.env)).all (fun x => x.1.isSome) && decide ([e].length + ([] : List Keyword).length + (if ([] : List Keyword).isEmpty then 0 else 1) < 30)) = true := by rfl)
    (hline : (p2.endLine == p3.line) = true := by rfl) (hs : starEach (e :: []) X.env = (false, eval e X.env) :: starEach [] X.env := by rfl) (hplain : (backTo p3 (starEach [] X.env)).any (·.1) = false := by rfl) (hsw : swapsWith (.Call (.Attribute (.Name y p1) "extend" p2) [e] [] p3) none pos.line X.env = pure false := by rfl) :
    JS X (.Expr (.Call (.Attribute (.Name y p1) "extend" p2) [e] [] p3) pos) (tDrop (tBM X.K "list" rExtend (tVar i) (tCons te tNil))) (extG i g) :=
  ⟨ps_expr (pe_bm PySem.F.plainAttrs_list PySem.F.slot_list_extend PySem.F.type_list_extend mt_extend (pe_var hN hv hd hcd) (pa_cons h.pe pa_nil hs) hbase hfew hline hs hplain) hsw, ev_ext i h.ev⟩
theorem ev_st (i : Nat) (hi : Pu K ti gi) (h : Mo K te g) : Sd K (tAsg te (gSub (tVar i) ti rSetL)) (stG i gi g) := fun ρ o ρ' q B σ F H ok D f => by
  obtain ⟨p, e1, q⟩ := bind_some' q
  obtain ⟨ds, e2, q⟩ := bind_some' q
  obtain ⟨x, e3, q⟩ := bind_some' q
  obtain ⟨n, e4, q⟩ := bind_some' q
  obtain ⟨j, e5, q⟩ := map_some' q
  cases q
  refine h ρ p.1 p.2 e1 B σ F H ok _ fun v F1 H1 o1 g1 rv => ?_
  obtain ⟨a, xs, es, hp, hf, hb, ra⟩ := o1.at e2
  refine ⟨_, es, hi p.2 x e3 B σ F1 H1 o1 _ fun w rw' => ?_⟩
  rw [intOf_eq e4] at rw'
  cases rw'
  refine ⟨a, xs, n, j, rfl, rfl, hp, by rw [ra.length]; exact e5, f σ F1 _ (o1.mutO e2 es (ra.set rv j)) g1⟩
theorem ev_put (i : Nat) (hi : Pu K ti gi) (h : Mo K te g) : Sd K (sDPut (tVar i) ti te) (putG i gi g) := fun ρ o ρ' q B σ F H ok D f => by
  obtain ⟨p, e1, q⟩ := bind_some' q
  obtain ⟨kvs, e2, q⟩ := bind_some' q
  obtain ⟨x, e3, q⟩ := bind_some' q
  obtain ⟨k, e4, q⟩ := bind_some' q
  split at q
  · rename_i w; cases q
    refine h ρ p.1 p.2 e1 B σ F H ok _ fun v F1 H1 o1 g1 rv => ?_
    obtain ⟨_, es, a, ks, rfl, hp, hf, hb, ra⟩ := o1.sl i _ (odAt_some e2)
    refine ⟨_, es, hi p.2 x e3 B σ F1 H1 o1 _ fun u ru => ?_⟩
    refine ⟨a, _, rfl, ?_, f σ F1 _ (o1.mutD (odAt_some e2) es (ra.put rv)) g1⟩
    rw [keyOf_kV e4 ru]
    exact DPut.k hp (by rw [ra.len]; exact big_lt w)
  · cases q
theorem s_st {y : Str} (i : Nat) (h : JM X e te g) (hi : JP X ei ti gi) (hN : X.N[i]? = some y := by rfl) (hv : Vis X.env.scope y := by first | exact Or.inl rfl | exact Or.inr (Or.inl rfl) | exact Or.inr (Or.inr rfl)) (hd : (y == ("__debug__" : Str)) = false := by decide) (hcd : (y == ("__classdict__" : Str)) = false := by decide)
    (ha : ∀ v, assign (.Subscript (.Name y p1) ei p2) X.env v = (do
      let ov ← holding [v] (eval (.Name y p1) X.env)
      let iv ← holding [v, ov] (eval ei X.env)
      standAt p2
      holding [v, ov, iv] (setItem ov iv v)
      release [v, ov, iv] []) := by intro _; rfl)
    (hs : swapsWithSole [.Subscript (.Name y p1) ei p2] e pos.line X.env = pure false := by rfl) (hw : swappedStores [.Subscript (.Name y p1) ei p2] e X.env = pure none := by rfl) (h1 : (assignEach [.Subscript (.Name y p1) ei p2] X.env).map (·.2) = [assign (.Subscript (.Name y p1) ei p2) X.env] := by rfl) :
    JS X (.Assign [.Subscript (.Name y p1) ei p2] e pos) (tAsg te (gSub (tVar i) ti rSetL)) (stG i gi g) := ⟨ps_asg h.pe (pg_sub (pe_var hN hv hd hcd) hi.pe set_list ha) hs hw h1, ev_st i hi.ev h.ev⟩
theorem s_put {y : Str} (i : Nat) (hu : X.A.units + 1 < cLine) (h : JM X e te g) (hi : JP X ei ti gi) (hN : X.N[i]? = some y := by rfl) (hv : Vis X.env.scope y := by first | exact Or.inl rfl | exact Or.inr (Or.inl rfl) | exact Or.inr (Or.inr rfl)) (hd : (y == ("__debug__" : Str)) = false := by decide) (hcd : (y == ("__classdict__" : Str)) = false := by decide)
    (hs : swapsWith e (some (.Subscript (.Name y p1) ei p2)) pos.line X.env = pure false := by rfl) :
    JS X (.Assign [.Subscript (.Name y p1) ei p2] e pos) (sDPut (tVar i) ti te) (putG i gi g) := ⟨ps_dput hu (pe_var hN hv hd hcd) hi.pe h.pe hs, ev_put i hi.ev h.ev⟩
end
/-! ### defs -/
def init (m : Nat) (sls : List Sl) : Ro := sls.map some ++ List.replicate (m - sls.length) none
/-- what a def hands back -/
def retOf : Out → Option PyData
  | .rt d => some d
  | .nx => some .none
  | _ => none
/-- what is lent, behind the body -/
def puAt (ρ : Ro) : Option (List PyData) := match ρ[0]? with
  | some (some (Sl.pu ps)) => some ps
  | _ => none
theorem puAt_some {ρ : Ro} {ps : List PyData} (h : puAt ρ = some ps) : ρ[0]? = some (some (.pu ps)) := by
  unfold puAt at h
  split at h
  · rename_i e; cases h; exact e
  · cases h
/-- what a body of m slots gives for data -/
def runG (m : Nat) (g : SG) (ds : List PyData) : Option PyData := (g (init m (ds.map .fz))).bind fun p => retOf p.1
def runP (m : Nat) (g : SG) (ps ds : List PyData) : Option (PyData × List PyData) := (g (init m (.pu ps :: ds.map .fz))).bind fun p => (retOf p.1).bind fun d => (puAt p.2).map fun ps' => (d, ps')
def runS (m : Nat) (g : SG) (ns : List Int) (ds : List PyData) : Option PyData := (g (init m (.sx ns :: ds.map .fz))).bind fun p => retOf p.1
theorem start_get {N : List Str} {vs : List V} {i : Nat} {v : V} (h : vs[i]? = some v) : (L2.start N vs)[i]? = some (some v) := by
  unfold L2.start
  have hl := (List.getElem?_eq_some_iff.mp h).1
  rw [List.getElem?_append_left (by rw [List.length_map]; exact hl), List.getElem?_map, h]
  rfl
theorem init_some {m : Nat} {sls : List Sl} {i : Nat} {s : Sl} (h : (init m sls)[i]? = some (some s)) : sls[i]? = some s := by
  unfold init at h
  by_cases hl : i < sls.length
  · rw [List.getElem?_append_left (by rw [List.length_map]; exact hl), List.getElem?_map] at h
    cases e : sls[i]? with
    | none => rw [e] at h; cases h
    | some x => rw [e] at h; cases h; rfl
  · rw [List.getElem?_append_right (by rw [List.length_map]; omega), List.getElem?_replicate] at h
    split at h
    · cases h
    · cases h
theorem ok_init {K : PySem.W.Frag} {B : Bs} {F H : Hp} {N : List Str} {vs : List V} {sls : List Sl} (fh : Ex F H) (bh : Ex B.hp H) (hl : vs.length = sls.length) (hN : vs.length ≤ N.length)
    (sl : ∀ (i : Nat) (s : Sl), sls[i]? = some s → ∃ v, vs[i]? = some v ∧ SlOk K B F H v s) (one : ∀ (i : Nat) (s : Sl), sls[i]? = some s → s.own = true → i = 0) : Ok K B (L2.start N vs) F H (init N.length sls) := by
  refine ⟨fh, bh, ?_, fun i s q => ?_, fun i j s t v ne q1 q2 w1 w2 _ _ => ?_⟩
  · unfold L2.start init
    rw [List.length_append, List.length_append, List.length_map, List.length_map, List.length_replicate, List.length_replicate, hl]
  · obtain ⟨v, e1, e2⟩ := sl i s (init_some q)
    exact ⟨v, start_get e1, e2⟩
  · exact ne ((one i s (init_some q1) w1).trans (one j t (init_some q2) w2).symm)
section
variable {P : Program} {w : World} {K : PySem.W.Frag} {mg : Str → Option Value} {base : Heap} {x qual : Str} {params : Arguments} {body : List Stmt} {scope : Scope} {dvs : List V} {kws : List (Str × V)} {f : Addr} {fd : FuncData} {N ps : List Str} {k : Nat}
theorem fz_get {F : Hp} : ∀ {vs : List V} {ds : List PyData} {i : Nat} {s : Sl}, ReA F vs ds → (ds.map Sl.fz)[i]? = some s → ∃ v d, vs[i]? = some v ∧ s = .fz d ∧ Re F v d := fun {vs ds i s} r q => by
  rw [List.getElem?_map] at q
  cases e : ds[i]? with
  | none => rw [e] at q; cases q
  | some d =>
    rw [e] at q; cases q
    obtain ⟨v, e1, e2⟩ := r.get e
    exact ⟨v, d, e1, rfl, e2⟩
/-- a def over data -/
theorem fn_data {g : SG} (F : FunD K x qual params body scope dvs kws f fd) (S : FnScope N ps scope) (hps : ps.length ≤ N.length)
    (hbody : ∀ (cdv : Value) (A : Around) (outer : List Env) (s : Shared) (H : Hp) (E : XK), Room k (A.deeper (envOfC qual scope s.heap.objs.size f cdv)) → ∃ t, JB (cxOf CX0 P w K mg base N qual scope f cdv A outer s H E).nox body t g) :
    FnOk P w K mg base CX0 (k + 1) f fd ps (spD ps.length (runG N.length g)) := by
  refine F.ok S (fun vs H Q E h => ?_) fun cdv A outer s H vs Q E hr h => ?_
  · obtain ⟨F1, ds, d, _, r, l, _⟩ := h
    exact r.length.trans l
  · obtain ⟨t, hb⟩ := hbody cdv A outer s H E hr
    refine ⟨t, PSs.nox hb.ps, ?_⟩
    obtain ⟨F1, ds, d, fh, r, l, e, q⟩ := h
    obtain ⟨p, e1, e2⟩ := bind_some' e
    have hvl : vs.length = (ds.map Sl.fz).length := by rw [List.length_map]; exact r.length
    have ok : Ok K ⟨H, 0⟩ (L2.start N vs) F1 H (init N.length (ds.map .fz)) := ok_init fh Ex.rfl' hvl (by rw [r.length, l]; exact hps) (fun i s z => by
      obtain ⟨v, d, a1, rfl, a2⟩ := fz_get r z
      exact ⟨v, a1, a2⟩) fun i s z w => by
        obtain ⟨v, d, a1, rfl, a2⟩ := fz_get r z
        cases w
    refine hb.ev _ p.1 p.2 e1 ⟨H, 0⟩ (L2.start N vs) F1 H ok _ ?_
    obtain ⟨p1, p2⟩ := p
    cases p1 with
    | nx => cases e2; exact fun σ' F' H' o' gr => q .non F' H' o'.bh o'.fh gr .non
    | rt d' => cases e2; exact fun v σ' F' H' o' gr rv => q v F' H' o'.bh o'.fh gr rv
    | bk => cases e2
    | ct => cases e2
/-- .. whose first argument is lent -/
theorem fn_lent {g : SG} (F : FunD K x qual params body scope dvs kws f fd) (S : FnScope N ps scope) (hps : ps.length ≤ N.length) (h0 : 0 < ps.length)
    (hbody : ∀ (cdv : Value) (A : Around) (outer : List Env) (s : Shared) (H : Hp) (E : XK), Room k (A.deeper (envOfC qual scope s.heap.objs.size f cdv)) → ∃ t, JB (cxOf CX0 P w K mg base N qual scope f cdv A outer s H E).nox body t g) :
    FnOk P w K mg base CX0 (k + 1) f fd ps (spP (ps.length - 1) (runP N.length g)) := by
  refine F.ok S (fun vs H Q E h => ?_) fun cdv A outer s H vs Q E hr h => ?_
  · obtain ⟨p, vs', xs, F1, pu, ds, d, pu', rfl, _, _, _, _, r, l, _⟩ := h
    rw [List.length_cons, r.length, l]; omega
  · obtain ⟨t, hb⟩ := hbody cdv A outer s H E hr
    refine ⟨t, PSs.nox hb.ps, ?_⟩
    obtain ⟨p, vs', xs, F1, pu, ds, d, pu', rfl, fh, fp, hp, rp, r, l, e, q⟩ := h
    obtain ⟨z, e1, e2⟩ := bind_some' e
    let B : Bs := ⟨fun a => if a = p then none else H a, p⟩
    have bh : Ex B.hp H := fun a o h => by
      have h : (if a = p then none else H a) = some o := h
      split at h
      · cases h
      · exact h
    have bp : B.hp p = none := if_pos rfl
    have ok : Ok K B (L2.start N (.ref p :: vs')) F1 H (init N.length (.pu pu :: ds.map .fz)) := ok_init fh bh (by rw [List.length_cons, List.length_cons, List.length_map, r.length]) (by rw [List.length_cons, r.length, l]; omega) (fun i s z => by
      cases i with
      | zero =>
        cases z
        exact ⟨_, rfl, p, xs, rfl, hp, fp, bp, rp, rfl⟩
      | succ i =>
        obtain ⟨v, d, a1, rfl, a2⟩ := fz_get (i := i) r z
        exact ⟨v, a1, a2⟩) fun i s z w => by
        cases i with
        | zero => rfl
        | succ i =>
          obtain ⟨v, d, a1, rfl, a2⟩ := fz_get (i := i) r z
          cases w
    refine hb.ev _ z.1 z.2 e1 B _ F1 H ok _ ?_
    have fin : ∀ {σ' F' H' pu'}, Ok K B σ' F' H' z.2 → z.2[0]? = some (some (.pu pu')) → Gr B.hp F1 F' → (∀ a o, a ≠ p → H a = some o → H' a = some o) ∧ Ex F' H' ∧ Gr H F1 F' ∧ ∃ xs', H' p = some (.lst xs') ∧ ReA F' xs' pu' := fun {σ' F' H' pu'} o' ez gr => by
      obtain ⟨v, _, a, ys, _, h2, h3, h4, h5, h6⟩ := o'.sl 0 _ ez
      have h6 : a = p := h6
      subst h6
      refine ⟨fun b o ne hb => o'.bh b o (by show (if b = a then none else H b) = some o; rw [if_neg ne]; exact hb), o'.fh, ⟨gr.ex, fun b o hb hf => ?_⟩, ys, h2, h5⟩
      by_cases ne : b = a
      · subst ne; exact h3
      · exact gr.nn b o (by show (if b = a then none else H b) = some o; rw [if_neg ne]; exact hb) hf
    obtain ⟨z1, z2⟩ := z
    obtain ⟨dd, e3, e4⟩ := bind_some' e2
    obtain ⟨ps', e5, e6⟩ := map_some' e4
    cases e6
    cases z1 with
    | nx =>
      cases e3
      intro σ' F' H' o' gr
      obtain ⟨a1, a2, a3, xs', a4, a5⟩ := fin o' (puAt_some e5) gr
      exact q .non F' H' xs' a1 a2 a3 a4 a5 .non
    | rt d' =>
      cases e3
      intro v σ' F' H' o' gr rv
      obtain ⟨a1, a2, a3, xs', a4, a5⟩ := fin o' (puAt_some e5) gr
      exact q v F' H' xs' a1 a2 a3 a4 a5 rv
    | bk => cases e3
    | ct => cases e3
/-- .. whose first argument is the script -/
theorem fn_script {g : SG} (F : FunD K x qual params body scope dvs kws f fd) (S : FnScope N ps scope) (hps : ps.length ≤ N.length) (h0 : 0 < ps.length)
    (hbody : ∀ (cdv : Value) (A : Around) (outer : List Env) (s : Shared) (H : Hp) (E : XK), Room k (A.deeper (envOfC qual scope s.heap.objs.size f cdv)) → ∃ t, JB (cxOf CX0 P w K mg base N qual scope f cdv A outer s H E).nox body t g) :
    FnOk P w K mg base CX0 (k + 1) f fd ps (spS K (ps.length - 1) (runS N.length g)) := by
  refine F.ok S (fun vs H Q E h => ?_) fun cdv A outer s H vs Q E hr h => ?_
  · obtain ⟨p, vs', F1, ns, ds, d, rfl, _, _, r, l, _⟩ := h
    rw [List.length_cons, r.length, l]; omega
  · obtain ⟨t, hb⟩ := hbody cdv A outer s H E hr
    refine ⟨t, PSs.nox hb.ps, ?_⟩
    obtain ⟨p, vs', F1, ns, ds, d, rfl, fh, sp, r, l, e, q⟩ := h
    obtain ⟨z, e1, e2⟩ := bind_some' e
    have ok : Ok K ⟨H, 0⟩ (L2.start N (.ref p :: vs')) F1 H (init N.length (.sx ns :: ds.map .fz)) := ok_init fh Ex.rfl' (by rw [List.length_cons, List.length_cons, List.length_map, r.length]) (by rw [List.length_cons, r.length, l]; omega) (fun i s z => by
      cases i with
      | zero => cases z; exact ⟨_, rfl, p, rfl, sp⟩
      | succ i =>
        obtain ⟨v, d, a1, rfl, a2⟩ := fz_get (i := i) r z
        exact ⟨v, a1, a2⟩) fun i s z w => by
        cases i with
        | zero => rfl
        | succ i =>
          obtain ⟨v, d, a1, rfl, a2⟩ := fz_get (i := i) r z
          cases w
    refine hb.ev _ z.1 z.2 e1 ⟨H, 0⟩ _ F1 H ok _ ?_
    obtain ⟨z1, z2⟩ := z
    cases z1 with
    | nx => cases e2; exact fun σ' F' H' o' gr => q .non F' H' o'.bh o'.fh gr .non
    | rt d' => cases e2; exact fun v σ' F' H' o' gr rv => q v F' H' o'.bh o'.fh gr rv
    | bk => cases e2
    | ct => cases e2
end
end Dn
end
section
set_option Elab.async false
set_option linter.all false
set_option maxRecDepth 100000
set_option maxHeartbeats 2000000
namespace Dn
open PySem L2 PySem.Spec PyProof.Rows
/-! ### sorted -/
def leZ (a b : Int) : Bool := decide (a ≤ b)
def sortI (ns : List Int) : List Int := ns.mergeSort leZ
theorem sortI_perm (ns : List Int) : (sortI ns).Perm ns := List.mergeSort_perm ns _
theorem sortI_sorted (ns : List Int) : (sortI ns).Pairwise (· ≤ ·) := by
  have h := List.pairwise_mergeSort (le := leZ) (fun a b c h1 h2 => by
    simp only [leZ, decide_eq_true_eq] at *; omega) (fun a b => by
    simp only [leZ, Bool.or_eq_true, decide_eq_true_eq]; omega) ns
  exact h.imp fun h => by simpa [leZ] using h
theorem sortI_uniq {ns ms : List Int} (h : ms.Perm ns) (hs : ms.Pairwise (· ≤ ·)) : ms = sortI ns :=
  List.Perm.eq_of_pairwise (le := (· ≤ ·)) (fun a b _ _ h1 h2 => by omega) hs (sortI_sorted ns) (h.trans (sortI_perm ns).symm)
/-- pairs -/
def leP (a b : Int × Int) : Bool := decide (a.1 < b.1 ∨ a.1 = b.1 ∧ a.2 ≤ b.2)
def sortP (ns : List (Int × Int)) : List (Int × Int) := ns.mergeSort leP
theorem sortP_perm (ns : List (Int × Int)) : (sortP ns).Perm ns := List.mergeSort_perm ns _
theorem sortP_sorted (ns : List (Int × Int)) : (sortP ns).Pairwise fun a b => leP a b = true :=
  List.pairwise_mergeSort (le := leP) (fun a b c h1 h2 => by
    simp only [leP, decide_eq_true_eq] at *; omega) (fun a b => by
    simp only [leP, Bool.or_eq_true, decide_eq_true_eq]; omega) ns
theorem sortP_uniq {ns ms : List (Int × Int)} (h : ms.Perm ns) (hs : ms.Pairwise fun a b => leP a b = true) : ms = sortP ns :=
  List.Perm.eq_of_pairwise (le := fun a b => leP a b = true) (fun a b _ _ h1 h2 => by
    simp only [leP, decide_eq_true_eq] at *
    exact Prod.ext (by omega) (by omega)) hs (sortP_sorted ns) (h.trans (sortP_perm ns).symm)
def pairOf : PyData → Option (Int × Int)
  | .tuple [.int i, .int j] => some (i, j)
  | _ => none
def pairsOf : List PyData → Option (List (Int × Int))
  | [] => some []
  | d :: r => (pairOf d).bind fun p => (pairsOf r).map fun l => p :: l
def pairD (p : Int × Int) : PyData := .tuple [.int p.1, .int p.2]
theorem pairOf_eq {d : PyData} {p : Int × Int} (h : pairOf d = some p) : d = pairD p := by
  unfold pairOf at h
  split at h
  · cases h; rfl
  · cases h
theorem pairsOf_eq : ∀ {ds : List PyData} {ns : List (Int × Int)}, pairsOf ds = some ns → ds = ns.map pairD
  | [], _, h => by cases h; rfl
  | d :: r, ns, h => by
    obtain ⟨p, e1, h⟩ := bind_some' h
    obtain ⟨l, e3, e4⟩ := map_some' h
    subst e4
    rw [pairsOf_eq e3, pairOf_eq e1]; rfl
theorem pairsOf_map : ∀ ns : List (Int × Int), pairsOf (ns.map pairD) = some ns
  | [] => rfl
  | i :: r => by
    show (pairOf (pairD i)).bind (fun p => (pairsOf (r.map pairD)).map fun l => p :: l) = _
    rw [pairsOf_map r]; rfl
def sortDI : PyData → Option (List PyData)
  | .list ds => (intsOf ds).map fun ns => (sortI ns).map .int
  | _ => none
def sortDP : PyData → Option (List PyData)
  | .list ds => (pairsOf ds).map fun ns => (sortP ns).map pairD
  | _ => none
section
variable {K : PySem.W.Frag}
theorem cbn_sortI : CBN K (rSortedI K) sortDI := fun d z q F H x fh rx Q k => by
  unfold sortDI at q
  split at q
  · obtain ⟨ns, e, q⟩ := map_some' q
    subst q
    obtain ⟨a, xs, rfl, h1, h2⟩ := rx.lst fh
    rw [intsOf_eq e] at h2
    rw [h2.ints] at h1
    refine ⟨a, ns, rfl, h1, fun ms p hp hs hn => ?_⟩
    rw [sortI_uniq hp hs]
    exact k p _ hn (ReA.of_ints _)
  · cases q
/-- the pair that a value is -/
theorem pair_of {F : Hp} : ∀ {vs : List V} {ps : List (Int × Int)}, ReA F vs (ps.map pairD) → ∀ v ∈ vs, ∃ p ∈ ps, Re F v (pairD p)
  | _, [], .nil, v, h => by cases h
  | _, p :: ps, .cons h t, v, hv => by
    rcases List.mem_cons.mp hv with rfl | hv
    · exact ⟨p, by simp, h⟩
    · obtain ⟨q, hq, r⟩ := pair_of t v hv
      exact ⟨q, by simp [hq], r⟩
open Classical in
/-- a key for each value -/
noncomputable def keyP (F : Hp) (v : V) : Int × Int := if h : ∃ p, Re F v (pairD p) then h.choose else (0, 0)
theorem keyP_eq {F : Hp} {v : V} {p : Int × Int} (h : Re F v (pairD p)) : keyP F v = p := by
  unfold keyP
  have hx : ∃ p, Re F v (pairD p) := ⟨p, h⟩
  rw [dif_pos hx]
  have h2 := hx.choose_spec
  generalize hx.choose = q at h2
  obtain ⟨p1, p2⟩ := p
  obtain ⟨q1, q2⟩ := q
  unfold pairD at h h2
  simp only at h h2
  cases h with
  | tup a1 a2 =>
    cases h2 with
    | tup b1 b2 =>
      rw [a1] at b1; cases b1
      cases a2 with
      | cons c1 c2 =>
        cases c2 with
        | cons c3 c4 =>
          cases b2 with
          | cons d1 d2 =>
            cases d2 with
            | cons d3 d4 =>
              cases c1; cases c3; cases c4
              cases d1; cases d3
              rfl
theorem map_key {F : Hp} : ∀ {vs : List V} {ps : List (Int × Int)}, ReA F vs (ps.map pairD) → vs.map (keyP F) = ps
  | _, [], .nil => rfl
  | _, p :: ps, .cons h t => by rw [List.map_cons, keyP_eq h, map_key t]
theorem re_of_keys {F : Hp} : ∀ {vs : List V}, (∀ v ∈ vs, Re F v (pairD (keyP F v))) → ReA F vs ((vs.map (keyP F)).map pairD)
  | [], _ => .nil
  | v :: vs, h => .cons (h v (by simp)) (re_of_keys fun u hu => h u (by simp [hu]))
theorem cbn_sortP : CBN K (rSortedPO K) sortDP := fun d z q F H x fh rx Q k => by
  unfold sortDP at q
  split at q
  · obtain ⟨ps, e, q⟩ := map_some' q
    subst q
    obtain ⟨a, xs, rfl, h1, h2⟩ := rx.lst fh
    rw [pairsOf_eq e] at h2
    have hk : ∀ v ∈ xs, Re F v (pairD (keyP F v)) := fun v hv => by
      obtain ⟨p, _, r⟩ := pair_of h2 v hv
      rw [keyP_eq r]; exact r
    refine ⟨a, xs, keyP F, rfl, h1, fun v hv => ?_, fun ys p hs hb hn => ?_⟩
    · have r := hk v hv
      cases r with
      | tup b1 b2 =>
        cases b2 with
        | cons c1 c2 =>
          cases c2 with
          | cons c3 c4 =>
            cases c1; cases c3; cases c4
            exact ⟨_, rfl, fh _ _ b1⟩
    · have hperm := hb.perm
      have hy : ∀ v ∈ ys, Re F v (pairD (keyP F v)) := fun v hv => hk v (hperm.subset hv)
      have e2 : ys.map (keyP F) = sortP ps := by
        refine sortP_uniq ?_ ?_
        · rw [← map_key h2]; exact hperm.map _
        · rw [List.pairwise_map]
          refine List.Pairwise.imp (fun {u v} h => ?_) hs
          have h : SrtO.lexB (keyP F v) (keyP F u) = false := h
          have h' := SrtO.lexB_no.mp h
          simp only [leP, decide_eq_true_eq]
          omega
      refine k p ys hn ?_
      rw [← e2]
      exact re_of_keys hy
  · cases q
end
end Dn
end
section
set_option Elab.async false
set_option linter.all false
set_option maxRecDepth 100000
set_option maxHeartbeats 2000000
namespace Dn
open PySem L2 PySem.Spec PyProof.Rows
/-! ### calls of built-ins -/
section
variable {X : Cx} {e eb : Expr} {te tb' : TE} {g gb : PG} {gm gmb : MG} {p p2 pos : Pos} {x : Str} {id : String} {r : List V → Hp → VK → Prop} {f : PyData → Option PyData} {f2 : PyData → PyData → Option PyData} {fl : PyData → Option (List PyData)}
theorem pa_1 (h : PE X e te) (hs : starEach (e :: []) X.env = (false, eval e X.env) :: starEach [] X.env := by rfl) : PA X [e] (tCons te tNil) := pa_cons h pa_nil hs
/-- a function of one argument that is read -/
theorem p_blt (hr : CallR X (.builtin id) r) (hc : CB1 X.K r f) (hv : bootBuiltins x = some (.builtin id)) (h : JR X e te g) (hm : X.mg x = none) (hg : Gl X x := by rfl) (hn : x ≠ "__name__" := by decide) (hdb : (x == ("__debug__" : Str)) = false := by decide)
    (hs : starEach (e :: []) X.env = (false, eval e X.env) :: starEach [] X.env := by rfl) (hpl : (backTo pos (starEach [] X.env)).any (·.1) = false := by rfl) : JP X (.Call (.Name x p) [e] [] pos) (tCB r (tCons te tNil)) (op1 f g) :=
  ⟨pe_callB hr hg hm hv (pa_1 h.pe hs) hn hdb hs hpl, ev_cb1 hc h.ev⟩
theorem m_blt (hr : CallR X (.builtin id) r) (hc : CB1 X.K r f) (hv : bootBuiltins x = some (.builtin id)) (h : JM X e te gm) (hm : X.mg x = none) (hg : Gl X x := by rfl) (hn : x ≠ "__name__" := by decide) (hdb : (x == ("__debug__" : Str)) = false := by decide)
    (hs : starEach (e :: []) X.env = (false, eval e X.env) :: starEach [] X.env := by rfl) (hpl : (backTo pos (starEach [] X.env)).any (·.1) = false := by rfl) : JM X (.Call (.Name x p) [e] [] pos) (tCB r (tCons te tNil)) (op1M f gm) :=
  ⟨pe_callB hr hg hm hv (pa_1 h.pe hs) hn hdb hs hpl, ev_cb1M hc h.ev⟩
theorem n_blt (hr : CallR X (.builtin id) r) (hc : CBN X.K r fl) (hv : bootBuiltins x = some (.builtin id)) (h : JR X e te g) (hm : X.mg x = none) (hg : Gl X x := by rfl) (hn : x ≠ "__name__" := by decide) (hdb : (x == ("__debug__" : Str)) = false := by decide)
    (hs : starEach (e :: []) X.env = (false, eval e X.env) :: starEach [] X.env := by rfl) (hpl : (backTo pos (starEach [] X.env)).any (·.1) = false := by rfl) : JN X (.Call (.Name x p) [e] [] pos) (tCB r (tCons te tNil)) (nw1 fl g) :=
  ⟨pe_callB hr hg hm hv (pa_1 h.pe hs) hn hdb hs hpl, ev_cbn hc h.ev⟩
theorem n_bltM (hr : CallR X (.builtin id) r) (hc : CBN X.K r fl) (hv : bootBuiltins x = some (.builtin id)) (h : JM X e te gm) (hm : X.mg x = none) (hg : Gl X x := by rfl) (hn : x ≠ "__name__" := by decide) (hdb : (x == ("__debug__" : Str)) = false := by decide)
    (hs : starEach (e :: []) X.env = (false, eval e X.env) :: starEach [] X.env := by rfl) (hpl : (backTo pos (starEach [] X.env)).any (·.1) = false := by rfl) : JN X (.Call (.Name x p) [e] [] pos) (tCB r (tCons te tNil)) (nw1M fl gm) :=
  ⟨pe_callB hr hg hm hv (pa_1 h.pe hs) hn hdb hs hpl, ev_cbnM hc h.ev⟩
/-- a built-in type of one argument -/
theorem p_ty (hr : CallR X (.type id) r) (hc : CB1 X.K r f) (hv : bootBuiltins x = some (.type id)) (h : JR X e te g) (hm : X.mg x = none) (hg : Gl X x := by rfl) (hn : x ≠ "__name__" := by decide) (hdb : (x == ("__debug__" : Str)) = false := by decide)
    (hs : starEach (e :: []) X.env = (false, eval e X.env) :: starEach [] X.env := by rfl) (hpl : (backTo pos (starEach [] X.env)).any (·.1) = false := by rfl) : JP X (.Call (.Name x p) [e] [] pos) (tCB r (tCons te tNil)) (op1 f g) :=
  ⟨pe_callTy hr hg hm hv (pa_1 h.pe hs) hn hdb hs hpl, ev_cb1 hc h.ev⟩
theorem m_ty (hr : CallR X (.type id) r) (hc : CB1 X.K r f) (hv : bootBuiltins x = some (.type id)) (h : JM X e te gm) (hm : X.mg x = none) (hg : Gl X x := by rfl) (hn : x ≠ "__name__" := by decide) (hdb : (x == ("__debug__" : Str)) = false := by decide)
    (hs : starEach (e :: []) X.env = (false, eval e X.env) :: starEach [] X.env := by rfl) (hpl : (backTo pos (starEach [] X.env)).any (·.1) = false := by rfl) : JM X (.Call (.Name x p) [e] [] pos) (tCB r (tCons te tNil)) (op1M f gm) :=
  ⟨pe_callTy hr hg hm hv (pa_1 h.pe hs) hn hdb hs hpl, ev_cb1M hc h.ev⟩
theorem n_ty (hr : CallR X (.type id) r) (hc : CBN X.K r fl) (hv : bootBuiltins x = some (.type id)) (h : JR X e te g) (hm : X.mg x = none) (hg : Gl X x := by rfl) (hn : x ≠ "__name__" := by decide) (hdb : (x == ("__debug__" : Str)) = false := by decide)
    (hs : starEach (e :: []) X.env = (false, eval e X.env) :: starEach [] X.env := by rfl) (hpl : (backTo pos (starEach [] X.env)).any (·.1) = false := by rfl) : JN X (.Call (.Name x p) [e] [] pos) (tCB r (tCons te tNil)) (nw1 fl g) :=
  ⟨pe_callTy hr hg hm hv (pa_1 h.pe hs) hn hdb hs hpl, ev_cbn hc h.ev⟩
theorem n_tyM (hr : CallR X (.type id) r) (hc : CBN X.K r fl) (hv : bootBuiltins x = some (.type id)) (h : JM X e te gm) (hm : X.mg x = none) (hg : Gl X x := by rfl) (hn : x ≠ "__name__" := by decide) (hdb : (x == ("__debug__" : Str)) = false := by decide)
    (hs : starEach (e :: []) X.env = (false, eval e X.env) :: starEach [] X.env := by rfl) (hpl : (backTo pos (starEach [] X.env)).any (·.1) = false := by rfl) : JN X (.Call (.Name x p) [e] [] pos) (tCB r (tCons te tNil)) (nw1M fl gm) :=
  ⟨pe_callTy hr hg hm hv (pa_1 h.pe hs) hn hdb hs hpl, ev_cbnM hc h.ev⟩
/-- min, max of two -/
theorem m_blt2 (hr : CallR X (.builtin id) r) (hc : CB2 X.K r f2) (hv : bootBuiltins x = some (.builtin id)) (h : JM X e te gm) (h' : JM X eb tb' gmb) (hm : X.mg x = none) (hg : Gl X x := by rfl) (hn : x ≠ "__name__" := by decide) (hdb : (x == ("__debug__" : Str)) = false := by decide)
    (hs : starEach (e :: [eb]) X.env = (false, eval e X.env) :: starEach [eb] X.env := by rfl) (hs2 : starEach (eb :: []) X.env = (false, eval eb X.env) :: starEach [] X.env := by rfl) (hpl : (backTo pos (starEach [eb] X.env)).any (·.1) = false := by rfl) : JM X (.Call (.Name x p) [e, eb] [] pos) (tCB r (tCons te (tCons tb' tNil))) (op2M f2 gm gmb) :=
  ⟨pe_callB hr hg hm hv (pa_cons h.pe (pa_1 h'.pe hs2) hs) hn hdb hs hpl, ev_cb2M hc h.ev h'.ev⟩
end
/-! ### isinstance -/
def tyN : PyData → Option String
  | .none => some "NoneType"
  | .bool _ => some "bool"
  | .int _ => some "int"
  | .str _ => some "str"
  | .list _ => some "list"
  | .tuple _ => some "tuple"
  | .dict _ => none
def isiD (T : String) (d : PyData) : Option PyData := (tyN d).bind fun a => (kitB a T).map .bool
theorem tyx_of {K : PySem.W.Frag} {F H : Hp} {v : V} {d : PyData} {a : String} (fh : Ex F H) (r : Re F v d) (h : tyN d = some a) : TyX K H v (.type a) := by
  cases r with
  | non => cases h; exact .base .non
  | bl b => cases h; exact .base (.bl b)
  | int i => cases h; exact .base (.int i)
  | str x => cases h; exact .base (.str x)
  | lst e _ => cases h; exact .base (.lst (fh _ _ e))
  | tup e _ => cases h; exact .base (.tup (fh _ _ e))
section
variable {X : Cx} {e : Expr} {te : TE} {g : PG} {p p2 pos : Pos} {x : Str} {T : String}
theorem p_isi (hv : bootBuiltins x = some (.type T)) (h : JP X e te g) (hm : X.mg "isinstance" = none) (hm2 : X.mg x = none) (hg : Gl X "isinstance" := by rfl) (hg2 : Gl X x := by rfl) (hn : x ≠ "__name__" := by decide) (hdb : (x == ("__debug__" : Str)) = false := by decide)
    (hs : starEach (e :: [.Name x p2]) X.env = (false, eval e X.env) :: starEach [.Name x p2] X.env := by rfl) (hs2 : starEach (.Name x p2 :: []) X.env = (false, eval (.Name x p2) X.env) :: starEach [] X.env := by rfl) (hpl : (backTo pos (starEach [.Name x p2] X.env)).any (·.1) = false := by rfl) :
    JP X (.Call (.Name "isinstance" p) [e, .Name x p2] [] pos) (tCB (rIsi X.K) (tCons te (tCons (tC (.ty T)) tNil))) (op1 (isiD T) g) :=
  ⟨pe_callB call_isi hg hm PyProof.Rows.boot_isinstance (pa_cons h.pe (pa_1 (pe_bltn hg2 hm2 hv rfl hn hdb) hs2) hs) (by decide) (by decide) hs hpl, fun ρ d q B σ F H o Q k => by
    obtain ⟨y, e1, q⟩ := bind_some' q
    obtain ⟨a, e2, q⟩ := bind_some' q
    obtain ⟨b, e3, q⟩ := map_some' q
    subst q
    refine h.ev ρ y e1 B σ F H o _ fun v rv => ?_
    exact ⟨v, .ty T, .type a, .type T, b, rfl, .ty T, tyx_of o.fh rv e2, kit_ty e3, k _ (.bl b)⟩⟩
end
/-! ### list(range(..)), join -/
def lrgN (g : MG) : AG := fun ρ => (g ρ).bind fun p => (intOf p.1).bind fun n => if -1000000 ≤ n ∧ n ≤ 1000000 then some (rangeD 0 n.toNat, p.2) else none
theorem rgV_re {F : Hp} (n : Int) : ReA F (rgV 0 n) (rangeD 0 n.toNat) := by
  have e : rgV 0 n = ((List.range n.toNat).map fun i => (0 : Int) + (i : Nat)).map V.int := by
    unfold rgV; rw [List.map_map, Int.sub_zero]; rfl
  have e2 : rangeD 0 n.toNat = ((List.range n.toNat).map fun i => (0 : Int) + (i : Nat)).map PyData.int := by
    unfold rangeD; rw [List.map_map]; rfl
  rw [e, e2]
  exact ReA.of_ints _
def joinD (d e : PyData) : Option PyData := match d, e with
  | .str a, .list ds => (strsOf ds).bind fun ys => if (ys.map (·.length)).sum + ys.length * a.length ≤ 16777216 then some (.str (Txt.join a ys)) else none
  | _, _ => none
section
variable {X : Cx} {e o : Expr} {te to : TE} {g go : PG} {gm : MG} {p p2 pos : Pos}
theorem n_lrg {pos2 : Pos} (hc : X.calm = true) (h : JM X e te gm) (hm : X.mg "list" = none) (hm2 : X.mg "range" = none) (hg : Gl X "list" := by rfl) (hg2 : Gl X "range" := by rfl) (hs : starEach [e] X.env = (false, eval e X.env) :: starEach [] X.env := by rfl)
    (hs2 : starEach [.Call (.Name "range" p2) [e] [] pos2] X.env = (false, eval (.Call (.Name "range" p2) [e] [] pos2) X.env) :: starEach [] X.env := by rfl) :
    JN X (.Call (.Name "list" p) [.Call (.Name "range" p2) [e] [] pos2] [] pos) (tLstRg (tRg1 te)) (lrgN gm) := ⟨pe_listRg hc hg hm (prg_1 hg2 hm2 h.pe hs) hs2, fun ρ ds ρ' q B σ F H ok Q k => by
  obtain ⟨y, e1, q⟩ := bind_some' q
  obtain ⟨n, e2, q⟩ := bind_some' q
  split at q
  · rename_i w; cases q
    refine h.ev ρ y.1 y.2 e1 B σ F H ok _ fun v F1 H1 o1 g1 rv => ?_
    rw [intOf_eq e2] at rv
    cases rv
    refine ⟨n, rfl, ⟨by omega, by omega, by omega, by omega, by omega⟩, fun l hl => ?_⟩
    exact k l _ F1 _ (o1.newH hl) g1 upd_same (o1.fh.back hl) (o1.bh.back hl) (o1.noOwn_new hl) (rgV_re n)
  · cases q⟩
/-- what join asks -/
def rJoin (K : PySem.W.Frag) (x : V) (xs : List V) (H : Hp) (Q : VK) : Prop := ∃ a p, ∃ ys : List Str, x = .str a ∧ xs = [.ref p] ∧ (SqL K H p (ys.map V.str) ∨ SqT K H p (ys.map V.str)) ∧ (ys.map (·.length)).sum + ys.length * a.length ≤ 16777216 ∧ Q (.str (Txt.join a ys)) H
theorem p_join {apos : Pos} (ho : JP X o to go) (h : JR X e te g) (hs : starEach [e] X.env = [(false, eval e X.env)] := by rfl) (hbase : attributeBase o "join" X.env (eval o X.env) = eval o X.env := by rfl) (hline : (apos.endLine == pos.line) = true := by rfl) :
    JP X (.Call (.Attribute o "join" apos) [e] [] pos) (tM1 (rJoin X.K) to te) (op2 joinD go g) :=
  ⟨pe_join (apos := apos) (pos := pos) ho.pe h.pe hs hbase hline, fun ρ d q B σ F H ok Q k => by
    obtain ⟨a, y, e1, e2, e3⟩ := op2_some q
    unfold joinD at e3
    split at e3
    · obtain ⟨ys, e4, e5⟩ := bind_some' e3
      split at e5
      · rename_i w; cases e5
        refine ho.ev ρ _ e1 B σ F H ok _ fun v rv => ?_
        cases rv
        refine ⟨⟨_, rfl⟩, h.ev ρ _ e2 B σ F H ok _ fun u ru => ?_⟩
        obtain ⟨p, xs, rfl, h1, h2⟩ := ru.lst ok.fh
        rw [strsOf_eq e4] at h2
        rw [h2.strs] at h1
        exact ⟨_, p, ys, rfl, rfl, .inl h1, w, k _ (.str _)⟩
      · cases e5
    · cases e3⟩
end
end Dn
end
section
set_option Elab.async false
set_option linter.all false
set_option maxRecDepth 100000
set_option maxHeartbeats 2000000
namespace Dn
open PySem L2 PySem.Spec PyProof.Rows
/-! ### sorted(d), d a dict of ours with few keys, all ints -/
def ikeys : List (Key × PyData) → Option (List Int)
  | [] => some []
  | (.inl i, _) :: r => (ikeys r).map fun l => i :: l
  | _ :: _ => none
theorem ikeys_eq : ∀ {kvs : List (Key × PyData)} {ns : List Int}, ikeys kvs = some ns → kvs.map (·.1) = ns.map Sum.inl
  | [], _, h => by cases h; rfl
  | (.inl i, v) :: r, ns, h => by
    obtain ⟨l, e3, e4⟩ := map_some' h
    subst e4
    rw [List.map_cons, List.map_cons, ikeys_eq e3]
  | (.inr _, _) :: _, _, h => by cases h
def sortDN (i : Nat) : AG := fun ρ => (odAt ρ i).bind fun kvs => (ikeys kvs).bind fun ks => if ks.length < 64 then some ((sortI ks).map .int, ρ) else none
def rSrtD : List V → Hp → VK → Prop := fun xs H Q => ∃ (a : Addr) (kvs : List (Key × V)) (ks : List Int), xs = [.ref a] ∧ Rd H a (.dK kvs) ∧ kvs.map (·.1) = ks.map Sum.inl ∧ ks.length < 64 ∧
  ∀ (ys : List Int) (p : Addr), ys.Perm ks → ys.Pairwise (· ≤ ·) → H p = none → Q (.ref p) (upd H p (.lst (ys.map V.int)))
theorem n_sortD {X : Cx} {y : Str} {p yp pos : Pos} (i : Nat) (hc : X.calm = true) (hm : X.mg "sorted" = none) (hN : X.N[i]? = some y := by rfl) (hv : Vis X.env.scope y := by first | exact Or.inl rfl | exact Or.inr (Or.inl rfl) | exact Or.inr (Or.inr rfl)) (hg : Gl X "sorted" := by rfl)
    (hdy : (y == ("__debug__" : Str)) = false := by decide) (hcy : (y == ("__classdict__" : Str)) = false := by decide) (hs : starEach (.Name y yp :: []) X.env = (false, eval (.Name y yp) X.env) :: starEach [] X.env := by rfl) (hpl : (backTo pos (starEach [] X.env)).any (·.1) = false := by rfl) :
    JN X (.Call (.Name "sorted" p) [.Name y yp] [] pos) (tCB rSrtD (tCons (tVar i) tNil)) (sortDN i) :=
  ⟨pe_callB (call_sortedDI hc) hg hm PyProof.Rows.boot_sorted (pa_1 (pe_var hN hv hdy hcy) hs) (by decide) (by decide) hs hpl, fun ρ ds ρ' q B σ F H o Q k => by
    obtain ⟨kvs, e1, q⟩ := bind_some' q
    obtain ⟨ns, e2, q⟩ := bind_some' q
    split at q
    · rename_i w; cases q
      obtain ⟨v, es, a, ks, rfl, hp, hf, hb, ra⟩ := o.sl i _ (odAt_some e1)
      refine ⟨_, es, a, ks, ns, rfl, .inl hp, ra.keys.trans (ikeys_eq e2), w, fun ys l hy hsr hl => ?_⟩
      rw [sortI_uniq hy hsr]
      exact k l _ F _ (o.newH hl) Gr.rfl' upd_same (o.fh.back hl) (o.bh.back hl) (o.noOwn_new hl) (ReA.of_ints _)
    · cases q⟩
/-! ### a text times an int -/
def rMulS : R2 := fun x y H Q => ∃ z n, x = .str z ∧ y = .int n ∧ z.length ≤ 1000 ∧ 0 ≤ n ∧ n ≤ 1000 ∧ Q (.str (Txt.mul z n)) H
theorem op_mulS {X : Cx} : OpR X (binaryOp .Mult) rMulS := by
  intro pins s σ H x y v u Q I rx ry h
  obtain ⟨z, n, rfl, rfl, h1, h2, h3, q⟩ := h
  obtain ⟨t, rfl⟩ := rx
  obtain ⟨t', rfl⟩ := ry
  exact SB.mul (PyProof.Rows.mulOk_of 1000 1000 h1 (by omega) (by omega) (by decide) (by decide)) fun t2 k => ⟨.str (Txt.mul z n), H, I.tok k, ⟨t2, rfl⟩, q⟩
def mulS (d e : PyData) : Option PyData := match d, e with
  | .str z, .int n => if z.length ≤ 1000 ∧ 0 ≤ n ∧ n ≤ 1000 then some (.str (Txt.mul z n)) else none
  | _, _ => none
theorem opd_mulS {K : PySem.W.Frag} : OpD K rMulS mulS := fun d e z q F H x y _ rx ry Q k => by
  unfold mulS at q
  split at q
  · split at q
    · rename_i w; cases q; cases rx; cases ry
      exact ⟨_, _, rfl, rfl, w.1, w.2.1, w.2.2, k _ fun _ => .str _⟩
    · cases q
  · cases q
/-! ### list of a text -/
def signV (z : Str) : List V := z.cps.toList.map fun c => V.str ⟨#[c]⟩
theorem signV_len (z : Str) : (signV z).length = z.cps.size := by unfold signV; rw [List.length_map, Array.length_toList]
theorem signs_re {F : Hp} (z : Str) : ReA F (signV z) (signsD z) := by
  have e : signV z = (z.cps.toList.map fun c => (⟨#[c]⟩ : Str)).map V.str := by unfold signV; rw [List.map_map]; rfl
  have e2 : signsD z = (z.cps.toList.map fun c => (⟨#[c]⟩ : Str)).map PyData.str := by unfold signsD; rw [List.map_map]; rfl
  rw [e, e2]
  exact ReA.of_strs _
def rLstS : List V → Hp → VK → Prop := fun xs H Q => ∃ z : Str, xs = [.str z] ∧ z.length ≤ 1000000 ∧ ∀ l, H l = none → Q (.ref l) (upd H l (.lst (signV z)))
theorem call_listS {X : Cx} (hc : X.calm = true) : CallR X (.type "list") rLstS := by
  intro pins s σ H xs us Q I r h
  obtain ⟨z, rfl, hz, q⟩ := h
  obtain ⟨u, rfl, t, rfl⟩ := vals1 r
  have hz' : z.cps.size ≤ sizeLine := big_line hz
  refine call_list_str (I.ok.hd hc) z t (fun h' tk acc c kp hS hi => ?_) hz'
  have hvals : Vals (signV z) acc.toList := by
    refine vals_of_at (by rw [signV_len, Array.length_toList, hi.1]) fun j x u e1 e2 => ?_
    obtain ⟨cp, t', hcp, rfl⟩ := hi.2 j u (by rw [← e2, Array.getElem?_toList])
    unfold signV at e1
    rw [List.getElem?_map, Array.getElem?_toList, hcp] at e1
    cases e1
    exact ⟨t', rfl⟩
  refine ⟨.ref s.heap.objs.size, _, I.laid (t' := tk) kp (Nat.le_refl _) (show ObjOk X.prog X.w _ h' _ (.lst (signV z)) from ⟨by rw [signV_len]; exact hz', acc.toList, c, hvals, ?_⟩), rfl, q _ (I.hok.fresh (Nat.le_refl _))⟩
  rw [Array.toArray_toList]; exact hS
def listSD : PyData → Option (List PyData)
  | .str z => if z.length ≤ 1000000 then some (signsD z) else none
  | _ => none
theorem cbn_listS {K : PySem.W.Frag} : CBN K rLstS listSD := fun d z q F H x fh rx Q k => by
  unfold listSD at q
  split at q
  · split at q
    · rename_i w; cases q
      cases rx.re (by simp)
      exact ⟨_, rfl, w, fun l hl => k l _ hl (signs_re _)⟩
    · cases q
  · cases q
/-! ### enumerate of a text -/
def Itse (x : Str) : It := ⟨fun i _ => i < x.cps.size, fun i H v H' => ∃ T c, v = .ref T ∧ H T = none ∧ H' = upd H T (.tup [.int (i : Nat), .str ⟨#[c]⟩]) ∧ x.cps[i]? = some c, fun i _ => i = x.cps.size⟩
theorem draws_str {P : Program} {w : World} {A : Around} (hh : A.handled = none) (it : Addr) (x : Str) (t : Tok) : Draws P w A it [it] x.cps.size (SignAt x) (fun i h => h.IsStrIter it (strIterType x) x t i) := by
  unfold strIterType
  split
  · exact Draws.strAscii hh it x t
  · exact Draws.strWide hh it x t
theorem turn_enumS {P : Program} {w : World} {K : PySem.W.Frag} {elts : List Expr} {kk : Nat} {tpos : Pos} (x : Str) (t : Tok) (e it : Addr) :
    Turn P w K (.Tuple elts kk tpos) (Itse x) [e, it] e (fun i h => (∃ old, IsEnum h e it ((i : Nat) : Int) old) ∧ h.IsStrIter it (strIterType x) x t i ∧ e ≠ it) := by
  refine ⟨List.mem_cons_self, ?_, ?_, ?_, ?_, ?_⟩
  · rintro i h ⟨⟨old, he⟩, ⟨o, ho, hc, hd⟩, _⟩ b hb
    rcases List.mem_cons.mp hb with z | z
    · exact ⟨_, z ▸ he, fun v q => by cases q⟩
    · rw [List.mem_singleton.mp z]; exact ⟨o, ho, fun v q => by rw [hd] at q; cases q⟩
  · rintro i h h' ⟨⟨old, he⟩, ⟨o, ho, r⟩, ne⟩ k
    exact ⟨⟨old, k e List.mem_cons_self _ he⟩, ⟨o, k it (List.mem_cons_of_mem _ List.mem_cons_self) o ho, r⟩, ne⟩
  · rintro X rfl rfl rfl hc i pins s σ H E I hf ⟨⟨old, he⟩, hit, ne⟩ hlt
    have le : e < s.heap.objs.size := Heap.lt_size he
    have li : it < s.heap.objs.size := by obtain ⟨_, q, _⟩ := hit; exact Heap.lt_size q
    have D : Draws X.prog X.w X.A.in1 it [it] x.cps.size (SignAt x) (fun i h => h.IsStrIter it (strIterType x) x t i) := draws_str (by simp [I.ok.hd hc]) it x t
    refine wpAny_pyNext_enum_itemD D he hit hlt ne (fun z => ne (List.mem_singleton.mp z)) fun v h1 tk hv ho hit1 hT hsz hk => ?_
    obtain ⟨c, u, hcp, rfl⟩ := hv
    refine ⟨_, rfl, wpAny_letOwnedTupleGo_enum (s := { s with heap := h1, toks := tk + 1 }) ho fun h2 he2 sb => ?_⟩
    have hn : H s.heap.objs.size = none := I.hok.fresh (Nat.le_refl _)
    have hT2 := (sb.2 _ (Nat.ne_of_gt le)).trans hT
    have J : Inv X pins σ (upd H s.heap.objs.size (.tup [.int (i : Nat), .str ⟨#[c]⟩])) { s with heap := h2, toks := tk + 1 } :=
      I.turnedNew (ch := [e, it]) (fun b ob hb q => (sb.2 b (fun z => hb (z ▸ List.mem_cons_self))).trans (hk b ob (fun z => hb (z ▸ List.mem_cons_self)) (fun z => hb (z ▸ List.mem_cons_of_mem _ List.mem_cons_self)) q)) hf (Nat.le_refl _)
        ⟨by show 2 ≤ sizeLine; decide, [.int i tk, .str ⟨#[c]⟩ u], .cons ⟨_, rfl⟩ (.cons ⟨_, rfl⟩ .nil), ⟨_, hT2, rfl, _, rfl⟩⟩
    refine ⟨.ref s.heap.objs.size, _, J, rfl, ⟨_, c, rfl, hn, rfl, hcp⟩, ⟨⟨_, by rw [show ((i + 1 : Nat) : Int) = (i : Int) + 1 by omega]; exact he2⟩, ?_, ne⟩, fun b hb => ?_⟩
    · obtain ⟨o, q, r⟩ := hit1
      exact ⟨o, (sb.2 it (Ne.symm ne)).trans q, r⟩
    · have lb : b < s.heap.objs.size := by
        rcases List.mem_cons.mp hb with z | z
        · rw [z]; exact le
        · rw [List.mem_singleton.mp z]; exact li
      rw [upd_ne (Nat.ne_of_lt lb)]
      exact (hf b hb).1
  · rintro X rfl rfl rfl hc i pins s σ H E I hf ⟨⟨old, he⟩, hit, ne⟩ hge
    have hh : X.A.in1.handled = none := by simp [I.ok.hd hc]
    have hge : i = x.cps.size := hge
    subst hge
    have D : Draws X.prog X.w X.A.in1 it [it] x.cps.size (SignAt x) (fun i h => h.IsStrIter it (strIterType x) x t i) := draws_str hh it x t
    obtain ⟨f0, f1, f2, f3, f4, f5⟩ := hf it (List.mem_cons_of_mem _ List.mem_cons_self)
    exact wpAny_pyNext_enum_endD D he hit fun h' eb => ⟨rfl, I.turned (t' := s.toks) (fun b o hb q => eb b o hb q) f0 f1 f3 f4 f5⟩
  · rintro A i s Q E ⟨⟨_, he⟩, _⟩ h
    exact wpAny_pyIter_enum he h
theorem walk_enumS {z : Str} : Walk (Itse z) z.cps.size (fun _ => True) (fun i H v H' => ∃ T c, v = .ref T ∧ H T = none ∧ H' = upd H T (.tup [.int (i : Nat), .str ⟨#[c]⟩]) ∧ z.cps[i]? = some c) :=
  ⟨fun _ _ hi _ => hi, fun _ _ => rfl, fun _ _ _ _ _ _ y => y⟩
def iEnumS (te : TE) : TI := fun σ H R => te σ H fun v H1 => ∃ x, v = .str x ∧ R (Itse x) H1
theorem pi_enumS {X : Cx} {e : Expr} {te : TE} {p pos tpos : Pos} {elts : List Expr} {kk : Nat} (hg : Gl X "enumerate") (hm : X.mg "enumerate" = none) (he : PE X e te) (hs : starEach [e] X.env = (false, eval e X.env) :: starEach [] X.env := by rfl) :
    PI X (.Tuple elts kk tpos) (.Call (.Name "enumerate" p) [e] [] pos) (iEnumS te) := by
  refine ⟨fun pins s σ H R I h => ?_⟩
  refine Call_ (ld_blt I hg hm PyProof.Rows.boot_enumerate (PyProof.Rows.callWith_type1 (one_arg he I h (fun v s1 y H1 I1 r q => ?_) hs) hs rfl))
  obtain ⟨x, rfl, q⟩ := q
  obtain ⟨t, rfl⟩ := r
  refine call_enumerate_str fun h' ie is hz hk => wpAny_pyIter_enum ie ?_
  refine ⟨s1.heap.objs.size + 1, [s1.heap.objs.size + 1, s1.heap.objs.size], _, _, H1, rfl, I1.kept (t' := s1.toks) hk, turn_enumS x t _ _, ⟨⟨_, ie⟩, is, Nat.succ_ne_self _⟩, fun b hb => ?_, q⟩
  have hle : s1.heap.objs.size ≤ b := by
    rcases List.mem_cons.mp hb with z | z
    · rw [z]; exact Nat.le_succ _
    · rw [List.mem_singleton.mp z]; exact Nat.le_refl _
  exact I1.fpOk hle (I1.hok.fresh hle)
def enumSI (g : PG) : AG := fun ρ => (g ρ).bind fun d => match d with
  | .str z => some (enumFrom 0 (signsD z), ρ)
  | _ => none
theorem i_enumS {X : Cx} {e : Expr} {te : TE} {g : PG} {p pos tpos : Pos} {elts : List Expr} {kk : Nat} (h : JP X e te g) (hm : X.mg "enumerate" = none) (hg : Gl X "enumerate" := by rfl) (hs : starEach [e] X.env = (false, eval e X.env) :: starEach [] X.env := by rfl) :
    JI X (.Tuple elts kk tpos) (.Call (.Name "enumerate" p) [e] [] pos) (iEnumS te) (enumSI g) := ⟨pi_enumS hg hm h.pe hs, fun ρ ds ρ' q B σ F H o R k => by
  obtain ⟨y, e1, q⟩ := bind_some' q
  cases y <;> try cases q
  rename_i z
  refine h.ev ρ _ e1 B σ F H o _ fun v rv => ?_
  cases rv
  refine ⟨z, rfl, k _ F H o Gr.rfl' ⟨_, _, by rw [enumFrom_len, show (signsD z).length = z.cps.size by simp [signsD]]; exact walk_enumS, fun _ _ => trivial, fun i H x H' F hi e1 e2 y => .inr ?_⟩⟩
  obtain ⟨T, c, rfl, nT, rfl, hc⟩ := y
  refine ⟨T, _, .tuple [.int (i : Nat), .str ⟨#[c]⟩], nT, rfl, ?_, .tup upd_same (.cons (.int _) (.cons (.str _) .nil))⟩
  rw [enumFrom_get, show (signsD z)[i]? = some (.str ⟨#[c]⟩) by unfold signsD; rw [List.getElem?_map, Array.getElem?_toList, hc]; rfl, Nat.zero_add]
  all_goals rfl⟩
end Dn
end
section
set_option Elab.async false
set_option linter.all false
set_option maxRecDepth 100000
set_option maxHeartbeats 4000000
namespace Dn
open PySem L2 PySem.Spec PyProof.Rows
/-! ### set of a list of ints -/
section
variable {P : Program} {w : World} {A : Around} {E : Value → Shared → Prop} {s : Shared}
/-- the empty set's object -/
abbrev setE (w : World) : Obj := { cls := .type "set", dict := none, data := .set #[] 0 (.fresh 0 0 (!w.params.followText "set-order")) }
/-- what the list's ints leave in the new set -/
def Filled (w : World) (s : Shared) (ns : List Int) (s' : Shared) : Prop := ∃ (h : Heap) (tk c : Nat), s' = { s with heap := h, toks := tk } ∧ c ≤ ns.length ∧ SetR w h s.heap.objs.size (fun j => decide (j ∈ ns)) c ∧ ∀ b o, s.heap.get? b = some o → h.get? b = some o
theorem set_init_lst {l : Addr} {its : Array Value} {ns : List Int} {R : PySem.Fin → Shared → Prop} (hh : A.handled = none) (hl : s.heap.IsList l its) (hi : IntsAre its.toList ns) (room : ns.length + 1 < scanBound)
    (k : ∀ s', Filled w s ns s' → R (.done (.ret .none)) s') :
    wpAny (model P w) A (Builtin.«set.__init__» ⟨[.ref s.heap.objs.size, .ref l], []⟩) R E { s with heap := s.heap.push (setE w) } := by
  have n1 : its.size = ns.length := by have q := IntsAre.length hi; rw [Array.length_toList] at q; exact q
  have at0 : (s.heap.push (setE w)).get? s.heap.objs.size = some (setE w) := Heap.get?_push_size _ rfl
  have ll : l < s.heap.objs.size := by obtain ⟨_, q, _⟩ := hl; exact Heap.lt_size q
  have size1 : (s.heap.push (setE w)).objs.size = s.heap.objs.size + 1 := Heap.size_push ..
  have isL : (s.heap.push (setE w)).IsList l its := hl.push _
  have isS : Shared.TypeIs { s with heap := s.heap.push (setE w) } (.ref s.heap.objs.size) "set" := ⟨_, at0, rfl⟩
  obtain ⟨⟨c0, d0, dt0, sl0⟩, q0, q1, m0, q2⟩ := hl
  simp only at q1 q2
  subst q1 q2
  have q0' := Heap.get?_push_of_some (setE w) q0
  have a1 := F.sub_list_set
  have a2 := F.sub_list_frozenset
  have a3 : (Value.type "list" == Value.type "dict") = false := by decide
  unfold Builtin.«set.__init__» noKeywords Builtin.Frozenset.updateFrom
  generalize e : pyIter = it
  wp_walk
  subst e
  refine wpAny_pyIter_list isL (wpAny_bind (wpAny_runValue ?_))
  have apart : l ≠ (s.heap.push (setE w)).objs.size := by rw [size1]; exact Nat.ne_of_lt (Nat.lt_succ_of_lt ll)
  have out : s.heap.objs.size ∉ [(s.heap.push (setE w)).objs.size, l] := fun z => by
    rcases List.mem_cons.mp z with z | z
    · rw [size1] at z; exact Nat.ne_of_lt (Nat.lt_succ_self _) z
    · exact Nat.ne_of_gt ll (List.mem_singleton.mp z)
  refine set_update_ints ((Walks.list (by simp [hh]) _ l apart its).toS) _ out ns n1 room (fun i v hv => ?_) _ 0 _ rfl (Nat.zero_le _) ⟨⟨_, Heap.get?_push_size _ rfl, rfl, rfl⟩, isL.push _⟩ ⟨0, Nat.le_refl 0, setR_new_at (Heap.get?_push_of_some _ at0)⟩ fun s' c mv hc hS => ?_
  · have lt : i < ns.length := by rw [← n1]; exact (Array.getElem?_eq_some_iff.mp hv).1
    obtain ⟨t, z⟩ := PyProof.Rows.IntsAre.int_at hi i v (by rw [Array.getElem?_toList]; exact hv)
    refine ⟨ns[i], t, List.getElem?_eq_getElem lt, ?_⟩
    rw [z, List.getD_eq_getElem?_getD, List.getElem?_eq_getElem lt] <;> rfl
  · obtain ⟨h2, g2, d2, t2, o2⟩ := s'
    obtain rfl : g2 = s.gens := mv.gens
    obtain rfl : d2 = s.drawn := mv.drawn
    obtain rfl : o2 = s.os := mv.os
    show wpAny _ _ _ _ _ _
    refine wpAny_pure ?_
    show wpAny _ _ (ret Value.none) _ _ _
    refine wpAny_pure (k _ ⟨h2, t2, c, rfl, by rw [← n1]; exact hc, hS, fun b o q => ?_⟩)
    have lb := Heap.lt_size q
    refine mv.heap b o (fun z => ?_) (Heap.get?_push_of_some _ (Heap.get?_push_of_some _ q))
    rcases List.mem_cons.mp z with z | z
    · exact Nat.ne_of_lt lb z
    · rcases List.mem_cons.mp z with z | z
      · rw [size1] at z; exact Nat.ne_of_lt (Nat.lt_succ_of_lt lb) z
      · cases z
/-- set(l) -/
theorem call_set_lst {l : Addr} {its : Array Value} {ns : List Int} {Q : Value → Shared → Prop} (hh : A.handled = none) (hl : s.heap.IsList l its) (hi : IntsAre its.toList ns) (room : ns.length + 1 < scanBound)
    (k : ∀ s', Filled w s ns s' → Q (.ref s.heap.objs.size) s') : wpAny (model P w) A (call (.type "set") [.ref l]) Q E s := by
  obtain ⟨c0, tl0, mro0⟩ := F.called_set.mro
  have b1 := F.called_set.made
  have b2 := F.called_set.sub
  have b3 := F.called_set.notType
  have b4 := F.called_set.canCreate
  have b5 := F.typeCall_set_1 (.ref l)
  have b6 := F.called_set.init.lookup
  have b7 := F.called_set.init.bind (.ref s.heap.objs.size)
  refine wpAny_call (codeAny_of_tree ?_)
  show wpAny _ _ (callAny (.type "set") _) _ _ _
  refine wpAny_pure ⟨Code.quiet_builtin _ (by decide +kernel), codeAny_builtin F.entry_type_call ?_⟩
  rw [Around.under_plain (weight_type_call_type "set" [.ref l] []) rfl]
  repeat (any_goals (first | assumption | wp_step))
  have at0 : (s.heap.push (setE w)).get? s.heap.objs.size = some (setE w) := Heap.get?_push_size _ rfl
  have isS : Shared.TypeIs { s with heap := s.heap.push (setE w) } (.ref s.heap.objs.size) "set" := ⟨_, at0, rfl⟩
  refine codeAny_mono (code_set_led1 (.ref l) (E := E) (Q₁ := fun y s1 => y = .ref s.heap.objs.size ∧ s1 = { s with heap := s.heap.push (setE w) }) ⟨rfl, rfl⟩) fun out s1 h1 => ?_
  rcases out with x | f
  · exact h1
  · cases f <;> try exact h1.elim
    obtain ⟨rfl, rfl⟩ := h1
    repeat (any_goals (first | assumption | wp_step))
    refine codeAny_mono (codeAny_call_builtin (R := wants (fun y s2 => y = .none ∧ Filled w s ns s2) E) F.called_set.init.plain F.entry_set_init (check_set_init_1 isS ?_)) fun out2 s2 h2 => ?_
    · exact set_init_lst (by simp [hh]) hl hi room fun s' f => ⟨rfl, f⟩
    · rcases out2 with x | f
      · exact h2
      · cases f <;> try exact h2.elim
        obtain ⟨rfl, h2⟩ := h2
        have k := k _ h2
        obtain ⟨h3, tk3, c3, rfl, _⟩ := h2
        repeat (any_goals (first | assumption | wp_step))
end
end Dn
end
section
set_option Elab.async false
set_option linter.all false
set_option maxRecDepth 100000
set_option maxHeartbeats 4000000
namespace Dn
open PySem L2 PySem.Spec PyProof.Rows
/-! ### the members of a set of ints, in order -/
def dedup : List Int → List Int
  | [] => []
  | x :: xs => if x ∈ dedup xs then dedup xs else x :: dedup xs
theorem dedup_mem {k : Int} : ∀ {xs : List Int}, k ∈ dedup xs ↔ k ∈ xs
  | [] => Iff.rfl
  | x :: xs => by
    unfold dedup
    have ih := dedup_mem (k := k) (xs := xs)
    by_cases h : x ∈ dedup xs
    · rw [if_pos h, ih, List.mem_cons]
      constructor
      · exact Or.inr
      · rintro (rfl | h')
        · exact dedup_mem.mp h
        · exact h'
    · rw [if_neg h, List.mem_cons, List.mem_cons, ih]
theorem dedup_nodup : ∀ xs : List Int, (dedup xs).Nodup
  | [] => List.nodup_nil
  | x :: xs => by
    unfold dedup
    by_cases h : x ∈ dedup xs
    · rw [if_pos h]; exact dedup_nodup xs
    · rw [if_neg h]; exact List.nodup_cons.mpr ⟨h, dedup_nodup xs⟩
theorem dedup_len : ∀ xs : List Int, (dedup xs).length ≤ xs.length
  | [] => Nat.le_refl _
  | x :: xs => by
    unfold dedup
    have := dedup_len xs
    split
    · exact Nat.le_succ_of_le this
    · exact Nat.succ_le_succ this
def setI (ns : List Int) : List Int := sortI (dedup ns)
theorem setI_mem {ns : List Int} {k : Int} : k ∈ setI ns ↔ k ∈ ns := ((sortI_perm _).mem_iff).trans dedup_mem
theorem setI_strict (ns : List Int) : (setI ns).Pairwise (· < ·) := by
  have h1 := sortI_sorted (dedup ns)
  have h2 : (setI ns).Nodup := (sortI_perm _).nodup_iff.mpr (dedup_nodup ns)
  refine (h1.and h2).imp fun {a b} h => ?_
  have := h.1
  have := h.2
  omega
theorem strict_ext : ∀ {l m : List Int}, l.Pairwise (· < ·) → m.Pairwise (· < ·) → (∀ k, k ∈ l ↔ k ∈ m) → l = m
  | [], [], _, _, _ => rfl
  | [], b :: m, _, _, h => by have := (h b).mpr (by simp); cases this
  | a :: l, [], _, _, h => by have := (h a).mp (by simp); cases this
  | a :: l, b :: m, h1, h2, h => by
    rw [List.pairwise_cons] at h1 h2
    have e : a = b := by
      have ha := (h a).mp (by simp)
      have hb := (h b).mpr (by simp)
      rcases List.mem_cons.mp ha with z | z
      · exact z
      · rcases List.mem_cons.mp hb with y | y
        · exact y.symm
        · have := h2.1 a z
          have := h1.1 b y
          omega
    subst e
    congr 1
    refine strict_ext h1.2 h2.2 fun k => ⟨fun hk => ?_, fun hk => ?_⟩
    · have := h1.1 k hk
      rcases List.mem_cons.mp ((h k).mp (by simp [hk])) with z | z
      · omega
      · exact z
    · have := h2.1 k hk
      rcases List.mem_cons.mp ((h k).mpr (by simp [hk])) with z | z
      · omega
      · exact z
theorem setI_uniq {ns ms : List Int} (h1 : ms.Pairwise (· < ·)) (h2 : ∀ k, k ∈ ms ↔ k ∈ ns) : ms = setI ns :=
  strict_ext h1 (setI_strict ns) fun k => (h2 k).trans setI_mem.symm
/-! ### sorted(set(list)) -/
def rSetL (K : PySem.W.Frag) (w : World) : List V → Hp → VK → Prop := fun xs H Q => ∃ (a : Addr) (ns : List Int), xs = [.ref a] ∧ SqL K H a (ns.map V.int) ∧ ns.length ≤ 1000 ∧
  ∀ p c, H p = none → c ≤ ns.length → Q (.ref p) (upd H p (SetO w p (fun j => decide (j ∈ ns)) c))
theorem call_setL {X : Cx} (hc : X.calm = true) : CallR X (.type "set") (rSetL X.K X.w) := by
  intro pins s σ H xs us Q I r h
  obtain ⟨a, ns, rfl, hq, hn, q⟩ := h
  obtain ⟨u, rfl, rx⟩ := vals1 r
  cases rx
  obtain ⟨its, rv, pl, hz⟩ := I.list hq
  have room : ns.length + 1 < scanBound := by unfold scanBound; omega
  refine call_set_lst (I.ok.hd hc) pl.isList (ints_of_vals rv) room fun s' f => ?_
  obtain ⟨h', tk, c, rfl, hc', R, kp⟩ := f
  exact ⟨.ref s.heap.objs.size, _, I.laid (t' := tk) kp (Nat.le_refl _) (setO_new R), rfl, q _ c (I.hok.fresh (Nat.le_refl _)) hc'⟩
def ssetN (g : MG) : AG := fun ρ => (g ρ).bind fun p => (cutN.listOf p.1).bind fun ds => (intsOf ds).bind fun ns => if ns.length < 64 then some ((setI ns).map .int, p.2) else none
section
variable {X : Cx} {e : Expr} {te : TE} {g : MG} {p p2 pos : Pos}
theorem n_sset {pos2 : Pos} (hc : X.calm = true) (h : JM X e te g) (hm : X.mg "sorted" = none) (hm2 : X.mg "set" = none) (hg : Gl X "sorted" := by rfl) (hg2 : Gl X "set" := by rfl)
    (hs2 : starEach (e :: []) X.env = (false, eval e X.env) :: starEach [] X.env := by rfl) (hpl2 : (backTo pos2 (starEach [] X.env)).any (·.1) = false := by rfl)
    (hs : starEach (.Call (.Name "set" p2) [e] [] pos2 :: []) X.env = (false, eval (.Call (.Name "set" p2) [e] [] pos2) X.env) :: starEach [] X.env := by rfl) (hpl : (backTo pos (starEach [] X.env)).any (·.1) = false := by rfl) :
    JN X (.Call (.Name "sorted" p) [.Call (.Name "set" p2) [e] [] pos2] [] pos) (tCB (rSortedSet X.w) (tCons (tCB (rSetL X.K X.w) (tCons te tNil)) tNil)) (ssetN g) :=
  ⟨pe_callB (cr_sortedSet hc) hg hm PyProof.Rows.boot_sorted (pa_1 (pe_callTy (call_setL hc) hg2 hm2 PyProof.Rows.boot_set (pa_1 h.pe hs2) (by decide) (by decide) hs2 hpl2) hs) (by decide) (by decide) hs hpl, fun ρ zs ρ' q B σ F H o Q k => by
    obtain ⟨y, e1, q⟩ := bind_some' q
    obtain ⟨ds, e2, q⟩ := bind_some' q
    obtain ⟨ns, e3, q⟩ := bind_some' q
    split at q
    · rename_i w; cases q
      refine h.ev ρ y.1 y.2 e1 B σ F H o _ fun v F1 H1 o1 g1 rv => ?_
      rw [listOf_eq e2] at rv
      cases rv with
      | lst h1 h2 =>
        rw [intsOf_eq e3] at h2
        rw [h2.ints] at h1
        refine ⟨_, ns, rfl, SqL.of (o1.fh _ _ h1), by omega, fun l c hl hc' => ?_⟩
        refine ⟨l, _, c, rfl, upd_same, by omega, fun ms l2 a1 a2 a3 hl2 => ?_⟩
        have o2 := o1.newH (u := SetO X.w l (fun j => decide (j ∈ ns)) c) hl
        have em : ms = setI ns := setI_uniq a1 fun k => (a2 k).trans (by simp)
        rw [em]
        exact k l2 _ F1 _ (o2.newH hl2) g1 upd_same (o2.fh.back hl2) (o2.bh.back hl2) (o2.noOwn_new hl2) (ReA.of_ints _)
    · cases q⟩
end
end Dn
end
section
set_option Elab.async false
set_option linter.all false
set_option maxRecDepth 100000
set_option maxHeartbeats 4000000
namespace Dn
open PySem L2 PySem.Spec PyProof.Rows
/-! ### {.. for ..}, ints -/
/-- k is put into the set -/
def plus (S : Int → Bool) (k : Int) : Int → Bool := fun j => S j || decide (j = k)
def plusN (S : Int → Bool) (k : Int) (n : Nat) : Nat := if S k = true then n else n + 1
/-- V by the turn and the heap -/
def tSI (w : World) (wi : TI) (g : TG) (tt : TT) (te : TE) (vs : List Nat) : TE := fun σ H Q => wi σ H fun J H1 => ∀ D, H1 D = none → ∃ (n : Nat) (G : Hp → Prop) (Y : Nat → Hp → V → Hp → Prop) (V : Nat → Hp → Prop), Walk J n G Y ∧
  V 0 (upd H1 D (SetO w D (fun _ => false) 0)) ∧ (∀ i H, i ≤ n → V i H → G H) ∧ (∀ H, V n H → Q (.ref D) H) ∧
  ∀ i x H H', i < n → V i H → Y i H x H' → g x (wipe σ vs) H' fun σ2 H2 => wipe σ2 vs = wipe σ vs ∧ tt σ2 H2 fun b H3 =>
    if b = true then te σ2 H3 fun y H4 => ∃ (k : Int) (S : Int → Bool) (m : Nat), y = .int k ∧ H4 D = some (SetO w D S m) ∧ m + 1 < scanBound ∧ V (i + 1) (upd H4 D (SetO w D (plus S k) (plusN S k m))) else V (i + 1) H3
section
variable {X : Cx}
/-- set.add, what the block's heap is then -/
theorem add_int {pins : List (Addr × Obj)} {σ : L2.St} {H : Hp} {s : Shared} {E : Value → Shared → Prop} {D : Addr} {S : Int → Bool} {m : Nat} {k : Int} {t : Tok} {Q : Value → Shared → Prop} (I : Inv X pins σ H s) (hD : H D = some (SetO X.w D S m)) (room : m + 1 < scanBound)
    (q : ∀ s', Inv X pins σ (upd H D (SetO X.w D (plus S k) (plusN S k m))) s' → Q .none s') : wpAny (model X.prog X.w) X.A (call (.builtin "set.add") [.ref D, .int k t]) Q E s := by
  have R := setO_get I hD
  refine setR_add R room fun h' sb R' => q _ ?_
  have live : ∃ u, h'.get? D = some u := let ⟨o, _, _, _, ho, _⟩ := R'; ⟨o, ho⟩
  exact I.write (e := D) (t' := s.toks + 1) (by rw [hD]; trivial) (.inl rfl) (fun b u ne hu => (sb.2 b ne).trans hu) live (setO_new R')
variable {elt tg iter : Expr} {ifs : List Expr} {scope : Scope} {own : List (Str × Nat)} {pos : Pos} {wi : TI} {g : TG} {tt : TT} {te : TE}
/-- the block's readings, in a block's context Z -/
structure Blk (Z : Cx) (tg elt : Expr) (ifs : List Expr) (g : TG) (tt : TT) (te : TE) : Prop where
  tg : L2.PG Z tg g
  ts : PTs Z ifs tt
  el : PE Z elt te
/-- between two turns of the block: Z its context, w the slots without its own -/
def Mid (Z : Cx) (tn : Nat → Heap → Prop) (fp : List Addr) (τ : L2.St) (n : Nat) (V : Nat → Hp → Prop) (m : Nat) (s : Shared) : Prop :=
  ∃ i H, Inv Z [] τ H s ∧ tn i s.heap ∧ (∀ b ∈ fp, H b = none) ∧ m = n - i ∧ i ≤ n ∧ V i H
theorem thnZ {α : Type} {Z : Cx} (hx : Z.xe = fun _ _ => False) {t : Sem α} {Q Q' : α → Shared → Prop} {M : Model} {A : Around} {E : Value → Shared → Prop} {s : Shared} (h : wpAny M A t Q Z.xe s) (hQ : ∀ a s, Q a s → Q' a s) : wpAny M A t Q' E s := by
  rw [hx] at h; exact thnF h hQ
/-- the loop of the block; fin: what must hold behind the last turn -/
theorem set_loop {Z : Cx} {τ : L2.St} {vs : List Nat} {fp : List Addr} {tn : Nat → Heap → Prop} {it D : Addr} {J : It} {n : Nat} {G : Hp → Prop} {Y : Nat → Hp → V → Hp → Prop} {V : Nat → Hp → Prop} {R : Result → Shared → Prop} (hc : Z.calm = true) (T : Turn Z.prog Z.w Z.K tg J fp it tn) (W : Walk J n G Y)
    (bl : Blk Z tg elt ifs g tt te) (hG : ∀ i H, i ≤ n → V i H → G H) (hx : Z.xe = fun _ _ => False) (hfp : ∀ H s, Inv Z [] τ H s → (∀ b ∈ fp, H b = none) → ∀ b ∈ fp, FpOk Z [] H b)
    (turn : ∀ i x H H', i < n → V i H → Y i H x H' → g x τ H' fun σ2 H2 => wipe σ2 vs = τ ∧ tt σ2 H2 fun b H3 =>
      if b = true then te σ2 H3 fun y H4 => ∃ (k : Int) (S : Int → Bool) (m : Nat), y = .int k ∧ H4 D = some (SetO Z.w D S m) ∧ m + 1 < scanBound ∧ V (i + 1) (upd H4 D (SetO Z.w D (plus S k) (plusN S k m))) else V (i + 1) H3)
    (fin : ∀ H s, Inv Z [] τ H s → V n H → R (.ok .next) s) {m : Nat} {s : Shared} (start : Mid Z tn fp τ n V m s) :
    codeAny (model Z.prog Z.w) Z.A (.compLoop (.SetComp elt [⟨tg, iter, ifs, 0⟩] scope pos) 0 (.ref it) (.ref D) Z.env) R s := by
  refine PpSet.compLoopS_any (Mid Z tn fp τ n V) ?_ m start
  rintro m s1 ⟨i, H1, I1, st1, no1, rfl, hi, v1⟩
  by_cases hlt : i < n
  · refine thnF (T.item Z rfl rfl rfl hc i [] s1 τ H1 (fun _ _ => False) I1 (hfp H1 s1 I1 no1) st1 (W.goes i H1 hlt (hG i H1 hi v1))) fun r s2 ⟨u, hr, q2⟩ => ?_
    subst hr
    refine thnF q2 fun _ s3 ⟨x, H3, I3, rx, y3, st3, no3⟩ => ?_
    have P3 := I3.pinned (hfp H3 s3 I3 no3) (T.obj _ _ st3)
    -- what a turn's end must show
    have ends : ∀ {σ' : L2.St} {s' : Shared} {H' : Hp}, Inv Z ([] ++ pinsAt fp s3.heap) σ' H' s' → wipe σ' vs = τ → V (i + 1) H' → ∃ m, m < n - i ∧ Mid Z tn fp τ n V m s' := fun {σ' s' H'} I' e v' => by
      have pin : ∀ b ∈ fp, ∀ o, s3.heap.get? b = some o → s'.heap.get? b = some o ∧ H' b = none := fun b hb o eo => by
        have z := I'.pin (b, o) (List.mem_append_right _ (List.mem_append_right _ (mem_pinsAt hb eo)))
        exact ⟨z.1, z.2.1⟩
      refine ⟨n - (i + 1), by omega, i + 1, H', (I'.unpinned (pins := [])).weak (by rw [← e, wipe_length]) (fun j v ej => ?_), T.keep _ _ _ st3 fun b hb o eo => (pin b hb o eo).1, fun b hb => ?_, rfl, hlt, v'⟩
      · rw [← e] at ej; exact (wipe_some ej).1
      · obtain ⟨o, eo, _⟩ := T.obj _ _ st3 b hb
        exact (pin b hb o eo).2
    refine thnZ hx (bl.tg.run _ s3 τ H3 x u _ P3 rx (turn i x H1 H3 hlt v1 (W.yields i H1 x H3 hlt (hG i H1 hi v1) y3))) fun _ s4 ⟨σ4, H4, I4, e4, q4⟩ => ?_
    refine thnZ hx (bl.ts.run _ s4 σ4 H4 _ I4 q4) fun b s5 ⟨H5, I5, q5⟩ => ?_
    cases b with
    | false =>
      rw [if_neg Bool.false_ne_true] at q5 ⊢
      exact ends I5 e4 q5
    | true =>
      rw [if_pos rfl] at q5 ⊢
      refine thnZ hx (bl.el.run _ s5 σ4 H5 _ I5 q5) fun z s6 ⟨yv, H6, I6, ry, k, S, c, ey, hD, room, v6⟩ => ?_
      subst ey
      obtain ⟨t, rfl⟩ := ry
      exact add_int I6 hD room fun s7 I7 => ends I7 e4 v6
  · have e : i = n := by omega
    subst e
    refine thnF (T.done Z rfl rfl rfl hc i [] s1 τ H1 (fun _ _ => False) I1 (hfp H1 s1 I1 no1) st1 (W.stops H1 (hG i H1 hi v1))) fun r s2 ⟨hr, I2⟩ => ?_
    subst hr
    exact fin H1 s2 I2 v1
/-- what a set comprehension does -/
theorem pe_sI (hc : X.calm = true) (hN : X.N.Nodup) (hi : PI X tg iter wi) (ok : BlkOk X.N X.env.scope scope own)
    (bl : ∀ (s : Shared) (H : Hp) (C : Addr) (cl : List (Str × Addr)) (fp : List Addr), Blk (X.blk s H scope (compEnvC scope cl C X.env) fp) tg elt ifs g tt te) (hs : ∀ x, foldedSetIterable iter X.env x = pure x := by intro _; rfl) :
    PE X (.SetComp elt [⟨tg, iter, ifs, 0⟩] scope pos) (tSI X.w wi g tt te (own.map (·.2))) := by
  refine ⟨fun pins s σ H Q I h => ?_⟩
  rw [PpSet.eval_SetComp]
  have cls : ∀ y ∈ scope.names, y.2 = .free → ∃ c, X.env.cells.lookup y.1 = some c := fun y hy e => I.ok.has _ ((ok.free y hy e).elim .inl .inr)
  refine wpAny_comprehension_free (use := none) rfl hs (closure_ok cls) ok.kind (fun y hy e => by rw [ok.uniq y hy, e]) (thn (hi.run pins s σ H _ I h) fun _ s1 q1 => thn q1 fun _ s2 q2 => ?_)
  obtain ⟨it, fp, tn, J, H2, rfl, I2, T, st2, f2, q⟩ := q2
  refine PpSet.newSet_ok (newEnv_comp ?_)
  obtain ⟨n, G, Y, V, W, v0, hG, hQ, turn⟩ := q _ (I2.hok.fresh (Nat.le_refl _))
  have grows : ∀ {b o}, s2.heap.get? b = some o → (s2.heap.push (setE X.w)).get? b = some o := fun e => Heap.get?_push_of_some _ e
  have I3 : Inv X pins σ (upd H2 s2.heap.objs.size (SetO X.w s2.heap.objs.size (fun _ => false) 0)) { s2 with heap := s2.heap.push (setE X.w) } :=
    I2.laid (t' := s2.toks) (fun b o e => grows e) (Nat.le_refl _) (setO_new (setR_fresh X.w))
  have f3 : ∀ b ∈ fp, FpOk X pins (upd H2 s2.heap.objs.size (SetO X.w s2.heap.objs.size (fun _ => false) 0)) b ∧ b < (s2.heap.push (setE X.w)).objs.size := fun b hb => by
    obtain ⟨o, e, _⟩ := T.obj _ _ st2 b hb
    have lt := Heap.lt_size e
    refine ⟨⟨by rw [upd_ne (Nat.ne_of_lt lt)]; exact (f2 b hb).1, (f2 b hb).2⟩, by rw [Heap.size_push]; exact Nat.lt_succ_of_lt lt⟩
  have st3 := T.keep _ _ _ st2 fun b _ o e => grows e
  generalize hD : s2.heap.objs.size = D at *
  generalize hs3 : ({ s2 with heap := s2.heap.push (setE X.w) } : Shared) = s3 at *
  have e3 : s2.heap.push (setE X.w) = s3.heap := by rw [← hs3]
  rw [e3] at f3 st3
  have I4 := block_start I3 ok hN f3
  have bk := bl s3 (upd H2 D (SetO X.w D (fun _ => false) 0)) s3.heap.objs.size (cellsFrom (s3.heap.objs.size + 1) scope.names (cloFrom X.env.cells scope.names [])) fp
  have st4 : tn 0 (pushCells (s3.heap.push { cls := .type "dict", data := .dict #[] }) scope.names) := T.keep _ _ _ st3 fun b _ o e => pushCells_keeps _ _ _ _ (Heap.get?_push_of_some _ e)
  have fin : ∀ (H' : Hp) (s' : Shared), Inv (X.blk s3 (upd H2 D (SetO X.w D (fun _ => false) 0)) scope (compEnvC scope (cellsFrom (s3.heap.objs.size + 1) scope.names (cloFrom X.env.cells scope.names [])) s3.heap.objs.size X.env) fp) [] (wipe σ (own.map (·.2))) H' s' →
      V n H' → compPost (model X.prog X.w) X.A X.xe none (EP X pins σ Q) (.ref D) s3.heap.objs.size (.ok .next) s' := fun H' s' I' v' => by
    have back : Inv X pins σ H' s' := I3.call' (ch := fp) I'.os I'.base I'.hok I'.bare fun b hb =>
      let z := (f3 b hb).1; ⟨z.2.2.2.1, z.2.1, z.2.2.2.2.1, z.2.2.2.2.2⟩
    have nC : H' s3.heap.objs.size = none := I'.free
    obtain ⟨m, hn, _⟩ := I'.loc
    obtain ⟨a0, a1, a2, a3, a4, a5⟩ := I3.fpOk (Nat.le_refl _) nC
    exact ⟨m, hn, fun h'' sb => ⟨.ref D, H', back.turned (t' := s'.toks) (fun b o ne e => (sb.2 b ne).trans e) a0 a1 a3 a4 a5, rfl, hQ H' v'⟩⟩
  have loop := set_loop (iter := iter) (Z := X.blk s3 (upd H2 D (SetO X.w D (fun _ => false) 0)) scope (compEnvC scope (cellsFrom (s3.heap.objs.size + 1) scope.names (cloFrom X.env.cells scope.names [])) s3.heap.objs.size X.env) fp) (scope := scope) (pos := pos) (vs := own.map (·.2)) (R := compPost (model X.prog X.w) X.A X.xe none (EP X pins σ Q) (.ref D) s3.heap.objs.size) (τ := wipe σ (own.map (·.2))) hc T W bk hG rfl
    (fun H' s' I' no b hb => ⟨no b hb, (I'.ok.exf b hb).1, I'.ok.exfs b hb, .inl hb, fun x c e => (I'.ok.exf b hb).2 x c e, fun p (hp : p ∈ ([] : List (Addr × Obj)) ++ []) => nomatch hp⟩) turn fin ⟨0, _, I4, st4, fun b hb => (f3 b hb).1.1, rfl, Nat.zero_le _, v0⟩
  exact PpSet.codeAny_compStart_set loop (T.self X.A 0 _ _ _ st4 loop)
end
/-! ### sorted of it -/
def sscN (gi : AG) (vs : List Nat) (td : DG) (gt : TMG) (ge : MG) : AG := fun ρ => (lcN gi vs td gt ge ρ).bind fun p => (intsOf p.1).bind fun ns => if ns.length < 64 then some ((setI ns).map .int, p.2) else none
theorem intsOf_cons {d : PyData} {ds : List PyData} {ns : List Int} (h : intsOf (d :: ds) = some ns) : ∃ i r, d = .int i ∧ intsOf ds = some r ∧ ns = i :: r := by
  have e := intsOf_eq h
  cases ns with
  | nil => cases e
  | cons i r =>
    rw [List.map_cons] at e
    obtain ⟨e1, e2⟩ := List.cons.inj e
    exact ⟨i, r, e1, by rw [e2, intsOf_map], rfl⟩
section
variable {K : PySem.W.Frag} {w : World} {wi : TI} {g : TG} {tt : TT} {te : TE} {vs : List Nat} {gi : AG} {td : DG} {gt : TMG} {ge : MG}
/-- what holds between two turns -/
def ScInv (K : PySem.W.Frag) (w : World) (B : Bs) (σ : L2.St) (F0 : Hp) (vs : List Nat) (td : DG) (gt : TMG) (ge : MG) (ds : List PyData) (total : List Int) (ρe : Ro) (D : Addr) (i : Nat) (H : Hp) : Prop :=
  ∃ F acc rest ρ S m, Ok K (B.up D (SetO w D S m)) (wipe σ vs) F H ρ ∧ Gr B.hp F0 F ∧ F D = none ∧ (∃ zs, lcL vs td gt ge (ds.drop i) ρ = some (zs, ρe) ∧ intsOf zs = some rest) ∧ total = acc ++ rest ∧ (∀ k : Int, S k = true ↔ k ∈ acc) ∧ m ≤ acc.length
theorem ev_ssc (hi : ItD K wi gi) (hg : TgD K g vs td) (ht : Tm K tt gt) (he : Mo K te ge) : Nw K (tCB (rSortedSet w) (tCons (tSI w wi g tt te vs) tNil)) (sscN gi vs td gt ge) := fun ρ zs ρ' q B σ F H o Q k => by
  obtain ⟨y, e0, q⟩ := bind_some' q
  obtain ⟨total, e3, q⟩ := bind_some' q
  split at q
  · rename_i small
    cases q
    obtain ⟨p, e1, e0⟩ := bind_some' e0
    split at e0
    · rename_i hsz
      obtain ⟨r, e2, e0⟩ := map_some' e0
      cases e0
      refine hi ρ p.1 p.2 e1 B σ F H o _ fun J F1 H1 o1 g1 wd => ?_
      intro D hD
      obtain ⟨G, Y, W, hG, hY⟩ := wd
      have hF1 : F1 D = none := o1.fh.back hD
      have hB : B.hp D = none := o1.bh.back hD
      refine ⟨p.1.length, G, Y, ScInv K w B σ F1 vs td gt ge p.1 total r.2 D, W, ?_, ?_, ?_, ?_⟩
      · refine ⟨F1, [], total, wipeR p.2 vs, fun _ => false, 0, ?_, Gr.rfl', hF1, ⟨r.1, e2, e3⟩, rfl, fun k => by simp, Nat.le_refl _⟩
        exact ((o1.newH hD).more upd_same (o1.noOwn_new hD)).wiped vs
      · rintro i H' hle ⟨F2, acc, rest, ρ2, S, m, o2, g2, _⟩
        exact hG H' (g2.ex.trans o2.fh)
      · rintro H' ⟨F2, acc, rest, ρ2, S, m, o2, g2, f2, ⟨zs, hl, hz⟩, ht', hS, hm⟩
        rw [List.drop_length] at hl
        cases hl
        cases hz
        rw [List.append_nil] at ht'
        subst ht'
        have o3 : Ok K B σ F2 H' (putBack p.2 r.2 vs) := o1.putBack o2 (Ex.new hB) rfl g2.ex
        refine ⟨D, S, m, rfl, o2.bh D _ upd_same, by omega, fun ms l a1 a2 _ hl => ?_⟩
        have em : ms = setI total := setI_uniq a1 fun k => (a2 k).trans (hS k)
        rw [em]
        exact k l _ F2 _ (o3.newH hl) (g1.trans g2) upd_same (o3.fh.back hl) (o3.bh.back hl) (o3.noOwn_new hl) (ReA.of_ints _)
      · rintro i x H2 H3 hlt ⟨F2, acc, rest, ρ2, S, m, o2, g2, f2, ⟨zs, hl, hz⟩, ht', hS, hm⟩ y
        have item : ∃ F3 d, Ok K (B.up D (SetO w D S m)) (wipe σ vs) F3 H3 ρ2 ∧ Gr B.hp F2 F3 ∧ F3 D = none ∧ p.1[i]? = some d ∧ Re F3 x d := by
          rcases hY i H2 x H3 F2 hlt g2.ex o2.fh y with ⟨rfl, d, hd, rd⟩ | ⟨T, u, d, nT, rfl, hd, rd⟩
          · exact ⟨F2, d, o2, Gr.rfl', f2, hd, rd⟩
          · have nDT : D ≠ T := ne_of_none (o2.bh D _ upd_same) nT
            exact ⟨upd F2 T u, d, o2.new (u := u) nT, Gr.new o2.fh (Ex.trans (Ex.new hB) o2.bh) nT, by rw [upd_ne nDT]; exact f2, hd, rd⟩
        obtain ⟨F3, d, o3, g3, f3, hd, rd⟩ := item
        have hdrop : p.1.drop i = d :: p.1.drop (i + 1) := by
          obtain ⟨hlt', e⟩ := List.getElem?_eq_some_iff.mp hd
          rw [← e]; exact List.drop_eq_getElem_cons hlt'
        rw [hdrop] at hl
        obtain ⟨ρ3, b, ρ4, t1, t2, t3⟩ := lcL_cons hl
        refine hg d ρ2 ρ3 t1 _ (wipe σ vs) F3 H3 x o3 rd _ fun σ4 o4 l4 a4 => ?_
        have hw : wipe σ4 vs = wipe σ vs := by
          have h1 := wipe_agree l4 a4
          rw [h1]
          exact wipe_agree (wipe_length σ vs) fun i hi => wipe_out hi
        refine ⟨hw, ht ρ3 b ρ4 t2 _ σ4 F3 H3 o4 _ fun F5 H5 o5 g5 => ?_⟩
        have f5 : F5 D = none := g5.nn D _ upd_same f3
        have gb : Gr B.hp F2 F5 := g3.trans (g5.less (Ex.new hB))
        rcases t3 with ⟨rfl, yv, ρ5, r', t4, t5, t6⟩ | ⟨rfl, t4⟩
        · rw [if_pos rfl]
          obtain ⟨z1, z2⟩ := Prod.mk.inj t6
          subst z1
          obtain ⟨n0, rest', rfl, h6, rfl⟩ := intsOf_cons hz
          refine he ρ4 _ ρ5 t4 _ σ4 F5 H5 o5 _ fun v F6 H6 o6 g6 rv => ?_
          cases rv
          have f6 : F6 D = none := g6.nn D _ upd_same f5
          have la : acc.length < 64 := by
            have := congrArg List.length ht'
            rw [List.length_append, List.length_cons] at this
            omega
          refine ⟨n0, S, m, rfl, o6.bh D _ upd_same, by unfold scanBound; omega, ?_⟩
          refine ⟨F6, acc ++ [n0], rest', wipeR ρ5 vs, _, _, (o6.rewiped hw).swapB f6 hB, g2.trans (gb.trans (g6.less (Ex.new hB))), f6, ⟨r'.1, by rw [z2]; exact t5, h6⟩, by rw [ht', List.append_assoc]; rfl, fun j => ?_, ?_⟩
          · show (S j || decide (j = n0)) = true ↔ _
            rw [Bool.or_eq_true, hS, decide_eq_true_eq, List.mem_append, List.mem_singleton]
          · rw [List.length_append]
            show plusN S n0 m ≤ acc.length + 1
            unfold plusN
            split <;> omega
        · rw [if_neg Bool.false_ne_true]
          exact ⟨F5, acc, rest, wipeR ρ4 vs, S, m, o5.rewiped hw, g2.trans gb, f5, ⟨zs, t4, hz⟩, ht', hS, hm⟩
    · cases e0
  · cases q
end
section
variable {X : Cx} {elt tg iter : Expr} {scope : Scope} {own : List (Str × Nat)} {pos p pos2 : Pos} {wi : TI} {g : TG} {tt : TT} {te : TE} {vs : List Nat} {gi : AG} {td : DG} {gt : TMG} {ge : MG}
theorem n_ssc {ifs : List Expr} (hc : X.calm = true) (hN : X.N.Nodup) (hm : X.mg "sorted" = none) (hi : JI X tg iter wi gi) (ok : BlkOk X.N X.env.scope scope own)
    (hg : ∀ (s : Shared) (H : Hp) (C : Addr) (cl : List (Str × Addr)) (fp : List Addr), JG (X.blk s H scope (compEnvC scope cl C X.env) fp) tg g vs td)
    (ht : ∀ (s : Shared) (H : Hp) (C : Addr) (cl : List (Str × Addr)) (fp : List Addr), JTs (X.blk s H scope (compEnvC scope cl C X.env) fp) ifs tt gt)
    (he : ∀ (s : Shared) (H : Hp) (C : Addr) (cl : List (Str × Addr)) (fp : List Addr), JM (X.blk s H scope (compEnvC scope cl C X.env) fp) elt te ge)
    (hv : ∀ i ∈ vs, i ∈ own.map (·.2) := by decide) (hgl : Gl X "sorted" := by rfl) (hs : ∀ x, foldedSetIterable iter X.env x = pure x := by intro _; rfl)
    (hse : starEach (.SetComp elt [⟨tg, iter, ifs, 0⟩] scope pos :: []) X.env = (false, eval (.SetComp elt [⟨tg, iter, ifs, 0⟩] scope pos) X.env) :: starEach [] X.env := by rfl) (hpl : (backTo pos2 (starEach [] X.env)).any (·.1) = false := by rfl) :
    JN X (.Call (.Name "sorted" p) [.SetComp elt [⟨tg, iter, ifs, 0⟩] scope pos] [] pos2) (tCB (rSortedSet X.w) (tCons (tSI X.w wi g tt te (own.map (·.2))) tNil)) (sscN gi (own.map (·.2)) td gt ge) :=
  ⟨pe_callB (cr_sortedSet hc) hgl hm PyProof.Rows.boot_sorted (pa_1 (pe_sI hc hN hi.pi ok (fun s H C cl fp => ⟨(hg s H C cl fp).pg, (ht s H C cl fp).pt, (he s H C cl fp).pe⟩) hs) hse) (by decide) (by decide) hse hpl,
   ev_ssc hi.ev ((hg {} (fun _ => none) 0 [] []).ev.sub hv) (ht {} (fun _ => none) 0 [] []).ev (he {} (fun _ => none) 0 [] []).ev⟩
end
end Dn
end
section
set_option Elab.async false
set_option linter.all false
set_option maxRecDepth 100000
set_option maxHeartbeats 4000000
namespace Dn
open PySem L2 PySem.Spec PyProof.Rows
/-! ### three names at once -/
def par3G' (i j l : Nat) (a b : MG) (c : VG) : SG := fun ρ => (a ρ).bind fun p => (b p.2).bind fun q => (c q.2).map fun r => (.nx, ((r.2.set i (some (.fz p.1))).set j (some (.fz q.1))).set l (some r.1))
section
variable {X : Cx} {ea eb ec : Expr} {ta tb' tc : TE} {a b : MG} {c : VG} {x y z : Str} {pos : Pos}
theorem s_par3 {px py pz pt : Pos} {kt k2 : Nat} {pt2 : Pos} (i j l : Nat) (hc : X.calm = true) (hN : X.N.Nodup) (ha : JM X ea ta a) (hb : JM X eb tb' b) (hcc : JV X ec tc c) (hij : i ≠ j := by decide) (hil : i ≠ l := by decide) (hjl : j ≠ l := by decide) (hi : X.N[i]? = some x := by rfl) (hj : X.N[j]? = some y := by rfl) (hl : X.N[l]? = some z := by rfl)
    (hx : X.env.scope.names.lookup x = some .local := by rfl) (hy : X.env.scope.names.lookup y = some .local := by rfl) (hz : X.env.scope.names.lookup z = some .local := by rfl)
    (hw : swappedStores [.Tuple [.Name x px, .Name y py, .Name z pz] kt pt] (.Tuple [ea, eb, ec] k2 pt2) X.env = pure (some [x, y, z]) := by rfl)
    (hs : swapsWithSole [.Tuple [.Name x px, .Name y py, .Name z pz] kt pt] (.Tuple [ea, eb, ec] k2 pt2) pos.line X.env = pure false := by rfl)
    (h1 : starEach (ea :: [eb, ec]) X.env = (false, eval ea X.env) :: starEach [eb, ec] X.env := by rfl) (h2 : starEach (eb :: [ec]) X.env = (false, eval eb X.env) :: starEach [ec] X.env := by rfl) (h3 : starEach (ec :: []) X.env = (false, eval ec X.env) :: starEach [] X.env := by rfl) :
    JS X (.Assign [.Tuple [.Name x px, .Name y py, .Name z pz] kt pt] (.Tuple [ea, eb, ec] k2 pt2) pos) (tPar3 i j l (tCons ta (tCons tb' (tCons tc tNil)))) (par3G' i j l a b c) :=
  ⟨ps_par3 hc hN hi hj hl hij hil hjl hx hy hz (pa_cons ha.pe (pa_cons hb.pe (pa_1 hcc.pe h3) h2) h1) hw hs, fun ρ o ρ' q B σ F H ok D f => by
  obtain ⟨p, e1, q⟩ := bind_some' q
  obtain ⟨r, e2, q⟩ := bind_some' q
  obtain ⟨t, e3, q⟩ := map_some' q
  cases q
  refine ha.ev ρ p.1 p.2 e1 B σ F H ok _ fun v F1 H1 o1 g1 rv => hb.ev p.2 r.1 r.2 e2 B σ F1 H1 o1 _ fun u F2 H2 o2 g2 ru => hcc.ev r.2 t.1 t.2 e3 B σ F2 H2 o2 _ fun w F3 H3 o3 g3 rw no => ?_
  refine ⟨v, u, w, rfl, f _ F3 H3 ?_ ((g1.trans g2).trans g3)⟩
  have s1 := o3.storeF (i := i) ((rv.mono g2.ex).mono g3.ex)
  have s2 := s1.storeF (i := j) (ru.mono g3.ex)
  refine s2.store rw fun ht p' e => ?_
  exact ((no ht p' e).set o3.len fun hs => by cases hs).set s1.len fun hs => by cases hs⟩
end
/-! ### a def that hands back a new list -/
abbrev LG := Ro → Option (List PyData × Ro)
def SdN (K : PySem.W.Frag) (ts : TS) (g : LG) : Prop := ∀ ρ zs ρ', g ρ = some (zs, ρ') → ∀ B σ F H, Ok K B σ F H ρ → ∀ D : Ends, (∀ l xs σ' F' H', Ok K B σ' F' H' ρ' → Gr B.hp F F' → H' l = some (.lst xs) → F' l = none → B.hp l = none → ReA F' xs zs → D.rt (.ref l) H') → ts D σ H
structure JBN (X : Cx) (st : List Stmt) (ts : TS) (g : LG) : Prop where
  ps : PSs X st ts
  ev : SdN X.K ts g
def seqN (a : SG) (b : LG) : LG := fun ρ => (a ρ).bind fun p => match p.1 with
  | .nx => b p.2
  | _ => none
section
variable {X : Cx} {st : Stmt} {rest : List Stmt} {t u : TS} {a : SG} {b : LG} {e : Expr} {te : TE} {pos : Pos}
theorem bn_cons (h1 : JS X st t a) (h2 : JBN X rest u b) : JBN X (st :: rest) (tSeq t u) (seqN a b) := ⟨pss_cons h1.ps h2.ps, fun ρ zs ρ' q B σ F H ok D f => by
  obtain ⟨p, e1, q⟩ := bind_some' q
  obtain ⟨p1, p2⟩ := p
  cases p1 with
  | nx => exact h1.ev ρ .nx p2 e1 B σ F H ok _ fun σ' F' H' o' gr => h2.ev p2 zs ρ' q B σ' F' H' o' D fun l xs σ2 F2 H2 o2 g2 => f l xs σ2 F2 H2 o2 (gr.trans g2)
  | rt d => cases q
  | bk => cases q
  | ct => cases q⟩
theorem bn_ret (h : JN X e te b) : JBN X [.Return (some e) pos] (tRet te) b := ⟨pss_one (ps_ret h.pe), fun ρ zs ρ' q B σ F H ok D f => h.ev ρ zs ρ' q B σ F H ok _ fun l xs F' H' o' gr hp hf hb _ ra => f l xs σ F' H' o' gr hp hf hb ra⟩
end
/-- the script in, a new list out -/
def spSL (K : PySem.W.Frag) (n : Nat) (g : List Int → List PyData → Option (List PyData)) : Sp := fun vs H Q _ => ∃ p vs' F ns ds zs, vs = .ref p :: vs' ∧ Ex F H ∧ SqL K F p (ns.map V.int) ∧ ReA F vs' ds ∧ ds.length = n ∧ g ns ds = some zs ∧
  ∀ l xs F' H', Ex H H' → Ex F' H' → Gr H F F' → H l = none → F' l = none → H' l = some (.lst xs) → ReA F' xs zs → Q (.ref l) H'
def callSLN (n : Nat) (g : List Int → List PyData → Option (List PyData)) (i : Nat) (dvs : List PyData) (as : AG) : LG := fun ρ => (sxAt ρ i).bind fun ns => (as ρ).bind fun p => if (p.1 ++ dvs).length = n then (g ns (p.1 ++ dvs)).map fun d => (d, p.2) else none
def runSL (m : Nat) (g : LG) (ns : List Int) (ds : List PyData) : Option (List PyData) := (g (init m (.sx ns :: ds.map .fz))).map (·.1)
section
variable {X : Cx} {K : PySem.W.Frag} {x : Str} {es : List Expr} {t : TA} {r : AG} {p pos : Pos} {j k : Nat} {vds : List V} {dvs : List PyData}
theorem ev_callSL {n i : Nat} {g : List Int → List PyData → Option (List PyData)} {E : XK} (hd : CoA vds dvs) (ha : Ag K t r) : Nw K (tCall (spSL K n g) vds E (tCons (tVar i) t)) (callSLN n g i dvs r) := fun ρ d ρ' q B σ F H o Q k => by
  obtain ⟨ns, e0, q⟩ := bind_some' q
  obtain ⟨y, e1, q⟩ := bind_some' q
  split at q
  · rename_i w
    obtain ⟨z, e3, q⟩ := map_some' q
    cases q
    obtain ⟨v0, es0, a0, rfl, hs⟩ := o.sl i _ (sxAt_some e0)
    refine ⟨_, es0, ha ρ y.1 y.2 e1 B σ F H o _ fun vs F1 H1 o1 g1 rs => ?_⟩
    refine ⟨a0, vs ++ vds, F1, ns, y.1 ++ dvs, d, rfl, o1.fh, ex_sql g1.ex hs, rs.append hd.re, w, e3, fun l xs F' H' eh ef gr nl fl hl ra => ?_⟩
    exact k l xs F' H' (o1.kept gr eh ef) (g1.trans (gr.less o1.bh)) hl fl (o1.bh.back nl) (o1.noOwn_new nl) ra
  · cases q
theorem n_callSL {n : Nat} {y : Str} {yp : Pos} {g : List Int → List PyData → Option (List PyData)} (i : Nat) (c : C8.Cal X.prog X.w X.K X.mg X.base k x (spSL X.K n g) vds) (hd : CoA vds dvs) (hr : Room j X.A) (hk : k ≤ j) (ha : JA X es t r) (hN : X.N[i]? = some y := by rfl) (hv : Vis X.env.scope y := by first | exact Or.inl rfl | exact Or.inr (Or.inl rfl) | exact Or.inr (Or.inr rfl)) (hg : Gl X x := by rfl)
    (hdy : (y == ("__debug__" : Str)) = false := by decide) (hcy : (y == ("__classdict__" : Str)) = false := by decide) (hdb : (x == ("__debug__" : Str)) = false := by decide) (he : starEach (.Name y yp :: es) X.env = (false, eval (.Name y yp) X.env) :: starEach es X.env := by rfl) (hpl : (backTo pos (starEach es X.env)).any (·.1) = false := by rfl) :
    JN X (.Call (.Name x p) (.Name y yp :: es) [] pos) (tCall (spSL X.K n g) vds E0 (tCons (tVar i) t)) (callSLN n g i dvs r) := ⟨C8.pe_c c hr hk hg (pa_cons (pe_var hN hv hdy hcy) ha.pa he) hdb he hpl, ev_callSL hd ha.ev⟩
end
section
variable {P : Program} {w : World} {K : PySem.W.Frag} {mg : Str → Option Value} {base : Heap} {x qual : Str} {params : Arguments} {body : List Stmt} {scope : Scope} {dvs : List V} {kws : List (Str × V)} {f : Addr} {fd : FuncData} {N ps : List Str} {k : Nat}
theorem fn_scriptL {g : LG} (F : FunD K x qual params body scope dvs kws f fd) (S : FnScope N ps scope) (hps : ps.length ≤ N.length) (h0 : 0 < ps.length)
    (hbody : ∀ (cdv : Value) (A : Around) (outer : List Env) (s : Shared) (H : Hp) (E : XK), Room k (A.deeper (envOfC qual scope s.heap.objs.size f cdv)) → ∃ t, JBN (cxOf CX0 P w K mg base N qual scope f cdv A outer s H E).nox body t g) :
    FnOk P w K mg base CX0 (k + 1) f fd ps (spSL K (ps.length - 1) (runSL N.length g)) := by
  refine F.ok S (fun vs H Q E h => ?_) fun cdv A outer s H vs Q E hr h => ?_
  · obtain ⟨p, vs', F1, ns, ds, d, rfl, _, _, r, l, _⟩ := h
    rw [List.length_cons, r.length, l]; omega
  · obtain ⟨t, hb⟩ := hbody cdv A outer s H E hr
    refine ⟨t, PSs.nox hb.ps, ?_⟩
    obtain ⟨p, vs', F1, ns, ds, d, rfl, fh, sp, r, l, e, q⟩ := h
    obtain ⟨z, e1, e2⟩ := map_some' e
    have ok : Ok K ⟨H, 0⟩ (L2.start N (.ref p :: vs')) F1 H (init N.length (.sx ns :: ds.map .fz)) := ok_init fh Ex.rfl' (by rw [List.length_cons, List.length_cons, List.length_map, r.length]) (by rw [List.length_cons, r.length, l]; omega) (fun i s z => by
      cases i with
      | zero => cases z; exact ⟨_, rfl, p, rfl, sp⟩
      | succ i =>
        obtain ⟨v, d, a1, rfl, a2⟩ := fz_get (i := i) r z
        exact ⟨v, a1, a2⟩) fun i s z w => by
        cases i with
        | zero => rfl
        | succ i =>
          obtain ⟨v, d, a1, rfl, a2⟩ := fz_get (i := i) r z
          cases w
    subst e2
    exact hb.ev _ z.1 z.2 e1 ⟨H, 0⟩ _ F1 H ok _ fun l xs σ' F' H' o' gr hl fl bl ra => q l xs F' H' o'.bh o'.fh gr bl fl hl ra
end
end Dn
end
section
set_option Elab.async false
set_option linter.all false
set_option maxRecDepth 100000
set_option maxHeartbeats 4000000
namespace Dn
open PySem L2 PySem.Spec PyProof.Rows
/-! ### a comprehension over a list of ours that stays ours -/
def oAt (ρ : Ro) (i : Nat) : Option (List PyData) := match ρ[i]? with
  | some (some (.ol ps)) => some ps
  | _ => none
theorem oAt_some {ρ : Ro} {i : Nat} {ps : List PyData} (h : oAt ρ i = some ps) : ρ[i]? = some (some (.ol ps)) := by
  unfold oAt at h
  split at h
  · rename_i e; cases h; exact e
  · cases h
def lcP (i : Nat) (vs : List Nat) (td : DG) (gt : TMG) (ge : MG) : AG := fun ρ => (oAt ρ i).bind fun ds => if ds.length ≤ 1000000 then (lcL vs td gt ge ds (wipeR (ρ.set i none) vs)).map fun r => (r.1, (putBack (ρ.set i none) r.2 vs).set i (some (.ol ds))) else none
section
variable {K : PySem.W.Frag} {g : TG} {tt : TT} {te : TE} {vs : List Nat} {td : DG} {gt : TMG} {ge : MG}
theorem ev_lcP (i0 : Nat) (hg : TgD K g vs td) (ht : Tm K tt gt) (he : Mo K te ge) : Nw K (tLc (iList K (tVar i0)) g tt te vs) (lcP i0 vs td gt ge) := fun ρ zs ρ' q B0 σ F H o Q k => by
  obtain ⟨ds, e1, q⟩ := bind_some' q
  split at q
  · rename_i hsz
    obtain ⟨r, e2, q⟩ := map_some' q
    cases q
    obtain ⟨v0, es0, a, xs, rfl, ha, fa, ba, rxs⟩ := o.sl i0 _ (oAt_some e1)
    refine ⟨_, es0, a, rfl, ⟨xs, SqL.of ha⟩, ?_⟩
    have hl0 : i0 < ρ.length := (List.getElem?_eq_some_iff.mp (oAt_some e1)).1
    -- the list stands aside
    have oN : Ok K B0 σ F H (ρ.set i0 none) := o.forget (by rw [List.length_set]) fun j s z => by
      by_cases w : j = i0
      · subst w; rw [List.getElem?_set_self hl0] at z; cases z
      · rw [List.getElem?_set_ne (Ne.symm w)] at z; exact z
    have no : NoOwn σ (ρ.set i0 none) a := fun j s z w y => by
      by_cases u : j = i0
      · subst u; rw [List.getElem?_set_self hl0] at z; cases z
      · rw [List.getElem?_set_ne (Ne.symm u)] at z
        exact o.ds j i0 s _ _ u z (oAt_some e1) w rfl y es0
    have o1 : Ok K (B0.up a (.lst xs)) σ F H (ρ.set i0 none) := oN.more ha no
    generalize hB' : B0.up a (.lst xs) = B at o1
    have aB : B.hp a = some (.lst xs) := by rw [← hB']; exact upd_same
    intro D hD
    have hF1 : F D = none := o1.fh.back hD
    have hB : B.hp D = none := o1.bh.back hD
    refine lc_it (walk_list (K := K) (a := a) (xs := xs)) (LcInv K B σ F vs td gt ge ds r.1 r.2 D) ?_ ?_ ?_ ?_
    · refine ⟨F, [], [], r.1, wipeR (ρ.set i0 none) vs, ?_, Gr.rfl', hF1, .nil, e2, rfl, Nat.le_refl _⟩
      exact ((o1.newH hD).more upd_same (o1.noOwn_new hD)).wiped vs
    · intro i H' hle ⟨F2, acc, accd, rest, ρ2, o2, g2, _⟩
      have o2' : Ex B.hp H' := (Ex.new hB).trans o2.bh
      exact SqL.of (o2' a _ aB)
    · intro i x H2 H3 hlt ⟨F2, acc, accd, rest, ρ2, o2, g2, f2, ra, hl, ht', hn⟩ y
      obtain ⟨rfl, hx⟩ := y
      obtain ⟨d, hd, rd⟩ := rxs.get' hx
      have rd : Re F2 x d := rd.mono g2.ex
      have hdrop : ds.drop i = d :: ds.drop (i + 1) := by
        obtain ⟨hlt', e⟩ := List.getElem?_eq_some_iff.mp hd
        rw [← e]; exact List.drop_eq_getElem_cons hlt'
      rw [hdrop] at hl
      obtain ⟨ρ3, b, ρ4, t1, t2, t3⟩ := lcL_cons hl
      refine hg d ρ2 ρ3 t1 _ (wipe σ vs) F2 H3 x o2 rd _ fun σ4 o4 l4 a4 => ?_
      have hw : wipe σ4 vs = wipe σ vs := by
        have h1 := wipe_agree l4 a4
        rw [h1]
        exact wipe_agree (wipe_length σ vs) fun i hi => wipe_out hi
      refine ⟨hw, ht ρ3 b ρ4 t2 _ σ4 F2 H3 o4 _ fun F5 H5 o5 g5 => ?_⟩
      have f5 : F5 D = none := g5.nn D _ upd_same f2
      have gb : Gr B.hp F2 F5 := g5.less (Ex.new hB)
      rcases t3 with ⟨rfl, yv, ρ5, r', t4, t5, t6⟩ | ⟨rfl, t4⟩
      · rw [if_pos rfl]
        refine he ρ4 yv ρ5 t4 _ σ4 F5 H5 o5 _ fun v F6 H6 o6 g6 rv => ?_
        have f6 : F6 D = none := g6.nn D _ upd_same f5
        refine ⟨acc, o6.bh D _ upd_same, ?_, ?_⟩
        · have e1 := ra.length
          have e2 := rxs.length
          have : i < 1000000 := Nat.lt_of_lt_of_le (by rw [← e2]; exact hlt) hsz
          exact big_lt (by omega)
        · refine ⟨F6, acc ++ [v], accd ++ [yv], r'.1, wipeR ρ5 vs, (o6.rewiped hw).swapB f6 hB, g2.trans (gb.trans (g6.less (Ex.new hB))), f6, ?_, ?_, ?_, by rw [List.length_append]; exact Nat.succ_le_succ hn⟩
          · exact (ra.mono (gb.trans (g6.less (Ex.new hB))).ex).append (.cons rv .nil)
          · obtain ⟨z1, z2⟩ := Prod.mk.inj t6
            rw [t5, z2]
          · obtain ⟨z1, z2⟩ := Prod.mk.inj t6
            rw [ht', z1, List.append_assoc]; rfl
      · rw [if_neg Bool.false_ne_true]
        exact ⟨F5, acc, accd, rest, wipeR ρ4 vs, o5.rewiped hw, g2.trans gb, f5, ra.mono gb.ex, t4, ht', Nat.le_succ_of_le hn⟩
    · intro H' ⟨F2, acc, accd, rest, ρ2, o2, g2, f2, ra, hl, ht', hn⟩
      rw [rxs.length, List.drop_length] at hl
      cases hl
      rw [List.append_nil] at ht'
      subst ht'
      have o3 : Ok K B σ F2 H' (putBack (ρ.set i0 none) r.2 vs) := o1.putBack o2 (Ex.new hB) rfl g2.ex
      -- and comes back
      have no2 : NoOwn σ (putBack (ρ.set i0 none) r.2 vs) a := o3.noOwn_of aB
      have fa2 : F2 a = none := g2.nn a _ aB fa
      have ha2 : H' a = some (.lst xs) := o3.bh a _ aB
      have eB : Ex B0.hp B.hp := by rw [← hB']; exact Ex.new ba
      have o4 : Ok K B0 σ F2 H' (putBack (ρ.set i0 none) r.2 vs) := o3.less eB (by rw [← hB']; rfl)
      have o5 := o4.store (i := i0) (s := .ol ds) (v := .ref a) ⟨a, xs, rfl, ha2, fa2, ba, rxs.mono g2.ex⟩ fun _ p e => by cases e; exact no2
      have es : σ.set i0 (some (.ref a)) = σ := by
        apply List.ext_getElem?
        intro j
        by_cases u : i0 = j
        · subst u; rw [List.getElem?_set_self (by rw [o.len]; exact hl0), es0]
        · rw [List.getElem?_set_ne u]
      rw [es] at o5
      have nD : D ≠ a := fun e => by rw [e] at hB; rw [aB] at hB; cases hB
      have bD : B0.hp D = none := eB.back hB
      refine k D acc F2 H' o5 (g2.less eB) (o2.bh D _ upd_same) f2 bD ?_ ra
      intro i s q w e
      by_cases u : i = i0
      · subst u; rw [es0] at e; cases e; exact nD rfl
      · rw [List.getElem?_set_ne (Ne.symm u)] at q
        have hi : i ∉ vs := fun hi => by
          obtain ⟨d, rfl, _⟩ := putBack_in hi q
          cases w
        rw [putBack_out hi] at q
        exact o2.noOwn_of (p := D) upd_same i s q w (by rw [wipe_out hi]; exact e)
  · cases q
end
section
variable {X : Cx} {elt tg : Expr} {x : Str} {xp : Pos} {scope : Scope} {own : List (Str × Nat)} {pos : Pos} {g : TG} {tt : TT} {te : TE} {vs : List Nat} {td : DG} {gt : TMG} {ge : MG}
theorem n_lcP {ifs : List Expr} (i : Nat) (hc : X.calm = true) (hN : X.N.Nodup) (ok : BlkOk X.N X.env.scope scope own)
    (hg : ∀ (s : Shared) (H : Hp) (C : Addr) (cl : List (Str × Addr)) (fp : List Addr), JG (X.blk s H scope (compEnvC scope cl C X.env) fp) tg g vs td)
    (ht : ∀ (s : Shared) (H : Hp) (C : Addr) (cl : List (Str × Addr)) (fp : List Addr), JTs (X.blk s H scope (compEnvC scope cl C X.env) fp) ifs tt gt)
    (he : ∀ (s : Shared) (H : Hp) (C : Addr) (cl : List (Str × Addr)) (fp : List Addr), JM (X.blk s H scope (compEnvC scope cl C X.env) fp) elt te ge)
    (hi : X.N[i]? = some x := by rfl) (hvis : Vis X.env.scope x := by first | exact Or.inl rfl | exact Or.inr (Or.inl rfl) | exact Or.inr (Or.inr rfl)) (hd : (x == ("__debug__" : Str)) = false := by decide) (hcd : (x == ("__classdict__" : Str)) = false := by decide)
    (hv : ∀ i ∈ vs, i ∈ own.map (·.2) := by decide) (hs : ∀ z, foldedSetIterable (.Name x xp) X.env z = pure z := by intro _; rfl) :
    JN X (.ListComp elt [⟨tg, .Name x xp, ifs, 0⟩] scope pos) (tLc (iList X.K (tVar i)) g tt te (own.map (·.2))) (lcP i (own.map (·.2)) td gt ge) :=
  ⟨pe_lc hc hN (pi_list (pe_var hi hvis hd hcd)) ok (fun s H C cl fp => (hg s H C cl fp).pg) (fun s H C cl fp => (ht s H C cl fp).pt) (fun s H C cl fp => (he s H C cl fp).pe) hs,
   ev_lcP i ((hg {} (fun _ => none) 0 [] []).ev.sub hv) (ht {} (fun _ => none) 0 [] []).ev (he {} (fun _ => none) 0 [] []).ev⟩
end
end Dn
end
section
set_option Elab.async false
set_option linter.all false
set_option maxRecDepth 100000
set_option maxHeartbeats 2000000
namespace Dn
open PySem L2 PySem.Spec PyProof.Rows
section
variable {K : PySem.W.Frag}
theorem h_mul : OpD K (rI CMulX fun i j => .int (i * j)) mulI := opd_ic fun i j h => by
  have h := of_decide_eq_true h
  show (Builtin.Int.intBits i : Int) + (Builtin.Int.intBits j : Int) ≤ 134217728
  omega
theorem h_fdiv : OpD K (rI CDivN fun i j => .int (i.fdiv j)) fdivI := opd_ic fun i j h => by
  have h : j ≠ 0 ∧ j.natAbs < 1073741824 := of_decide_eq_true h
  exact h
theorem h_mod : OpD K (rI (fun _ j => 0 < j) fun i j => .int (i % j)) modI := opd_ic fun i j h => of_decide_eq_true h
theorem h_pow : OpD K (rI (fun i j => 0 ≤ j ∧ (Builtin.Int.intBits i : Int) * j ≤ 2 ^ 27) fun i j => .int (i ^ j.toNat)) powI := opd_ic fun i j h => of_decide_eq_true h
theorem h_shl : OpD K (rI CShl fun i j => .int (i * 2 ^ j.toNat)) shlI := opd_ic fun i j h => by
  have h : 0 ≤ j ∧ (Builtin.Int.intBits i : Int) + j ≤ 2 ^ 27 := of_decide_eq_true h
  exact h
theorem h_shr : OpD K (rI (fun _ j => 0 ≤ j) fun i j => .int (i / 2 ^ j.toNat)) shrI := opd_ic fun i j h => of_decide_eq_true h
end
end Dn
namespace Dn
open PySem L2 PySem.Spec PyProof.Rows
/-- m_ix, the layer's part named -/
theorem m_ixK {X : Cx} {ea eb : Expr} {ta tb' : TE} {a b : MG} {pos : Pos} (K : PySem.W.Frag) (hK : X.K = K) (ha : JM X ea ta a) (hb : JM X eb tb' b) (hs : PlainIx eb := by exact fun _ _ => rfl) : JM X (.Subscript ea eb pos) (tOp (rIx K) ta tb') (op2M ixD a b) := by
  subst hK
  exact m_ix ha hb hs
section
variable {X : Cx}
theorem p_ixK {ea eb : Expr} {ta tb' : TE} {a b : PG} {pos : Pos} (K : PySem.W.Frag) (hK : X.K = K) (ha : JR X ea ta a) (hb : JP X eb tb' b) (hs : PlainIx eb := by exact fun _ _ => rfl) : JP X (.Subscript ea eb pos) (tOp (rIx K) ta tb') (op2 ixD a b) := by
  subst hK
  exact p_ix ha hb hs
theorem op_inAK (K : PySem.W.Frag) (hK : X.K = K) : OpR X (compareOp .In) (rInA K) := hK ▸ op_inA
theorem op_notInAK (K : PySem.W.Frag) (hK : X.K = K) : OpR X (compareOp .NotIn) (rNotInA K) := hK ▸ op_notInA
theorem op_eqAK {j : Nat} (K : PySem.W.Frag) (hK : X.K = K) (hr : Room j X.A) : OpR X (compareOp .Eq) (rEqA K) := hK ▸ op_eqA hr
theorem op_neAK {j : Nat} (K : PySem.W.Frag) (hK : X.K = K) (hr : Room j X.A) : OpR X (compareOp .NotEq) (rNeA K) := hK ▸ op_neA hr
theorem cr_sumK (K : PySem.W.Frag) (hK : X.K = K) (hc : X.calm = true) : CallR X (.builtin "sum") (rSum K) := hK ▸ cr_sum hc
theorem cr_allK (K : PySem.W.Frag) (hK : X.K = K) (hc : X.calm = true) : CallR X (.builtin "all") (rAll K) := hK ▸ cr_all hc
theorem cr_anyK (K : PySem.W.Frag) (hK : X.K = K) (hc : X.calm = true) : CallR X (.builtin "any") (rAny K) := hK ▸ cr_any hc
theorem call_lenK (K : PySem.W.Frag) (hK : X.K = K) : CallR X (.builtin "len") (fun xs H Q => ∃ x n, xs = [x] ∧ LenV K x H n ∧ Q (.int n) H) := hK ▸ call_len
theorem call_list_ofK (K : PySem.W.Frag) (hK : X.K = K) : CallR X (.type "list") (fun xs H Q => ∃ p ys, xs = [.ref p] ∧ (SqL K H p ys ∨ SqT K H p ys) ∧ ∀ l, H l = none → Q (.ref l) (upd H l (.lst ys))) := hK ▸ call_list_of
theorem cr_sortedIK (K : PySem.W.Frag) (hK : X.K = K) : CallR X (.builtin "sorted") (rSortedI K) := hK ▸ cr_sortedI
theorem cr_sortedPOK (K : PySem.W.Frag) (hK : X.K = K) : CallR X (.builtin "sorted") (rSortedPO K) := hK ▸ cr_sortedPO
theorem p_isiK {e : Expr} {te : TE} {g : PG} {p p2 pos : Pos} {x : Str} {T : String} (K : PySem.W.Frag) (hK : X.K = K) (hv : bootBuiltins x = some (.type T)) (h : JP X e te g) (hm : X.mg "isinstance" = none) (hm2 : X.mg x = none) (hg : Gl X "isinstance" := by rfl) (hg2 : Gl X x := by rfl) (hn : x ≠ "__name__" := by decide) (hdb : (x == ("__debug__" : Str)) = false := by decide)
    (hs : starEach (e :: [.Name x p2]) X.env = (false, eval e X.env) :: starEach [.Name x p2] X.env := by rfl) (hs2 : starEach (.Name x p2 :: []) X.env = (false, eval (.Name x p2) X.env) :: starEach [] X.env := by rfl) (hpl : (backTo pos (starEach [.Name x p2] X.env)).any (·.1) = false := by rfl) :
    JP X (.Call (.Name "isinstance" p) [e, .Name x p2] [] pos) (tCB (rIsi K) (tCons te (tCons (tC (.ty T)) tNil))) (op1 (isiD T) g) := by
  subst hK
  exact p_isi hv h hm hm2 hg hg2 hn hdb hs hs2 hpl
theorem g_tupK {es : List Expr} {u : TGs} {ws : List Nat} {ud : List PyData → Ro → Option Ro} {pos : Pos} {k n : Nat} (K : PySem.W.Frag) (hK : X.K = K) (hc : X.calm = true) (h : JGs X es u ws ud) (hn : (assignEach es X.env).length = n := by rfl) (hst : (assignEach es X.env).findIdx? (·.1) = none := by rfl) : JG X (.Tuple es k pos) (gTup K n u) ws (tupT n ud) := by
  subst hK
  exact g_tup hc h hn hst
theorem room_put {j : Nat} {A : Around} (hr : Room j A) : A.units + 1 < cLine := by
  have := hr.un
  omega
end
end Dn
end
section
set_option Elab.async false
set_option linter.all false
set_option maxRecDepth 100000
set_option maxHeartbeats 2000000
namespace K85
open PySem L2 PySem.Spec PyProof.Rows Dn
/-! ### the text -/
def top (i : Nat) : Stmt := PySem.Challenge.pw_strictranks_k85_whole_papers_put_togethe.main.body.getD i (.Pass ⟨0, 0, 0, 0⟩)
abbrev t__law_well : Stmt := top 51
abbrev t__law_draw : Stmt := top 52
abbrev t__law_mixed : Stmt := top 53
abbrev t__law_fact : Stmt := top 54
abbrev t__law_facts : Stmt := top 55
abbrev t_is_integer : Stmt := top 12
abbrev t_need_count : Stmt := top 13
abbrev t_fits_fact : Stmt := top 14
abbrev t_need_facts : Stmt := top 16
abbrev t_need_count_and_facts : Stmt := top 17
abbrev t_lacking_rule : Stmt := top 33
abbrev t_covering : Stmt := top 34
abbrev t_rules_with : Stmt := top 22
abbrev t_mask_of : Stmt := top 25
abbrev t_layered : Stmt := top 31
abbrev t_least_barring : Stmt := top 35
abbrev t_barring_set : Stmt := top 37
abbrev t__law_joined : Stmt := top 59
abbrev t_are_indices : Stmt := top 38
abbrev t_bars_all : Stmt := top 39
abbrev t_is_barring_set : Stmt := top 40
abbrev t_need_fact : Stmt := top 15
abbrev t_over_all : Stmt := top 20
abbrev t_is_paper : Stmt := top 47
abbrev t_is_barred : Stmt := top 32
abbrev t_can_stand : Stmt := top 27
abbrev t_placeable : Stmt := top 28
abbrev t_front_without : Stmt := top 29
abbrev t_masks_of : Stmt := top 26
abbrev t_fact_follows : Stmt := top 43
abbrev t_follows : Stmt := top 44
abbrev t__law_barred_right : Stmt := top 62
abbrev t__law_weaker : Stmt := top 57
abbrev t_fact_with : Stmt := top 23
abbrev t_opposite : Stmt := top 42
abbrev t_paper_in : Stmt := top 45
abbrev t_paper_for : Stmt := top 46
abbrev t__law_told : Stmt := top 58
abbrev t_laid_over : Stmt := top 21
abbrev t_least_order : Stmt := top 36
abbrev t_order_failing : Stmt := top 48
abbrev t_order_against : Stmt := top 49
abbrev t__law_papers_right : Stmt := top 60
abbrev t_fits_part : Stmt := top 18
abbrev t_need_part : Stmt := top 19
abbrev t_fact_of : Stmt := top 24
abbrev t__law_parts_right : Stmt := top 61
abbrev t__law_right : Stmt := top 63
abbrev t_law : Stmt := top 64
theorem sc__law_well : FnScope ["_law_script", "_law_cell", "_law_digits", "_law_seed"] ["_law_script"] (defScope t__law_well) := ⟨rfl, rfl, rfl, by decide +kernel, rfl, by decide +kernel, by decide +kernel⟩
theorem sc__law_draw : FnScope ["_law_well_here", "_law_many", "_law_mixed_here", "_law_found", "_law_turn"] ["_law_well_here", "_law_many"] (defScope t__law_draw) := ⟨rfl, rfl, rfl, by decide +kernel, rfl, by decide +kernel, by decide +kernel⟩
theorem sc__law_mixed : FnScope ["_law_well_here", "_law_items", "_law_turn", "_law_left", "_law_found", "_law_at"] ["_law_well_here", "_law_items"] (defScope t__law_mixed) := ⟨rfl, rfl, rfl, by decide +kernel, rfl, by decide +kernel, by decide +kernel⟩
theorem sc__law_fact : FnScope ["_law_well_here", "_law_count", "_law_hidden", "_law_signs", "_law_rule"] ["_law_well_here", "_law_count", "_law_hidden"] (defScope t__law_fact) := ⟨rfl, rfl, rfl, by decide +kernel, rfl, by decide +kernel, by decide +kernel⟩
theorem sc__law_facts : FnScope ["_law_well_here", "_law_count", "_law_many", "_law_odd", "_law_hidden", "_law_found", "_law_turn"] ["_law_well_here", "_law_count", "_law_many", "_law_odd"] (defScope t__law_facts) := ⟨rfl, rfl, rfl, by decide +kernel, rfl, by decide +kernel, by decide +kernel⟩
theorem sc_is_integer : FnScope ["value", "low", "high"] ["value", "low", "high"] (defScope t_is_integer) := ⟨rfl, rfl, rfl, by decide +kernel, rfl, by decide +kernel, by decide +kernel⟩
theorem sc_need_count : FnScope ["count", "most"] ["count", "most"] (defScope t_need_count) := ⟨rfl, rfl, rfl, by decide +kernel, rfl, by decide +kernel, by decide +kernel⟩
theorem sc_fits_fact : FnScope ["count", "value", "sign"] ["count", "value"] (defScope t_fits_fact) := ⟨rfl, rfl, rfl, by decide +kernel, rfl, by decide +kernel, by decide +kernel⟩
theorem sc_need_facts : FnScope ["count", "facts", "fact"] ["count", "facts"] (defScope t_need_facts) := ⟨rfl, rfl, rfl, by decide +kernel, rfl, by decide +kernel, by decide +kernel⟩
theorem sc_need_count_and_facts : FnScope ["count", "facts", "most"] ["count", "facts", "most"] (defScope t_need_count_and_facts) := ⟨rfl, rfl, rfl, by decide +kernel, rfl, by decide +kernel, by decide +kernel⟩
theorem sc_lacking_rule : FnScope ["count", "facts", "rule", "signs", "fact"] ["count", "facts"] (defScope t_lacking_rule) := ⟨rfl, rfl, rfl, by decide +kernel, rfl, by decide +kernel, by decide +kernel⟩
theorem sc_covering : FnScope ["count", "facts", "indices", "found", "rule", "index"] ["count", "facts", "indices"] (defScope t_covering) := ⟨rfl, rfl, rfl, by decide +kernel, rfl, by decide +kernel, by decide +kernel⟩
theorem sc_rules_with : FnScope ["fact", "sign", "rule", "there"] ["fact", "sign"] (defScope t_rules_with) := ⟨rfl, rfl, rfl, by decide +kernel, rfl, by decide +kernel, by decide +kernel⟩
theorem sc_mask_of : FnScope ["fact", "sign", "rule"] ["fact", "sign"] (defScope t_mask_of) := ⟨rfl, rfl, rfl, by decide +kernel, rfl, by decide +kernel, by decide +kernel⟩
theorem sc_layered : FnScope ["count", "facts", "placed", "left", "index", "fact", "front", "layer", "whole", "closed", "free", "wins", "losses", "one", "rule"] ["count", "facts"] (defScope t_layered) := ⟨rfl, rfl, rfl, by decide +kernel, rfl, by decide +kernel, by decide +kernel⟩
theorem sc_least_barring : FnScope ["count", "facts", "left", "kept", "index", "fewer", "rest", "other", "place"] ["count", "facts"] (defScope t_least_barring) := ⟨rfl, rfl, rfl, by decide +kernel, rfl, by decide +kernel, by decide +kernel⟩
theorem sc_barring_set : FnScope ["count", "facts"] ["count", "facts"] (defScope t_barring_set) := ⟨rfl, rfl, rfl, by decide +kernel, rfl, by decide +kernel, by decide +kernel⟩
theorem sc__law_joined : FnScope ["_law_one", "_law_other"] ["_law_one", "_law_other"] (defScope t__law_joined) := ⟨rfl, rfl, rfl, by decide +kernel, rfl, by decide +kernel, by decide +kernel⟩
theorem sc_are_indices : FnScope ["value", "many", "one", "other", "index"] ["value", "many"] (defScope t_are_indices) := ⟨rfl, rfl, rfl, by decide +kernel, rfl, by decide +kernel, by decide +kernel⟩
theorem sc_bars_all : FnScope ["count", "facts"] ["count", "facts"] (defScope t_bars_all) := ⟨rfl, rfl, rfl, by decide +kernel, rfl, by decide +kernel, by decide +kernel⟩
theorem sc_is_barring_set : FnScope ["count", "facts", "value", "index"] ["count", "facts", "value"] (defScope t_is_barring_set) := ⟨rfl, rfl, rfl, by decide +kernel, rfl, by decide +kernel, by decide +kernel⟩
theorem sc_need_fact : FnScope ["count", "fact"] ["count", "fact"] (defScope t_need_fact) := ⟨rfl, rfl, rfl, by decide +kernel, rfl, by decide +kernel, by decide +kernel⟩
theorem sc_over_all : FnScope ["count", "facts", "signs", "rule", "there", "fact"] ["count", "facts"] (defScope t_over_all) := ⟨rfl, rfl, rfl, by decide +kernel, rfl, by decide +kernel, by decide +kernel⟩
theorem sc_is_paper : FnScope ["count", "facts", "fact", "value", "losers", "over", "winners", "against", "index", "rule"] ["count", "facts", "fact", "value"] (defScope t_is_paper) := ⟨rfl, rfl, rfl, by decide +kernel, rfl, by decide +kernel, by decide +kernel⟩
theorem sc_is_barred : FnScope ["count", "facts"] ["count", "facts"] (defScope t_is_barred) := ⟨rfl, rfl, rfl, by decide +kernel, rfl, by decide +kernel, by decide +kernel⟩
theorem sc_can_stand : FnScope ["masks", "front", "rule", "mask"] ["masks", "front", "rule"] (defScope t_can_stand) := ⟨rfl, rfl, rfl, by decide +kernel, rfl, by decide +kernel, by decide +kernel⟩
theorem sc_placeable : FnScope ["masks", "front", "outside", "rule"] ["masks", "front"] (defScope t_placeable) := ⟨rfl, rfl, rfl, by decide +kernel, rfl, by decide +kernel, by decide +kernel⟩
theorem sc_front_without : FnScope ["masks", "barred", "front", "is_still", "rule"] ["masks", "barred"] (defScope t_front_without) := ⟨rfl, rfl, rfl, by decide +kernel, rfl, by decide +kernel, by decide +kernel⟩
theorem sc_masks_of : FnScope ["count", "facts", "found", "pairs", "rule", "fact", "mask"] ["count", "facts"] (defScope t_masks_of) := ⟨rfl, rfl, rfl, by decide +kernel, rfl, by decide +kernel, by decide +kernel⟩
theorem sc_fact_follows : FnScope ["count", "facts", "fact", "front"] ["count", "facts", "fact"] (defScope t_fact_follows) := ⟨rfl, rfl, rfl, by decide +kernel, rfl, by decide +kernel, by decide +kernel⟩
theorem sc_follows : FnScope ["count", "facts", "fact"] ["count", "facts", "fact"] (defScope t_follows) := ⟨rfl, rfl, rfl, by decide +kernel, rfl, by decide +kernel, by decide +kernel⟩
theorem sc__law_barred_right : FnScope ["_law_well_here", "_law_count", "_law_facts_here", "_law_second", "_law_told_here", "_law_first", "_law_turn", "_law_fact_here", "_law_index"] ["_law_well_here", "_law_count", "_law_facts_here"] (defScope t__law_barred_right) := ⟨rfl, rfl, rfl, by decide +kernel, rfl, by decide +kernel, by decide +kernel⟩
theorem sc__law_weaker : FnScope ["_law_well_here", "_law_fact_here", "_law_signs", "_law_rule", "_law_way"] ["_law_well_here", "_law_fact_here"] (defScope t__law_weaker) := ⟨rfl, rfl, rfl, by decide +kernel, rfl, by decide +kernel, by decide +kernel⟩
theorem sc_fact_with : FnScope ["count", "winners", "losers", "signs", "rule"] ["count", "winners", "losers"] (defScope t_fact_with) := ⟨rfl, rfl, rfl, by decide +kernel, rfl, by decide +kernel, by decide +kernel⟩
theorem sc_opposite : FnScope ["count", "rule", "ahead"] ["count", "rule", "ahead"] (defScope t_opposite) := ⟨rfl, rfl, rfl, by decide +kernel, rfl, by decide +kernel, by decide +kernel⟩
theorem sc_paper_in : FnScope ["count", "facts", "fact", "losers", "barring", "known", "rule", "index"] ["count", "facts", "fact"] (defScope t_paper_in) := ⟨rfl, rfl, rfl, by decide +kernel, rfl, by decide +kernel, by decide +kernel⟩
theorem sc_paper_for : FnScope ["count", "facts", "fact"] ["count", "facts", "fact"] (defScope t_paper_for) := ⟨rfl, rfl, rfl, by decide +kernel, rfl, by decide +kernel, by decide +kernel⟩
theorem sc__law_told : FnScope ["_law_count", "_law_facts_here", "_law_fact_here", "_law_second", "_law_first", "_law_index"] ["_law_count", "_law_facts_here", "_law_fact_here"] (defScope t__law_told) := ⟨rfl, rfl, rfl, by decide +kernel, rfl, by decide +kernel, by decide +kernel⟩
theorem sc_laid_over : FnScope ["count", "facts"] ["count", "facts"] (defScope t_laid_over) := ⟨rfl, rfl, rfl, by decide +kernel, rfl, by decide +kernel, by decide +kernel⟩
theorem sc_least_order : FnScope ["count", "facts", "place", "masks", "front", "found", "rule"] ["count", "facts"] (defScope t_least_order) := ⟨rfl, rfl, rfl, by decide +kernel, rfl, by decide +kernel, by decide +kernel⟩
theorem sc_order_failing : FnScope ["count", "facts", "fact", "ahead", "rule", "more"] ["count", "facts", "fact"] (defScope t_order_failing) := ⟨rfl, rfl, rfl, by decide +kernel, rfl, by decide +kernel, by decide +kernel⟩
theorem sc_order_against : FnScope ["count", "facts", "fact"] ["count", "facts", "fact"] (defScope t_order_against) := ⟨rfl, rfl, rfl, by decide +kernel, rfl, by decide +kernel, by decide +kernel⟩
theorem sc__law_papers_right : FnScope ["_law_well_here", "_law_count", "_law_facts_here", "_law_some", "_law_fact_here", "_law_more", "_law_other", "_law_others", "_law_paper", "_law_papers", "_law_helped", "_law_told_here", "_law_turn", "_law_without", "_law_index"] ["_law_well_here", "_law_count", "_law_facts_here"] (defScope t__law_papers_right) := ⟨rfl, rfl, rfl, by decide +kernel, rfl, by decide +kernel, by decide +kernel⟩
theorem sc_fits_part : FnScope ["count", "value", "rule", "ahead", "one", "other"] ["count", "value"] (defScope t_fits_part) := ⟨rfl, rfl, rfl, by decide +kernel, rfl, by decide +kernel, by decide +kernel⟩
theorem sc_need_part : FnScope ["count", "part"] ["count", "part"] (defScope t_need_part) := ⟨rfl, rfl, rfl, by decide +kernel, rfl, by decide +kernel, by decide +kernel⟩
theorem sc_fact_of : FnScope ["count", "part"] ["count", "part"] (defScope t_fact_of) := ⟨rfl, rfl, rfl, by decide +kernel, rfl, by decide +kernel, by decide +kernel⟩
theorem sc__law_parts_right : FnScope ["_law_well_here", "_law_count", "_law_facts_here", "_law_rule", "_law_ahead", "_law_one", "_law_whole", "_law_loud", "_law_fact_here", "_law_signs", "_law_told_here", "_law_paper", "_law_index"] ["_law_well_here", "_law_count", "_law_facts_here"] (defScope t__law_parts_right) := ⟨rfl, rfl, rfl, by decide +kernel, rfl, by decide +kernel, by decide +kernel⟩
theorem sc__law_right : FnScope ["_law_well_here", "_law_count", "_law_facts_here", "_law_turn"] ["_law_well_here"] (defScope t__law_right) := ⟨rfl, rfl, rfl, by decide +kernel, rfl, by decide +kernel, by decide +kernel⟩
theorem sc_law : FnScope ["_law_script", "_law_well_here", "_law_turn"] ["_law_script"] (defScope t_law) := ⟨rfl, rfl, rfl, by decide +kernel, rfl, by decide +kernel, by decide +kernel⟩
/-! ### what the defs do -/
def b__law_well_1 : SG := (seqG (iffG (liftT (tb (op2 geI (op1 absD (vG 1)) (op2 powI (cG (.int 10)) (cG (.int 18)))))) (setG 2 (liftP (op2 addI (op2 mulI (vG 2) (op2 powI (cG (.int 10)) (cG (.int 60)))) (op2 modI (op1 intD (op1 absD (vG 1))) (op2 powI (cG (.int 10)) (cG (.int 60))))))) nxG)
  (setG 3 (liftP (op2 modI (op1 intD (op2 addI (op2 addI (op2 mulI (vG 3) (cG (.int 75193))) (op2 modI (op1 intD (vG 1)) (cG (.int 999999999999999877)))) (cG (.int 41)))) (cG (.int 999999999999999989))))))
/-- _law_well: 0 _law_script, 1 _law_cell, 2 _law_digits, 3 _law_seed -/
def g__law_well : LG := (seqN (asgG (tupT 2 (consT (nmT 2) (consT (nmT 3) nilT))) (tupM (aCons (liftP (cG (.int 0))) (aCons (liftP (cG (.int 1299709))) aNil))))
  (seqN (forG (listI (nwM (cutN (rG 0) oNone (oSome (cG (.int 63)))))) (nmT 1) b__law_well_1)
  (lstN (aCons (liftP (vG 2)) (aCons (liftP (vG 3)) (aCons (liftP (cG (.int 0))) aNil))))))
/-- _law_draw: 0 _law_well_here, 1 _law_many, 2 _law_mixed_here, 3 _law_found, 4 _law_turn -/
def g__law_draw : SG := (seqG (iffG (liftT (tb (op2 gtI (vG 1) (op2 powI (cG (.int 10)) (cG (.int 24)))))) noG nxG)
  (seqG (iffG (liftT (tb (op2 gtI (op2 ixD (rG 0) (cG (.int 0))) (cG (.int 0))))) (seqG (setG 3 (liftP (op2 modI (op1 intD (op2 ixD (rG 0) (cG (.int 0)))) (vG 1))))
  (seqG (stG 0 (cG (.int 0)) (liftP (op2 fdivI (op2 ixD (rG 0) (cG (.int 0))) (vG 1))))
  (rtG (liftP (vG 3))))) nxG)
  (seqG (stG 0 (cG (.int 2)) (liftP (op2 addI (op2 ixD (rG 0) (cG (.int 2))) (cG (.int 1)))))
  (seqG (setG 2 (liftP (op2 modI (op1 intD (op2 powI (op2 addI (op2 ixD (rG 0) (cG (.int 1))) (op2 mulI (cG (.int 715827883)) (op2 ixD (rG 0) (cG (.int 2))))) (cG (.int 3)))) (cG (.int 170141183460469231731687303715884105727)))))
  (seqG (setG 2 (liftP (op2 modI (op1 intD (op2 powI (op2 addI (vG 2) (op2 mulI (cG (.int 87178291199)) (op2 ixD (rG 0) (cG (.int 2))))) (cG (.int 3)))) (cG (.int 1361129467683753853853498429727072845819)))))
  (rtG (liftP (op2 modI (op1 intD (op2 fdivI (vG 2) (cG (.int 3000017)))) (vG 1)))))))))
def b__law_mixed_1 : SG := (seqG (setG 5 (callPG 1 (runP 5 g__law_draw) 0 [] (aCons (liftP (op1 lenD (vG 3))) aNil)))
  (seqG (appG 4 (liftP (op2 ixD (vG 3) (vG 5))))
  (setG 3 (nwM (catN (nwM (cutN (vG 3) oNone (oSome (vG 5)))) (nwM (cutN (vG 3) (oSome (op2 addI (vG 5) (cG (.int 1)))) oNone)))))))
/-- _law_mixed: 0 _law_well_here, 1 _law_items, 2 _law_turn, 3 _law_left, 4 _law_found, 5 _law_at -/
def g__law_mixed : SG := (seqG (parG 3 4 (fzV (nwM (nw1 listD (vG 1)))) (olV (lstN aNil)))
  (seqG (forG (rng1I (liftP (op1 lenD (vG 1)))) (nmT 2) b__law_mixed_1)
  (rtG (fG 4))))
def b__law_fact_1 : SG := (iffG (liftT (tb (op2 neA (op2 ixD (rG 3) (vG 4)) (cG (.str "."))))) (seqG (stG 3 (vG 4) (liftP (cG (.str "W"))))
  bkG) nxG)
def e__law_fact_1 : MG := (op2M ixD (nwM (lstN (aCons (liftP (cG (.str "W"))) (aCons (liftP (cG (.str "L"))) (aCons (liftP (cG (.str "."))) (aCons (liftP (cG (.str "."))) (aCons (liftP (cG (.str "L"))) aNil))))))) (callPG 1 (runP 5 g__law_draw) 0 [] (aCons (liftP (cG (.int 5))) aNil)))
/-- _law_fact: 0 _law_well_here, 1 _law_count, 2 _law_hidden, 3 _law_signs, 4 _law_rule -/
def g__law_fact : SG := (seqG (newG 3 (lcN (rng1I (liftP (vG 1))) [4] (nmT 4) yesM e__law_fact_1))
  (seqG (forG (listI (liftP (vG 2))) (nmT 4) b__law_fact_1)
  (rtG (liftP (op2 joinD (cG (.str "")) (rG 3))))))
def e__law_facts_1 : MG := (callPG 2 (runP 5 g__law_fact) 0 [] (aCons (liftP (vG 1)) (aCons (liftP (vG 4)) aNil)))
/-- _law_facts: 0 _law_well_here, 1 _law_count, 2 _law_many, 3 _law_odd, 4 _law_hidden, 5 _law_found, 6 _law_turn -/
def g__law_facts : SG := (seqG (setG 4 (callPG 1 (runP 6 g__law_mixed) 0 [] (aCons (nwM (lrgN (liftP (vG 1)))) aNil)))
  (seqG (newG 5 (lcN (rng1I (callPG 1 (runP 5 g__law_draw) 0 [] (aCons (liftP (op2 addI (vG 2) (cG (.int 1)))) aNil))) [6] (nmT 6) yesM e__law_facts_1))
  (seqG (iffG (tbM (op2M ltI (callPG 1 (runP 5 g__law_draw) 0 [] (aCons (liftP (cG (.int 4))) aNil)) (liftP (vG 3)))) (appG 5 (callPG 2 (runP 5 g__law_fact) 0 [] (aCons (liftP (vG 1)) (aCons (nwM (lstN aNil)) aNil)))) nxG)
  (rtG (fG 5)))))
/-- is_integer: 0 value, 1 low, 2 high -/
def g_is_integer : SG := (seqG (iffG (liftT (tOrG (tNotG (tb (op1 (isiD "int") (vG 0)))) (tb (op1 (isiD "bool") (vG 0))))) (rtG (liftP (cG (.bool false)))) nxG)
  (rtG (liftP (andG (op2 leI (vG 1) (vG 0)) (orG (op2 isN (vG 2) (cG .none)) (op2 leI (vG 0) (vG 2)))))))
/-- need_count: 0 count, 1 most -/
def g_need_count : SG := (iffG (tNotM (tbM (callG 3 (runG 3 g_is_integer) [] (aCons (liftP (vG 0)) (aCons (liftP (cG (.int 1))) (aCons (liftP (vG 1)) aNil)))))) noG nxG)
def e_fits_fact_1 : MG := (op2M inA (liftP (vG 2)) (tupM (aCons (liftP (cG (.str "W"))) (aCons (liftP (cG (.str "L"))) (aCons (liftP (cG (.str "."))) aNil)))))
/-- fits_fact: 0 count, 1 value, 2 sign -/
def g_fits_fact : SG := (seqG (iffG (liftT (tOrG (tNotG (tb (op1 (isiD "str") (vG 1)))) (tb (op2 neA (op1 lenD (vG 1)) (vG 0))))) (rtG (liftP (cG (.bool false)))) nxG)
  (rtG (op1M allD (nwM (lcN (strI (vG 1)) [2] (nmT 2) yesM e_fits_fact_1)))))
def e_need_facts_1 : MG := (callG 2 (runG 3 g_fits_fact) [] (aCons (liftP (vG 0)) (aCons (liftP (vG 2)) aNil)))
/-- need_facts: 0 count, 1 facts, 2 fact -/
def g_need_facts : SG := (iffG (tOrM (liftT (tNotG (tb (op1 (isiD "list") (vG 1))))) (tOrM (liftT (tb (op2 gtI (op1 lenD (vG 1)) (cG (.int 200))))) (tNotM (tbM (op1M allD (nwM (lcN (listI (liftP (vG 1))) [2] (nmT 2) yesM e_need_facts_1))))))) noG nxG)
/-- need_count_and_facts: 0 count, 1 facts, 2 most -/
def g_need_count_and_facts : SG := (seqG (drG (callG 2 (runG 2 g_need_count) [] (aCons (liftP (vG 0)) (aCons (liftP (vG 2)) aNil))))
  (drG (callG 2 (runG 3 g_need_facts) [] (aCons (liftP (vG 0)) (aCons (liftP (vG 1)) aNil)))))
def e_lacking_rule_1 : MG := (liftP (op2 ixD (vG 4) (vG 2)))
def b_lacking_rule_1 : SG := (seqG (setG 3 (nwM (lcN (listI (liftP (vG 1))) [4] (nmT 4) yesM e_lacking_rule_1)))
  (iffG (liftT (tAndG (tb (op2 inA (cG (.str "W")) (vG 3))) (tb (op2 notInA (cG (.str "L")) (vG 3))))) (rtG (liftP (vG 2))) nxG))
/-- lacking_rule: 0 count, 1 facts, 2 rule, 3 signs, 4 fact -/
def g_lacking_rule : SG := (seqG (forG (rng1I (liftP (vG 0))) (nmT 2) b_lacking_rule_1)
  (rtG (liftP (cG .none))))
def w_covering_1 : TMG := (liftT (tb (op2 isnN (vG 4) (cG .none))))
def e_covering_1 : MG := (liftP (op2 ixD (vG 1) (vG 5)))
def q_covering_1 : TMG := (liftT (tb (op2 eqA (op2 ixD (op2 ixD (vG 1) (vG 5)) (vG 4)) (cG (.str "L")))))
def e_covering_2 : MG := (liftP (vG 5))
def b_covering_1 : SG := (seqG (appG 3 (op2M ixD (nwM (lcN (listI (liftP (vG 2))) [5] (nmT 5) q_covering_1 e_covering_2)) (liftP (cG (.int 0)))))
  (setG 4 (callG 2 (runG 5 g_lacking_rule) [] (aCons (liftP (vG 0)) (aCons (nwM (lcP 3 [5] (nmT 5) yesM e_covering_1)) aNil)))))
def e_covering_3 : MG := (liftP (op2 ixD (vG 1) (vG 5)))
/-- covering: 0 count, 1 facts, 2 indices, 3 found, 4 rule, 5 index -/
def g_covering : SG := (seqG (newG 3 (lstN (aCons (liftP (op2 ixD (vG 2) (cG (.int 0)))) aNil)))
  (seqG (setG 4 (callG 2 (runG 5 g_lacking_rule) [] (aCons (liftP (vG 0)) (aCons (nwM (lcP 3 [5] (nmT 5) yesM e_covering_3)) aNil))))
  (seqG (whileL w_covering_1 b_covering_1 100)
  (rtG (nwM (nw1 sortDI (rG 3)))))))
def q_rules_with_1 : TMG := (liftT (tb (op2 eqA (vG 3) (vG 1))))
def e_rules_with_1 : MG := (liftP (vG 2))
/-- rules_with: 0 fact, 1 sign, 2 rule, 3 there -/
def g_rules_with : SG := (rtG (nwM (lcN (enumSI (vG 0)) [2, 3] (tupT 2 (consT (nmT 2) (consT (nmT 3) nilT))) q_rules_with_1 e_rules_with_1)))
def e_mask_of_1 : MG := (liftP (op2 shlI (cG (.int 1)) (vG 2)))
/-- mask_of: 0 fact, 1 sign, 2 rule -/
def g_mask_of : SG := (rtG (op1M sumD (nwM (lcN (listI (callG 2 (runG 4 g_rules_with) [] (aCons (liftP (vG 0)) (aCons (liftP (vG 1)) aNil)))) [2] (nmT 2) yesM e_mask_of_1))))
def e_layered_1 : MG := (liftP (vG 7))
def w_layered_1 : TMG := (liftT (tb (op2 neA (vG 6) (vG 8))))
def q_layered_1 : TMG := (liftT (tb (op2 eqA (op2 andI (op2 ixD (vG 13) (cG (.int 1))) (vG 10)) (cG (.int 0)))))
def e_layered_2 : MG := (liftP (vG 13))
def q_layered_2 : TMG := (liftT (tb (op2 eqA (op2 andI (op2 shrI (vG 10) (vG 14)) (cG (.int 1))) (cG (.int 1)))))
def e_layered_3 : MG := (tupM (aCons (liftP (vG 14)) (aCons (liftP (vG 7)) aNil)))
def e_layered_4 : MG := (liftP (vG 4))
def b_layered_1 : SG := (setG 9 (liftP (op2 orI (vG 9) (vG 12))))
def b_layered_2 : SG := (seqG (setG 9 (liftP (vG 6)))
  (seqG (forG (listI (fG 3)) (tupT 3 (consT (nmT 4) (consT (nmT 11) (consT (nmT 12) nilT)))) b_layered_1)
  (seqG (setG 10 (liftP (op2 xorI (vG 8) (vG 9))))
  (seqG (iffG (liftT (tb (op2 eqA (vG 10) (cG (.int 0))))) (rtG (tupM (aCons (nwM (lstN aNil)) (aCons (nwM (lcN (listI (fG 3)) [4, 11, 12] (tupT 3 (consT (nmT 4) (consT (nmT 11) (consT (nmT 12) nilT)))) yesM e_layered_4)) aNil)))) nxG)
  (seqG (extG 2 (nwM (lcN (rng1I (liftP (vG 0))) [14] (nmT 14) q_layered_2 e_layered_3)))
  (seqG (newG 3 (lcN (listI (fG 3)) [13] (nmT 13) q_layered_1 e_layered_2))
  (seqG (setG 6 (liftP (op2 orI (vG 6) (vG 10))))
  (setG 7 (liftP (op2 addI (vG 7) (cG (.int 1))))))))))))
def b_layered_3 : SG := (iffG (liftT (tb (op2 neA (vG 5) (op2 mulS (cG (.str ".")) (vG 0))))) (appG 3 (tupM (aCons (liftP (vG 4)) (aCons (callG 2 (runG 3 g_mask_of) [.str "W"] (aCons (liftP (vG 5)) aNil)) (aCons (callG 2 (runG 3 g_mask_of) [] (aCons (liftP (vG 5)) (aCons (liftP (cG (.str "L"))) aNil))) aNil))))) nxG)
/-- layered: 0 count, 1 facts, 2 placed, 3 left, 4 index, 5 fact, 6 front, 7 layer, 8 whole, 9 closed, 10 free, 11 wins, 12 losses, 13 one, 14 rule -/
def g_layered : SG := (seqG (newG 2 (lstN aNil))
  (seqG (newG 3 (lstN aNil))
  (seqG (forG (enumI (liftP (vG 1))) (tupT 2 (consT (nmT 4) (consT (nmT 5) nilT))) b_layered_3)
  (seqG (asgG (tupT 3 (consT (nmT 6) (consT (nmT 7) (consT (nmT 8) nilT)))) (tupM (aCons (liftP (cG (.int 0))) (aCons (liftP (cG (.int 0))) (aCons (liftP (op2 subI (op2 shlI (cG (.int 1)) (vG 0)) (cG (.int 1)))) aNil)))))
  (seqG (whileL w_layered_1 b_layered_2 100)
  (rtG (tupM (aCons (nwM (lcN (listI (nwM (nw1 sortDP (rG 2)))) [14, 7] (tupT 2 (consT (nmT 14) (consT (nmT 7) nilT))) yesM e_layered_1)) (aCons (nwM (lstN aNil)) aNil)))))))))
def e_least_barring_1 : MG := (liftP (op2 ixD (vG 5) (vG 8)))
def e_least_barring_2 : MG := (liftP (op2 ixD (vG 1) (vG 7)))
def q_least_barring_1 : TMG := (liftT (tb (op2 neA (vG 7) (vG 4))))
def e_least_barring_3 : MG := (liftP (vG 7))
def b_least_barring_1 : SG := (iffG (liftT (tb (op2 inA (vG 4) (vG 3)))) (seqG (setG 5 (nwM (lcN (listI (liftP (vG 3))) [7] (nmT 7) q_least_barring_1 e_least_barring_3)))
  (seqG (setG 6 (op2M ixD (callG 2 (runG 15 g_layered) [] (aCons (liftP (vG 0)) (aCons (nwM (lcN (listI (liftP (vG 5))) [7] (nmT 7) yesM e_least_barring_2)) aNil))) (liftP (cG (.int 1)))))
  (iffG (tbM (op2M neA (liftP (vG 6)) (nwM (lstN aNil)))) (setG 3 (nwM (lcN (listI (liftP (vG 6))) [8] (nmT 8) yesM e_least_barring_1))) nxG))) nxG)
/-- least_barring: 0 count, 1 facts, 2 left, 3 kept, 4 index, 5 fewer, 6 rest, 7 other, 8 place -/
def g_least_barring : SG := (seqG (setG 2 (op2M ixD (callG 2 (runG 15 g_layered) [] (aCons (liftP (vG 0)) (aCons (liftP (vG 1)) aNil))) (liftP (cG (.int 1)))))
  (seqG (iffG (tbM (op2M eqA (liftP (vG 2)) (nwM (lstN aNil)))) (rtG (liftP (cG .none))) nxG)
  (seqG (setG 3 (callG 3 (runG 6 g_covering) [] (aCons (liftP (vG 0)) (aCons (liftP (vG 1)) (aCons (liftP (vG 2)) aNil)))))
  (seqG (forG (listI (nwM (nw1 listD (vG 3)))) (nmT 4) b_least_barring_1)
  (rtG (liftP (vG 3)))))))
/-- barring_set: 0 count, 1 facts -/
def g_barring_set : SG := (seqG (drG (callG 3 (runG 3 g_need_count_and_facts) [.int 60] (aCons (liftP (vG 0)) (aCons (liftP (vG 1)) aNil))))
  (rtG (callG 2 (runG 9 g_least_barring) [] (aCons (liftP (vG 0)) (aCons (liftP (vG 1)) aNil)))))
/-- _law_joined: 0 _law_one, 1 _law_other -/
def g__law_joined : SG := (rtG (nwM (ssetN (nwM (catN (liftP (vG 0)) (liftP (vG 1)))))))
def e_are_indices_1 : MG := (liftP (op2 ltI (vG 2) (vG 3)))
def e_are_indices_2 : MG := (callG 3 (runG 3 g_is_integer) [] (aCons (liftP (vG 4)) (aCons (liftP (cG (.int 0))) (aCons (liftP (op2 subI (vG 1) (cG (.int 1)))) aNil))))
/-- are_indices: 0 value, 1 many, 2 one, 3 other, 4 index -/
def g_are_indices : SG := (seqG (iffG (tOrM (liftT (tNotG (tb (op1 (isiD "list") (vG 0))))) (tNotM (tbM (op1M allD (nwM (lcN (listI (liftP (vG 0))) [4] (nmT 4) yesM e_are_indices_2)))))) (rtG (liftP (cG (.bool false)))) nxG)
  (rtG (op1M allD (nwM (lcN (zipI (aCons (liftP (vG 0)) (aCons (nwM (cutN (vG 0) (oSome (cG (.int 1))) oNone)) aNil))) [2, 3] (tupT 2 (consT (nmT 2) (consT (nmT 3) nilT))) yesM e_are_indices_1)))))
/-- bars_all: 0 count, 1 facts -/
def g_bars_all : SG := (rtG (andM (op2M neA (liftP (vG 1)) (nwM (lstN aNil))) (andM (liftP (op2 notInA (op2 mulS (cG (.str ".")) (vG 0)) (vG 1))) (op2M isN (callG 2 (runG 5 g_lacking_rule) [] (aCons (liftP (vG 0)) (aCons (liftP (vG 1)) aNil))) (liftP (cG .none))))))
def e_is_barring_set_1 : MG := (liftP (op2 ixD (vG 1) (vG 3)))
/-- is_barring_set: 0 count, 1 facts, 2 value, 3 index -/
def g_is_barring_set : SG := (seqG (drG (callG 3 (runG 3 g_need_count_and_facts) [.int 60] (aCons (liftP (vG 0)) (aCons (liftP (vG 1)) aNil))))
  (rtG (andM (callG 2 (runG 5 g_are_indices) [] (aCons (liftP (vG 2)) (aCons (liftP (op1 lenD (vG 1))) aNil))) (callG 2 (runG 2 g_bars_all) [] (aCons (liftP (vG 0)) (aCons (nwM (lcN (listI (liftP (vG 2))) [3] (nmT 3) yesM e_is_barring_set_1)) aNil))))))
/-- need_fact: 0 count, 1 fact -/
def g_need_fact : SG := (iffG (tNotM (tbM (callG 2 (runG 3 g_fits_fact) [] (aCons (liftP (vG 0)) (aCons (liftP (vG 1)) aNil))))) noG nxG)
def e_over_all_1 : MG := (liftP (op2 ixD (vG 5) (vG 3)))
def b_over_all_1 : SG := (seqG (setG 4 (nwM (lcN (listI (liftP (vG 1))) [5] (nmT 5) yesM e_over_all_1)))
  (appG 2 (liftP (ifG (tb (op2 inA (cG (.str "L")) (vG 4))) (cG (.str "L")) (ifG (tb (op2 inA (cG (.str "W")) (vG 4))) (cG (.str "W")) (cG (.str ".")))))))
/-- over_all: 0 count, 1 facts, 2 signs, 3 rule, 4 there, 5 fact -/
def g_over_all : SG := (seqG (newG 2 (lstN aNil))
  (seqG (forG (rng1I (liftP (vG 0))) (nmT 3) b_over_all_1)
  (rtG (liftP (op2 joinD (cG (.str "")) (rG 2))))))
def e_is_paper_1 : MG := (liftP (op2 inA (vG 9) (vG 7)))
def e_is_paper_2 : MG := (liftP (op2 eqA (op2 ixD (vG 2) (vG 9)) (cG (.str "W"))))
def e_is_paper_3 : MG := (liftP (op2 ixD (vG 1) (vG 8)))
/-- is_paper: 0 count, 1 facts, 2 fact, 3 value, 4 losers, 5 over, 6 winners, 7 against, 8 index, 9 rule -/
def g_is_paper : SG := (seqG (drG (callG 3 (runG 3 g_need_count_and_facts) [.int 60] (aCons (liftP (vG 0)) (aCons (liftP (vG 1)) aNil))))
  (seqG (drG (callG 2 (runG 2 g_need_fact) [] (aCons (liftP (vG 0)) (aCons (liftP (vG 2)) aNil))))
  (seqG (iffG (tNotM (tbM (callG 2 (runG 5 g_are_indices) [] (aCons (liftP (vG 3)) (aCons (liftP (op1 lenD (vG 1))) aNil))))) (rtG (liftP (cG (.bool false)))) nxG)
  (seqG (setG 4 (callG 2 (runG 4 g_rules_with) [] (aCons (liftP (vG 2)) (aCons (liftP (cG (.str "L"))) aNil))))
  (seqG (setG 5 (callG 2 (runG 6 g_over_all) [] (aCons (liftP (vG 0)) (aCons (nwM (lcN (listI (liftP (vG 3))) [8] (nmT 8) yesM e_is_paper_3)) aNil))))
  (seqG (asgG (tupT 2 (consT (nmT 6) (consT (nmT 7) nilT))) (tupM (aCons (callG 2 (runG 4 g_rules_with) [] (aCons (liftP (vG 5)) (aCons (liftP (cG (.str "W"))) aNil))) (aCons (callG 2 (runG 4 g_rules_with) [] (aCons (liftP (vG 5)) (aCons (liftP (cG (.str "L"))) aNil))) aNil))))
  (seqG (iffG (tbM (op2M eqA (liftP (vG 4)) (nwM (lstN aNil)))) (rtG (liftP (cG (.bool true)))) nxG)
  (seqG (iffG (tOrM (tbM (op2M eqA (liftP (vG 3)) (nwM (lstN aNil)))) (tNotM (tbM (op1M allD (nwM (lcN (listI (liftP (vG 6))) [9] (nmT 9) yesM e_is_paper_2)))))) (rtG (liftP (cG (.bool false)))) nxG)
  (rtG (orM (op1M allD (nwM (lcN (listI (liftP (vG 4))) [9] (nmT 9) yesM e_is_paper_1))) (andM (op2M neA (liftP (vG 7)) (nwM (lstN aNil))) (op2M eqA (liftP (vG 6)) (nwM (lstN aNil))))))))))))))
/-- is_barred: 0 count, 1 facts -/
def g_is_barred : SG := (rtG (op2M neA (op2M ixD (callG 2 (runG 15 g_layered) [] (aCons (liftP (vG 0)) (aCons (liftP (vG 1)) aNil))) (liftP (cG (.int 1)))) (nwM (lstN aNil))))
def e_can_stand_1 : MG := (liftP (op2 neA (op2 andI (vG 3) (vG 1)) (cG (.int 0))))
/-- can_stand: 0 masks, 1 front, 2 rule, 3 mask -/
def g_can_stand : SG := (rtG (op1M allD (nwM (lcN (listI (liftP (op2 ixD (vG 0) (vG 2)))) [3] (nmT 3) yesM e_can_stand_1))))
def q_placeable_1 : TMG := (tbM (callG 3 (runG 4 g_can_stand) [] (aCons (liftP (vG 0)) (aCons (liftP (vG 1)) (aCons (liftP (vG 3)) aNil)))))
def e_placeable_1 : MG := (liftP (vG 3))
def q_placeable_2 : TMG := (liftT (tb (op2 eqA (op2 andI (op2 shrI (vG 1) (vG 3)) (cG (.int 1))) (cG (.int 0)))))
def e_placeable_2 : MG := (liftP (vG 3))
/-- placeable: 0 masks, 1 front, 2 outside, 3 rule -/
def g_placeable : SG := (seqG (setG 2 (nwM (lcN (rng1I (liftP (op1 lenD (vG 0)))) [3] (nmT 3) q_placeable_2 e_placeable_2)))
  (rtG (nwM (lcN (listI (liftP (vG 2))) [3] (nmT 3) q_placeable_1 e_placeable_1))))
def w_front_without_1 : TMG := (liftT (tNotG (tb (vG 3))))
def b_front_without_1 : SG := (iffG (liftT (tb (op2 eqA (op2 andI (op2 shrI (vG 1) (vG 4)) (cG (.int 1))) (cG (.int 0))))) (seqG (setG 2 (liftP (op2 orI (vG 2) (op2 shlI (cG (.int 1)) (vG 4)))))
  (setG 3 (liftP (cG (.bool false))))) nxG)
def b_front_without_2 : SG := (seqG (setG 3 (liftP (cG (.bool true))))
  (forG (listI (callG 2 (runG 4 g_placeable) [] (aCons (liftP (vG 0)) (aCons (liftP (vG 2)) aNil)))) (nmT 4) b_front_without_1))
/-- front_without: 0 masks, 1 barred, 2 front, 3 is_still, 4 rule -/
def g_front_without : SG := (seqG (asgG (tupT 2 (consT (nmT 2) (consT (nmT 3) nilT))) (tupM (aCons (liftP (cG (.int 0))) (aCons (liftP (cG (.bool false))) aNil))))
  (seqG (whileL w_front_without_1 b_front_without_2 100)
  (rtG (liftP (vG 2)))))
def q_masks_of_1 : TMG := (liftT (tb (op2 eqA (op2 ixD (vG 5) (vG 4)) (cG (.str "L")))))
def e_masks_of_1 : MG := (liftP (vG 6))
def b_masks_of_1 : SG := (appG 2 (nwM (sscN (listI (liftP (vG 3))) [5, 6] (tupT 2 (consT (nmT 5) (consT (nmT 6) nilT))) q_masks_of_1 e_masks_of_1)))
def e_masks_of_2 : MG := (tupM (aCons (liftP (vG 5)) (aCons (callG 2 (runG 3 g_mask_of) [.str "W"] (aCons (liftP (vG 5)) aNil)) aNil)))
/-- masks_of: 0 count, 1 facts, 2 found, 3 pairs, 4 rule, 5 fact, 6 mask -/
def g_masks_of : SG := (seqG (newG 2 (lstN aNil))
  (seqG (setG 3 (nwM (lcN (listI (liftP (vG 1))) [5] (nmT 5) yesM e_masks_of_2)))
  (seqG (forG (rng1I (liftP (vG 0))) (nmT 4) b_masks_of_1)
  (rtG (fG 2)))))
/-- fact_follows: 0 count, 1 facts, 2 fact, 3 front -/
def g_fact_follows : SG := (seqG (iffG (tbM (callG 2 (runG 2 g_is_barred) [] (aCons (liftP (vG 0)) (aCons (liftP (vG 1)) aNil)))) (rtG (liftP (cG (.bool true)))) nxG)
  (seqG (setG 3 (callG 2 (runG 5 g_front_without) [] (aCons (callG 2 (runG 7 g_masks_of) [] (aCons (liftP (vG 0)) (aCons (liftP (vG 1)) aNil))) (aCons (callG 2 (runG 3 g_mask_of) [.str "W"] (aCons (liftP (vG 2)) aNil)) aNil))))
  (rtG (op2M eqA (op2M andI (liftP (vG 3)) (callG 2 (runG 3 g_mask_of) [] (aCons (liftP (vG 2)) (aCons (liftP (cG (.str "L"))) aNil)))) (liftP (cG (.int 0)))))))
/-- follows: 0 count, 1 facts, 2 fact -/
def g_follows : SG := (seqG (drG (callG 3 (runG 3 g_need_count_and_facts) [.int 60] (aCons (liftP (vG 0)) (aCons (liftP (vG 1)) aNil))))
  (seqG (drG (callG 2 (runG 2 g_need_fact) [] (aCons (liftP (vG 0)) (aCons (liftP (vG 2)) aNil))))
  (rtG (callG 3 (runG 4 g_fact_follows) [] (aCons (liftP (vG 0)) (aCons (liftP (vG 1)) (aCons (liftP (vG 2)) aNil)))))))
def b__law_barred_right_1 : SG := (seqG (setG 7 (callPG 2 (runP 5 g__law_fact) 0 [] (aCons (liftP (vG 1)) (aCons (nwM (lstN aNil)) aNil))))
  (iffG (tOrM (tbM (op2M isnB (callG 4 (runG 10 g_is_paper) [] (aCons (liftP (vG 1)) (aCons (liftP (vG 2)) (aCons (liftP (vG 7)) (aCons (liftP (vG 4)) aNil))))) (liftP (cG (.bool true))))) (tbM (op2M isnB (callG 3 (runG 3 g_follows) [] (aCons (liftP (vG 1)) (aCons (liftP (vG 2)) (aCons (liftP (vG 7)) aNil)))) (liftP (cG (.bool true)))))) (rtG (liftP (cG (.bool false)))) nxG))
def b__law_barred_right_2 : SG := (seqG (iffG (tbM (op2M isnB (callG 3 (runG 4 g_is_barring_set) [] (aCons (liftP (vG 1)) (aCons (liftP (vG 2)) (aCons (liftP (vG 4)) aNil)))) (liftP (cG (.bool true))))) (rtG (liftP (cG (.bool false)))) nxG)
  (forG (rng1I (liftP (cG (.int 2)))) (nmT 6) b__law_barred_right_1))
def e__law_barred_right_1 : MG := (liftP (op2 subI (op2 subI (op1 lenD (vG 2)) (cG (.int 1))) (vG 8)))
/-- _law_barred_right: 0 _law_well_here, 1 _law_count, 2 _law_facts_here, 3 _law_second, 4 _law_told_here, 5 _law_first, 6 _law_turn, 7 _law_fact_here, 8 _law_index -/
def g__law_barred_right : SG := (seqG (parG 5 3 (fzV (callG 2 (runG 2 g_barring_set) [] (aCons (liftP (vG 1)) (aCons (liftP (vG 2)) aNil)))) (fzV (callG 2 (runG 2 g_barring_set) [] (aCons (liftP (vG 1)) (aCons (nwM (revN (vG 2))) aNil)))))
  (seqG (iffG (liftT (tOrG (tb (op2 isN (vG 5) (cG .none))) (tb (op2 isN (vG 3) (cG .none))))) (rtG (liftP (cG (.bool false)))) nxG)
  (seqG (setG 3 (nwM (nw1M sortDI (nwM (lcN (listI (liftP (vG 3))) [8] (nmT 8) yesM e__law_barred_right_1)))))
  (seqG (forG (listI (nwM (lstN (aCons (liftP (vG 5)) (aCons (liftP (vG 3)) (aCons (callG 2 (runG 2 g__law_joined) [] (aCons (liftP (vG 5)) (aCons (liftP (vG 3)) aNil))) aNil)))))) (nmT 4) b__law_barred_right_2)
  (rtG (liftP (cG (.bool true))))))))
def b__law_weaker_1 : SG := (seqG (setG 4 (callPG 1 (runP 5 g__law_draw) 0 [] (aCons (liftP (cG (.int 6))) aNil)))
  (seqG (iffG (liftT (tAndG (tb (op2 eqA (vG 4) (cG (.int 0)))) (tb (op2 eqA (op2 ixD (rG 2) (vG 3)) (cG (.str "L")))))) (stG 2 (vG 3) (liftP (cG (.str ".")))) nxG)
  (iffG (liftT (tAndG (tb (op2 ltI (vG 4) (cG (.int 2)))) (tb (op2 eqA (op2 ixD (rG 2) (vG 3)) (cG (.str ".")))))) (stG 2 (vG 3) (liftP (cG (.str "W")))) nxG)))
/-- _law_weaker: 0 _law_well_here, 1 _law_fact_here, 2 _law_signs, 3 _law_rule, 4 _law_way -/
def g__law_weaker : SG := (seqG (newG 2 (nw1 listSD (vG 1)))
  (seqG (forG (rng1I (liftP (op1 lenD (rG 2)))) (nmT 3) b__law_weaker_1)
  (rtG (liftP (op2 joinD (cG (.str "")) (rG 2))))))
def b_fact_with_1 : SG := (appG 3 (liftP (ifG (tb (op2 inA (vG 4) (vG 1))) (cG (.str "W")) (ifG (tb (op2 inA (vG 4) (vG 2))) (cG (.str "L")) (cG (.str "."))))))
/-- fact_with: 0 count, 1 winners, 2 losers, 3 signs, 4 rule -/
def g_fact_with : SG := (seqG (newG 3 (lstN aNil))
  (seqG (forG (rng1I (liftP (vG 0))) (nmT 4) b_fact_with_1)
  (rtG (liftP (op2 joinD (cG (.str "")) (rG 3))))))
/-- opposite: 0 count, 1 rule, 2 ahead -/
def g_opposite : SG := (rtG (callG 3 (runG 5 g_fact_with) [] (aCons (liftP (vG 0)) (aCons (nwM (lstN (aCons (liftP (vG 1)) aNil))) (aCons (liftP (vG 2)) aNil)))))
def b_paper_in_1 : SG := (iffG (liftT (tb (op2 ltI (vG 7) (op1 lenD (vG 1))))) (putG 5 (vG 7) (liftP (cG (.bool true)))) nxG)
def b_paper_in_2 : SG := (forG (listI (callG 2 (runG 9 g_least_barring) [] (aCons (liftP (vG 0)) (aCons (nwM (lstN (aStar (liftP (vG 1)) (aCons (callG 3 (runG 3 g_opposite) [] (aCons (liftP (vG 0)) (aCons (liftP (vG 6)) (aCons (callG 2 (runG 4 g_rules_with) [] (aCons (liftP (vG 2)) (aCons (liftP (cG (.str "W"))) aNil))) aNil)))) aNil)))) aNil)))) (nmT 7) b_paper_in_1)
/-- paper_in: 0 count, 1 facts, 2 fact, 3 losers, 4 barring, 5 known, 6 rule, 7 index -/
def g_paper_in : SG := (seqG (setG 3 (callG 2 (runG 4 g_rules_with) [] (aCons (liftP (vG 2)) (aCons (liftP (cG (.str "L"))) aNil))))
  (seqG (setG 4 (callG 2 (runG 9 g_least_barring) [] (aCons (liftP (vG 0)) (aCons (liftP (vG 1)) aNil))))
  (seqG (iffG (tOrM (tbM (op2M eqA (liftP (vG 3)) (nwM (lstN aNil)))) (liftT (tb (op2 isnN (vG 4) (cG .none))))) (rtG (ifM (tbM (op2M eqA (liftP (vG 3)) (nwM (lstN aNil)))) (nwM (lstN aNil)) (liftP (vG 4)))) nxG)
  (seqG (setVG 5 odV)
  (seqG (forG (listI (liftP (vG 3))) (nmT 6) b_paper_in_2)
  (rtG (nwM (sortDN 5))))))))
/-- paper_for: 0 count, 1 facts, 2 fact -/
def g_paper_for : SG := (seqG (drG (callG 3 (runG 3 g_need_count_and_facts) [.int 60] (aCons (liftP (vG 0)) (aCons (liftP (vG 1)) aNil))))
  (seqG (drG (callG 2 (runG 2 g_need_fact) [] (aCons (liftP (vG 0)) (aCons (liftP (vG 2)) aNil))))
  (rtG (ifM (tbM (callG 3 (runG 4 g_fact_follows) [] (aCons (liftP (vG 0)) (aCons (liftP (vG 1)) (aCons (liftP (vG 2)) aNil))))) (callG 3 (runG 8 g_paper_in) [] (aCons (liftP (vG 0)) (aCons (liftP (vG 1)) (aCons (liftP (vG 2)) aNil)))) (liftP (cG .none))))))
def e__law_told_1 : MG := (liftP (op2 subI (op2 subI (op1 lenD (vG 1)) (cG (.int 1))) (vG 5)))
/-- _law_told: 0 _law_count, 1 _law_facts_here, 2 _law_fact_here, 3 _law_second, 4 _law_first, 5 _law_index -/
def g__law_told : SG := (seqG (parG 4 3 (fzV (callG 3 (runG 3 g_paper_for) [] (aCons (liftP (vG 0)) (aCons (liftP (vG 1)) (aCons (liftP (vG 2)) aNil))))) (fzV (callG 3 (runG 3 g_paper_for) [] (aCons (liftP (vG 0)) (aCons (nwM (revN (vG 1))) (aCons (liftP (vG 2)) aNil))))))
  (seqG (iffG (liftT (tOrG (tb (op2 isN (vG 4) (cG .none))) (tb (op2 isN (vG 3) (cG .none))))) (rtG (liftP (cG .none))) nxG)
  (seqG (setG 3 (nwM (nw1M sortDI (nwM (lcN (listI (liftP (vG 3))) [5] (nmT 5) yesM e__law_told_1)))))
  (seqG (iffG (tOrM (tbM (op2M isnB (callG 4 (runG 10 g_is_paper) [] (aCons (liftP (vG 0)) (aCons (liftP (vG 1)) (aCons (liftP (vG 2)) (aCons (liftP (vG 4)) aNil))))) (liftP (cG (.bool true))))) (tbM (op2M isnB (callG 4 (runG 10 g_is_paper) [] (aCons (liftP (vG 0)) (aCons (liftP (vG 1)) (aCons (liftP (vG 2)) (aCons (liftP (vG 3)) aNil))))) (liftP (cG (.bool true)))))) (rtG (liftP (cG .none))) nxG)
  (rtG (nwM (lstN (aCons (liftP (vG 4)) (aCons (liftP (vG 3)) aNil)))))))))
/-- laid_over: 0 count, 1 facts -/
def g_laid_over : SG := (seqG (drG (callG 3 (runG 3 g_need_count_and_facts) [.int 60] (aCons (liftP (vG 0)) (aCons (liftP (vG 1)) aNil))))
  (rtG (callG 2 (runG 6 g_over_all) [] (aCons (liftP (vG 0)) (aCons (liftP (vG 1)) aNil)))))
def b_least_order_1 : SG := (seqG (setG 6 (op2M ixD (callG 2 (runG 4 g_placeable) [] (aCons (liftP (vG 3)) (aCons (liftP (vG 4)) aNil))) (liftP (cG (.int 0)))))
  (seqG (appG 5 (liftP (vG 6)))
  (setG 4 (liftP (op2 orI (vG 4) (op2 shlI (cG (.int 1)) (vG 6)))))))
/-- least_order: 0 count, 1 facts, 2 place, 3 masks, 4 front, 5 found, 6 rule -/
def g_least_order : SG := (seqG (par3G' 3 4 5 (callG 2 (runG 7 g_masks_of) [] (aCons (liftP (vG 0)) (aCons (liftP (vG 1)) aNil))) (liftP (cG (.int 0))) (olV (lstN aNil)))
  (seqG (forG (rng1I (liftP (vG 0))) (nmT 2) b_least_order_1)
  (rtG (fG 5))))
def b_order_failing_1 : SG := (seqG (setG 5 (nwM (lstN (aStar (liftP (vG 1)) (aCons (callG 3 (runG 3 g_opposite) [] (aCons (liftP (vG 0)) (aCons (liftP (vG 4)) (aCons (liftP (vG 3)) aNil)))) aNil)))))
  (iffG (tNotM (tbM (callG 2 (runG 2 g_is_barred) [] (aCons (liftP (vG 0)) (aCons (liftP (vG 5)) aNil))))) (rtG (callG 2 (runG 7 g_least_order) [] (aCons (liftP (vG 0)) (aCons (liftP (vG 5)) aNil)))) nxG))
/-- order_failing: 0 count, 1 facts, 2 fact, 3 ahead, 4 rule, 5 more -/
def g_order_failing : SG := (seqG (setG 3 (callG 2 (runG 4 g_rules_with) [] (aCons (liftP (vG 2)) (aCons (liftP (cG (.str "W"))) aNil))))
  (seqG (forG (listI (callG 2 (runG 4 g_rules_with) [] (aCons (liftP (vG 2)) (aCons (liftP (cG (.str "L"))) aNil)))) (nmT 4) b_order_failing_1)
  (rtG (liftP (cG .none)))))
/-- order_against: 0 count, 1 facts, 2 fact -/
def g_order_against : SG := (seqG (drG (callG 3 (runG 3 g_need_count_and_facts) [.int 60] (aCons (liftP (vG 0)) (aCons (liftP (vG 1)) aNil))))
  (seqG (drG (callG 2 (runG 2 g_need_fact) [] (aCons (liftP (vG 0)) (aCons (liftP (vG 2)) aNil))))
  (rtG (callG 3 (runG 6 g_order_failing) [] (aCons (liftP (vG 0)) (aCons (liftP (vG 1)) (aCons (liftP (vG 2)) aNil)))))))
def b__law_papers_right_1 : SG := (iffG (tbM (op2M isnB (callG 4 (runG 10 g_is_paper) [] (aCons (liftP (vG 1)) (aCons (liftP (vG 2)) (aCons (callG 2 (runG 2 g_laid_over) [] (aCons (liftP (vG 1)) (aCons (nwM (lstN (aCons (liftP (vG 4)) (aCons (liftP (vG 6)) aNil)))) aNil))) (aCons (callG 2 (runG 2 g__law_joined) [] (aCons (liftP (vG 8)) (aCons (liftP (vG 11)) aNil))) aNil))))) (liftP (cG (.bool true))))) (rtG (liftP (cG (.bool false)))) nxG)
def q__law_papers_right_1 : TMG := (liftT (tb (op2 ltI (vG 14) (op1 lenD (vG 2)))))
def e__law_papers_right_1 : MG := (liftP (vG 14))
def b__law_papers_right_2 : SG := (seqG (setG 13 (nwM (lcN (listI (liftP (vG 11))) [14] (nmT 14) q__law_papers_right_1 e__law_papers_right_1)))
  (seqG (iffG (liftT (tb (op2 ltI (op1 lenD (vG 13)) (op1 lenD (vG 11))))) (setG 13 (callG 2 (runG 2 g__law_joined) [] (aCons (liftP (vG 8)) (aCons (liftP (vG 13)) aNil)))) nxG)
  (iffG (tbM (op2M isnB (callG 4 (runG 10 g_is_paper) [] (aCons (liftP (vG 1)) (aCons (liftP (vG 2)) (aCons (liftP (vG 6)) (aCons (liftP (vG 13)) aNil))))) (liftP (cG (.bool true))))) (rtG (liftP (cG (.bool false)))) nxG)))
def b__law_papers_right_3 : SG := (seqG (forG (listI (liftP (vG 10))) (nmT 11) b__law_papers_right_2)
  (forG (listI (liftP (vG 7))) (nmT 11) b__law_papers_right_1))
def e__law_papers_right_2 : MG := (op2M ixD (liftP (vG 2)) (callPG 1 (runP 5 g__law_draw) 0 [] (aCons (liftP (op1 lenD (vG 2))) aNil)))
def e__law_papers_right_3 : MG := (op2M ixD (liftP (vG 2)) (callPG 1 (runP 5 g__law_draw) 0 [] (aCons (liftP (op1 lenD (vG 2))) aNil)))
/-- _law_papers_right: 0 _law_well_here, 1 _law_count, 2 _law_facts_here, 3 _law_some, 4 _law_fact_here, 5 _law_more, 6 _law_other, 7 _law_others, 8 _law_paper, 9 _law_papers, 10 _law_helped, 11 _law_told_here, 12 _law_turn, 13 _law_without, 14 _law_index -/
def g__law_papers_right : SG := (seqG (setG 3 (nwM (lcN (rng1I (op2M addI (liftP (cG (.int 1))) (callPG 1 (runP 5 g__law_draw) 0 [] (aCons (liftP (cG (.int 3))) aNil)))) [12] (nmT 12) yesM e__law_papers_right_3)))
  (seqG (setG 4 (callPG 1 (runP 5 g__law_weaker) 0 [] (aCons (callG 2 (runG 2 g_laid_over) [] (aCons (liftP (vG 1)) (aCons (liftP (vG 3)) aNil))) aNil)))
  (seqG (setG 5 (nwM (lcN (rng1I (callPG 1 (runP 5 g__law_draw) 0 [] (aCons (liftP (cG (.int 3))) aNil))) [12] (nmT 12) yesM e__law_papers_right_2)))
  (seqG (setG 6 (callPG 1 (runP 5 g__law_weaker) 0 [] (aCons (callG 2 (runG 2 g_laid_over) [] (aCons (liftP (vG 1)) (aCons (nwM (catN (liftP (vG 5)) (nwM (lstN (aCons (liftP (vG 4)) aNil))))) aNil))) aNil)))
  (seqG (iffG (tOrM (tbM (op2M isnB (callG 3 (runG 3 g_follows) [] (aCons (liftP (vG 1)) (aCons (liftP (vG 2)) (aCons (liftP (vG 4)) aNil)))) (liftP (cG (.bool true))))) (tbM (op2M isnB (callG 3 (runG 3 g_follows) [] (aCons (liftP (vG 1)) (aCons (liftP (vG 2)) (aCons (liftP (vG 6)) aNil)))) (liftP (cG (.bool true)))))) (rtG (liftP (cG (.bool false)))) nxG)
  (seqG (parG 9 10 (fzV (callG 3 (runG 6 g__law_told) [] (aCons (liftP (vG 1)) (aCons (liftP (vG 2)) (aCons (liftP (vG 4)) aNil))))) (fzV (callG 3 (runG 6 g__law_told) [] (aCons (liftP (vG 1)) (aCons (nwM (catN (liftP (vG 2)) (nwM (lstN (aCons (liftP (vG 4)) aNil))))) (aCons (liftP (vG 6)) aNil))))))
  (seqG (setG 7 (callG 3 (runG 6 g__law_told) [] (aCons (liftP (vG 1)) (aCons (liftP (vG 2)) (aCons (liftP (vG 6)) aNil)))))
  (seqG (iffG (liftT (tOrG (tb (op2 isN (vG 9) (cG .none))) (tOrG (tb (op2 isN (vG 10) (cG .none))) (tb (op2 isN (vG 7) (cG .none)))))) (rtG (liftP (cG (.bool false)))) nxG)
  (seqG (iffG (tbM (op2M isnB (callG 4 (runG 10 g_is_paper) [] (aCons (liftP (vG 1)) (aCons (liftP (vG 2)) (aCons (liftP (vG 4)) (aCons (callG 2 (runG 2 g__law_joined) [] (aCons (liftP (op2 ixD (vG 9) (cG (.int 0)))) (aCons (liftP (op2 ixD (vG 9) (cG (.int 1)))) aNil))) aNil))))) (liftP (cG (.bool true))))) (rtG (liftP (cG (.bool false)))) nxG)
  (seqG (forG (listI (liftP (vG 9))) (nmT 8) b__law_papers_right_3)
  (rtG (op2M isN (callG 3 (runG 3 g_order_against) [] (aCons (liftP (vG 1)) (aCons (liftP (vG 2)) (aCons (liftP (vG 6)) aNil)))) (liftP (cG .none))))))))))))))
def e_fits_part_1 : MG := (liftP (op2 ltI (vG 4) (vG 5)))
def e_fits_part_2 : MG := (andM (callG 3 (runG 3 g_is_integer) [] (aCons (liftP (vG 4)) (aCons (liftP (cG (.int 0))) (aCons (liftP (op2 subI (vG 0) (cG (.int 1)))) aNil)))) (liftP (op2 neA (vG 4) (vG 2))))
/-- fits_part: 0 count, 1 value, 2 rule, 3 ahead, 4 one, 5 other -/
def g_fits_part : SG := (seqG (iffG (tOrM (liftT (tNotG (tb (op1 (isiD "tuple") (vG 1))))) (tOrM (liftT (tb (op2 neA (op1 lenD (vG 1)) (cG (.int 2))))) (tNotM (tbM (callG 3 (runG 3 g_is_integer) [] (aCons (liftP (op2 ixD (vG 1) (cG (.int 0)))) (aCons (liftP (cG (.int 0))) (aCons (liftP (op2 subI (vG 0) (cG (.int 1)))) aNil)))))))) (rtG (liftP (cG (.bool false)))) nxG)
  (seqG (asgG (tupT 2 (consT (nmT 2) (consT (nmT 3) nilT))) (liftP (vG 1)))
  (seqG (iffG (tOrM (liftT (tNotG (tb (op1 (isiD "list") (vG 3))))) (tNotM (tbM (op1M allD (nwM (lcN (listI (liftP (vG 3))) [4] (nmT 4) yesM e_fits_part_2)))))) (rtG (liftP (cG (.bool false)))) nxG)
  (rtG (op1M allD (nwM (lcN (zipI (aCons (liftP (vG 3)) (aCons (nwM (cutN (vG 3) (oSome (cG (.int 1))) oNone)) aNil))) [4, 5] (tupT 2 (consT (nmT 4) (consT (nmT 5) nilT))) yesM e_fits_part_1)))))))
/-- need_part: 0 count, 1 part -/
def g_need_part : SG := (iffG (tNotM (tbM (callG 2 (runG 6 g_fits_part) [] (aCons (liftP (vG 0)) (aCons (liftP (vG 1)) aNil))))) noG nxG)
/-- fact_of: 0 count, 1 part -/
def g_fact_of : SG := (seqG (drG (callG 2 (runG 2 g_need_count) [.int 60] (aCons (liftP (vG 0)) aNil)))
  (seqG (drG (callG 2 (runG 2 g_need_part) [] (aCons (liftP (vG 0)) (aCons (liftP (vG 1)) aNil))))
  (rtG (callG 3 (runG 5 g_fact_with) [] (aCons (liftP (vG 0)) (aCons (liftP (op2 ixD (vG 1) (cG (.int 1)))) (aCons (nwM (lstN (aCons (liftP (op2 ixD (vG 1) (cG (.int 0)))) aNil))) aNil)))))))
def q__law_parts_right_1 : TMG := (liftT (tb (op2 neA (op2 ixD (vG 2) (vG 12)) (op2 mulS (cG (.str ".")) (vG 1)))))
def e__law_parts_right_1 : MG := (liftP (vG 12))
def b__law_parts_right_1 : SG := (stG 9 (vG 5) (liftP (cG (.str "L"))))
def q__law_parts_right_2 : TMG := (tAndM (liftT (tb (op2 neA (vG 5) (vG 3)))) (tbM (op2M eqA (callPG 1 (runP 5 g__law_draw) 0 [] (aCons (liftP (cG (.int 2))) aNil)) (liftP (cG (.int 0))))))
def e__law_parts_right_2 : MG := (liftP (vG 5))
/-- _law_parts_right: 0 _law_well_here, 1 _law_count, 2 _law_facts_here, 3 _law_rule, 4 _law_ahead, 5 _law_one, 6 _law_whole, 7 _law_loud, 8 _law_fact_here, 9 _law_signs, 10 _law_told_here, 11 _law_paper, 12 _law_index -/
def g__law_parts_right : SG := (seqG (setG 3 (callPG 1 (runP 5 g__law_draw) 0 [] (aCons (liftP (vG 1)) aNil)))
  (seqG (setG 4 (nwM (lcN (rng1I (liftP (vG 1))) [5] (nmT 5) q__law_parts_right_2 e__law_parts_right_2)))
  (seqG (parG 8 9 (fzV (callG 2 (runG 2 g_fact_of) [] (aCons (liftP (vG 1)) (aCons (tupM (aCons (liftP (vG 3)) (aCons (liftP (vG 4)) aNil))) aNil)))) (olV (repN (nwM (lstN (aCons (liftP (cG (.str "."))) aNil))) (vG 1))))
  (seqG (forG (listI (liftP (vG 4))) (nmT 5) b__law_parts_right_1)
  (seqG (stG 9 (vG 3) (liftP (cG (.str "W"))))
  (seqG (setG 6 (nwM (catN (liftP (vG 2)) (nwM (lstN (aCons (liftP (op2 joinD (cG (.str "")) (rG 9))) aNil))))))
  (seqG (parG 10 11 (fzV (callG 2 (runG 2 g_barring_set) [] (aCons (liftP (vG 1)) (aCons (liftP (vG 6)) aNil)))) (fzV (callG 3 (runG 3 g_paper_for) [] (aCons (liftP (vG 1)) (aCons (liftP (vG 2)) (aCons (liftP (vG 8)) aNil))))))
  (seqG (iffG (tOrM (liftT (tb (op2 neA (op2 isN (vG 10) (cG .none)) (op2 isN (vG 11) (cG .none))))) (tbM (op2M neA (callG 3 (runG 3 g_follows) [] (aCons (liftP (vG 1)) (aCons (liftP (vG 2)) (aCons (liftP (vG 8)) aNil)))) (liftP (op2 isnN (vG 10) (cG .none)))))) (rtG (liftP (cG (.bool false)))) nxG)
  (seqG (iffG (liftT (tb (op2 isN (vG 10) (cG .none)))) (rtG (op2M isnN (callG 3 (runG 3 g_order_against) [] (aCons (liftP (vG 1)) (aCons (liftP (vG 2)) (aCons (liftP (vG 8)) aNil)))) (liftP (cG .none)))) nxG)
  (seqG (iffG (tOrM (liftT (tb (op2 isN (vG 11) (cG .none)))) (tOrM (liftT (tb (op2 neA (op2 ixD (vG 10) (op1 negD (cG (.int 1)))) (op1 lenD (vG 2))))) (tbM (op2M isnB (callG 4 (runG 10 g_is_paper) [] (aCons (liftP (vG 1)) (aCons (liftP (vG 2)) (aCons (liftP (vG 8)) (aCons (nwM (cutN (vG 10) oNone (oSome (op1 negD (cG (.int 1)))))) aNil))))) (liftP (cG (.bool true))))))) (rtG (liftP (cG (.bool false)))) nxG)
  (seqG (setG 7 (nwM (lcN (listI (liftP (vG 11))) [12] (nmT 12) q__law_parts_right_1 e__law_parts_right_1)))
  (rtG (callG 3 (runG 4 g_is_barring_set) [] (aCons (liftP (vG 1)) (aCons (liftP (vG 6)) (aCons (nwM (catN (liftP (vG 7)) (nwM (lstN (aCons (liftP (op1 lenD (vG 2))) aNil))))) aNil))))))))))))))))
def b__law_right_1 : SG := (iffG (tOrM (tNotM (tbM (callPG 2 (runP 15 g__law_papers_right) 0 [] (aCons (liftP (vG 1)) (aCons (liftP (vG 2)) aNil))))) (tNotM (tbM (callPG 2 (runP 13 g__law_parts_right) 0 [] (aCons (liftP (vG 1)) (aCons (liftP (vG 2)) aNil)))))) (rtG (liftP (cG (.bool false)))) nxG)
/-- _law_right: 0 _law_well_here, 1 _law_count, 2 _law_facts_here, 3 _law_turn -/
def g__law_right : SG := (seqG (setG 1 (op2M addI (liftP (cG (.int 1))) (callPG 1 (runP 5 g__law_draw) 0 [] (aCons (liftP (cG (.int 7))) aNil))))
  (seqG (setG 2 (nwM (catN (callPG 3 (runP 7 g__law_facts) 0 [] (aCons (liftP (vG 1)) (aCons (liftP (cG (.int 6))) (aCons (liftP (cG (.int 1))) aNil)))) (nwM (lstN (aCons (callPG 2 (runP 5 g__law_fact) 0 [] (aCons (liftP (vG 1)) (aCons (nwM (lstN (aCons (liftP (cG (.int 0))) aNil))) aNil))) aNil))))))
  (seqG (iffG (tbM (op2M isnN (callG 2 (runG 2 g_barring_set) [] (aCons (liftP (vG 1)) (aCons (liftP (vG 2)) aNil))) (liftP (cG .none)))) (rtG (callPG 2 (runP 9 g__law_barred_right) 0 [] (aCons (liftP (vG 1)) (aCons (liftP (vG 2)) aNil)))) nxG)
  (seqG (forG (rng1I (liftP (cG (.int 3)))) (nmT 3) b__law_right_1)
  (rtG (liftP (cG (.bool true))))))))
def b_law_1 : SG := (iffG (tNotM (tbM (callPG 0 (runP 4 g__law_right) 1 [] aNil))) (rtG (liftP (cG (.bool false)))) nxG)
/-- law: 0 _law_script, 1 _law_well_here, 2 _law_turn -/
def g_law : SG := (seqG (newG 1 (callSLN 0 (runSL 4 g__law_well) 0 [] aNil))
  (seqG (forG (rng1I (op2M addI (liftP (cG (.int 2))) (op2M minD (liftP (cG (.int 1))) (liftP (op1 lenD (rG 0)))))) (nmT 2) b_law_1)
  (rtG (liftP (cG (.bool true))))))
/-! ### what stands in the module -/
structure Mod (K : PySem.W.Frag) (mg : Str → Option Value) : Prop where
  f_abs : mg "abs" = none
  f_int : mg "int" = none
  f_len : mg "len" = none
  f_list : mg "list" = none
  f_range : mg "range" = none
  f_bool : mg "bool" = none
  f_isinstance : mg "isinstance" = none
  f_all : mg "all" = none
  f_str : mg "str" = none
  f_sorted : mg "sorted" = none
  f_enumerate : mg "enumerate" = none
  f_sum : mg "sum" = none
  f_set : mg "set" = none
  f_zip : mg "zip" = none
  f_tuple : mg "tuple" = none
  f_min : mg "min" = none
  c_AGAINST : ∃ t, mg "AGAINST" = some (.str "L" t)
  c_FOR : ∃ t, mg "FOR" = some (.str "W" t)
  c_SILENT : ∃ t, mg "SILENT" = some (.str "." t)
  c_MOST_FACTS : ∃ t, mg "MOST_FACTS" = some (.int 200 t)
  d__law_well : ∃ f fd, FunD K "_law_well" "_law_well" (defArgs t__law_well) (defBody t__law_well) (defScope t__law_well) [] [] f fd ∧ mg "_law_well" = some (.ref f)
  d__law_draw : ∃ f fd, FunD K "_law_draw" "_law_draw" (defArgs t__law_draw) (defBody t__law_draw) (defScope t__law_draw) [] [] f fd ∧ mg "_law_draw" = some (.ref f)
  d__law_mixed : ∃ f fd, FunD K "_law_mixed" "_law_mixed" (defArgs t__law_mixed) (defBody t__law_mixed) (defScope t__law_mixed) [] [] f fd ∧ mg "_law_mixed" = some (.ref f)
  d__law_fact : ∃ f fd, FunD K "_law_fact" "_law_fact" (defArgs t__law_fact) (defBody t__law_fact) (defScope t__law_fact) [] [] f fd ∧ mg "_law_fact" = some (.ref f)
  d__law_facts : ∃ f fd, FunD K "_law_facts" "_law_facts" (defArgs t__law_facts) (defBody t__law_facts) (defScope t__law_facts) [] [] f fd ∧ mg "_law_facts" = some (.ref f)
  d_is_integer : ∃ f fd, FunD K "is_integer" "is_integer" (defArgs t_is_integer) (defBody t_is_integer) (defScope t_is_integer) [.non] [] f fd ∧ mg "is_integer" = some (.ref f)
  d_need_count : ∃ f fd, FunD K "need_count" "need_count" (defArgs t_need_count) (defBody t_need_count) (defScope t_need_count) [.int 60] [] f fd ∧ mg "need_count" = some (.ref f)
  d_fits_fact : ∃ f fd, FunD K "fits_fact" "fits_fact" (defArgs t_fits_fact) (defBody t_fits_fact) (defScope t_fits_fact) [] [] f fd ∧ mg "fits_fact" = some (.ref f)
  d_need_facts : ∃ f fd, FunD K "need_facts" "need_facts" (defArgs t_need_facts) (defBody t_need_facts) (defScope t_need_facts) [] [] f fd ∧ mg "need_facts" = some (.ref f)
  d_need_count_and_facts : ∃ f fd, FunD K "need_count_and_facts" "need_count_and_facts" (defArgs t_need_count_and_facts) (defBody t_need_count_and_facts) (defScope t_need_count_and_facts) [.int 60] [] f fd ∧ mg "need_count_and_facts" = some (.ref f)
  d_lacking_rule : ∃ f fd, FunD K "lacking_rule" "lacking_rule" (defArgs t_lacking_rule) (defBody t_lacking_rule) (defScope t_lacking_rule) [] [] f fd ∧ mg "lacking_rule" = some (.ref f)
  d_covering : ∃ f fd, FunD K "covering" "covering" (defArgs t_covering) (defBody t_covering) (defScope t_covering) [] [] f fd ∧ mg "covering" = some (.ref f)
  d_rules_with : ∃ f fd, FunD K "rules_with" "rules_with" (defArgs t_rules_with) (defBody t_rules_with) (defScope t_rules_with) [] [] f fd ∧ mg "rules_with" = some (.ref f)
  d_mask_of : ∃ f fd, FunD K "mask_of" "mask_of" (defArgs t_mask_of) (defBody t_mask_of) (defScope t_mask_of) [.str "W"] [] f fd ∧ mg "mask_of" = some (.ref f)
  d_layered : ∃ f fd, FunD K "layered" "layered" (defArgs t_layered) (defBody t_layered) (defScope t_layered) [] [] f fd ∧ mg "layered" = some (.ref f)
  d_least_barring : ∃ f fd, FunD K "least_barring" "least_barring" (defArgs t_least_barring) (defBody t_least_barring) (defScope t_least_barring) [] [] f fd ∧ mg "least_barring" = some (.ref f)
  d_barring_set : ∃ f fd, FunD K "barring_set" "barring_set" (defArgs t_barring_set) (defBody t_barring_set) (defScope t_barring_set) [] [] f fd ∧ mg "barring_set" = some (.ref f)
  d__law_joined : ∃ f fd, FunD K "_law_joined" "_law_joined" (defArgs t__law_joined) (defBody t__law_joined) (defScope t__law_joined) [] [] f fd ∧ mg "_law_joined" = some (.ref f)
  d_are_indices : ∃ f fd, FunD K "are_indices" "are_indices" (defArgs t_are_indices) (defBody t_are_indices) (defScope t_are_indices) [] [] f fd ∧ mg "are_indices" = some (.ref f)
  d_bars_all : ∃ f fd, FunD K "bars_all" "bars_all" (defArgs t_bars_all) (defBody t_bars_all) (defScope t_bars_all) [] [] f fd ∧ mg "bars_all" = some (.ref f)
  d_is_barring_set : ∃ f fd, FunD K "is_barring_set" "is_barring_set" (defArgs t_is_barring_set) (defBody t_is_barring_set) (defScope t_is_barring_set) [] [] f fd ∧ mg "is_barring_set" = some (.ref f)
  d_need_fact : ∃ f fd, FunD K "need_fact" "need_fact" (defArgs t_need_fact) (defBody t_need_fact) (defScope t_need_fact) [] [] f fd ∧ mg "need_fact" = some (.ref f)
  d_over_all : ∃ f fd, FunD K "over_all" "over_all" (defArgs t_over_all) (defBody t_over_all) (defScope t_over_all) [] [] f fd ∧ mg "over_all" = some (.ref f)
  d_is_paper : ∃ f fd, FunD K "is_paper" "is_paper" (defArgs t_is_paper) (defBody t_is_paper) (defScope t_is_paper) [] [] f fd ∧ mg "is_paper" = some (.ref f)
  d_is_barred : ∃ f fd, FunD K "is_barred" "is_barred" (defArgs t_is_barred) (defBody t_is_barred) (defScope t_is_barred) [] [] f fd ∧ mg "is_barred" = some (.ref f)
  d_can_stand : ∃ f fd, FunD K "can_stand" "can_stand" (defArgs t_can_stand) (defBody t_can_stand) (defScope t_can_stand) [] [] f fd ∧ mg "can_stand" = some (.ref f)
  d_placeable : ∃ f fd, FunD K "placeable" "placeable" (defArgs t_placeable) (defBody t_placeable) (defScope t_placeable) [] [] f fd ∧ mg "placeable" = some (.ref f)
  d_front_without : ∃ f fd, FunD K "front_without" "front_without" (defArgs t_front_without) (defBody t_front_without) (defScope t_front_without) [] [] f fd ∧ mg "front_without" = some (.ref f)
  d_masks_of : ∃ f fd, FunD K "masks_of" "masks_of" (defArgs t_masks_of) (defBody t_masks_of) (defScope t_masks_of) [] [] f fd ∧ mg "masks_of" = some (.ref f)
  d_fact_follows : ∃ f fd, FunD K "fact_follows" "fact_follows" (defArgs t_fact_follows) (defBody t_fact_follows) (defScope t_fact_follows) [] [] f fd ∧ mg "fact_follows" = some (.ref f)
  d_follows : ∃ f fd, FunD K "follows" "follows" (defArgs t_follows) (defBody t_follows) (defScope t_follows) [] [] f fd ∧ mg "follows" = some (.ref f)
  d__law_barred_right : ∃ f fd, FunD K "_law_barred_right" "_law_barred_right" (defArgs t__law_barred_right) (defBody t__law_barred_right) (defScope t__law_barred_right) [] [] f fd ∧ mg "_law_barred_right" = some (.ref f)
  d__law_weaker : ∃ f fd, FunD K "_law_weaker" "_law_weaker" (defArgs t__law_weaker) (defBody t__law_weaker) (defScope t__law_weaker) [] [] f fd ∧ mg "_law_weaker" = some (.ref f)
  d_fact_with : ∃ f fd, FunD K "fact_with" "fact_with" (defArgs t_fact_with) (defBody t_fact_with) (defScope t_fact_with) [] [] f fd ∧ mg "fact_with" = some (.ref f)
  d_opposite : ∃ f fd, FunD K "opposite" "opposite" (defArgs t_opposite) (defBody t_opposite) (defScope t_opposite) [] [] f fd ∧ mg "opposite" = some (.ref f)
  d_paper_in : ∃ f fd, FunD K "paper_in" "paper_in" (defArgs t_paper_in) (defBody t_paper_in) (defScope t_paper_in) [] [] f fd ∧ mg "paper_in" = some (.ref f)
  d_paper_for : ∃ f fd, FunD K "paper_for" "paper_for" (defArgs t_paper_for) (defBody t_paper_for) (defScope t_paper_for) [] [] f fd ∧ mg "paper_for" = some (.ref f)
  d__law_told : ∃ f fd, FunD K "_law_told" "_law_told" (defArgs t__law_told) (defBody t__law_told) (defScope t__law_told) [] [] f fd ∧ mg "_law_told" = some (.ref f)
  d_laid_over : ∃ f fd, FunD K "laid_over" "laid_over" (defArgs t_laid_over) (defBody t_laid_over) (defScope t_laid_over) [] [] f fd ∧ mg "laid_over" = some (.ref f)
  d_least_order : ∃ f fd, FunD K "least_order" "least_order" (defArgs t_least_order) (defBody t_least_order) (defScope t_least_order) [] [] f fd ∧ mg "least_order" = some (.ref f)
  d_order_failing : ∃ f fd, FunD K "order_failing" "order_failing" (defArgs t_order_failing) (defBody t_order_failing) (defScope t_order_failing) [] [] f fd ∧ mg "order_failing" = some (.ref f)
  d_order_against : ∃ f fd, FunD K "order_against" "order_against" (defArgs t_order_against) (defBody t_order_against) (defScope t_order_against) [] [] f fd ∧ mg "order_against" = some (.ref f)
  d__law_papers_right : ∃ f fd, FunD K "_law_papers_right" "_law_papers_right" (defArgs t__law_papers_right) (defBody t__law_papers_right) (defScope t__law_papers_right) [] [] f fd ∧ mg "_law_papers_right" = some (.ref f)
  d_fits_part : ∃ f fd, FunD K "fits_part" "fits_part" (defArgs t_fits_part) (defBody t_fits_part) (defScope t_fits_part) [] [] f fd ∧ mg "fits_part" = some (.ref f)
  d_need_part : ∃ f fd, FunD K "need_part" "need_part" (defArgs t_need_part) (defBody t_need_part) (defScope t_need_part) [] [] f fd ∧ mg "need_part" = some (.ref f)
  d_fact_of : ∃ f fd, FunD K "fact_of" "fact_of" (defArgs t_fact_of) (defBody t_fact_of) (defScope t_fact_of) [] [] f fd ∧ mg "fact_of" = some (.ref f)
  d__law_parts_right : ∃ f fd, FunD K "_law_parts_right" "_law_parts_right" (defArgs t__law_parts_right) (defBody t__law_parts_right) (defScope t__law_parts_right) [] [] f fd ∧ mg "_law_parts_right" = some (.ref f)
  d__law_right : ∃ f fd, FunD K "_law_right" "_law_right" (defArgs t__law_right) (defBody t__law_right) (defScope t__law_right) [] [] f fd ∧ mg "_law_right" = some (.ref f)
  d_law : ∃ f fd, FunD K "law" "law" (defArgs t_law) (defBody t_law) (defScope t_law) [] [] f fd ∧ mg "law" = some (.ref f)
section
variable {P : Program} {w : World} {K : PySem.W.Frag} {mg : Str → Option Value} {base : Heap}
theorem ok__law_well (M : Mod K mg) {f : Addr} {fd : FuncData} (F : FunD K "_law_well" "_law_well" (defArgs t__law_well) (defBody t__law_well) (defScope t__law_well) [] [] f fd) : FnOk P w K mg base CX0 1 f fd ["_law_script"] (spSL K 0 (runSL 4 g__law_well)) :=
  fn_scriptL F sc__law_well (by decide) (by decide) fun cdv A outer s H E hr => ⟨_, (bn_cons (s_asg (m_tup (a_cons (JP.m p_int) (a_cons (JP.m p_int) a_nil))) (g_tupK K rfl rfl (gs_cons (g_name 2 sc__law_well.nd) (gs_cons (g_name 3 sc__law_well.nd) gs_nil))))
  (bn_cons (s_for PassesOwn.never rfl (i_list (JN.m (n_cut (r_var 0) o_none (o_some p_int)))) (g_name 1 sc__law_well.nd)
  (b_cons (s_if (JT.m (t_cmp op_ge opd_ib (p_blt call_abs cb_abs PyProof.Rows.boot_abs (JP.r (p_var 1)) M.f_abs) (p_op op_powX h_pow p_int p_int) (by rfl)))
  (b_one (s_set 2 sc__law_well.nd (JP.m (p_op op_add opd_ii (p_op op_mulX h_mul (p_var 2) (p_op op_powX h_pow p_int p_int)) (p_op op_mod h_mod (p_ty call_int1 cb_int PyProof.Rows.boot_int (JP.r (p_blt call_abs cb_abs PyProof.Rows.boot_abs (JP.r (p_var 1)) M.f_abs)) M.f_int) (p_op op_powX h_pow p_int p_int))))))
  b_nil)
  (b_one (s_set 3 sc__law_well.nd (JP.m (p_op op_mod h_mod (p_ty call_int1 cb_int PyProof.Rows.boot_int (JP.r (p_op op_add opd_ii (p_op op_add opd_ii (p_op op_mulX h_mul (p_var 3) p_int) (p_op op_mod h_mod (p_ty call_int1 cb_int PyProof.Rows.boot_int (JP.r (p_var 1)) M.f_int) p_int)) p_int)) M.f_int) p_int))))))
  (bn_ret (n_lst (a_cons (JP.m (p_var 2)) (a_cons (JP.m (p_var 3)) (a_cons (JP.m p_int) a_nil)))))))⟩
theorem cal__law_well (M : Mod K mg) : C8.Cal P w K mg base 1 "_law_well" (spSL K 0 (runSL 4 g__law_well)) [] := by
  obtain ⟨f, fd, F, e⟩ := M.d__law_well
  exact ⟨f, fd, _, [], ok__law_well M F, e, F.kp, F.bindsN fun _ _ _ _ _ _ us hl => match us, hl with | [_], _ => rfl, .nil⟩
theorem ok__law_draw (M : Mod K mg) {f : Addr} {fd : FuncData} (F : FunD K "_law_draw" "_law_draw" (defArgs t__law_draw) (defBody t__law_draw) (defScope t__law_draw) [] [] f fd) : FnOk P w K mg base CX0 1 f fd ["_law_well_here", "_law_many"] (spP 1 (runP 5 g__law_draw)) :=
  fn_lent F sc__law_draw (by decide) (by decide) fun cdv A outer s H E hr => ⟨_, (b_cons (s_if (JT.m (t_cmp op_gt opd_ib (p_var 1) (p_op op_powX h_pow p_int p_int) (by rfl)))
  b_never
  b_nil)
  (b_cons (s_if (JT.m (t_cmp op_gt opd_ib (p_ixK K rfl (r_var 0) p_int) p_int (by rfl)))
  (b_cons (s_set 3 sc__law_draw.nd (JP.m (p_op op_mod h_mod (p_ty call_int1 cb_int PyProof.Rows.boot_int (JP.r (p_ixK K rfl (r_var 0) p_int)) M.f_int) (p_var 1))))
  (b_cons (s_st 0 (JP.m (p_op op_fdivN h_fdiv (p_ixK K rfl (r_var 0) p_int) (p_var 1))) p_int)
  (b_one (s_ret (JP.m (p_var 3))))))
  b_nil)
  (b_cons (s_st 0 (JP.m (p_op op_add opd_ii (p_ixK K rfl (r_var 0) p_int) p_int)) p_int)
  (b_cons (s_set 2 sc__law_draw.nd (JP.m (p_op op_mod h_mod (p_ty call_int1 cb_int PyProof.Rows.boot_int (JP.r (p_op op_powX h_pow (p_op op_add opd_ii (p_ixK K rfl (r_var 0) p_int) (p_op op_mulX h_mul p_int (p_ixK K rfl (r_var 0) p_int))) p_int)) M.f_int) p_int)))
  (b_cons (s_set 2 sc__law_draw.nd (JP.m (p_op op_mod h_mod (p_ty call_int1 cb_int PyProof.Rows.boot_int (JP.r (p_op op_powX h_pow (p_op op_add opd_ii (p_var 2) (p_op op_mulX h_mul p_int (p_ixK K rfl (r_var 0) p_int))) p_int)) M.f_int) p_int)))
  (b_one (s_ret (JP.m (p_op op_mod h_mod (p_ty call_int1 cb_int PyProof.Rows.boot_int (JP.r (p_op op_fdivN h_fdiv (p_var 2) p_int)) M.f_int) (p_var 1))))))))))⟩
theorem cal__law_draw (M : Mod K mg) : C8.Cal P w K mg base 1 "_law_draw" (spP 1 (runP 5 g__law_draw)) [] := by
  obtain ⟨f, fd, F, e⟩ := M.d__law_draw
  exact ⟨f, fd, _, [], ok__law_draw M F, e, F.kp, F.bindsN fun _ _ _ _ _ _ us hl => match us, hl with | [_, _], _ => rfl, .nil⟩
theorem ok__law_mixed (M : Mod K mg) {f : Addr} {fd : FuncData} (F : FunD K "_law_mixed" "_law_mixed" (defArgs t__law_mixed) (defBody t__law_mixed) (defScope t__law_mixed) [] [] f fd) : FnOk P w K mg base CX0 2 f fd ["_law_well_here", "_law_items"] (spP 1 (runP 6 g__law_mixed)) :=
  fn_lent F sc__law_mixed (by decide) (by decide) fun cdv A outer s H E hr => ⟨_, (b_cons (s_par 3 4 rfl sc__law_mixed.nd (v_m (JN.m (n_ty (call_list_ofK K rfl) cbn_list PyProof.Rows.boot_list (JP.r (p_var 1)) M.f_list))) (v_n (n_lst a_nil)))
  (b_cons (s_for PassesOwn.never rfl (i_range1 (JP.m (p_blt (call_lenK K rfl) cb_len boot_len (JP.r (p_var 1)) M.f_len)) M.f_range) (g_name 2 sc__law_mixed.nd)
  (b_cons (s_set 5 sc__law_mixed.nd (m_callP 0 (cal__law_draw M) .nil hr (by decide) (a_cons (JP.m (p_blt (call_lenK K rfl) cb_len boot_len (JP.r (p_var 3)) M.f_len)) a_nil)))
  (b_cons (s_app 4 (JP.m (p_ixK K rfl (JP.r (p_var 3)) (p_var 5))))
  (b_one (s_set 3 sc__law_mixed.nd (JN.m (n_cat (JN.m (n_cut (JP.r (p_var 3)) o_none (o_some (p_var 5)))) (JN.m (n_cut (JP.r (p_var 3)) (o_some (p_op op_add opd_ii (p_var 5) p_int)) o_none)))))))))
  (b_one (s_ret (m_var 4)))))⟩
theorem cal__law_mixed (M : Mod K mg) : C8.Cal P w K mg base 2 "_law_mixed" (spP 1 (runP 6 g__law_mixed)) [] := by
  obtain ⟨f, fd, F, e⟩ := M.d__law_mixed
  exact ⟨f, fd, _, [], ok__law_mixed M F, e, F.kp, F.bindsN fun _ _ _ _ _ _ us hl => match us, hl with | [_, _], _ => rfl, .nil⟩
theorem ok__law_fact (M : Mod K mg) {f : Addr} {fd : FuncData} (F : FunD K "_law_fact" "_law_fact" (defArgs t__law_fact) (defBody t__law_fact) (defScope t__law_fact) [] [] f fd) : FnOk P w K mg base CX0 2 f fd ["_law_well_here", "_law_count", "_law_hidden"] (spP 2 (runP 5 g__law_fact)) :=
  fn_lent F sc__law_fact (by decide) (by decide) fun cdv A outer s H E hr => ⟨_, (b_cons (by exact s_newLc (own := [("_law_rule", 4)]) 3 rfl sc__law_fact.nd (i_range1 (JP.m (p_var 1)) M.f_range) (blkOk_by (own := [("_law_rule", 4)]) (N := ["_law_well_here", "_law_count", "_law_hidden", "_law_signs", "_law_rule"]) (sc := defScope t__law_fact) (by decide +kernel)) (fun _ _ _ _ _ => (g_name 4 sc__law_fact.nd)) (fun _ _ _ _ _ => ts_nil) (fun _ _ _ _ _ => (m_ixK K rfl (JN.m (n_lst (a_cons (JP.m p_str) (a_cons (JP.m p_str) (a_cons (JP.m p_str) (a_cons (JP.m p_str) (a_cons (JP.m p_str) a_nil))))))) (m_callP 0 (cal__law_draw M) .nil hr (by decide) (a_cons (JP.m p_int) a_nil)))) (sw_true rfl rfl rfl rfl))
  (b_cons (s_for PassesOwn.never rfl (i_list (JP.m (p_var 2))) (g_name 4 sc__law_fact.nd)
  (b_one (s_if (JT.m (t_cmpR (op_neAK K rfl hr) opd_neA (JP.r (p_ixK K rfl (r_var 3) (p_var 4))) (JP.r p_str) (by rfl)))
  (b_cons (s_st 3 (JP.m p_str) (p_var 4))
  (b_one s_break))
  b_nil)))
  (b_one (s_ret (JP.m (p_join p_str (r_var 3)))))))⟩
theorem cal__law_fact (M : Mod K mg) : C8.Cal P w K mg base 2 "_law_fact" (spP 2 (runP 5 g__law_fact)) [] := by
  obtain ⟨f, fd, F, e⟩ := M.d__law_fact
  exact ⟨f, fd, _, [], ok__law_fact M F, e, F.kp, F.bindsN fun _ _ _ _ _ _ us hl => match us, hl with | [_, _, _], _ => rfl, .nil⟩
theorem ok__law_facts (M : Mod K mg) {f : Addr} {fd : FuncData} (F : FunD K "_law_facts" "_law_facts" (defArgs t__law_facts) (defBody t__law_facts) (defScope t__law_facts) [] [] f fd) : FnOk P w K mg base CX0 3 f fd ["_law_well_here", "_law_count", "_law_many", "_law_odd"] (spP 3 (runP 7 g__law_facts)) :=
  fn_lent F sc__law_facts (by decide) (by decide) fun cdv A outer s H E hr => ⟨_, (b_cons (s_set 4 sc__law_facts.nd (m_callP 0 (cal__law_mixed M) .nil hr (by decide) (a_cons (JN.m (n_lrg rfl (JP.m (p_var 1)) M.f_list M.f_range)) a_nil)))
  (b_cons (by exact s_newLc (own := [("_law_turn", 6)]) 5 rfl sc__law_facts.nd (i_range1 (m_callP 0 (cal__law_draw M) .nil hr (by decide) (a_cons (JP.m (p_op op_add opd_ii (p_var 2) p_int)) a_nil)) M.f_range) (blkOk_by (own := [("_law_turn", 6)]) (N := ["_law_well_here", "_law_count", "_law_many", "_law_odd", "_law_hidden", "_law_found", "_law_turn"]) (sc := defScope t__law_facts) (by decide +kernel)) (fun _ _ _ _ _ => (g_name 6 sc__law_facts.nd)) (fun _ _ _ _ _ => ts_nil) (fun _ _ _ _ _ => (m_callP 0 (cal__law_fact M) .nil hr (by decide) (a_cons (JP.m (p_var 1)) (a_cons (JP.m (p_var 4)) a_nil)))) (sw_true rfl rfl rfl rfl))
  (b_cons (s_if (tm_cmp op_lt opd_ib (m_callP 0 (cal__law_draw M) .nil hr (by decide) (a_cons (JP.m p_int) a_nil)) (JP.m (p_var 3)) (by rfl))
  (b_one (s_app 5 (m_callP 0 (cal__law_fact M) .nil hr (by decide) (a_cons (JP.m (p_var 1)) (a_cons (JN.m (n_lst a_nil)) a_nil)))))
  b_nil)
  (b_one (s_ret (m_var 5))))))⟩
theorem cal__law_facts (M : Mod K mg) : C8.Cal P w K mg base 3 "_law_facts" (spP 3 (runP 7 g__law_facts)) [] := by
  obtain ⟨f, fd, F, e⟩ := M.d__law_facts
  exact ⟨f, fd, _, [], ok__law_facts M F, e, F.kp, F.bindsN fun _ _ _ _ _ _ us hl => match us, hl with | [_, _, _, _], _ => rfl, .nil⟩
theorem ok_is_integer (M : Mod K mg) {f : Addr} {fd : FuncData} (F : FunD K "is_integer" "is_integer" (defArgs t_is_integer) (defBody t_is_integer) (defScope t_is_integer) [.non] [] f fd) : FnOk P w K mg base CX0 1 f fd ["value", "low", "high"] (spD 3 (runG 3 g_is_integer)) :=
  fn_data F sc_is_integer (by decide) fun cdv A outer s H E hr => ⟨_, (b_cons (s_if (JT.m (JW.t (w_or (t_not (t_val (p_isiK K rfl PyProof.Rows.boot_int (p_var 0) M.f_isinstance M.f_int))) (w_or1 (t_val (p_isiK K rfl PyProof.Rows.boot_bool (p_var 0) M.f_isinstance M.f_bool))))))
  (b_one (s_ret (JP.m p_bl)))
  b_nil)
  (b_one (s_ret (JP.m (p_and (p_cmp op_le opd_ib (p_var 1) (p_var 0) (by rfl)) (p_one (p_or (p_cmpR op_isN opd_isN (JP.r (p_var 2)) (JP.r p_non) (by rfl)) (p_one (p_cmp op_le opd_ib (p_var 0) (p_var 2) (by rfl))))))))))⟩
theorem cal_is_integer (M : Mod K mg) : C8.Cal P w K mg base 1 "is_integer" (spD 3 (runG 3 g_is_integer)) [] := by
  obtain ⟨f, fd, F, e⟩ := M.d_is_integer
  obtain ⟨ds, r, b⟩ := F.binds1 (ps := ["value", "low", "high"]) 3 1 (by decide) (by decide) fun _ _ _ _ _ _ _ us its hl hi => match us, its, hl, hi with | [_, _, _], [_], _, _ => ⟨_, rfl, rfl⟩
  exact ⟨f, fd, _, ds, ok_is_integer M F, e, F.kp, b, r⟩
theorem ok_need_count (M : Mod K mg) {f : Addr} {fd : FuncData} (F : FunD K "need_count" "need_count" (defArgs t_need_count) (defBody t_need_count) (defScope t_need_count) [.int 60] [] f fd) : FnOk P w K mg base CX0 2 f fd ["count", "most"] (spD 2 (runG 2 g_need_count)) :=
  fn_data F sc_need_count (by decide) fun cdv A outer s H E hr => ⟨_, (b_one (s_if (tm_not (tm_val (m_call (cal_is_integer M) .nil hr (by decide) (a_cons (JP.m (p_var 0)) (a_cons (JP.m p_int) (a_cons (JP.m (p_var 1)) a_nil))))))
  b_never
  b_nil))⟩
theorem cal_need_count_1 (M : Mod K mg) : C8.Cal P w K mg base 2 "need_count" (spD 2 (runG 2 g_need_count)) [.int 60] := by
  obtain ⟨f, fd, F, e⟩ := M.d_need_count
  obtain ⟨ds, r, b⟩ := F.binds1 (ps := ["count", "most"]) 1 0 (by decide) (by decide) fun _ _ _ _ _ _ _ us its hl hi => match us, its, hl, hi with | [_], [_], _, _ => ⟨_, rfl, rfl⟩
  exact ⟨f, fd, _, ds, ok_need_count M F, e, F.kp, b, r⟩
theorem cal_need_count (M : Mod K mg) : C8.Cal P w K mg base 2 "need_count" (spD 2 (runG 2 g_need_count)) [] := by
  obtain ⟨f, fd, F, e⟩ := M.d_need_count
  obtain ⟨ds, r, b⟩ := F.binds1 (ps := ["count", "most"]) 2 1 (by decide) (by decide) fun _ _ _ _ _ _ _ us its hl hi => match us, its, hl, hi with | [_, _], [_], _, _ => ⟨_, rfl, rfl⟩
  exact ⟨f, fd, _, ds, ok_need_count M F, e, F.kp, b, r⟩
theorem ok_fits_fact (M : Mod K mg) {f : Addr} {fd : FuncData} (F : FunD K "fits_fact" "fits_fact" (defArgs t_fits_fact) (defBody t_fits_fact) (defScope t_fits_fact) [] [] f fd) : FnOk P w K mg base CX0 1 f fd ["count", "value"] (spD 2 (runG 3 g_fits_fact)) :=
  fn_data F sc_fits_fact (by decide) fun cdv A outer s H E hr => ⟨_, (b_cons (s_if (JT.m (JW.t (w_or (t_not (t_val (p_isiK K rfl PyProof.Rows.boot_str (p_var 1) M.f_isinstance M.f_str))) (w_or1 (t_cmpR (op_neAK K rfl hr) opd_neA (JP.r (p_blt (call_lenK K rfl) cb_len boot_len (JP.r (p_var 1)) M.f_len)) (JP.r (p_var 0)) (by rfl))))))
  (b_one (s_ret (JP.m p_bl)))
  b_nil)
  (b_one (s_ret (m_blt (cr_allK K rfl rfl) cb_all PyProof.Rows.boot_all (JN.m (n_lc (own := [("sign", 2)]) rfl sc_fits_fact.nd (i_str (p_var 1)) (blkOk_by (own := [("sign", 2)]) (N := ["count", "value", "sign"]) (sc := defScope t_fits_fact) (by decide +kernel)) (fun _ _ _ _ _ => (g_name 2 sc_fits_fact.nd)) (fun _ _ _ _ _ => ts_nil) (fun _ _ _ _ _ => (m_cmp (op_inAK K rfl) opd_inA.d (JP.m (p_var 2)) (m_tup (a_cons (JP.m (p_globS M.c_FOR)) (a_cons (JP.m (p_globS M.c_AGAINST)) (a_cons (JP.m (p_globS M.c_SILENT)) a_nil)))) (by rfl))))) M.f_all))))⟩
theorem cal_fits_fact (M : Mod K mg) : C8.Cal P w K mg base 1 "fits_fact" (spD 2 (runG 3 g_fits_fact)) [] := by
  obtain ⟨f, fd, F, e⟩ := M.d_fits_fact
  exact ⟨f, fd, _, [], ok_fits_fact M F, e, F.kp, F.bindsN fun _ _ _ _ _ _ us hl => match us, hl with | [_, _], _ => rfl, .nil⟩
theorem ok_need_facts (M : Mod K mg) {f : Addr} {fd : FuncData} (F : FunD K "need_facts" "need_facts" (defArgs t_need_facts) (defBody t_need_facts) (defScope t_need_facts) [] [] f fd) : FnOk P w K mg base CX0 2 f fd ["count", "facts"] (spD 2 (runG 3 g_need_facts)) :=
  fn_data F sc_need_facts (by decide) fun cdv A outer s H E hr => ⟨_, (b_one (s_if (JWM.t (wm_or (JT.m (t_not (t_val (p_isiK K rfl PyProof.Rows.boot_list (p_var 1) M.f_isinstance M.f_list)))) (wm_or (JT.m (t_cmp op_gt opd_ib (p_blt (call_lenK K rfl) cb_len boot_len (JP.r (p_var 1)) M.f_len) (p_globI M.c_MOST_FACTS) (by rfl))) (wm_or1 (tm_not (tm_val (m_blt (cr_allK K rfl rfl) cb_all PyProof.Rows.boot_all (JN.m (n_lc (own := [("fact", 2)]) rfl sc_need_facts.nd (i_list (JP.m (p_var 1))) (blkOk_by (own := [("fact", 2)]) (N := ["count", "facts", "fact"]) (sc := defScope t_need_facts) (by decide +kernel)) (fun _ _ _ _ _ => (g_name 2 sc_need_facts.nd)) (fun _ _ _ _ _ => ts_nil) (fun _ _ _ _ _ => (m_call (cal_fits_fact M) .nil hr (by decide) (a_cons (JP.m (p_var 0)) (a_cons (JP.m (p_var 2)) a_nil)))))) M.f_all)))))))
  b_never
  b_nil))⟩
theorem cal_need_facts (M : Mod K mg) : C8.Cal P w K mg base 2 "need_facts" (spD 2 (runG 3 g_need_facts)) [] := by
  obtain ⟨f, fd, F, e⟩ := M.d_need_facts
  exact ⟨f, fd, _, [], ok_need_facts M F, e, F.kp, F.bindsN fun _ _ _ _ _ _ us hl => match us, hl with | [_, _], _ => rfl, .nil⟩
theorem ok_need_count_and_facts (M : Mod K mg) {f : Addr} {fd : FuncData} (F : FunD K "need_count_and_facts" "need_count_and_facts" (defArgs t_need_count_and_facts) (defBody t_need_count_and_facts) (defScope t_need_count_and_facts) [.int 60] [] f fd) : FnOk P w K mg base CX0 3 f fd ["count", "facts", "most"] (spD 3 (runG 3 g_need_count_and_facts)) :=
  fn_data F sc_need_count_and_facts (by decide) fun cdv A outer s H E hr => ⟨_, (b_cons (s_expr (m_call (cal_need_count M) .nil hr (by decide) (a_cons (JP.m (p_var 0)) (a_cons (JP.m (p_var 2)) a_nil))))
  (b_one (s_expr (m_call (cal_need_facts M) .nil hr (by decide) (a_cons (JP.m (p_var 0)) (a_cons (JP.m (p_var 1)) a_nil))))))⟩
theorem cal_need_count_and_facts_2 (M : Mod K mg) : C8.Cal P w K mg base 3 "need_count_and_facts" (spD 3 (runG 3 g_need_count_and_facts)) [.int 60] := by
  obtain ⟨f, fd, F, e⟩ := M.d_need_count_and_facts
  obtain ⟨ds, r, b⟩ := F.binds1 (ps := ["count", "facts", "most"]) 2 0 (by decide) (by decide) fun _ _ _ _ _ _ _ us its hl hi => match us, its, hl, hi with | [_, _], [_], _, _ => ⟨_, rfl, rfl⟩
  exact ⟨f, fd, _, ds, ok_need_count_and_facts M F, e, F.kp, b, r⟩
theorem ok_lacking_rule (M : Mod K mg) {f : Addr} {fd : FuncData} (F : FunD K "lacking_rule" "lacking_rule" (defArgs t_lacking_rule) (defBody t_lacking_rule) (defScope t_lacking_rule) [] [] f fd) : FnOk P w K mg base CX0 1 f fd ["count", "facts"] (spD 2 (runG 5 g_lacking_rule)) :=
  fn_data F sc_lacking_rule (by decide) fun cdv A outer s H E hr => ⟨_, (b_cons (s_for PassesOwn.never rfl (i_range1 (JP.m (p_var 0)) M.f_range) (g_name 2 sc_lacking_rule.nd)
  (b_cons (s_setLc (own := [("fact", 4)]) 3 rfl sc_lacking_rule.nd (i_list (JP.m (p_var 1))) (blkOk_by (own := [("fact", 4)]) (N := ["count", "facts", "rule", "signs", "fact"]) (sc := defScope t_lacking_rule) (by decide +kernel)) (fun _ _ _ _ _ => (g_name 4 sc_lacking_rule.nd)) (fun _ _ _ _ _ => ts_nil) (fun _ _ _ _ _ => (JP.m (p_ixK K rfl (JP.r (p_var 4)) (p_var 2)))) (sw_true rfl rfl rfl rfl))
  (b_one (s_if (JT.m (JW.t (w_and (t_cmpR (op_inAK K rfl) opd_inA (JP.r (p_globS M.c_FOR)) (JP.r (p_var 3)) (by rfl)) (w_and1 (t_cmpR (op_notInAK K rfl) opd_notInA (JP.r (p_globS M.c_AGAINST)) (JP.r (p_var 3)) (by rfl))))))
  (b_one (s_ret (JP.m (p_var 2))))
  b_nil))))
  (b_one (s_ret (JP.m p_non))))⟩
theorem cal_lacking_rule (M : Mod K mg) : C8.Cal P w K mg base 1 "lacking_rule" (spD 2 (runG 5 g_lacking_rule)) [] := by
  obtain ⟨f, fd, F, e⟩ := M.d_lacking_rule
  exact ⟨f, fd, _, [], ok_lacking_rule M F, e, F.kp, F.bindsN fun _ _ _ _ _ _ us hl => match us, hl with | [_, _], _ => rfl, .nil⟩
theorem ok_covering (M : Mod K mg) {f : Addr} {fd : FuncData} (F : FunD K "covering" "covering" (defArgs t_covering) (defBody t_covering) (defScope t_covering) [] [] f fd) : FnOk P w K mg base CX0 2 f fd ["count", "facts", "indices"] (spD 3 (runG 6 g_covering)) :=
  fn_data F sc_covering (by decide) fun cdv A outer s H E hr => ⟨_, (b_cons (s_new 3 sc_covering.nd (n_lst (a_cons (JP.m (p_ixK K rfl (JP.r (p_var 2)) p_int)) a_nil)))
  (b_cons (s_set 4 sc_covering.nd (m_call (cal_lacking_rule M) .nil hr (by decide) (a_cons (JP.m (p_var 0)) (a_cons (JN.m (n_lcP (own := [("index", 5)]) 3 rfl sc_covering.nd (blkOk_by (own := [("index", 5)]) (N := ["count", "facts", "indices", "found", "rule", "index"]) (sc := defScope t_covering) (by decide +kernel)) (fun _ _ _ _ _ => (g_name 5 sc_covering.nd)) (fun _ _ _ _ _ => ts_nil) (fun _ _ _ _ _ => (JP.m (p_ixK K rfl (JP.r (p_var 1)) (p_var 5)))))) a_nil))))
  (b_cons (s_while 100 PassesOwn.never (JT.m (t_cmpR op_notN opd_isnN (JP.r (p_var 4)) (JP.r p_non) (by rfl)))
  (b_cons (s_app 3 (m_ixK K rfl (JN.m (n_lc (own := [("index", 5)]) rfl sc_covering.nd (i_list (JP.m (p_var 2))) (blkOk_by (own := [("index", 5)]) (N := ["count", "facts", "indices", "found", "rule", "index"]) (sc := defScope t_covering) (by decide +kernel)) (fun _ _ _ _ _ => (g_name 5 sc_covering.nd)) (fun _ _ _ _ _ => (ts_one (JT.m (t_cmpR (op_eqAK K rfl hr) opd_eqA (JP.r (p_ixK K rfl (JP.r (p_ixK K rfl (JP.r (p_var 1)) (p_var 5))) (p_var 4))) (JP.r (p_globS M.c_AGAINST)) (by rfl))))) (fun _ _ _ _ _ => (JP.m (p_var 5))))) (JP.m p_int)))
  (b_one (s_set 4 sc_covering.nd (m_call (cal_lacking_rule M) .nil hr (by decide) (a_cons (JP.m (p_var 0)) (a_cons (JN.m (n_lcP (own := [("index", 5)]) 3 rfl sc_covering.nd (blkOk_by (own := [("index", 5)]) (N := ["count", "facts", "indices", "found", "rule", "index"]) (sc := defScope t_covering) (by decide +kernel)) (fun _ _ _ _ _ => (g_name 5 sc_covering.nd)) (fun _ _ _ _ _ => ts_nil) (fun _ _ _ _ _ => (JP.m (p_ixK K rfl (JP.r (p_var 1)) (p_var 5)))))) a_nil)))))))
  (b_one (s_ret (JN.m (n_blt (cr_sortedIK K rfl) cbn_sortI PyProof.Rows.boot_sorted (r_var 3) M.f_sorted)))))))⟩
theorem cal_covering (M : Mod K mg) : C8.Cal P w K mg base 2 "covering" (spD 3 (runG 6 g_covering)) [] := by
  obtain ⟨f, fd, F, e⟩ := M.d_covering
  exact ⟨f, fd, _, [], ok_covering M F, e, F.kp, F.bindsN fun _ _ _ _ _ _ us hl => match us, hl with | [_, _, _], _ => rfl, .nil⟩
theorem ok_rules_with (M : Mod K mg) {f : Addr} {fd : FuncData} (F : FunD K "rules_with" "rules_with" (defArgs t_rules_with) (defBody t_rules_with) (defScope t_rules_with) [] [] f fd) : FnOk P w K mg base CX0 1 f fd ["fact", "sign"] (spD 2 (runG 4 g_rules_with)) :=
  fn_data F sc_rules_with (by decide) fun cdv A outer s H E hr => ⟨_, (b_one (s_ret (JN.m (n_lc (own := [("rule", 2), ("there", 3)]) rfl sc_rules_with.nd (i_enumS (p_var 0) M.f_enumerate) (blkOk_by (own := [("rule", 2), ("there", 3)]) (N := ["fact", "sign", "rule", "there"]) (sc := defScope t_rules_with) (by decide +kernel)) (fun _ _ _ _ _ => (g_tupK K rfl rfl (gs_cons (g_name 2 sc_rules_with.nd) (gs_cons (g_name 3 sc_rules_with.nd) gs_nil)))) (fun _ _ _ _ _ => (ts_one (JT.m (t_cmpR (op_eqAK K rfl hr) opd_eqA (JP.r (p_var 3)) (JP.r (p_var 1)) (by rfl))))) (fun _ _ _ _ _ => (JP.m (p_var 2)))))))⟩
theorem cal_rules_with (M : Mod K mg) : C8.Cal P w K mg base 1 "rules_with" (spD 2 (runG 4 g_rules_with)) [] := by
  obtain ⟨f, fd, F, e⟩ := M.d_rules_with
  exact ⟨f, fd, _, [], ok_rules_with M F, e, F.kp, F.bindsN fun _ _ _ _ _ _ us hl => match us, hl with | [_, _], _ => rfl, .nil⟩
theorem ok_mask_of (M : Mod K mg) {f : Addr} {fd : FuncData} (F : FunD K "mask_of" "mask_of" (defArgs t_mask_of) (defBody t_mask_of) (defScope t_mask_of) [.str "W"] [] f fd) : FnOk P w K mg base CX0 2 f fd ["fact", "sign"] (spD 2 (runG 3 g_mask_of)) :=
  fn_data F sc_mask_of (by decide) fun cdv A outer s H E hr => ⟨_, (b_one (s_ret (m_blt (cr_sumK K rfl rfl) cb_sum PyProof.Rows.boot_sum (JN.m (n_lc (own := [("rule", 2)]) rfl sc_mask_of.nd (i_list (m_call (cal_rules_with M) .nil hr (by decide) (a_cons (JP.m (p_var 0)) (a_cons (JP.m (p_var 1)) a_nil)))) (blkOk_by (own := [("rule", 2)]) (N := ["fact", "sign", "rule"]) (sc := defScope t_mask_of) (by decide +kernel)) (fun _ _ _ _ _ => (g_name 2 sc_mask_of.nd)) (fun _ _ _ _ _ => ts_nil) (fun _ _ _ _ _ => (JP.m (p_op op_shlW h_shl p_int (p_var 2)))))) M.f_sum)))⟩
theorem cal_mask_of_1 (M : Mod K mg) : C8.Cal P w K mg base 2 "mask_of" (spD 2 (runG 3 g_mask_of)) [.str "W"] := by
  obtain ⟨f, fd, F, e⟩ := M.d_mask_of
  obtain ⟨ds, r, b⟩ := F.binds1 (ps := ["fact", "sign"]) 1 0 (by decide) (by decide) fun _ _ _ _ _ _ _ us its hl hi => match us, its, hl, hi with | [_], [_], _, _ => ⟨_, rfl, rfl⟩
  exact ⟨f, fd, _, ds, ok_mask_of M F, e, F.kp, b, r⟩
theorem cal_mask_of (M : Mod K mg) : C8.Cal P w K mg base 2 "mask_of" (spD 2 (runG 3 g_mask_of)) [] := by
  obtain ⟨f, fd, F, e⟩ := M.d_mask_of
  obtain ⟨ds, r, b⟩ := F.binds1 (ps := ["fact", "sign"]) 2 1 (by decide) (by decide) fun _ _ _ _ _ _ _ us its hl hi => match us, its, hl, hi with | [_, _], [_], _, _ => ⟨_, rfl, rfl⟩
  exact ⟨f, fd, _, ds, ok_mask_of M F, e, F.kp, b, r⟩
theorem ok_layered (M : Mod K mg) {f : Addr} {fd : FuncData} (F : FunD K "layered" "layered" (defArgs t_layered) (defBody t_layered) (defScope t_layered) [] [] f fd) : FnOk P w K mg base CX0 3 f fd ["count", "facts"] (spD 2 (runG 15 g_layered)) :=
  fn_data F sc_layered (by decide) fun cdv A outer s H E hr => ⟨_, (b_cons (s_new 2 sc_layered.nd (n_lst a_nil))
  (b_cons (s_new 3 sc_layered.nd (n_lst a_nil))
  (b_cons (s_for PassesOwn.never rfl (i_enum (JP.m (p_var 1)) M.f_enumerate) (g_tupK K rfl rfl (gs_cons (g_name 4 sc_layered.nd) (gs_cons (g_name 5 sc_layered.nd) gs_nil)))
  (b_one (s_if (JT.m (t_cmpR (op_neAK K rfl hr) opd_neA (JP.r (p_var 5)) (JP.r (p_op op_mulS opd_mulS (p_globS M.c_SILENT) (p_var 0))) (by rfl)))
  (b_one (s_app 3 (m_tup (a_cons (JP.m (p_var 4)) (a_cons (m_call (cal_mask_of_1 M) (.cons (fun _ => .str _) .nil) hr (by decide) (a_cons (JP.m (p_var 5)) a_nil)) (a_cons (m_call (cal_mask_of M) .nil hr (by decide) (a_cons (JP.m (p_var 5)) (a_cons (JP.m (p_globS M.c_AGAINST)) a_nil))) a_nil))))))
  b_nil)))
  (b_cons (s_asg (m_tup (a_cons (JP.m p_int) (a_cons (JP.m p_int) (a_cons (JP.m (p_op op_sub opd_ii (p_op op_shlW h_shl p_int (p_var 0)) p_int)) a_nil)))) (g_tupK K rfl rfl (gs_cons (g_name 6 sc_layered.nd) (gs_cons (g_name 7 sc_layered.nd) (gs_cons (g_name 8 sc_layered.nd) gs_nil)))))
  (b_cons (s_while 100 PassesOwn.never (JT.m (t_cmpR (op_neAK K rfl hr) opd_neA (JP.r (p_var 6)) (JP.r (p_var 8)) (by rfl)))
  (b_cons (s_set 9 sc_layered.nd (JP.m (p_var 6)))
  (b_cons (s_for PassesOwn.never rfl (i_list (m_var 3)) (g_tupK K rfl rfl (gs_cons (g_name 4 sc_layered.nd) (gs_cons (g_name 11 sc_layered.nd) (gs_cons (g_name 12 sc_layered.nd) gs_nil))))
  (b_one (s_set 9 sc_layered.nd (JP.m (p_op op_or opd_ii (p_var 9) (p_var 12))))))
  (b_cons (s_set 10 sc_layered.nd (JP.m (p_op op_xor opd_ii (p_var 8) (p_var 9))))
  (b_cons (s_if (JT.m (t_cmpR (op_eqAK K rfl hr) opd_eqA (JP.r (p_var 10)) (JP.r p_int) (by rfl)))
  (b_one (s_ret (m_tup (a_cons (JN.m (n_lst a_nil)) (a_cons (JN.m (n_lc (own := [("index", 4), ("wins", 11), ("losses", 12)]) rfl sc_layered.nd (i_list (m_var 3)) (blkOk_by (own := [("index", 4), ("wins", 11), ("losses", 12)]) (N := ["count", "facts", "placed", "left", "index", "fact", "front", "layer", "whole", "closed", "free", "wins", "losses", "one", "rule"]) (sc := defScope t_layered) (by decide +kernel)) (fun _ _ _ _ _ => (g_tupK K rfl rfl (gs_cons (g_name 4 sc_layered.nd) (gs_cons (g_name 11 sc_layered.nd) (gs_cons (g_name 12 sc_layered.nd) gs_nil))))) (fun _ _ _ _ _ => ts_nil) (fun _ _ _ _ _ => (JP.m (p_var 4))))) a_nil)))))
  b_nil)
  (b_cons (s_ext 2 (JN.m (n_lc (own := [("rule", 14)]) rfl sc_layered.nd (i_range1 (JP.m (p_var 0)) M.f_range) (blkOk_by (own := [("rule", 14)]) (N := ["count", "facts", "placed", "left", "index", "fact", "front", "layer", "whole", "closed", "free", "wins", "losses", "one", "rule"]) (sc := defScope t_layered) (by decide +kernel)) (fun _ _ _ _ _ => (g_name 14 sc_layered.nd)) (fun _ _ _ _ _ => (ts_one (JT.m (t_cmpR (op_eqAK K rfl hr) opd_eqA (JP.r (p_op op_and opd_ii (p_op op_shr h_shr (p_var 10) (p_var 14)) p_int)) (JP.r p_int) (by rfl))))) (fun _ _ _ _ _ => (m_tup (a_cons (JP.m (p_var 14)) (a_cons (JP.m (p_var 7)) a_nil)))))))
  (b_cons (by exact s_newLc (own := [("one", 13)]) 3 rfl sc_layered.nd (i_list (m_var 3)) (blkOk_by (own := [("one", 13)]) (N := ["count", "facts", "placed", "left", "index", "fact", "front", "layer", "whole", "closed", "free", "wins", "losses", "one", "rule"]) (sc := defScope t_layered) (by decide +kernel)) (fun _ _ _ _ _ => (g_name 13 sc_layered.nd)) (fun _ _ _ _ _ => (ts_one (JT.m (t_cmpR (op_eqAK K rfl hr) opd_eqA (JP.r (p_op op_and opd_ii (p_ixK K rfl (JP.r (p_var 13)) p_int) (p_var 10))) (JP.r p_int) (by rfl))))) (fun _ _ _ _ _ => (JP.m (p_var 13))) (sw_true rfl rfl rfl rfl))
  (b_cons (s_set 6 sc_layered.nd (JP.m (p_op op_or opd_ii (p_var 6) (p_var 10))))
  (b_one (s_set 7 sc_layered.nd (JP.m (p_op op_add opd_ii (p_var 7) p_int))))))))))))
  (b_one (s_ret (m_tup (a_cons (JN.m (n_lc (own := [("rule", 14), ("layer", 7)]) rfl sc_layered.nd (i_list (JN.m (n_blt (cr_sortedPOK K rfl) cbn_sortP PyProof.Rows.boot_sorted (r_var 2) M.f_sorted))) (blkOk_by (own := [("rule", 14), ("layer", 7)]) (N := ["count", "facts", "placed", "left", "index", "fact", "front", "layer", "whole", "closed", "free", "wins", "losses", "one", "rule"]) (sc := defScope t_layered) (by decide +kernel)) (fun _ _ _ _ _ => (g_tupK K rfl rfl (gs_cons (g_name 14 sc_layered.nd) (gs_cons (g_name 7 sc_layered.nd) gs_nil)))) (fun _ _ _ _ _ => ts_nil) (fun _ _ _ _ _ => (JP.m (p_var 7))))) (a_cons (JN.m (n_lst a_nil)) a_nil))))))))))⟩
theorem cal_layered (M : Mod K mg) : C8.Cal P w K mg base 3 "layered" (spD 2 (runG 15 g_layered)) [] := by
  obtain ⟨f, fd, F, e⟩ := M.d_layered
  exact ⟨f, fd, _, [], ok_layered M F, e, F.kp, F.bindsN fun _ _ _ _ _ _ us hl => match us, hl with | [_, _], _ => rfl, .nil⟩
theorem ok_least_barring (M : Mod K mg) {f : Addr} {fd : FuncData} (F : FunD K "least_barring" "least_barring" (defArgs t_least_barring) (defBody t_least_barring) (defScope t_least_barring) [] [] f fd) : FnOk P w K mg base CX0 4 f fd ["count", "facts"] (spD 2 (runG 9 g_least_barring)) :=
  fn_data F sc_least_barring (by decide) fun cdv A outer s H E hr => ⟨_, (b_cons (s_set 2 sc_least_barring.nd (m_ixK K rfl (m_call (cal_layered M) .nil hr (by decide) (a_cons (JP.m (p_var 0)) (a_cons (JP.m (p_var 1)) a_nil))) (JP.m p_int)))
  (b_cons (s_if (tm_cmp (op_eqAK K rfl hr) opd_eqA.d (JP.m (p_var 2)) (JN.m (n_lst a_nil)) (by rfl))
  (b_one (s_ret (JP.m p_non)))
  b_nil)
  (b_cons (s_set 3 sc_least_barring.nd (m_call (cal_covering M) .nil hr (by decide) (a_cons (JP.m (p_var 0)) (a_cons (JP.m (p_var 1)) (a_cons (JP.m (p_var 2)) a_nil)))))
  (b_cons (s_for PassesOwn.never rfl (i_list (JN.m (n_ty (call_list_ofK K rfl) cbn_list PyProof.Rows.boot_list (JP.r (p_var 3)) M.f_list))) (g_name 4 sc_least_barring.nd)
  (b_one (s_if (JT.m (t_cmpR (op_inAK K rfl) opd_inA (JP.r (p_var 4)) (JP.r (p_var 3)) (by rfl)))
  (b_cons (s_set 5 sc_least_barring.nd (JN.m (n_lc (own := [("other", 7)]) rfl sc_least_barring.nd (i_list (JP.m (p_var 3))) (blkOk_by (own := [("other", 7)]) (N := ["count", "facts", "left", "kept", "index", "fewer", "rest", "other", "place"]) (sc := defScope t_least_barring) (by decide +kernel)) (fun _ _ _ _ _ => (g_name 7 sc_least_barring.nd)) (fun _ _ _ _ _ => (ts_one (JT.m (t_cmpR (op_neAK K rfl hr) opd_neA (JP.r (p_var 7)) (JP.r (p_var 4)) (by rfl))))) (fun _ _ _ _ _ => (JP.m (p_var 7))))))
  (b_cons (s_set 6 sc_least_barring.nd (m_ixK K rfl (m_call (cal_layered M) .nil hr (by decide) (a_cons (JP.m (p_var 0)) (a_cons (JN.m (n_lc (own := [("other", 7)]) rfl sc_least_barring.nd (i_list (JP.m (p_var 5))) (blkOk_by (own := [("other", 7)]) (N := ["count", "facts", "left", "kept", "index", "fewer", "rest", "other", "place"]) (sc := defScope t_least_barring) (by decide +kernel)) (fun _ _ _ _ _ => (g_name 7 sc_least_barring.nd)) (fun _ _ _ _ _ => ts_nil) (fun _ _ _ _ _ => (JP.m (p_ixK K rfl (JP.r (p_var 1)) (p_var 7)))))) a_nil))) (JP.m p_int)))
  (b_one (s_if (tm_cmp (op_neAK K rfl hr) opd_neA.d (JP.m (p_var 6)) (JN.m (n_lst a_nil)) (by rfl))
  (b_one (s_setLc (own := [("place", 8)]) 3 rfl sc_least_barring.nd (i_list (JP.m (p_var 6))) (blkOk_by (own := [("place", 8)]) (N := ["count", "facts", "left", "kept", "index", "fewer", "rest", "other", "place"]) (sc := defScope t_least_barring) (by decide +kernel)) (fun _ _ _ _ _ => (g_name 8 sc_least_barring.nd)) (fun _ _ _ _ _ => ts_nil) (fun _ _ _ _ _ => (JP.m (p_ixK K rfl (JP.r (p_var 5)) (p_var 8)))) (sw_true rfl rfl rfl rfl)))
  b_nil))))
  b_nil)))
  (b_one (s_ret (JP.m (p_var 3))))))))⟩
theorem cal_least_barring (M : Mod K mg) : C8.Cal P w K mg base 4 "least_barring" (spD 2 (runG 9 g_least_barring)) [] := by
  obtain ⟨f, fd, F, e⟩ := M.d_least_barring
  exact ⟨f, fd, _, [], ok_least_barring M F, e, F.kp, F.bindsN fun _ _ _ _ _ _ us hl => match us, hl with | [_, _], _ => rfl, .nil⟩
theorem ok_barring_set (M : Mod K mg) {f : Addr} {fd : FuncData} (F : FunD K "barring_set" "barring_set" (defArgs t_barring_set) (defBody t_barring_set) (defScope t_barring_set) [] [] f fd) : FnOk P w K mg base CX0 5 f fd ["count", "facts"] (spD 2 (runG 2 g_barring_set)) :=
  fn_data F sc_barring_set (by decide) fun cdv A outer s H E hr => ⟨_, (b_cons (s_expr (m_call (cal_need_count_and_facts_2 M) (.cons (fun _ => .int _) .nil) hr (by decide) (a_cons (JP.m (p_var 0)) (a_cons (JP.m (p_var 1)) a_nil))))
  (b_one (s_ret (m_call (cal_least_barring M) .nil hr (by decide) (a_cons (JP.m (p_var 0)) (a_cons (JP.m (p_var 1)) a_nil))))))⟩
theorem cal_barring_set (M : Mod K mg) : C8.Cal P w K mg base 5 "barring_set" (spD 2 (runG 2 g_barring_set)) [] := by
  obtain ⟨f, fd, F, e⟩ := M.d_barring_set
  exact ⟨f, fd, _, [], ok_barring_set M F, e, F.kp, F.bindsN fun _ _ _ _ _ _ us hl => match us, hl with | [_, _], _ => rfl, .nil⟩
theorem ok__law_joined (M : Mod K mg) {f : Addr} {fd : FuncData} (F : FunD K "_law_joined" "_law_joined" (defArgs t__law_joined) (defBody t__law_joined) (defScope t__law_joined) [] [] f fd) : FnOk P w K mg base CX0 1 f fd ["_law_one", "_law_other"] (spD 2 (runG 2 g__law_joined)) :=
  fn_data F sc__law_joined (by decide) fun cdv A outer s H E hr => ⟨_, (b_one (s_ret (JN.m (n_sset rfl (JN.m (n_cat (JP.m (p_var 0)) (JP.m (p_var 1)))) M.f_sorted M.f_set))))⟩
theorem cal__law_joined (M : Mod K mg) : C8.Cal P w K mg base 1 "_law_joined" (spD 2 (runG 2 g__law_joined)) [] := by
  obtain ⟨f, fd, F, e⟩ := M.d__law_joined
  exact ⟨f, fd, _, [], ok__law_joined M F, e, F.kp, F.bindsN fun _ _ _ _ _ _ us hl => match us, hl with | [_, _], _ => rfl, .nil⟩
theorem ok_are_indices (M : Mod K mg) {f : Addr} {fd : FuncData} (F : FunD K "are_indices" "are_indices" (defArgs t_are_indices) (defBody t_are_indices) (defScope t_are_indices) [] [] f fd) : FnOk P w K mg base CX0 2 f fd ["value", "many"] (spD 2 (runG 5 g_are_indices)) :=
  fn_data F sc_are_indices (by decide) fun cdv A outer s H E hr => ⟨_, (b_cons (s_if (JWM.t (wm_or (JT.m (t_not (t_val (p_isiK K rfl PyProof.Rows.boot_list (p_var 0) M.f_isinstance M.f_list)))) (wm_or1 (tm_not (tm_val (m_blt (cr_allK K rfl rfl) cb_all PyProof.Rows.boot_all (JN.m (n_lc (own := [("index", 4)]) rfl sc_are_indices.nd (i_list (JP.m (p_var 0))) (blkOk_by (own := [("index", 4)]) (N := ["value", "many", "one", "other", "index"]) (sc := defScope t_are_indices) (by decide +kernel)) (fun _ _ _ _ _ => (g_name 4 sc_are_indices.nd)) (fun _ _ _ _ _ => ts_nil) (fun _ _ _ _ _ => (m_call (cal_is_integer M) .nil hr (by decide) (a_cons (JP.m (p_var 4)) (a_cons (JP.m p_int) (a_cons (JP.m (p_op op_sub opd_ii (p_var 1) p_int)) a_nil))))))) M.f_all))))))
  (b_one (s_ret (JP.m p_bl)))
  b_nil)
  (b_one (s_ret (m_blt (cr_allK K rfl rfl) cb_all PyProof.Rows.boot_all (JN.m (n_lc (own := [("one", 2), ("other", 3)]) rfl sc_are_indices.nd (i_zip (a_cons (JP.m (p_var 0)) (a_cons (JN.m (n_cut (JP.r (p_var 0)) (o_some p_int) o_none)) a_nil)) M.f_zip) (blkOk_by (own := [("one", 2), ("other", 3)]) (N := ["value", "many", "one", "other", "index"]) (sc := defScope t_are_indices) (by decide +kernel)) (fun _ _ _ _ _ => (g_tupK K rfl rfl (gs_cons (g_name 2 sc_are_indices.nd) (gs_cons (g_name 3 sc_are_indices.nd) gs_nil)))) (fun _ _ _ _ _ => ts_nil) (fun _ _ _ _ _ => (JP.m (p_cmp op_lt opd_ib (p_var 2) (p_var 3) (by rfl)))))) M.f_all))))⟩
theorem cal_are_indices (M : Mod K mg) : C8.Cal P w K mg base 2 "are_indices" (spD 2 (runG 5 g_are_indices)) [] := by
  obtain ⟨f, fd, F, e⟩ := M.d_are_indices
  exact ⟨f, fd, _, [], ok_are_indices M F, e, F.kp, F.bindsN fun _ _ _ _ _ _ us hl => match us, hl with | [_, _], _ => rfl, .nil⟩
theorem ok_bars_all (M : Mod K mg) {f : Addr} {fd : FuncData} (F : FunD K "bars_all" "bars_all" (defArgs t_bars_all) (defBody t_bars_all) (defScope t_bars_all) [] [] f fd) : FnOk P w K mg base CX0 2 f fd ["count", "facts"] (spD 2 (runG 2 g_bars_all)) :=
  fn_data F sc_bars_all (by decide) fun cdv A outer s H E hr => ⟨_, (b_one (s_ret (m_and (m_cmp (op_neAK K rfl hr) opd_neA.d (JP.m (p_var 1)) (JN.m (n_lst a_nil)) (by rfl)) (m_and (JP.m (p_cmpR (op_notInAK K rfl) opd_notInA (JP.r (p_op op_mulS opd_mulS (p_globS M.c_SILENT) (p_var 0))) (JP.r (p_var 1)) (by rfl))) (m_one (m_cmp op_isN opd_isN.d (m_call (cal_lacking_rule M) .nil hr (by decide) (a_cons (JP.m (p_var 0)) (a_cons (JP.m (p_var 1)) a_nil))) (JP.m p_non) (by rfl)))))))⟩
theorem cal_bars_all (M : Mod K mg) : C8.Cal P w K mg base 2 "bars_all" (spD 2 (runG 2 g_bars_all)) [] := by
  obtain ⟨f, fd, F, e⟩ := M.d_bars_all
  exact ⟨f, fd, _, [], ok_bars_all M F, e, F.kp, F.bindsN fun _ _ _ _ _ _ us hl => match us, hl with | [_, _], _ => rfl, .nil⟩
theorem ok_is_barring_set (M : Mod K mg) {f : Addr} {fd : FuncData} (F : FunD K "is_barring_set" "is_barring_set" (defArgs t_is_barring_set) (defBody t_is_barring_set) (defScope t_is_barring_set) [] [] f fd) : FnOk P w K mg base CX0 4 f fd ["count", "facts", "value"] (spD 3 (runG 4 g_is_barring_set)) :=
  fn_data F sc_is_barring_set (by decide) fun cdv A outer s H E hr => ⟨_, (b_cons (s_expr (m_call (cal_need_count_and_facts_2 M) (.cons (fun _ => .int _) .nil) hr (by decide) (a_cons (JP.m (p_var 0)) (a_cons (JP.m (p_var 1)) a_nil))))
  (b_one (s_ret (m_and (m_call (cal_are_indices M) .nil hr (by decide) (a_cons (JP.m (p_var 2)) (a_cons (JP.m (p_blt (call_lenK K rfl) cb_len boot_len (JP.r (p_var 1)) M.f_len)) a_nil))) (m_one (m_call (cal_bars_all M) .nil hr (by decide) (a_cons (JP.m (p_var 0)) (a_cons (JN.m (n_lc (own := [("index", 3)]) rfl sc_is_barring_set.nd (i_list (JP.m (p_var 2))) (blkOk_by (own := [("index", 3)]) (N := ["count", "facts", "value", "index"]) (sc := defScope t_is_barring_set) (by decide +kernel)) (fun _ _ _ _ _ => (g_name 3 sc_is_barring_set.nd)) (fun _ _ _ _ _ => ts_nil) (fun _ _ _ _ _ => (JP.m (p_ixK K rfl (JP.r (p_var 1)) (p_var 3)))))) a_nil))))))))⟩
theorem cal_is_barring_set (M : Mod K mg) : C8.Cal P w K mg base 4 "is_barring_set" (spD 3 (runG 4 g_is_barring_set)) [] := by
  obtain ⟨f, fd, F, e⟩ := M.d_is_barring_set
  exact ⟨f, fd, _, [], ok_is_barring_set M F, e, F.kp, F.bindsN fun _ _ _ _ _ _ us hl => match us, hl with | [_, _, _], _ => rfl, .nil⟩
theorem ok_need_fact (M : Mod K mg) {f : Addr} {fd : FuncData} (F : FunD K "need_fact" "need_fact" (defArgs t_need_fact) (defBody t_need_fact) (defScope t_need_fact) [] [] f fd) : FnOk P w K mg base CX0 2 f fd ["count", "fact"] (spD 2 (runG 2 g_need_fact)) :=
  fn_data F sc_need_fact (by decide) fun cdv A outer s H E hr => ⟨_, (b_one (s_if (tm_not (tm_val (m_call (cal_fits_fact M) .nil hr (by decide) (a_cons (JP.m (p_var 0)) (a_cons (JP.m (p_var 1)) a_nil)))))
  b_never
  b_nil))⟩
theorem cal_need_fact (M : Mod K mg) : C8.Cal P w K mg base 2 "need_fact" (spD 2 (runG 2 g_need_fact)) [] := by
  obtain ⟨f, fd, F, e⟩ := M.d_need_fact
  exact ⟨f, fd, _, [], ok_need_fact M F, e, F.kp, F.bindsN fun _ _ _ _ _ _ us hl => match us, hl with | [_, _], _ => rfl, .nil⟩
theorem ok_over_all (M : Mod K mg) {f : Addr} {fd : FuncData} (F : FunD K "over_all" "over_all" (defArgs t_over_all) (defBody t_over_all) (defScope t_over_all) [] [] f fd) : FnOk P w K mg base CX0 1 f fd ["count", "facts"] (spD 2 (runG 6 g_over_all)) :=
  fn_data F sc_over_all (by decide) fun cdv A outer s H E hr => ⟨_, (b_cons (s_new 2 sc_over_all.nd (n_lst a_nil))
  (b_cons (s_for PassesOwn.never rfl (i_range1 (JP.m (p_var 0)) M.f_range) (g_name 3 sc_over_all.nd)
  (b_cons (s_setLc (own := [("fact", 5)]) 4 rfl sc_over_all.nd (i_list (JP.m (p_var 1))) (blkOk_by (own := [("fact", 5)]) (N := ["count", "facts", "signs", "rule", "there", "fact"]) (sc := defScope t_over_all) (by decide +kernel)) (fun _ _ _ _ _ => (g_name 5 sc_over_all.nd)) (fun _ _ _ _ _ => ts_nil) (fun _ _ _ _ _ => (JP.m (p_ixK K rfl (JP.r (p_var 5)) (p_var 3)))) (sw_true rfl rfl rfl rfl))
  (b_one (s_app 2 (JP.m (p_if (t_cmpR (op_inAK K rfl) opd_inA (JP.r (p_globS M.c_AGAINST)) (JP.r (p_var 4)) (by rfl)) (p_globS M.c_AGAINST) (p_if (t_cmpR (op_inAK K rfl) opd_inA (JP.r (p_globS M.c_FOR)) (JP.r (p_var 4)) (by rfl)) (p_globS M.c_FOR) (p_globS M.c_SILENT))))))))
  (b_one (s_ret (JP.m (p_join p_str (r_var 2)))))))⟩
theorem cal_over_all (M : Mod K mg) : C8.Cal P w K mg base 1 "over_all" (spD 2 (runG 6 g_over_all)) [] := by
  obtain ⟨f, fd, F, e⟩ := M.d_over_all
  exact ⟨f, fd, _, [], ok_over_all M F, e, F.kp, F.bindsN fun _ _ _ _ _ _ us hl => match us, hl with | [_, _], _ => rfl, .nil⟩
theorem ok_is_paper (M : Mod K mg) {f : Addr} {fd : FuncData} (F : FunD K "is_paper" "is_paper" (defArgs t_is_paper) (defBody t_is_paper) (defScope t_is_paper) [] [] f fd) : FnOk P w K mg base CX0 4 f fd ["count", "facts", "fact", "value"] (spD 4 (runG 10 g_is_paper)) :=
  fn_data F sc_is_paper (by decide) fun cdv A outer s H E hr => ⟨_, (b_cons (s_expr (m_call (cal_need_count_and_facts_2 M) (.cons (fun _ => .int _) .nil) hr (by decide) (a_cons (JP.m (p_var 0)) (a_cons (JP.m (p_var 1)) a_nil))))
  (b_cons (s_expr (m_call (cal_need_fact M) .nil hr (by decide) (a_cons (JP.m (p_var 0)) (a_cons (JP.m (p_var 2)) a_nil))))
  (b_cons (s_if (tm_not (tm_val (m_call (cal_are_indices M) .nil hr (by decide) (a_cons (JP.m (p_var 3)) (a_cons (JP.m (p_blt (call_lenK K rfl) cb_len boot_len (JP.r (p_var 1)) M.f_len)) a_nil)))))
  (b_one (s_ret (JP.m p_bl)))
  b_nil)
  (b_cons (s_set 4 sc_is_paper.nd (m_call (cal_rules_with M) .nil hr (by decide) (a_cons (JP.m (p_var 2)) (a_cons (JP.m (p_globS M.c_AGAINST)) a_nil))))
  (b_cons (s_set 5 sc_is_paper.nd (m_call (cal_over_all M) .nil hr (by decide) (a_cons (JP.m (p_var 0)) (a_cons (JN.m (n_lc (own := [("index", 8)]) rfl sc_is_paper.nd (i_list (JP.m (p_var 3))) (blkOk_by (own := [("index", 8)]) (N := ["count", "facts", "fact", "value", "losers", "over", "winners", "against", "index", "rule"]) (sc := defScope t_is_paper) (by decide +kernel)) (fun _ _ _ _ _ => (g_name 8 sc_is_paper.nd)) (fun _ _ _ _ _ => ts_nil) (fun _ _ _ _ _ => (JP.m (p_ixK K rfl (JP.r (p_var 1)) (p_var 8)))))) a_nil))))
  (b_cons (s_asg (m_tup (a_cons (m_call (cal_rules_with M) .nil hr (by decide) (a_cons (JP.m (p_var 5)) (a_cons (JP.m (p_globS M.c_FOR)) a_nil))) (a_cons (m_call (cal_rules_with M) .nil hr (by decide) (a_cons (JP.m (p_var 5)) (a_cons (JP.m (p_globS M.c_AGAINST)) a_nil))) a_nil))) (g_tupK K rfl rfl (gs_cons (g_name 6 sc_is_paper.nd) (gs_cons (g_name 7 sc_is_paper.nd) gs_nil))))
  (b_cons (s_if (tm_cmp (op_eqAK K rfl hr) opd_eqA.d (JP.m (p_var 4)) (JN.m (n_lst a_nil)) (by rfl))
  (b_one (s_ret (JP.m p_bl)))
  b_nil)
  (b_cons (s_if (JWM.t (wm_or (tm_cmp (op_eqAK K rfl hr) opd_eqA.d (JP.m (p_var 3)) (JN.m (n_lst a_nil)) (by rfl)) (wm_or1 (tm_not (tm_val (m_blt (cr_allK K rfl rfl) cb_all PyProof.Rows.boot_all (JN.m (n_lc (own := [("rule", 9)]) rfl sc_is_paper.nd (i_list (JP.m (p_var 6))) (blkOk_by (own := [("rule", 9)]) (N := ["count", "facts", "fact", "value", "losers", "over", "winners", "against", "index", "rule"]) (sc := defScope t_is_paper) (by decide +kernel)) (fun _ _ _ _ _ => (g_name 9 sc_is_paper.nd)) (fun _ _ _ _ _ => ts_nil) (fun _ _ _ _ _ => (JP.m (p_cmpR (op_eqAK K rfl hr) opd_eqA (JP.r (p_ixK K rfl (JP.r (p_var 2)) (p_var 9))) (JP.r (p_globS M.c_FOR)) (by rfl)))))) M.f_all))))))
  (b_one (s_ret (JP.m p_bl)))
  b_nil)
  (b_one (s_ret (m_or (m_blt (cr_allK K rfl rfl) cb_all PyProof.Rows.boot_all (JN.m (n_lc (own := [("rule", 9)]) rfl sc_is_paper.nd (i_list (JP.m (p_var 4))) (blkOk_by (own := [("rule", 9)]) (N := ["count", "facts", "fact", "value", "losers", "over", "winners", "against", "index", "rule"]) (sc := defScope t_is_paper) (by decide +kernel)) (fun _ _ _ _ _ => (g_name 9 sc_is_paper.nd)) (fun _ _ _ _ _ => ts_nil) (fun _ _ _ _ _ => (JP.m (p_cmpR (op_inAK K rfl) opd_inA (JP.r (p_var 9)) (JP.r (p_var 7)) (by rfl)))))) M.f_all) (m_one (m_and (m_cmp (op_neAK K rfl hr) opd_neA.d (JP.m (p_var 7)) (JN.m (n_lst a_nil)) (by rfl)) (m_one (m_cmp (op_eqAK K rfl hr) opd_eqA.d (JP.m (p_var 6)) (JN.m (n_lst a_nil)) (by rfl))))))))))))))))⟩
theorem cal_is_paper (M : Mod K mg) : C8.Cal P w K mg base 4 "is_paper" (spD 4 (runG 10 g_is_paper)) [] := by
  obtain ⟨f, fd, F, e⟩ := M.d_is_paper
  exact ⟨f, fd, _, [], ok_is_paper M F, e, F.kp, F.bindsN fun _ _ _ _ _ _ us hl => match us, hl with | [_, _, _, _], _ => rfl, .nil⟩
theorem ok_is_barred (M : Mod K mg) {f : Addr} {fd : FuncData} (F : FunD K "is_barred" "is_barred" (defArgs t_is_barred) (defBody t_is_barred) (defScope t_is_barred) [] [] f fd) : FnOk P w K mg base CX0 4 f fd ["count", "facts"] (spD 2 (runG 2 g_is_barred)) :=
  fn_data F sc_is_barred (by decide) fun cdv A outer s H E hr => ⟨_, (b_one (s_ret (m_cmp (op_neAK K rfl hr) opd_neA.d (m_ixK K rfl (m_call (cal_layered M) .nil hr (by decide) (a_cons (JP.m (p_var 0)) (a_cons (JP.m (p_var 1)) a_nil))) (JP.m p_int)) (JN.m (n_lst a_nil)) (by rfl))))⟩
theorem cal_is_barred (M : Mod K mg) : C8.Cal P w K mg base 4 "is_barred" (spD 2 (runG 2 g_is_barred)) [] := by
  obtain ⟨f, fd, F, e⟩ := M.d_is_barred
  exact ⟨f, fd, _, [], ok_is_barred M F, e, F.kp, F.bindsN fun _ _ _ _ _ _ us hl => match us, hl with | [_, _], _ => rfl, .nil⟩
theorem ok_can_stand (M : Mod K mg) {f : Addr} {fd : FuncData} (F : FunD K "can_stand" "can_stand" (defArgs t_can_stand) (defBody t_can_stand) (defScope t_can_stand) [] [] f fd) : FnOk P w K mg base CX0 1 f fd ["masks", "front", "rule"] (spD 3 (runG 4 g_can_stand)) :=
  fn_data F sc_can_stand (by decide) fun cdv A outer s H E hr => ⟨_, (b_one (s_ret (m_blt (cr_allK K rfl rfl) cb_all PyProof.Rows.boot_all (JN.m (n_lc (own := [("mask", 3)]) rfl sc_can_stand.nd (i_list (JP.m (p_ixK K rfl (JP.r (p_var 0)) (p_var 2)))) (blkOk_by (own := [("mask", 3)]) (N := ["masks", "front", "rule", "mask"]) (sc := defScope t_can_stand) (by decide +kernel)) (fun _ _ _ _ _ => (g_name 3 sc_can_stand.nd)) (fun _ _ _ _ _ => ts_nil) (fun _ _ _ _ _ => (JP.m (p_cmpR (op_neAK K rfl hr) opd_neA (JP.r (p_op op_and opd_ii (p_var 3) (p_var 1))) (JP.r p_int) (by rfl)))))) M.f_all)))⟩
theorem cal_can_stand (M : Mod K mg) : C8.Cal P w K mg base 1 "can_stand" (spD 3 (runG 4 g_can_stand)) [] := by
  obtain ⟨f, fd, F, e⟩ := M.d_can_stand
  exact ⟨f, fd, _, [], ok_can_stand M F, e, F.kp, F.bindsN fun _ _ _ _ _ _ us hl => match us, hl with | [_, _, _], _ => rfl, .nil⟩
theorem ok_placeable (M : Mod K mg) {f : Addr} {fd : FuncData} (F : FunD K "placeable" "placeable" (defArgs t_placeable) (defBody t_placeable) (defScope t_placeable) [] [] f fd) : FnOk P w K mg base CX0 2 f fd ["masks", "front"] (spD 2 (runG 4 g_placeable)) :=
  fn_data F sc_placeable (by decide) fun cdv A outer s H E hr => ⟨_, (b_cons (s_setLc (own := [("rule", 3)]) 2 rfl sc_placeable.nd (i_range1 (JP.m (p_blt (call_lenK K rfl) cb_len boot_len (JP.r (p_var 0)) M.f_len)) M.f_range) (blkOk_by (own := [("rule", 3)]) (N := ["masks", "front", "outside", "rule"]) (sc := defScope t_placeable) (by decide +kernel)) (fun _ _ _ _ _ => (g_name 3 sc_placeable.nd)) (fun _ _ _ _ _ => (ts_one (JT.m (t_cmpR (op_eqAK K rfl hr) opd_eqA (JP.r (p_op op_and opd_ii (p_op op_shr h_shr (p_var 1) (p_var 3)) p_int)) (JP.r p_int) (by rfl))))) (fun _ _ _ _ _ => (JP.m (p_var 3))) (sw_true rfl rfl rfl rfl))
  (b_one (s_ret (JN.m (n_lc (own := [("rule", 3)]) rfl sc_placeable.nd (i_list (JP.m (p_var 2))) (blkOk_by (own := [("rule", 3)]) (N := ["masks", "front", "outside", "rule"]) (sc := defScope t_placeable) (by decide +kernel)) (fun _ _ _ _ _ => (g_name 3 sc_placeable.nd)) (fun _ _ _ _ _ => (ts_one (tm_val (m_call (cal_can_stand M) .nil hr (by decide) (a_cons (JP.m (p_var 0)) (a_cons (JP.m (p_var 1)) (a_cons (JP.m (p_var 3)) a_nil))))))) (fun _ _ _ _ _ => (JP.m (p_var 3))))))))⟩
theorem cal_placeable (M : Mod K mg) : C8.Cal P w K mg base 2 "placeable" (spD 2 (runG 4 g_placeable)) [] := by
  obtain ⟨f, fd, F, e⟩ := M.d_placeable
  exact ⟨f, fd, _, [], ok_placeable M F, e, F.kp, F.bindsN fun _ _ _ _ _ _ us hl => match us, hl with | [_, _], _ => rfl, .nil⟩
theorem ok_front_without (M : Mod K mg) {f : Addr} {fd : FuncData} (F : FunD K "front_without" "front_without" (defArgs t_front_without) (defBody t_front_without) (defScope t_front_without) [] [] f fd) : FnOk P w K mg base CX0 3 f fd ["masks", "barred"] (spD 2 (runG 5 g_front_without)) :=
  fn_data F sc_front_without (by decide) fun cdv A outer s H E hr => ⟨_, (b_cons (s_asg (m_tup (a_cons (JP.m p_int) (a_cons (JP.m p_bl) a_nil))) (g_tupK K rfl rfl (gs_cons (g_name 2 sc_front_without.nd) (gs_cons (g_name 3 sc_front_without.nd) gs_nil))))
  (b_cons (s_while 100 PassesOwn.never (JT.m (t_not (t_val (p_var 3))))
  (b_cons (s_set 3 sc_front_without.nd (JP.m p_bl))
  (b_one (s_for PassesOwn.never rfl (i_list (m_call (cal_placeable M) .nil hr (by decide) (a_cons (JP.m (p_var 0)) (a_cons (JP.m (p_var 2)) a_nil)))) (g_name 4 sc_front_without.nd)
  (b_one (s_if (JT.m (t_cmpR (op_eqAK K rfl hr) opd_eqA (JP.r (p_op op_and opd_ii (p_op op_shr h_shr (p_var 1) (p_var 4)) p_int)) (JP.r p_int) (by rfl)))
  (b_cons (s_set 2 sc_front_without.nd (JP.m (p_op op_or opd_ii (p_var 2) (p_op op_shlW h_shl p_int (p_var 4)))))
  (b_one (s_set 3 sc_front_without.nd (JP.m p_bl))))
  b_nil))))))
  (b_one (s_ret (JP.m (p_var 2))))))⟩
theorem cal_front_without (M : Mod K mg) : C8.Cal P w K mg base 3 "front_without" (spD 2 (runG 5 g_front_without)) [] := by
  obtain ⟨f, fd, F, e⟩ := M.d_front_without
  exact ⟨f, fd, _, [], ok_front_without M F, e, F.kp, F.bindsN fun _ _ _ _ _ _ us hl => match us, hl with | [_, _], _ => rfl, .nil⟩
theorem ok_masks_of (M : Mod K mg) {f : Addr} {fd : FuncData} (F : FunD K "masks_of" "masks_of" (defArgs t_masks_of) (defBody t_masks_of) (defScope t_masks_of) [] [] f fd) : FnOk P w K mg base CX0 3 f fd ["count", "facts"] (spD 2 (runG 7 g_masks_of)) :=
  fn_data F sc_masks_of (by decide) fun cdv A outer s H E hr => ⟨_, (b_cons (s_new 2 sc_masks_of.nd (n_lst a_nil))
  (b_cons (s_setLc (own := [("fact", 5)]) 3 rfl sc_masks_of.nd (i_list (JP.m (p_var 1))) (blkOk_by (own := [("fact", 5)]) (N := ["count", "facts", "found", "pairs", "rule", "fact", "mask"]) (sc := defScope t_masks_of) (by decide +kernel)) (fun _ _ _ _ _ => (g_name 5 sc_masks_of.nd)) (fun _ _ _ _ _ => ts_nil) (fun _ _ _ _ _ => (m_tup (a_cons (JP.m (p_var 5)) (a_cons (m_call (cal_mask_of_1 M) (.cons (fun _ => .str _) .nil) hr (by decide) (a_cons (JP.m (p_var 5)) a_nil)) a_nil)))) (sw_true rfl rfl rfl rfl))
  (b_cons (s_for PassesOwn.never rfl (i_range1 (JP.m (p_var 0)) M.f_range) (g_name 4 sc_masks_of.nd)
  (b_one (s_app 2 (JN.m (n_ssc (own := [("fact", 5), ("mask", 6)]) rfl sc_masks_of.nd M.f_sorted (i_list (JP.m (p_var 3))) (blkOk_by (own := [("fact", 5), ("mask", 6)]) (N := ["count", "facts", "found", "pairs", "rule", "fact", "mask"]) (sc := defScope t_masks_of) (by decide +kernel)) (fun _ _ _ _ _ => (g_tupK K rfl rfl (gs_cons (g_name 5 sc_masks_of.nd) (gs_cons (g_name 6 sc_masks_of.nd) gs_nil)))) (fun _ _ _ _ _ => (ts_one (JT.m (t_cmpR (op_eqAK K rfl hr) opd_eqA (JP.r (p_ixK K rfl (JP.r (p_var 5)) (p_var 4))) (JP.r (p_globS M.c_AGAINST)) (by rfl))))) (fun _ _ _ _ _ => (JP.m (p_var 6))))))))
  (b_one (s_ret (m_var 2))))))⟩
theorem cal_masks_of (M : Mod K mg) : C8.Cal P w K mg base 3 "masks_of" (spD 2 (runG 7 g_masks_of)) [] := by
  obtain ⟨f, fd, F, e⟩ := M.d_masks_of
  exact ⟨f, fd, _, [], ok_masks_of M F, e, F.kp, F.bindsN fun _ _ _ _ _ _ us hl => match us, hl with | [_, _], _ => rfl, .nil⟩
theorem ok_fact_follows (M : Mod K mg) {f : Addr} {fd : FuncData} (F : FunD K "fact_follows" "fact_follows" (defArgs t_fact_follows) (defBody t_fact_follows) (defScope t_fact_follows) [] [] f fd) : FnOk P w K mg base CX0 5 f fd ["count", "facts", "fact"] (spD 3 (runG 4 g_fact_follows)) :=
  fn_data F sc_fact_follows (by decide) fun cdv A outer s H E hr => ⟨_, (b_cons (s_if (tm_val (m_call (cal_is_barred M) .nil hr (by decide) (a_cons (JP.m (p_var 0)) (a_cons (JP.m (p_var 1)) a_nil))))
  (b_one (s_ret (JP.m p_bl)))
  b_nil)
  (b_cons (s_set 3 sc_fact_follows.nd (m_call (cal_front_without M) .nil hr (by decide) (a_cons (m_call (cal_masks_of M) .nil hr (by decide) (a_cons (JP.m (p_var 0)) (a_cons (JP.m (p_var 1)) a_nil))) (a_cons (m_call (cal_mask_of_1 M) (.cons (fun _ => .str _) .nil) hr (by decide) (a_cons (JP.m (p_var 2)) a_nil)) a_nil))))
  (b_one (s_ret (m_cmp (op_eqAK K rfl hr) opd_eqA.d (m_op op_and opd_ii (JP.m (p_var 3)) (m_call (cal_mask_of M) .nil hr (by decide) (a_cons (JP.m (p_var 2)) (a_cons (JP.m (p_globS M.c_AGAINST)) a_nil)))) (JP.m p_int) (by rfl))))))⟩
theorem cal_fact_follows (M : Mod K mg) : C8.Cal P w K mg base 5 "fact_follows" (spD 3 (runG 4 g_fact_follows)) [] := by
  obtain ⟨f, fd, F, e⟩ := M.d_fact_follows
  exact ⟨f, fd, _, [], ok_fact_follows M F, e, F.kp, F.bindsN fun _ _ _ _ _ _ us hl => match us, hl with | [_, _, _], _ => rfl, .nil⟩
theorem ok_follows (M : Mod K mg) {f : Addr} {fd : FuncData} (F : FunD K "follows" "follows" (defArgs t_follows) (defBody t_follows) (defScope t_follows) [] [] f fd) : FnOk P w K mg base CX0 6 f fd ["count", "facts", "fact"] (spD 3 (runG 3 g_follows)) :=
  fn_data F sc_follows (by decide) fun cdv A outer s H E hr => ⟨_, (b_cons (s_expr (m_call (cal_need_count_and_facts_2 M) (.cons (fun _ => .int _) .nil) hr (by decide) (a_cons (JP.m (p_var 0)) (a_cons (JP.m (p_var 1)) a_nil))))
  (b_cons (s_expr (m_call (cal_need_fact M) .nil hr (by decide) (a_cons (JP.m (p_var 0)) (a_cons (JP.m (p_var 2)) a_nil))))
  (b_one (s_ret (m_call (cal_fact_follows M) .nil hr (by decide) (a_cons (JP.m (p_var 0)) (a_cons (JP.m (p_var 1)) (a_cons (JP.m (p_var 2)) a_nil))))))))⟩
theorem cal_follows (M : Mod K mg) : C8.Cal P w K mg base 6 "follows" (spD 3 (runG 3 g_follows)) [] := by
  obtain ⟨f, fd, F, e⟩ := M.d_follows
  exact ⟨f, fd, _, [], ok_follows M F, e, F.kp, F.bindsN fun _ _ _ _ _ _ us hl => match us, hl with | [_, _, _], _ => rfl, .nil⟩
theorem ok__law_barred_right (M : Mod K mg) {f : Addr} {fd : FuncData} (F : FunD K "_law_barred_right" "_law_barred_right" (defArgs t__law_barred_right) (defBody t__law_barred_right) (defScope t__law_barred_right) [] [] f fd) : FnOk P w K mg base CX0 7 f fd ["_law_well_here", "_law_count", "_law_facts_here"] (spP 2 (runP 9 g__law_barred_right)) :=
  fn_lent F sc__law_barred_right (by decide) (by decide) fun cdv A outer s H E hr => ⟨_, (b_cons (s_par 5 3 rfl sc__law_barred_right.nd (v_m (m_call (cal_barring_set M) .nil hr (by decide) (a_cons (JP.m (p_var 1)) (a_cons (JP.m (p_var 2)) a_nil)))) (v_m (m_call (cal_barring_set M) .nil hr (by decide) (a_cons (JP.m (p_var 1)) (a_cons (JN.m (n_rev (JP.r (p_var 2)))) a_nil)))))
  (b_cons (s_if (JT.m (JW.t (w_or (t_cmpR op_isN opd_isN (JP.r (p_var 5)) (JP.r p_non) (by rfl)) (w_or1 (t_cmpR op_isN opd_isN (JP.r (p_var 3)) (JP.r p_non) (by rfl))))))
  (b_one (s_ret (JP.m p_bl)))
  b_nil)
  (b_cons (s_set 3 sc__law_barred_right.nd (JN.m (n_bltM (cr_sortedIK K rfl) cbn_sortI PyProof.Rows.boot_sorted (JN.m (n_lc (own := [("_law_index", 8)]) rfl sc__law_barred_right.nd (i_list (JP.m (p_var 3))) (blkOk_by (own := [("_law_index", 8)]) (N := ["_law_well_here", "_law_count", "_law_facts_here", "_law_second", "_law_told_here", "_law_first", "_law_turn", "_law_fact_here", "_law_index"]) (sc := defScope t__law_barred_right) (by decide +kernel)) (fun _ _ _ _ _ => (g_name 8 sc__law_barred_right.nd)) (fun _ _ _ _ _ => ts_nil) (fun _ _ _ _ _ => (JP.m (p_op op_sub opd_ii (p_op op_sub opd_ii (p_blt (call_lenK K rfl) cb_len boot_len (JP.r (p_var 2)) M.f_len) p_int) (p_var 8)))))) M.f_sorted)))
  (b_cons (s_for PassesOwn.never rfl (i_list (JN.m (n_lst (a_cons (JP.m (p_var 5)) (a_cons (JP.m (p_var 3)) (a_cons (m_call (cal__law_joined M) .nil hr (by decide) (a_cons (JP.m (p_var 5)) (a_cons (JP.m (p_var 3)) a_nil))) a_nil)))))) (g_name 4 sc__law_barred_right.nd)
  (b_cons (s_if (tm_cmp op_isnot_bl opd_isnB (m_call (cal_is_barring_set M) .nil hr (by decide) (a_cons (JP.m (p_var 1)) (a_cons (JP.m (p_var 2)) (a_cons (JP.m (p_var 4)) a_nil)))) (JP.m p_bl) (by rfl))
  (b_one (s_ret (JP.m p_bl)))
  b_nil)
  (b_one (s_for PassesOwn.never rfl (i_range1 (JP.m p_int) M.f_range) (g_name 6 sc__law_barred_right.nd)
  (b_cons (s_set 7 sc__law_barred_right.nd (m_callP 0 (cal__law_fact M) .nil hr (by decide) (a_cons (JP.m (p_var 1)) (a_cons (JN.m (n_lst a_nil)) a_nil))))
  (b_one (s_if (JWM.t (wm_or (tm_cmp op_isnot_bl opd_isnB (m_call (cal_is_paper M) .nil hr (by decide) (a_cons (JP.m (p_var 1)) (a_cons (JP.m (p_var 2)) (a_cons (JP.m (p_var 7)) (a_cons (JP.m (p_var 4)) a_nil))))) (JP.m p_bl) (by rfl)) (wm_or1 (tm_cmp op_isnot_bl opd_isnB (m_call (cal_follows M) .nil hr (by decide) (a_cons (JP.m (p_var 1)) (a_cons (JP.m (p_var 2)) (a_cons (JP.m (p_var 7)) a_nil)))) (JP.m p_bl) (by rfl)))))
  (b_one (s_ret (JP.m p_bl)))
  b_nil)))))))
  (b_one (s_ret (JP.m p_bl)))))))⟩
theorem cal__law_barred_right (M : Mod K mg) : C8.Cal P w K mg base 7 "_law_barred_right" (spP 2 (runP 9 g__law_barred_right)) [] := by
  obtain ⟨f, fd, F, e⟩ := M.d__law_barred_right
  exact ⟨f, fd, _, [], ok__law_barred_right M F, e, F.kp, F.bindsN fun _ _ _ _ _ _ us hl => match us, hl with | [_, _, _], _ => rfl, .nil⟩
theorem ok__law_weaker (M : Mod K mg) {f : Addr} {fd : FuncData} (F : FunD K "_law_weaker" "_law_weaker" (defArgs t__law_weaker) (defBody t__law_weaker) (defScope t__law_weaker) [] [] f fd) : FnOk P w K mg base CX0 2 f fd ["_law_well_here", "_law_fact_here"] (spP 1 (runP 5 g__law_weaker)) :=
  fn_lent F sc__law_weaker (by decide) (by decide) fun cdv A outer s H E hr => ⟨_, (b_cons (s_new 2 sc__law_weaker.nd (n_ty (call_listS rfl) cbn_listS PyProof.Rows.boot_list (JP.r (p_var 1)) M.f_list))
  (b_cons (s_for PassesOwn.never rfl (i_range1 (JP.m (p_blt (call_lenK K rfl) cb_len boot_len (r_var 2) M.f_len)) M.f_range) (g_name 3 sc__law_weaker.nd)
  (b_cons (s_set 4 sc__law_weaker.nd (m_callP 0 (cal__law_draw M) .nil hr (by decide) (a_cons (JP.m p_int) a_nil)))
  (b_cons (s_if (JT.m (JW.t (w_and (t_cmpR (op_eqAK K rfl hr) opd_eqA (JP.r (p_var 4)) (JP.r p_int) (by rfl)) (w_and1 (t_cmpR (op_eqAK K rfl hr) opd_eqA (JP.r (p_ixK K rfl (r_var 2) (p_var 3))) (JP.r p_str) (by rfl))))))
  (b_one (s_st 2 (JP.m p_str) (p_var 3)))
  b_nil)
  (b_one (s_if (JT.m (JW.t (w_and (t_cmp op_lt opd_ib (p_var 4) p_int (by rfl)) (w_and1 (t_cmpR (op_eqAK K rfl hr) opd_eqA (JP.r (p_ixK K rfl (r_var 2) (p_var 3))) (JP.r p_str) (by rfl))))))
  (b_one (s_st 2 (JP.m p_str) (p_var 3)))
  b_nil)))))
  (b_one (s_ret (JP.m (p_join p_str (r_var 2)))))))⟩
theorem cal__law_weaker (M : Mod K mg) : C8.Cal P w K mg base 2 "_law_weaker" (spP 1 (runP 5 g__law_weaker)) [] := by
  obtain ⟨f, fd, F, e⟩ := M.d__law_weaker
  exact ⟨f, fd, _, [], ok__law_weaker M F, e, F.kp, F.bindsN fun _ _ _ _ _ _ us hl => match us, hl with | [_, _], _ => rfl, .nil⟩
theorem ok_fact_with (M : Mod K mg) {f : Addr} {fd : FuncData} (F : FunD K "fact_with" "fact_with" (defArgs t_fact_with) (defBody t_fact_with) (defScope t_fact_with) [] [] f fd) : FnOk P w K mg base CX0 1 f fd ["count", "winners", "losers"] (spD 3 (runG 5 g_fact_with)) :=
  fn_data F sc_fact_with (by decide) fun cdv A outer s H E hr => ⟨_, (b_cons (s_new 3 sc_fact_with.nd (n_lst a_nil))
  (b_cons (s_for PassesOwn.never rfl (i_range1 (JP.m (p_var 0)) M.f_range) (g_name 4 sc_fact_with.nd)
  (b_one (s_app 3 (JP.m (p_if (t_cmpR (op_inAK K rfl) opd_inA (JP.r (p_var 4)) (JP.r (p_var 1)) (by rfl)) (p_globS M.c_FOR) (p_if (t_cmpR (op_inAK K rfl) opd_inA (JP.r (p_var 4)) (JP.r (p_var 2)) (by rfl)) (p_globS M.c_AGAINST) (p_globS M.c_SILENT)))))))
  (b_one (s_ret (JP.m (p_join p_str (r_var 3)))))))⟩
theorem cal_fact_with (M : Mod K mg) : C8.Cal P w K mg base 1 "fact_with" (spD 3 (runG 5 g_fact_with)) [] := by
  obtain ⟨f, fd, F, e⟩ := M.d_fact_with
  exact ⟨f, fd, _, [], ok_fact_with M F, e, F.kp, F.bindsN fun _ _ _ _ _ _ us hl => match us, hl with | [_, _, _], _ => rfl, .nil⟩
theorem ok_opposite (M : Mod K mg) {f : Addr} {fd : FuncData} (F : FunD K "opposite" "opposite" (defArgs t_opposite) (defBody t_opposite) (defScope t_opposite) [] [] f fd) : FnOk P w K mg base CX0 2 f fd ["count", "rule", "ahead"] (spD 3 (runG 3 g_opposite)) :=
  fn_data F sc_opposite (by decide) fun cdv A outer s H E hr => ⟨_, (b_one (s_ret (m_call (cal_fact_with M) .nil hr (by decide) (a_cons (JP.m (p_var 0)) (a_cons (JN.m (n_lst (a_cons (JP.m (p_var 1)) a_nil))) (a_cons (JP.m (p_var 2)) a_nil))))))⟩
theorem cal_opposite (M : Mod K mg) : C8.Cal P w K mg base 2 "opposite" (spD 3 (runG 3 g_opposite)) [] := by
  obtain ⟨f, fd, F, e⟩ := M.d_opposite
  exact ⟨f, fd, _, [], ok_opposite M F, e, F.kp, F.bindsN fun _ _ _ _ _ _ us hl => match us, hl with | [_, _, _], _ => rfl, .nil⟩
theorem ok_paper_in (M : Mod K mg) {f : Addr} {fd : FuncData} (F : FunD K "paper_in" "paper_in" (defArgs t_paper_in) (defBody t_paper_in) (defScope t_paper_in) [] [] f fd) : FnOk P w K mg base CX0 5 f fd ["count", "facts", "fact"] (spD 3 (runG 8 g_paper_in)) :=
  fn_data F sc_paper_in (by decide) fun cdv A outer s H E hr => ⟨_, (b_cons (s_set 3 sc_paper_in.nd (m_call (cal_rules_with M) .nil hr (by decide) (a_cons (JP.m (p_var 2)) (a_cons (JP.m (p_globS M.c_AGAINST)) a_nil))))
  (b_cons (s_set 4 sc_paper_in.nd (m_call (cal_least_barring M) .nil hr (by decide) (a_cons (JP.m (p_var 0)) (a_cons (JP.m (p_var 1)) a_nil))))
  (b_cons (s_if (JWM.t (wm_or (tm_cmp (op_eqAK K rfl hr) opd_eqA.d (JP.m (p_var 3)) (JN.m (n_lst a_nil)) (by rfl)) (wm_or1 (JT.m (t_cmpR op_notN opd_isnN (JP.r (p_var 4)) (JP.r p_non) (by rfl))))))
  (b_one (s_ret (m_if (tm_cmp (op_eqAK K rfl hr) opd_eqA.d (JP.m (p_var 3)) (JN.m (n_lst a_nil)) (by rfl)) (JN.m (n_lst a_nil)) (JP.m (p_var 4)))))
  b_nil)
  (b_cons (s_setV 5 sc_paper_in.nd v_dict)
  (b_cons (s_for PassesOwn.never rfl (i_list (JP.m (p_var 3))) (g_name 6 sc_paper_in.nd)
  (b_one (s_for PassesOwn.never rfl (i_list (m_call (cal_least_barring M) .nil hr (by decide) (a_cons (JP.m (p_var 0)) (a_cons (JN.m (n_lst (a_star (JP.m (p_var 1)) (a_cons (m_call (cal_opposite M) .nil hr (by decide) (a_cons (JP.m (p_var 0)) (a_cons (JP.m (p_var 6)) (a_cons (m_call (cal_rules_with M) .nil hr (by decide) (a_cons (JP.m (p_var 2)) (a_cons (JP.m (p_globS M.c_FOR)) a_nil))) a_nil)))) a_nil)))) a_nil)))) (g_name 7 sc_paper_in.nd)
  (b_one (s_if (JT.m (t_cmp op_lt opd_ib (p_var 7) (p_blt (call_lenK K rfl) cb_len boot_len (JP.r (p_var 1)) M.f_len) (by rfl)))
  (b_one (s_put 5 (room_put hr) (JP.m p_bl) (p_var 7)))
  b_nil)))))
  (b_one (s_ret (JN.m (n_sortD 5 rfl M.f_sorted)))))))))⟩
theorem cal_paper_in (M : Mod K mg) : C8.Cal P w K mg base 5 "paper_in" (spD 3 (runG 8 g_paper_in)) [] := by
  obtain ⟨f, fd, F, e⟩ := M.d_paper_in
  exact ⟨f, fd, _, [], ok_paper_in M F, e, F.kp, F.bindsN fun _ _ _ _ _ _ us hl => match us, hl with | [_, _, _], _ => rfl, .nil⟩
theorem ok_paper_for (M : Mod K mg) {f : Addr} {fd : FuncData} (F : FunD K "paper_for" "paper_for" (defArgs t_paper_for) (defBody t_paper_for) (defScope t_paper_for) [] [] f fd) : FnOk P w K mg base CX0 6 f fd ["count", "facts", "fact"] (spD 3 (runG 3 g_paper_for)) :=
  fn_data F sc_paper_for (by decide) fun cdv A outer s H E hr => ⟨_, (b_cons (s_expr (m_call (cal_need_count_and_facts_2 M) (.cons (fun _ => .int _) .nil) hr (by decide) (a_cons (JP.m (p_var 0)) (a_cons (JP.m (p_var 1)) a_nil))))
  (b_cons (s_expr (m_call (cal_need_fact M) .nil hr (by decide) (a_cons (JP.m (p_var 0)) (a_cons (JP.m (p_var 2)) a_nil))))
  (b_one (s_ret (m_if (tm_val (m_call (cal_fact_follows M) .nil hr (by decide) (a_cons (JP.m (p_var 0)) (a_cons (JP.m (p_var 1)) (a_cons (JP.m (p_var 2)) a_nil))))) (m_call (cal_paper_in M) .nil hr (by decide) (a_cons (JP.m (p_var 0)) (a_cons (JP.m (p_var 1)) (a_cons (JP.m (p_var 2)) a_nil)))) (JP.m p_non))))))⟩
theorem cal_paper_for (M : Mod K mg) : C8.Cal P w K mg base 6 "paper_for" (spD 3 (runG 3 g_paper_for)) [] := by
  obtain ⟨f, fd, F, e⟩ := M.d_paper_for
  exact ⟨f, fd, _, [], ok_paper_for M F, e, F.kp, F.bindsN fun _ _ _ _ _ _ us hl => match us, hl with | [_, _, _], _ => rfl, .nil⟩
theorem ok__law_told (M : Mod K mg) {f : Addr} {fd : FuncData} (F : FunD K "_law_told" "_law_told" (defArgs t__law_told) (defBody t__law_told) (defScope t__law_told) [] [] f fd) : FnOk P w K mg base CX0 7 f fd ["_law_count", "_law_facts_here", "_law_fact_here"] (spD 3 (runG 6 g__law_told)) :=
  fn_data F sc__law_told (by decide) fun cdv A outer s H E hr => ⟨_, (b_cons (s_par 4 3 rfl sc__law_told.nd (v_m (m_call (cal_paper_for M) .nil hr (by decide) (a_cons (JP.m (p_var 0)) (a_cons (JP.m (p_var 1)) (a_cons (JP.m (p_var 2)) a_nil))))) (v_m (m_call (cal_paper_for M) .nil hr (by decide) (a_cons (JP.m (p_var 0)) (a_cons (JN.m (n_rev (JP.r (p_var 1)))) (a_cons (JP.m (p_var 2)) a_nil))))))
  (b_cons (s_if (JT.m (JW.t (w_or (t_cmpR op_isN opd_isN (JP.r (p_var 4)) (JP.r p_non) (by rfl)) (w_or1 (t_cmpR op_isN opd_isN (JP.r (p_var 3)) (JP.r p_non) (by rfl))))))
  (b_one (s_ret (JP.m p_non)))
  b_nil)
  (b_cons (s_set 3 sc__law_told.nd (JN.m (n_bltM (cr_sortedIK K rfl) cbn_sortI PyProof.Rows.boot_sorted (JN.m (n_lc (own := [("_law_index", 5)]) rfl sc__law_told.nd (i_list (JP.m (p_var 3))) (blkOk_by (own := [("_law_index", 5)]) (N := ["_law_count", "_law_facts_here", "_law_fact_here", "_law_second", "_law_first", "_law_index"]) (sc := defScope t__law_told) (by decide +kernel)) (fun _ _ _ _ _ => (g_name 5 sc__law_told.nd)) (fun _ _ _ _ _ => ts_nil) (fun _ _ _ _ _ => (JP.m (p_op op_sub opd_ii (p_op op_sub opd_ii (p_blt (call_lenK K rfl) cb_len boot_len (JP.r (p_var 1)) M.f_len) p_int) (p_var 5)))))) M.f_sorted)))
  (b_cons (s_if (JWM.t (wm_or (tm_cmp op_isnot_bl opd_isnB (m_call (cal_is_paper M) .nil hr (by decide) (a_cons (JP.m (p_var 0)) (a_cons (JP.m (p_var 1)) (a_cons (JP.m (p_var 2)) (a_cons (JP.m (p_var 4)) a_nil))))) (JP.m p_bl) (by rfl)) (wm_or1 (tm_cmp op_isnot_bl opd_isnB (m_call (cal_is_paper M) .nil hr (by decide) (a_cons (JP.m (p_var 0)) (a_cons (JP.m (p_var 1)) (a_cons (JP.m (p_var 2)) (a_cons (JP.m (p_var 3)) a_nil))))) (JP.m p_bl) (by rfl)))))
  (b_one (s_ret (JP.m p_non)))
  b_nil)
  (b_one (s_ret (JN.m (n_lst (a_cons (JP.m (p_var 4)) (a_cons (JP.m (p_var 3)) a_nil))))))))))⟩
theorem cal__law_told (M : Mod K mg) : C8.Cal P w K mg base 7 "_law_told" (spD 3 (runG 6 g__law_told)) [] := by
  obtain ⟨f, fd, F, e⟩ := M.d__law_told
  exact ⟨f, fd, _, [], ok__law_told M F, e, F.kp, F.bindsN fun _ _ _ _ _ _ us hl => match us, hl with | [_, _, _], _ => rfl, .nil⟩
theorem ok_laid_over (M : Mod K mg) {f : Addr} {fd : FuncData} (F : FunD K "laid_over" "laid_over" (defArgs t_laid_over) (defBody t_laid_over) (defScope t_laid_over) [] [] f fd) : FnOk P w K mg base CX0 4 f fd ["count", "facts"] (spD 2 (runG 2 g_laid_over)) :=
  fn_data F sc_laid_over (by decide) fun cdv A outer s H E hr => ⟨_, (b_cons (s_expr (m_call (cal_need_count_and_facts_2 M) (.cons (fun _ => .int _) .nil) hr (by decide) (a_cons (JP.m (p_var 0)) (a_cons (JP.m (p_var 1)) a_nil))))
  (b_one (s_ret (m_call (cal_over_all M) .nil hr (by decide) (a_cons (JP.m (p_var 0)) (a_cons (JP.m (p_var 1)) a_nil))))))⟩
theorem cal_laid_over (M : Mod K mg) : C8.Cal P w K mg base 4 "laid_over" (spD 2 (runG 2 g_laid_over)) [] := by
  obtain ⟨f, fd, F, e⟩ := M.d_laid_over
  exact ⟨f, fd, _, [], ok_laid_over M F, e, F.kp, F.bindsN fun _ _ _ _ _ _ us hl => match us, hl with | [_, _], _ => rfl, .nil⟩
theorem ok_least_order (M : Mod K mg) {f : Addr} {fd : FuncData} (F : FunD K "least_order" "least_order" (defArgs t_least_order) (defBody t_least_order) (defScope t_least_order) [] [] f fd) : FnOk P w K mg base CX0 4 f fd ["count", "facts"] (spD 2 (runG 7 g_least_order)) :=
  fn_data F sc_least_order (by decide) fun cdv A outer s H E hr => ⟨_, (b_cons (s_par3 3 4 5 rfl sc_least_order.nd (m_call (cal_masks_of M) .nil hr (by decide) (a_cons (JP.m (p_var 0)) (a_cons (JP.m (p_var 1)) a_nil))) (JP.m p_int) (v_n (n_lst a_nil)))
  (b_cons (s_for PassesOwn.never rfl (i_range1 (JP.m (p_var 0)) M.f_range) (g_name 2 sc_least_order.nd)
  (b_cons (s_set 6 sc_least_order.nd (m_ixK K rfl (m_call (cal_placeable M) .nil hr (by decide) (a_cons (JP.m (p_var 3)) (a_cons (JP.m (p_var 4)) a_nil))) (JP.m p_int)))
  (b_cons (s_app 5 (JP.m (p_var 6)))
  (b_one (s_set 4 sc_least_order.nd (JP.m (p_op op_or opd_ii (p_var 4) (p_op op_shlW h_shl p_int (p_var 6)))))))))
  (b_one (s_ret (m_var 5)))))⟩
theorem cal_least_order (M : Mod K mg) : C8.Cal P w K mg base 4 "least_order" (spD 2 (runG 7 g_least_order)) [] := by
  obtain ⟨f, fd, F, e⟩ := M.d_least_order
  exact ⟨f, fd, _, [], ok_least_order M F, e, F.kp, F.bindsN fun _ _ _ _ _ _ us hl => match us, hl with | [_, _], _ => rfl, .nil⟩
theorem ok_order_failing (M : Mod K mg) {f : Addr} {fd : FuncData} (F : FunD K "order_failing" "order_failing" (defArgs t_order_failing) (defBody t_order_failing) (defScope t_order_failing) [] [] f fd) : FnOk P w K mg base CX0 5 f fd ["count", "facts", "fact"] (spD 3 (runG 6 g_order_failing)) :=
  fn_data F sc_order_failing (by decide) fun cdv A outer s H E hr => ⟨_, (b_cons (s_set 3 sc_order_failing.nd (m_call (cal_rules_with M) .nil hr (by decide) (a_cons (JP.m (p_var 2)) (a_cons (JP.m (p_globS M.c_FOR)) a_nil))))
  (b_cons (s_for PassesOwn.never rfl (i_list (m_call (cal_rules_with M) .nil hr (by decide) (a_cons (JP.m (p_var 2)) (a_cons (JP.m (p_globS M.c_AGAINST)) a_nil)))) (g_name 4 sc_order_failing.nd)
  (b_cons (s_set 5 sc_order_failing.nd (JN.m (n_lst (a_star (JP.m (p_var 1)) (a_cons (m_call (cal_opposite M) .nil hr (by decide) (a_cons (JP.m (p_var 0)) (a_cons (JP.m (p_var 4)) (a_cons (JP.m (p_var 3)) a_nil)))) a_nil)))))
  (b_one (s_if (tm_not (tm_val (m_call (cal_is_barred M) .nil hr (by decide) (a_cons (JP.m (p_var 0)) (a_cons (JP.m (p_var 5)) a_nil)))))
  (b_one (s_ret (m_call (cal_least_order M) .nil hr (by decide) (a_cons (JP.m (p_var 0)) (a_cons (JP.m (p_var 5)) a_nil)))))
  b_nil))))
  (b_one (s_ret (JP.m p_non)))))⟩
theorem cal_order_failing (M : Mod K mg) : C8.Cal P w K mg base 5 "order_failing" (spD 3 (runG 6 g_order_failing)) [] := by
  obtain ⟨f, fd, F, e⟩ := M.d_order_failing
  exact ⟨f, fd, _, [], ok_order_failing M F, e, F.kp, F.bindsN fun _ _ _ _ _ _ us hl => match us, hl with | [_, _, _], _ => rfl, .nil⟩
theorem ok_order_against (M : Mod K mg) {f : Addr} {fd : FuncData} (F : FunD K "order_against" "order_against" (defArgs t_order_against) (defBody t_order_against) (defScope t_order_against) [] [] f fd) : FnOk P w K mg base CX0 6 f fd ["count", "facts", "fact"] (spD 3 (runG 3 g_order_against)) :=
  fn_data F sc_order_against (by decide) fun cdv A outer s H E hr => ⟨_, (b_cons (s_expr (m_call (cal_need_count_and_facts_2 M) (.cons (fun _ => .int _) .nil) hr (by decide) (a_cons (JP.m (p_var 0)) (a_cons (JP.m (p_var 1)) a_nil))))
  (b_cons (s_expr (m_call (cal_need_fact M) .nil hr (by decide) (a_cons (JP.m (p_var 0)) (a_cons (JP.m (p_var 2)) a_nil))))
  (b_one (s_ret (m_call (cal_order_failing M) .nil hr (by decide) (a_cons (JP.m (p_var 0)) (a_cons (JP.m (p_var 1)) (a_cons (JP.m (p_var 2)) a_nil))))))))⟩
theorem cal_order_against (M : Mod K mg) : C8.Cal P w K mg base 6 "order_against" (spD 3 (runG 3 g_order_against)) [] := by
  obtain ⟨f, fd, F, e⟩ := M.d_order_against
  exact ⟨f, fd, _, [], ok_order_against M F, e, F.kp, F.bindsN fun _ _ _ _ _ _ us hl => match us, hl with | [_, _, _], _ => rfl, .nil⟩
theorem ok__law_papers_right (M : Mod K mg) {f : Addr} {fd : FuncData} (F : FunD K "_law_papers_right" "_law_papers_right" (defArgs t__law_papers_right) (defBody t__law_papers_right) (defScope t__law_papers_right) [] [] f fd) : FnOk P w K mg base CX0 8 f fd ["_law_well_here", "_law_count", "_law_facts_here"] (spP 2 (runP 15 g__law_papers_right)) :=
  fn_lent F sc__law_papers_right (by decide) (by decide) fun cdv A outer s H E hr => ⟨_, (b_cons (s_setLc (own := [("_law_turn", 12)]) 3 rfl sc__law_papers_right.nd (i_range1 (m_op op_add opd_ii (JP.m p_int) (m_callP 0 (cal__law_draw M) .nil hr (by decide) (a_cons (JP.m p_int) a_nil))) M.f_range) (blkOk_by (own := [("_law_turn", 12)]) (N := ["_law_well_here", "_law_count", "_law_facts_here", "_law_some", "_law_fact_here", "_law_more", "_law_other", "_law_others", "_law_paper", "_law_papers", "_law_helped", "_law_told_here", "_law_turn", "_law_without", "_law_index"]) (sc := defScope t__law_papers_right) (by decide +kernel)) (fun _ _ _ _ _ => (g_name 12 sc__law_papers_right.nd)) (fun _ _ _ _ _ => ts_nil) (fun _ _ _ _ _ => (m_ixK K rfl (JP.m (p_var 2)) (m_callP 0 (cal__law_draw M) .nil hr (by decide) (a_cons (JP.m (p_blt (call_lenK K rfl) cb_len boot_len (JP.r (p_var 2)) M.f_len)) a_nil)))) (sw_true rfl rfl rfl rfl))
  (b_cons (s_set 4 sc__law_papers_right.nd (m_callP 0 (cal__law_weaker M) .nil hr (by decide) (a_cons (m_call (cal_laid_over M) .nil hr (by decide) (a_cons (JP.m (p_var 1)) (a_cons (JP.m (p_var 3)) a_nil))) a_nil)))
  (b_cons (s_setLc (own := [("_law_turn", 12)]) 5 rfl sc__law_papers_right.nd (i_range1 (m_callP 0 (cal__law_draw M) .nil hr (by decide) (a_cons (JP.m p_int) a_nil)) M.f_range) (blkOk_by (own := [("_law_turn", 12)]) (N := ["_law_well_here", "_law_count", "_law_facts_here", "_law_some", "_law_fact_here", "_law_more", "_law_other", "_law_others", "_law_paper", "_law_papers", "_law_helped", "_law_told_here", "_law_turn", "_law_without", "_law_index"]) (sc := defScope t__law_papers_right) (by decide +kernel)) (fun _ _ _ _ _ => (g_name 12 sc__law_papers_right.nd)) (fun _ _ _ _ _ => ts_nil) (fun _ _ _ _ _ => (m_ixK K rfl (JP.m (p_var 2)) (m_callP 0 (cal__law_draw M) .nil hr (by decide) (a_cons (JP.m (p_blt (call_lenK K rfl) cb_len boot_len (JP.r (p_var 2)) M.f_len)) a_nil)))) (sw_true rfl rfl rfl rfl))
  (b_cons (s_set 6 sc__law_papers_right.nd (m_callP 0 (cal__law_weaker M) .nil hr (by decide) (a_cons (m_call (cal_laid_over M) .nil hr (by decide) (a_cons (JP.m (p_var 1)) (a_cons (JN.m (n_cat (JP.m (p_var 5)) (JN.m (n_lst (a_cons (JP.m (p_var 4)) a_nil))))) a_nil))) a_nil)))
  (b_cons (s_if (JWM.t (wm_or (tm_cmp op_isnot_bl opd_isnB (m_call (cal_follows M) .nil hr (by decide) (a_cons (JP.m (p_var 1)) (a_cons (JP.m (p_var 2)) (a_cons (JP.m (p_var 4)) a_nil)))) (JP.m p_bl) (by rfl)) (wm_or1 (tm_cmp op_isnot_bl opd_isnB (m_call (cal_follows M) .nil hr (by decide) (a_cons (JP.m (p_var 1)) (a_cons (JP.m (p_var 2)) (a_cons (JP.m (p_var 6)) a_nil)))) (JP.m p_bl) (by rfl)))))
  (b_one (s_ret (JP.m p_bl)))
  b_nil)
  (b_cons (s_par 9 10 rfl sc__law_papers_right.nd (v_m (m_call (cal__law_told M) .nil hr (by decide) (a_cons (JP.m (p_var 1)) (a_cons (JP.m (p_var 2)) (a_cons (JP.m (p_var 4)) a_nil))))) (v_m (m_call (cal__law_told M) .nil hr (by decide) (a_cons (JP.m (p_var 1)) (a_cons (JN.m (n_cat (JP.m (p_var 2)) (JN.m (n_lst (a_cons (JP.m (p_var 4)) a_nil))))) (a_cons (JP.m (p_var 6)) a_nil))))))
  (b_cons (s_set 7 sc__law_papers_right.nd (m_call (cal__law_told M) .nil hr (by decide) (a_cons (JP.m (p_var 1)) (a_cons (JP.m (p_var 2)) (a_cons (JP.m (p_var 6)) a_nil)))))
  (b_cons (s_if (JT.m (JW.t (w_or (t_cmpR op_isN opd_isN (JP.r (p_var 9)) (JP.r p_non) (by rfl)) (w_or (t_cmpR op_isN opd_isN (JP.r (p_var 10)) (JP.r p_non) (by rfl)) (w_or1 (t_cmpR op_isN opd_isN (JP.r (p_var 7)) (JP.r p_non) (by rfl)))))))
  (b_one (s_ret (JP.m p_bl)))
  b_nil)
  (b_cons (s_if (tm_cmp op_isnot_bl opd_isnB (m_call (cal_is_paper M) .nil hr (by decide) (a_cons (JP.m (p_var 1)) (a_cons (JP.m (p_var 2)) (a_cons (JP.m (p_var 4)) (a_cons (m_call (cal__law_joined M) .nil hr (by decide) (a_cons (JP.m (p_ixK K rfl (JP.r (p_var 9)) p_int)) (a_cons (JP.m (p_ixK K rfl (JP.r (p_var 9)) p_int)) a_nil))) a_nil))))) (JP.m p_bl) (by rfl))
  (b_one (s_ret (JP.m p_bl)))
  b_nil)
  (b_cons (s_for PassesOwn.never rfl (i_list (JP.m (p_var 9))) (g_name 8 sc__law_papers_right.nd)
  (b_cons (s_for PassesOwn.never rfl (i_list (JP.m (p_var 10))) (g_name 11 sc__law_papers_right.nd)
  (b_cons (s_setLc (own := [("_law_index", 14)]) 13 rfl sc__law_papers_right.nd (i_list (JP.m (p_var 11))) (blkOk_by (own := [("_law_index", 14)]) (N := ["_law_well_here", "_law_count", "_law_facts_here", "_law_some", "_law_fact_here", "_law_more", "_law_other", "_law_others", "_law_paper", "_law_papers", "_law_helped", "_law_told_here", "_law_turn", "_law_without", "_law_index"]) (sc := defScope t__law_papers_right) (by decide +kernel)) (fun _ _ _ _ _ => (g_name 14 sc__law_papers_right.nd)) (fun _ _ _ _ _ => (ts_one (JT.m (t_cmp op_lt opd_ib (p_var 14) (p_blt (call_lenK K rfl) cb_len boot_len (JP.r (p_var 2)) M.f_len) (by rfl))))) (fun _ _ _ _ _ => (JP.m (p_var 14))) (sw_true rfl rfl rfl rfl))
  (b_cons (s_if (JT.m (t_cmp op_lt opd_ib (p_blt (call_lenK K rfl) cb_len boot_len (JP.r (p_var 13)) M.f_len) (p_blt (call_lenK K rfl) cb_len boot_len (JP.r (p_var 11)) M.f_len) (by rfl)))
  (b_one (s_set 13 sc__law_papers_right.nd (m_call (cal__law_joined M) .nil hr (by decide) (a_cons (JP.m (p_var 8)) (a_cons (JP.m (p_var 13)) a_nil)))))
  b_nil)
  (b_one (s_if (tm_cmp op_isnot_bl opd_isnB (m_call (cal_is_paper M) .nil hr (by decide) (a_cons (JP.m (p_var 1)) (a_cons (JP.m (p_var 2)) (a_cons (JP.m (p_var 6)) (a_cons (JP.m (p_var 13)) a_nil))))) (JP.m p_bl) (by rfl))
  (b_one (s_ret (JP.m p_bl)))
  b_nil)))))
  (b_one (s_for PassesOwn.never rfl (i_list (JP.m (p_var 7))) (g_name 11 sc__law_papers_right.nd)
  (b_one (s_if (tm_cmp op_isnot_bl opd_isnB (m_call (cal_is_paper M) .nil hr (by decide) (a_cons (JP.m (p_var 1)) (a_cons (JP.m (p_var 2)) (a_cons (m_call (cal_laid_over M) .nil hr (by decide) (a_cons (JP.m (p_var 1)) (a_cons (JN.m (n_lst (a_cons (JP.m (p_var 4)) (a_cons (JP.m (p_var 6)) a_nil)))) a_nil))) (a_cons (m_call (cal__law_joined M) .nil hr (by decide) (a_cons (JP.m (p_var 8)) (a_cons (JP.m (p_var 11)) a_nil))) a_nil))))) (JP.m p_bl) (by rfl))
  (b_one (s_ret (JP.m p_bl)))
  b_nil))))))
  (b_one (s_ret (m_cmp op_isN opd_isN.d (m_call (cal_order_against M) .nil hr (by decide) (a_cons (JP.m (p_var 1)) (a_cons (JP.m (p_var 2)) (a_cons (JP.m (p_var 6)) a_nil)))) (JP.m p_non) (by rfl))))))))))))))⟩
theorem cal__law_papers_right (M : Mod K mg) : C8.Cal P w K mg base 8 "_law_papers_right" (spP 2 (runP 15 g__law_papers_right)) [] := by
  obtain ⟨f, fd, F, e⟩ := M.d__law_papers_right
  exact ⟨f, fd, _, [], ok__law_papers_right M F, e, F.kp, F.bindsN fun _ _ _ _ _ _ us hl => match us, hl with | [_, _, _], _ => rfl, .nil⟩
theorem ok_fits_part (M : Mod K mg) {f : Addr} {fd : FuncData} (F : FunD K "fits_part" "fits_part" (defArgs t_fits_part) (defBody t_fits_part) (defScope t_fits_part) [] [] f fd) : FnOk P w K mg base CX0 2 f fd ["count", "value"] (spD 2 (runG 6 g_fits_part)) :=
  fn_data F sc_fits_part (by decide) fun cdv A outer s H E hr => ⟨_, (b_cons (s_if (JWM.t (wm_or (JT.m (t_not (t_val (p_isiK K rfl PyProof.Rows.boot_tuple (p_var 1) M.f_isinstance M.f_tuple)))) (wm_or (JT.m (t_cmpR (op_neAK K rfl hr) opd_neA (JP.r (p_blt (call_lenK K rfl) cb_len boot_len (JP.r (p_var 1)) M.f_len)) (JP.r p_int) (by rfl))) (wm_or1 (tm_not (tm_val (m_call (cal_is_integer M) .nil hr (by decide) (a_cons (JP.m (p_ixK K rfl (JP.r (p_var 1)) p_int)) (a_cons (JP.m p_int) (a_cons (JP.m (p_op op_sub opd_ii (p_var 0) p_int)) a_nil))))))))))
  (b_one (s_ret (JP.m p_bl)))
  b_nil)
  (b_cons (s_asg (JP.m (p_var 1)) (g_tupK K rfl rfl (gs_cons (g_name 2 sc_fits_part.nd) (gs_cons (g_name 3 sc_fits_part.nd) gs_nil))))
  (b_cons (s_if (JWM.t (wm_or (JT.m (t_not (t_val (p_isiK K rfl PyProof.Rows.boot_list (p_var 3) M.f_isinstance M.f_list)))) (wm_or1 (tm_not (tm_val (m_blt (cr_allK K rfl rfl) cb_all PyProof.Rows.boot_all (JN.m (n_lc (own := [("one", 4)]) rfl sc_fits_part.nd (i_list (JP.m (p_var 3))) (blkOk_by (own := [("one", 4)]) (N := ["count", "value", "rule", "ahead", "one", "other"]) (sc := defScope t_fits_part) (by decide +kernel)) (fun _ _ _ _ _ => (g_name 4 sc_fits_part.nd)) (fun _ _ _ _ _ => ts_nil) (fun _ _ _ _ _ => (m_and (m_call (cal_is_integer M) .nil hr (by decide) (a_cons (JP.m (p_var 4)) (a_cons (JP.m p_int) (a_cons (JP.m (p_op op_sub opd_ii (p_var 0) p_int)) a_nil)))) (m_one (JP.m (p_cmpR (op_neAK K rfl hr) opd_neA (JP.r (p_var 4)) (JP.r (p_var 2)) (by rfl)))))))) M.f_all))))))
  (b_one (s_ret (JP.m p_bl)))
  b_nil)
  (b_one (s_ret (m_blt (cr_allK K rfl rfl) cb_all PyProof.Rows.boot_all (JN.m (n_lc (own := [("one", 4), ("other", 5)]) rfl sc_fits_part.nd (i_zip (a_cons (JP.m (p_var 3)) (a_cons (JN.m (n_cut (JP.r (p_var 3)) (o_some p_int) o_none)) a_nil)) M.f_zip) (blkOk_by (own := [("one", 4), ("other", 5)]) (N := ["count", "value", "rule", "ahead", "one", "other"]) (sc := defScope t_fits_part) (by decide +kernel)) (fun _ _ _ _ _ => (g_tupK K rfl rfl (gs_cons (g_name 4 sc_fits_part.nd) (gs_cons (g_name 5 sc_fits_part.nd) gs_nil)))) (fun _ _ _ _ _ => ts_nil) (fun _ _ _ _ _ => (JP.m (p_cmp op_lt opd_ib (p_var 4) (p_var 5) (by rfl)))))) M.f_all))))))⟩
theorem cal_fits_part (M : Mod K mg) : C8.Cal P w K mg base 2 "fits_part" (spD 2 (runG 6 g_fits_part)) [] := by
  obtain ⟨f, fd, F, e⟩ := M.d_fits_part
  exact ⟨f, fd, _, [], ok_fits_part M F, e, F.kp, F.bindsN fun _ _ _ _ _ _ us hl => match us, hl with | [_, _], _ => rfl, .nil⟩
theorem ok_need_part (M : Mod K mg) {f : Addr} {fd : FuncData} (F : FunD K "need_part" "need_part" (defArgs t_need_part) (defBody t_need_part) (defScope t_need_part) [] [] f fd) : FnOk P w K mg base CX0 3 f fd ["count", "part"] (spD 2 (runG 2 g_need_part)) :=
  fn_data F sc_need_part (by decide) fun cdv A outer s H E hr => ⟨_, (b_one (s_if (tm_not (tm_val (m_call (cal_fits_part M) .nil hr (by decide) (a_cons (JP.m (p_var 0)) (a_cons (JP.m (p_var 1)) a_nil)))))
  b_never
  b_nil))⟩
theorem cal_need_part (M : Mod K mg) : C8.Cal P w K mg base 3 "need_part" (spD 2 (runG 2 g_need_part)) [] := by
  obtain ⟨f, fd, F, e⟩ := M.d_need_part
  exact ⟨f, fd, _, [], ok_need_part M F, e, F.kp, F.bindsN fun _ _ _ _ _ _ us hl => match us, hl with | [_, _], _ => rfl, .nil⟩
theorem ok_fact_of (M : Mod K mg) {f : Addr} {fd : FuncData} (F : FunD K "fact_of" "fact_of" (defArgs t_fact_of) (defBody t_fact_of) (defScope t_fact_of) [] [] f fd) : FnOk P w K mg base CX0 4 f fd ["count", "part"] (spD 2 (runG 2 g_fact_of)) :=
  fn_data F sc_fact_of (by decide) fun cdv A outer s H E hr => ⟨_, (b_cons (s_expr (m_call (cal_need_count_1 M) (.cons (fun _ => .int _) .nil) hr (by decide) (a_cons (JP.m (p_var 0)) a_nil)))
  (b_cons (s_expr (m_call (cal_need_part M) .nil hr (by decide) (a_cons (JP.m (p_var 0)) (a_cons (JP.m (p_var 1)) a_nil))))
  (b_one (s_ret (m_call (cal_fact_with M) .nil hr (by decide) (a_cons (JP.m (p_var 0)) (a_cons (JP.m (p_ixK K rfl (JP.r (p_var 1)) p_int)) (a_cons (JN.m (n_lst (a_cons (JP.m (p_ixK K rfl (JP.r (p_var 1)) p_int)) a_nil))) a_nil))))))))⟩
theorem cal_fact_of (M : Mod K mg) : C8.Cal P w K mg base 4 "fact_of" (spD 2 (runG 2 g_fact_of)) [] := by
  obtain ⟨f, fd, F, e⟩ := M.d_fact_of
  exact ⟨f, fd, _, [], ok_fact_of M F, e, F.kp, F.bindsN fun _ _ _ _ _ _ us hl => match us, hl with | [_, _], _ => rfl, .nil⟩
theorem ok__law_parts_right (M : Mod K mg) {f : Addr} {fd : FuncData} (F : FunD K "_law_parts_right" "_law_parts_right" (defArgs t__law_parts_right) (defBody t__law_parts_right) (defScope t__law_parts_right) [] [] f fd) : FnOk P w K mg base CX0 7 f fd ["_law_well_here", "_law_count", "_law_facts_here"] (spP 2 (runP 13 g__law_parts_right)) :=
  fn_lent F sc__law_parts_right (by decide) (by decide) fun cdv A outer s H E hr => ⟨_, (b_cons (s_set 3 sc__law_parts_right.nd (m_callP 0 (cal__law_draw M) .nil hr (by decide) (a_cons (JP.m (p_var 1)) a_nil)))
  (b_cons (s_setLc (own := [("_law_one", 5)]) 4 rfl sc__law_parts_right.nd (i_range1 (JP.m (p_var 1)) M.f_range) (blkOk_by (own := [("_law_one", 5)]) (N := ["_law_well_here", "_law_count", "_law_facts_here", "_law_rule", "_law_ahead", "_law_one", "_law_whole", "_law_loud", "_law_fact_here", "_law_signs", "_law_told_here", "_law_paper", "_law_index"]) (sc := defScope t__law_parts_right) (by decide +kernel)) (fun _ _ _ _ _ => (g_name 5 sc__law_parts_right.nd)) (fun _ _ _ _ _ => (ts_one (JWM.t (wm_and (JT.m (t_cmpR (op_neAK K rfl hr) opd_neA (JP.r (p_var 5)) (JP.r (p_var 3)) (by rfl))) (wm_and1 (tm_cmp (op_eqAK K rfl hr) opd_eqA.d (m_callP 0 (cal__law_draw M) .nil hr (by decide) (a_cons (JP.m p_int) a_nil)) (JP.m p_int) (by rfl))))))) (fun _ _ _ _ _ => (JP.m (p_var 5))) (sw_true rfl rfl rfl rfl))
  (b_cons (s_par 8 9 rfl sc__law_parts_right.nd (v_m (m_call (cal_fact_of M) .nil hr (by decide) (a_cons (JP.m (p_var 1)) (a_cons (m_tup (a_cons (JP.m (p_var 3)) (a_cons (JP.m (p_var 4)) a_nil))) a_nil)))) (v_n (n_rep (JN.m (n_lst (a_cons (JP.m p_str) a_nil))) (p_var 1))))
  (b_cons (s_for PassesOwn.never rfl (i_list (JP.m (p_var 4))) (g_name 5 sc__law_parts_right.nd)
  (b_one (s_st 9 (JP.m p_str) (p_var 5))))
  (b_cons (s_st 9 (JP.m p_str) (p_var 3))
  (b_cons (s_set 6 sc__law_parts_right.nd (JN.m (n_cat (JP.m (p_var 2)) (JN.m (n_lst (a_cons (JP.m (p_join p_str (r_var 9))) a_nil))))))
  (b_cons (s_par 10 11 rfl sc__law_parts_right.nd (v_m (m_call (cal_barring_set M) .nil hr (by decide) (a_cons (JP.m (p_var 1)) (a_cons (JP.m (p_var 6)) a_nil)))) (v_m (m_call (cal_paper_for M) .nil hr (by decide) (a_cons (JP.m (p_var 1)) (a_cons (JP.m (p_var 2)) (a_cons (JP.m (p_var 8)) a_nil))))))
  (b_cons (s_if (JWM.t (wm_or (JT.m (t_cmpR (op_neAK K rfl hr) opd_neA (JP.r (p_cmpR op_isN opd_isN (JP.r (p_var 10)) (JP.r p_non) (by rfl))) (JP.r (p_cmpR op_isN opd_isN (JP.r (p_var 11)) (JP.r p_non) (by rfl))) (by rfl))) (wm_or1 (tm_cmp (op_neAK K rfl hr) opd_neA.d (m_call (cal_follows M) .nil hr (by decide) (a_cons (JP.m (p_var 1)) (a_cons (JP.m (p_var 2)) (a_cons (JP.m (p_var 8)) a_nil)))) (JP.m (p_cmpR op_notN opd_isnN (JP.r (p_var 10)) (JP.r p_non) (by rfl))) (by rfl)))))
  (b_one (s_ret (JP.m p_bl)))
  b_nil)
  (b_cons (s_if (JT.m (t_cmpR op_isN opd_isN (JP.r (p_var 10)) (JP.r p_non) (by rfl)))
  (b_one (s_ret (m_cmp op_notN opd_isnN.d (m_call (cal_order_against M) .nil hr (by decide) (a_cons (JP.m (p_var 1)) (a_cons (JP.m (p_var 2)) (a_cons (JP.m (p_var 8)) a_nil)))) (JP.m p_non) (by rfl))))
  b_nil)
  (b_cons (s_if (JWM.t (wm_or (JT.m (t_cmpR op_isN opd_isN (JP.r (p_var 11)) (JP.r p_non) (by rfl))) (wm_or (JT.m (t_cmpR (op_neAK K rfl hr) opd_neA (JP.r (p_ixK K rfl (JP.r (p_var 10)) (p_neg p_int))) (JP.r (p_blt (call_lenK K rfl) cb_len boot_len (JP.r (p_var 2)) M.f_len)) (by rfl))) (wm_or1 (tm_cmp op_isnot_bl opd_isnB (m_call (cal_is_paper M) .nil hr (by decide) (a_cons (JP.m (p_var 1)) (a_cons (JP.m (p_var 2)) (a_cons (JP.m (p_var 8)) (a_cons (JN.m (n_cut (JP.r (p_var 10)) o_none (o_some (p_neg p_int)))) a_nil))))) (JP.m p_bl) (by rfl))))))
  (b_one (s_ret (JP.m p_bl)))
  b_nil)
  (b_cons (s_setLc (own := [("_law_index", 12)]) 7 rfl sc__law_parts_right.nd (i_list (JP.m (p_var 11))) (blkOk_by (own := [("_law_index", 12)]) (N := ["_law_well_here", "_law_count", "_law_facts_here", "_law_rule", "_law_ahead", "_law_one", "_law_whole", "_law_loud", "_law_fact_here", "_law_signs", "_law_told_here", "_law_paper", "_law_index"]) (sc := defScope t__law_parts_right) (by decide +kernel)) (fun _ _ _ _ _ => (g_name 12 sc__law_parts_right.nd)) (fun _ _ _ _ _ => (ts_one (JT.m (t_cmpR (op_neAK K rfl hr) opd_neA (JP.r (p_ixK K rfl (JP.r (p_var 2)) (p_var 12))) (JP.r (p_op op_mulS opd_mulS p_str (p_var 1))) (by rfl))))) (fun _ _ _ _ _ => (JP.m (p_var 12))) (sw_true rfl rfl rfl rfl))
  (b_one (s_ret (m_call (cal_is_barring_set M) .nil hr (by decide) (a_cons (JP.m (p_var 1)) (a_cons (JP.m (p_var 6)) (a_cons (JN.m (n_cat (JP.m (p_var 7)) (JN.m (n_lst (a_cons (JP.m (p_blt (call_lenK K rfl) cb_len boot_len (JP.r (p_var 2)) M.f_len)) a_nil))))) a_nil)))))))))))))))))⟩
theorem cal__law_parts_right (M : Mod K mg) : C8.Cal P w K mg base 7 "_law_parts_right" (spP 2 (runP 13 g__law_parts_right)) [] := by
  obtain ⟨f, fd, F, e⟩ := M.d__law_parts_right
  exact ⟨f, fd, _, [], ok__law_parts_right M F, e, F.kp, F.bindsN fun _ _ _ _ _ _ us hl => match us, hl with | [_, _, _], _ => rfl, .nil⟩
theorem ok__law_right (M : Mod K mg) {f : Addr} {fd : FuncData} (F : FunD K "_law_right" "_law_right" (defArgs t__law_right) (defBody t__law_right) (defScope t__law_right) [] [] f fd) : FnOk P w K mg base CX0 9 f fd ["_law_well_here"] (spP 0 (runP 4 g__law_right)) :=
  fn_lent F sc__law_right (by decide) (by decide) fun cdv A outer s H E hr => ⟨_, (b_cons (s_set 1 sc__law_right.nd (m_op op_add opd_ii (JP.m p_int) (m_callP 0 (cal__law_draw M) .nil hr (by decide) (a_cons (JP.m p_int) a_nil))))
  (b_cons (s_set 2 sc__law_right.nd (JN.m (n_cat (m_callP 0 (cal__law_facts M) .nil hr (by decide) (a_cons (JP.m (p_var 1)) (a_cons (JP.m p_int) (a_cons (JP.m p_int) a_nil)))) (JN.m (n_lst (a_cons (m_callP 0 (cal__law_fact M) .nil hr (by decide) (a_cons (JP.m (p_var 1)) (a_cons (JN.m (n_lst (a_cons (JP.m p_int) a_nil))) a_nil))) a_nil))))))
  (b_cons (s_if (tm_cmp op_notN opd_isnN.d (m_call (cal_barring_set M) .nil hr (by decide) (a_cons (JP.m (p_var 1)) (a_cons (JP.m (p_var 2)) a_nil))) (JP.m p_non) (by rfl))
  (b_one (s_ret (m_callP 0 (cal__law_barred_right M) .nil hr (by decide) (a_cons (JP.m (p_var 1)) (a_cons (JP.m (p_var 2)) a_nil)))))
  b_nil)
  (b_cons (s_for PassesOwn.never rfl (i_range1 (JP.m p_int) M.f_range) (g_name 3 sc__law_right.nd)
  (b_one (s_if (JWM.t (wm_or (tm_not (tm_val (m_callP 0 (cal__law_papers_right M) .nil hr (by decide) (a_cons (JP.m (p_var 1)) (a_cons (JP.m (p_var 2)) a_nil))))) (wm_or1 (tm_not (tm_val (m_callP 0 (cal__law_parts_right M) .nil hr (by decide) (a_cons (JP.m (p_var 1)) (a_cons (JP.m (p_var 2)) a_nil))))))))
  (b_one (s_ret (JP.m p_bl)))
  b_nil)))
  (b_one (s_ret (JP.m p_bl)))))))⟩
theorem cal__law_right (M : Mod K mg) : C8.Cal P w K mg base 9 "_law_right" (spP 0 (runP 4 g__law_right)) [] := by
  obtain ⟨f, fd, F, e⟩ := M.d__law_right
  exact ⟨f, fd, _, [], ok__law_right M F, e, F.kp, F.bindsN fun _ _ _ _ _ _ us hl => match us, hl with | [_], _ => rfl, .nil⟩
theorem ok_law (M : Mod K mg) {f : Addr} {fd : FuncData} (F : FunD K "law" "law" (defArgs t_law) (defBody t_law) (defScope t_law) [] [] f fd) : FnOk P w K mg base CX0 10 f fd ["_law_script"] (spS K 0 (runS 3 g_law)) :=
  fn_script F sc_law (by decide) (by decide) fun cdv A outer s H E hr => ⟨_, (b_cons (s_new 1 sc_law.nd (n_callSL 0 (cal__law_well M) .nil hr (by decide) a_nil))
  (b_cons (s_for PassesOwn.never rfl (i_range1 (m_op op_add opd_ii (JP.m p_int) (m_blt2 (call_min2 rfl) cb_min PyProof.Rows.boot_min (JP.m p_int) (JP.m (p_blt (call_lenK K rfl) cb_len boot_len (r_var 0) M.f_len)) M.f_min)) M.f_range) (g_name 2 sc_law.nd)
  (b_one (s_if (tm_not (tm_val (m_callP 1 (cal__law_right M) .nil hr (by decide) a_nil)))
  (b_one (s_ret (JP.m p_bl)))
  b_nil)))
  (b_one (s_ret (JP.m p_bl)))))⟩
end
end K85
end
section
set_option Elab.async false
set_option linter.all false
set_option maxRecDepth 100000
set_option maxHeartbeats 2000000
/-! Comprehensions and loops, worked out in plain Lean. -/
namespace Rk
open PySem L2 Dn
/-- a comprehension whose block leaves all as it is -/
theorem lc_typed {α : Type} {vs : List Nat} {td : DG} {tt : TMG} {ge : MG} {ρ : Ro} (enc : α → PyData) (f : α → Bool) (h : α → PyData) : ∀ (xs : List α), (∀ x ∈ xs, ∃ ρ1, td (enc x) ρ = some ρ1 ∧ tt ρ1 = some (f x, ρ1) ∧ (f x = true → ge ρ1 = some (h x, ρ1)) ∧ wipeR ρ1 vs = ρ) →
    lcL vs td tt ge (xs.map enc) ρ = some ((xs.filter f).map h, ρ)
  | [], _ => rfl
  | x :: xs, H => by
    obtain ⟨ρ1, e1, e2, e3, e4⟩ := H x (by simp)
    have ih := lc_typed enc f h xs fun y hy => H y (by simp [hy])
    rw [List.map_cons]
    unfold lcL
    rw [e1]
    simp only [Option.bind_some, e2]
    cases hf : f x with
    | true => simp only [e3 hf, Option.bind_some, e4, ih, Option.map_some, List.filter_cons, hf, if_true, List.map_cons]
    | false => simp only [Bool.false_eq_true, if_false, e4, ih, List.filter_cons, hf]
/-- the same without a test -/
theorem lc_all {α : Type} {vs : List Nat} {td : DG} {ge : MG} {ρ : Ro} (enc : α → PyData) (h : α → PyData) (xs : List α) (H : ∀ x ∈ xs, ∃ ρ1, td (enc x) ρ = some ρ1 ∧ ge ρ1 = some (h x, ρ1) ∧ wipeR ρ1 vs = ρ) :
    lcL vs td yesM ge (xs.map enc) ρ = some (xs.map h, ρ) := by
  have := lc_typed (vs := vs) (td := td) (tt := yesM) (ge := ge) (ρ := ρ) enc (fun _ => true) h xs fun x hx => by
    obtain ⟨ρ1, e1, e2, e3⟩ := H x hx
    exact ⟨ρ1, e1, rfl, fun _ => e2, e3⟩
  rw [this, List.filter_eq_self.mpr fun _ _ => rfl]
/-- a comprehension whose block changes what is lent: Inv by the items so far made -/
theorem lc_step {α : Type} {vs : List Nat} {td : DG} {tt : TMG} {ge : MG} (enc : α → PyData) (Inv : Nat → List PyData → Ro → Prop) : ∀ (xs : List α) (i : Nat) (acc : List PyData) (ρ : Ro),
    (∀ j x acc ρ, xs[j]? = some x → Inv (i + j) acc ρ → ∃ ρ1 b ρ2, td (enc x) ρ = some ρ1 ∧ tt ρ1 = some (b, ρ2) ∧ (b = true → ∃ y ρ3, ge ρ2 = some (y, ρ3) ∧ Inv (i + j + 1) (acc ++ [y]) (wipeR ρ3 vs)) ∧ (b = false → Inv (i + j + 1) acc (wipeR ρ2 vs))) →
    Inv i acc ρ → ∃ ys ρ', lcL vs td tt ge (xs.map enc) ρ = some (ys, ρ') ∧ Inv (i + xs.length) (acc ++ ys) ρ'
  | [], i, acc, ρ, _, h => ⟨[], ρ, rfl, by simpa using h⟩
  | x :: xs, i, acc, ρ, H, h => by
    obtain ⟨ρ1, b, ρ2, e1, e2, e3, e4⟩ := H 0 x acc ρ rfl h
    have H' : ∀ j y acc ρ, xs[j]? = some y → Inv (i + 1 + j) acc ρ → ∃ ρ1 b ρ2, td (enc y) ρ = some ρ1 ∧ tt ρ1 = some (b, ρ2) ∧ (b = true → ∃ z ρ3, ge ρ2 = some (z, ρ3) ∧ Inv (i + 1 + j + 1) (acc ++ [z]) (wipeR ρ3 vs)) ∧ (b = false → Inv (i + 1 + j + 1) acc (wipeR ρ2 vs)) := fun j y acc ρ hj hi => by
      have := H (j + 1) y acc ρ (by simpa using hj) (by rw [show i + (j + 1) = i + 1 + j by omega]; exact hi)
      rw [show i + (j + 1) + 1 = i + 1 + j + 1 by omega] at this
      exact this
    rw [List.map_cons]
    unfold lcL
    rw [e1]
    simp only [Option.bind_some, e2]
    cases b with
    | true =>
      obtain ⟨y, ρ3, e5, e6⟩ := e3 rfl
      obtain ⟨ys, ρ', e7, e8⟩ := lc_step enc Inv xs (i + 1) (acc ++ [y]) (wipeR ρ3 vs) H' e6
      refine ⟨y :: ys, ρ', ?_, ?_⟩
      · simp only [if_true, e5, Option.bind_some, e7, Option.map_some]
      · rw [List.append_assoc] at e8
        rw [List.length_cons, show i + (xs.length + 1) = i + 1 + xs.length by omega]
        exact e8
    | false =>
      obtain ⟨ys, ρ', e7, e8⟩ := lc_step enc Inv xs (i + 1) acc (wipeR ρ2 vs) H' (e4 rfl)
      refine ⟨ys, ρ', ?_, ?_⟩
      · simp only [Bool.false_eq_true, if_false, e7]
      · rw [List.length_cons, show i + (xs.length + 1) = i + 1 + xs.length by omega]
        exact e8
/-- where a turn of a loop may lead -/
def Turned (o : Out) (ρ : Ro) (Go : Ro → Prop) (Done : Out → Ro → Prop) : Prop := match o with
  | .nx => Go ρ
  | .ct => Go ρ
  | .bk => Done .nx ρ
  | .rt d => Done (.rt d) ρ
theorem for_typed {α : Type} {td : DG} {b : SG} (enc : α → PyData) (Inv : Nat → Ro → Prop) (Done : Out → Ro → Prop) : ∀ (xs : List α) (i : Nat) (ρ : Ro),
    (∀ j x ρ, xs[j]? = some x → Inv (i + j) ρ → ∃ ρ1 o ρ2, td (enc x) ρ = some ρ1 ∧ b ρ1 = some (o, ρ2) ∧ Turned o ρ2 (Inv (i + j + 1)) Done) → (∀ ρ, Inv (i + xs.length) ρ → Done .nx ρ) →
    Inv i ρ → ∃ o ρ', forL td b (xs.map enc) ρ = some (o, ρ') ∧ Done o ρ'
  | [], i, ρ, _, hd, h => ⟨.nx, ρ, rfl, hd ρ h⟩
  | x :: xs, i, ρ, H, hd, h => by
    obtain ⟨ρ1, o, ρ2, e1, e2, e3⟩ := H 0 x ρ rfl h
    rw [List.map_cons]
    unfold forL
    rw [e1]
    simp only [Option.bind_some, e2]
    have again : Inv (i + 1) ρ2 → ∃ o ρ', forL td b (xs.map enc) ρ2 = some (o, ρ') ∧ Done o ρ' := fun g =>
      for_typed enc Inv Done xs (i + 1) ρ2 (fun j y ρ hj hi => by
        have := H (j + 1) y ρ (by simpa using hj) (by rw [show i + (j + 1) = i + 1 + j by omega]; exact hi)
        rw [show i + (j + 1) + 1 = i + 1 + j + 1 by omega] at this
        exact this) (fun ρ hρ => hd ρ (by rw [List.length_cons, show i + (xs.length + 1) = i + 1 + xs.length by omega]; exact hρ)) g
    cases o with
    | nx => exact again e3
    | ct => exact again e3
    | bk => exact ⟨.nx, ρ2, rfl, e3⟩
    | rt d => exact ⟨.rt d, ρ2, rfl, e3⟩
/-- .. that always goes on -/
theorem for_all {α : Type} {td : DG} {b : SG} (enc : α → PyData) (Inv : Nat → Ro → Prop) (xs : List α) (ρ : Ro) (H : ∀ j x ρ, xs[j]? = some x → Inv j ρ → ∃ ρ1 ρ2, td (enc x) ρ = some ρ1 ∧ b ρ1 = some (.nx, ρ2) ∧ Inv (j + 1) ρ2) (h : Inv 0 ρ) :
    ∃ ρ', forL td b (xs.map enc) ρ = some (.nx, ρ') ∧ Inv xs.length ρ' := by
  obtain ⟨o, ρ', e1, e2⟩ := for_typed (td := td) (b := b) enc Inv (fun o ρ => o = .nx ∧ Inv xs.length ρ) xs 0 ρ (fun j x ρ hj hi => by
    rw [Nat.zero_add] at hi
    obtain ⟨ρ1, ρ2, a1, a2, a3⟩ := H j x ρ hj hi
    exact ⟨ρ1, .nx, ρ2, a1, a2, by rw [Nat.zero_add]; exact a3⟩) (fun ρ hρ => ⟨rfl, by rw [Nat.zero_add] at hρ; exact hρ⟩) h
  obtain ⟨rfl, e2⟩ := e2
  exact ⟨ρ', e1, e2⟩
theorem while_gen {c : TMG} {b : SG} (Inv : Nat → Ro → Prop) (Done : Out → Ro → Prop) (H : ∀ k ρ, Inv k ρ → ∃ t ρ1, c ρ = some (t, ρ1) ∧ (t = false → Done .nx ρ1) ∧ (t = true → ∃ o ρ2, b ρ1 = some (o, ρ2) ∧ Turned o ρ2 (fun ρ => ∃ k', k' < k ∧ Inv k' ρ) Done)) :
    ∀ (n k : Nat) (ρ : Ro), k < n → Inv k ρ → ∃ o ρ', whileL c b n ρ = some (o, ρ') ∧ Done o ρ'
  | 0, k, ρ, hk, _ => by omega
  | n + 1, k, ρ, hk, h => by
    obtain ⟨t, ρ1, e1, e2, e3⟩ := H k ρ h
    unfold whileL
    rw [e1]
    simp only [Option.bind_some]
    cases t with
    | false =>
      simp only [Bool.false_eq_true, if_false]
      exact ⟨.nx, ρ1, rfl, e2 rfl⟩
    | true =>
      obtain ⟨o, ρ2, e4, e5⟩ := e3 rfl
      simp only [if_true, e4, Option.bind_some]
      have again : (∃ k', k' < k ∧ Inv k' ρ2) → ∃ o ρ', whileL c b n ρ2 = some (o, ρ') ∧ Done o ρ' := fun ⟨k', lt, g⟩ => while_gen Inv Done H n k' ρ2 (by omega) g
      cases o with
      | nx => exact again e5
      | ct => exact again e5
      | bk => exact ⟨.nx, ρ2, rfl, e5⟩
      | rt d => exact ⟨.rt d, ρ2, rfl, e5⟩
end Rk
end
section
set_option Elab.async false
set_option linter.all false
set_option maxRecDepth 100000
set_option maxHeartbeats 2000000
/-! Facts as lists of signs; how they stand as data; what the operators make of them. -/
namespace Rk
open PySem L2 Dn
inductive Sg where
  | W | L | S
  deriving DecidableEq, Repr
abbrev Fact := List Sg
def Sg.c : Sg → Nat
  | .W => 87
  | .L => 76
  | .S => 46
theorem Sg.c_inj {a b : Sg} : a.c = b.c ↔ a = b := by cases a <;> cases b <;> decide
def sT (s : Sg) : Str := ⟨#[s.c]⟩
def sD (s : Sg) : PyData := .str (sT s)
def fT (f : Fact) : Str := ⟨(f.map Sg.c).toArray⟩
def fD (f : Fact) : PyData := .str (fT f)
def fsD (fs : List Fact) : PyData := .list (fs.map fD)
def nD (k : Nat) : PyData := .int (k : Int)
def nsD (ns : List Nat) : PyData := .list (ns.map nD)
theorem str_W : (("W" : Str)) = sT .W := by rw [show ("W" : Str) = Str.ofString "W" from rfl, Str.ofString_eq_toList]; decide
theorem str_L : (("L" : Str)) = sT .L := by rw [show ("L" : Str) = Str.ofString "L" from rfl, Str.ofString_eq_toList]; decide
theorem str_S : (("." : Str)) = sT .S := by rw [show ("." : Str) = Str.ofString "." from rfl, Str.ofString_eq_toList]; decide
theorem str_E : (("" : Str)) = fT [] := by rw [show ("" : Str) = Str.ofString "" from rfl, Str.ofString_eq_toList]; decide
theorem sT_inj {a b : Sg} : sT a = sT b ↔ a = b := by
  unfold sT
  constructor
  · intro h
    have h := congrArg (fun s : Str => s.cps) h
    simp at h
    exact Sg.c_inj.mp h
  · rintro rfl; rfl
theorem fT_inj {f g : Fact} : fT f = fT g ↔ f = g := by
  unfold fT
  constructor
  · intro h
    have h : (f.map Sg.c).toArray = (g.map Sg.c).toArray := congrArg (fun s : Str => s.cps) h
    have h : f.map Sg.c = g.map Sg.c := by simpa using h
    exact (List.map_inj_right fun a b => Sg.c_inj.mp).mp h
  · rintro rfl; rfl
theorem fT_len (f : Fact) : (fT f).length = f.length := by
  show (f.map Sg.c).toArray.size = _
  rw [List.size_toArray, List.length_map]
theorem sT_len (s : Sg) : (sT s).length = 1 := rfl
theorem signs_f (f : Fact) : signsD (fT f) = f.map sD := by
  unfold signsD fT
  show (f.map Sg.c).toArray.toList.map _ = _
  rw [List.toList_toArray, List.map_map]
  rfl
/-! operators -/
theorem beq_s (a b : Sg) : (sT a == sT b) = decide (a = b) := by
  by_cases h : a = b
  · subst h; simp
  · rw [beq_eq_false_iff_ne.mpr (fun e => h (sT_inj.mp e)), decide_eq_false h]
theorem beq_f (a b : Fact) : (fT a == fT b) = decide (a = b) := by
  by_cases h : a = b
  · subst h; simp
  · rw [beq_eq_false_iff_ne.mpr (fun e => h (fT_inj.mp e)), decide_eq_false h]
theorem eq_s (a b : Sg) : eqA (sD a) (sD b) = some (.bool (decide (a = b))) := by
  show some (PyData.bool (sT a == sT b)) = _
  rw [beq_s]
theorem ne_s (a b : Sg) : neA (sD a) (sD b) = some (.bool (!decide (a = b))) := by
  unfold neA; rw [eq_s]; rfl
theorem eq_f (a b : Fact) : eqA (fD a) (fD b) = some (.bool (decide (a = b))) := by
  show some (PyData.bool (fT a == fT b)) = _
  rw [beq_f]
theorem ne_f (a b : Fact) : neA (fD a) (fD b) = some (.bool (!decide (a = b))) := by
  unfold neA; rw [eq_f]; rfl
theorem beq_int (a b : Int) : (a == b) = decide (a = b) := by
  by_cases h : a = b
  · subst h; simp
  · rw [beq_eq_false_iff_ne.mpr h, decide_eq_false h]
theorem eq_i (a b : Int) : eqA (.int a) (.int b) = some (.bool (decide (a = b))) := by
  show some (PyData.bool (a == b)) = _
  rw [beq_int]
theorem ne_i (a b : Int) : neA (.int a) (.int b) = some (.bool (!decide (a = b))) := by
  unfold neA; rw [eq_i]; rfl
theorem flat_s (ss : List Sg) : (ss.map sD).all flatD = true := by
  rw [List.all_map]; exact List.all_eq_true.mpr fun _ _ => rfl
theorem in_s (a : Sg) (ss : List Sg) : inA (sD a) (.list (ss.map sD)) = some (.bool (decide (a ∈ ss))) := by
  unfold inA
  simp only [flat_s, Bool.and_true]
  refine (if_pos rfl).trans ?_
  congr 2
  rw [List.any_map]
  induction ss with
  | nil => rfl
  | cons s ss ih =>
    rw [List.any_cons, ih]
    show (sT s == sT a || _) = _
    rw [beq_s]
    by_cases h : s = a
    · subst h; simp
    · have h' : ¬ a = s := fun e => h e.symm
      simp [h, h']
theorem notin_s (a : Sg) (ss : List Sg) : notInA (sD a) (.list (ss.map sD)) = some (.bool (!decide (a ∈ ss))) := by
  unfold notInA; rw [in_s]; rfl
theorem in_t (a : Sg) : inA (sD a) (.tuple [sD .W, sD .L, sD .S]) = some (.bool true) := by
  cases a <;> rfl
theorem flat_n (ns : List Nat) : (ns.map nD).all flatD = true := by
  rw [List.all_map]; exact List.all_eq_true.mpr fun _ _ => rfl
theorem in_n (a : Nat) (ns : List Nat) : inA (nD a) (nsD ns) = some (.bool (decide (a ∈ ns))) := by
  unfold inA nsD
  simp only [flat_n, Bool.and_true]
  refine (if_pos rfl).trans ?_
  congr 2
  rw [List.any_map]
  induction ns with
  | nil => rfl
  | cons s ss ih =>
    rw [List.any_cons, ih]
    show ((s : Int) == (a : Int) || _) = _
    rw [beq_int]
    by_cases h : s = a
    · subst h; simp
    · have h' : ¬ a = s := fun e => h e.symm
      have h2 : ¬ (s : Int) = (a : Int) := by omega
      simp [h', h2]
theorem flat_fs (fs : List Fact) : (fs.map fD).all flatD = true := by
  rw [List.all_map]; exact List.all_eq_true.mpr fun _ _ => rfl
theorem in_f (a : Fact) (ss : List Fact) : inA (fD a) (fsD ss) = some (.bool (decide (a ∈ ss))) := by
  unfold inA fsD
  simp only [flat_fs, Bool.and_true]
  refine (if_pos rfl).trans ?_
  congr 2
  rw [List.any_map]
  induction ss with
  | nil => rfl
  | cons s ss ih =>
    rw [List.any_cons, ih]
    show (fT s == fT a || _) = _
    rw [beq_f]
    by_cases h : s = a
    · subst h; simp
    · have h' : ¬ a = s := fun e => h e.symm
      simp [h, h']
theorem notin_f (a : Fact) (ss : List Fact) : notInA (fD a) (fsD ss) = some (.bool (!decide (a ∈ ss))) := by
  unfold notInA; rw [in_f]; rfl
/-! items -/
theorem atI_nat {α : Type} (xs : List α) (k : Nat) (h : k < xs.length) : L2.atI xs (k : Int) = some xs[k] := by
  unfold L2.atI L2.ixN
  rw [if_pos (by omega), if_pos (by omega)]
  show xs[(k : Int).toNat]? = _
  rw [Int.toNat_natCast, List.getElem?_eq_getElem h]
theorem ix_f (f : Fact) (k : Nat) (h : k < f.length) (hb : f.length ≤ 1000000) : ixD (fD f) (nD k) = some (sD f[k]) := by
  unfold ixD fD nD
  show (if (fT f).length ≤ 1000000 then _ else _) = _
  rw [if_pos (by rw [fT_len]; exact hb)]
  show (L2.atI (f.map Sg.c).toArray.toList (k : Int)).map _ = _
  rw [List.toList_toArray, atI_nat _ _ (by rw [List.length_map]; exact h), List.getElem_map]
  rfl
theorem ix_n (ns : List Nat) (k : Nat) (h : k < ns.length) : ixD (nsD ns) (nD k) = some (nD ns[k]) := by
  show L2.atI (ns.map nD) (k : Int) = _
  rw [atI_nat _ _ (by rw [List.length_map]; exact h), List.getElem_map]
theorem ix_fs (fs : List Fact) (k : Nat) (h : k < fs.length) : ixD (fsD fs) (nD k) = some (fD fs[k]) := by
  show L2.atI (fs.map fD) (k : Int) = _
  rw [atI_nat _ _ (by rw [List.length_map]; exact h), List.getElem_map]
/-! texts -/
theorem strsOf_s (ss : List Sg) : strsOf (ss.map sD) = some (ss.map sT) := by
  have := strsOf_map (ss.map sT)
  rw [List.map_map] at this
  exact this
theorem glue_go (ss : List Sg) : ∀ a : Array Nat, (ss.map sT).foldl (fun acc p => acc ++ (fT []).cps ++ p.cps) a = a ++ (ss.map Sg.c).toArray := by
  induction ss with
  | nil => intro a; simp
  | cons s ss ih =>
    intro a
    rw [List.map_cons, List.foldl_cons, ih]
    apply Array.ext'
    simp [fT, sT]
theorem join_s (ss : List Sg) : Txt.join (fT []) (ss.map sT) = fT ss := by
  show Builtin.Str.glued _ _ = _
  unfold Builtin.Str.glued
  cases ss with
  | nil => rfl
  | cons s ss =>
    show (⟨((ss.map sT).foldl _ (sT s).cps)⟩ : Str) = _
    rw [glue_go]
    show (⟨#[s.c] ++ (ss.map Sg.c).toArray⟩ : Str) = ⟨((s :: ss).map Sg.c).toArray⟩
    congr 1
    apply Array.ext'
    simp
theorem joinD_s (ss : List Sg) (h : ss.length ≤ 1000000) : joinD (.str (fT [])) (.list (ss.map sD)) = some (fD ss) := by
  unfold joinD
  simp only [strsOf_s]
  show (if _ then some (PyData.str (Txt.join (fT []) (ss.map sT))) else none) = _
  rw [join_s, if_pos]
  · rfl
  · have e : ((ss.map sT).map (·.length)).sum = ss.length := by
      rw [List.map_map]
      clear h
      induction ss with
      | nil => rfl
      | cons a b ih => rw [List.map_cons, List.sum_cons, ih]; show 1 + b.length = b.length + 1; omega
    rw [e]
    show ss.length + _ * 0 ≤ _
    omega
end Rk
end
section
set_option Elab.async false
set_option linter.all false
set_option maxRecDepth 100000
set_option maxHeartbeats 2000000
namespace K85
open PySem L2 Dn Rk
theorem all_b {α : Type} (xs : List α) (p : α → Bool) : allD (.list (xs.map fun x => .bool (p x))) = some (.bool (xs.all p)) := by
  unfold allD
  have := boolsOf_map (xs.map p)
  rw [List.map_map] at this
  show (boolsOf (xs.map fun x => .bool (p x))).map _ = _
  rw [show (xs.map fun x => PyData.bool (p x)) = xs.map (PyData.bool ∘ p) from rfl, this]
  simp
theorem isi_ii (i : Int) : isiD "int" (.int i) = some (.bool true) := by
  show (kitB "int" "int").map PyData.bool = _
  rw [show kitB "int" "int" = some true by decide +kernel]; rfl
theorem isi_ib (i : Int) : isiD "bool" (.int i) = some (.bool false) := by
  show (kitB "int" "bool").map PyData.bool = _
  rw [show kitB "int" "bool" = some false by decide +kernel]; rfl
theorem isi_ss (i : Str) : isiD "str" (.str i) = some (.bool true) := by
  show (kitB "str" "str").map PyData.bool = _
  rw [show kitB "str" "str" = some true by decide +kernel]; rfl
theorem isi_ll (i : List PyData) : isiD "list" (.list i) = some (.bool true) := by
  show (kitB "list" "list").map PyData.bool = _
  rw [show kitB "list" "list" = some true by decide +kernel]; rfl
theorem isi_tt (i : List PyData) : isiD "tuple" (.tuple i) = some (.bool true) := by
  show (kitB "tuple" "tuple").map PyData.bool = _
  rw [show kitB "tuple" "tuple" = some true by decide +kernel]; rfl
theorem run_eq (m : Nat) (g : SG) (ds : List PyData) : runG m g ds = (g (init m (ds.map .fz))).bind fun p => retOf p.1 := rfl
theorem is_integer2 (v lo hi : Int) : runG 3 g_is_integer [.int v, .int lo, .int hi] = some (.bool (decide (lo ≤ v) && decide (v ≤ hi))) := by
  rw [run_eq]
  unfold g_is_integer
  simp only [init, retOf, seqG, setG, newG, iffG, rtG, drG, asgG, nxG, noG, liftP, liftT, nwM, tb, tbM, op1, op1M, op2, op2M, vG, rG, fG, cG, callG, aNil, aCons, aStar, tAndG, tOrG, tNotG, tAndM, tOrM, tNotM, andG, orG, Dn.andM, Dn.orM, ifG, ifM, boolOf, nmT, nilT, consT, tupT, setVG, fzV, olV, odV, parG, par3G', notD, negD, tupM, lstN, lenD, listI, cutN.listOf, wipeR, putBack, fzOf, intOf, iiG, iiB, iiC, List.map_cons, List.map_nil, List.cons_append, List.nil_append, List.append_nil, List.length_cons, List.length_nil, List.length_map, List.replicate_succ, List.replicate_zero, List.getElem?_cons_zero, List.getElem?_cons_succ, List.set_cons_zero, List.set_cons_succ, Option.bind_some, Option.bind_none, Option.map_some, Option.map_none, Bool.not_true, Bool.not_false, Bool.true_and, Bool.and_true, Bool.false_and, Bool.and_false, Bool.or_true, Bool.true_or, Bool.or_false, Bool.false_or, decide_true, decide_false, Nat.reduceSub, Nat.reduceAdd, Nat.reduceLeDiff, Nat.reduceEqDiff, Nat.zero_add, if_true, if_false, reduceIte, reduceCtorEq, Bool.false_eq_true, isi_ii, isi_ib, isN, nonD]
  by_cases h : lo ≤ v <;> simp [h]
theorem need_count (n : Nat) (h1 : 1 ≤ n) (h2 : n ≤ 60) : runG 2 g_need_count [nD n, .int 60] = some .none := by
  rw [run_eq]
  unfold g_need_count
  have a : (1 : Int) ≤ n := by omega
  have b : (n : Int) ≤ 60 := by omega
  simp only [init, retOf, seqG, setG, newG, iffG, rtG, drG, asgG, nxG, noG, liftP, liftT, nwM, tb, tbM, op1, op1M, op2, op2M, vG, rG, fG, cG, callG, aNil, aCons, aStar, tAndG, tOrG, tNotG, tAndM, tOrM, tNotM, andG, orG, Dn.andM, Dn.orM, ifG, ifM, boolOf, nmT, nilT, consT, tupT, setVG, fzV, olV, odV, parG, par3G', notD, negD, tupM, lstN, lenD, listI, cutN.listOf, wipeR, putBack, fzOf, intOf, iiG, iiB, iiC, List.map_cons, List.map_nil, List.cons_append, List.nil_append, List.append_nil, List.length_cons, List.length_nil, List.length_map, List.replicate_succ, List.replicate_zero, List.getElem?_cons_zero, List.getElem?_cons_succ, List.set_cons_zero, List.set_cons_succ, Option.bind_some, Option.bind_none, Option.map_some, Option.map_none, Bool.not_true, Bool.not_false, Bool.true_and, Bool.and_true, Bool.false_and, Bool.and_false, Bool.or_true, Bool.true_or, Bool.or_false, Bool.false_or, decide_true, decide_false, Nat.reduceSub, Nat.reduceAdd, Nat.reduceLeDiff, Nat.reduceEqDiff, Nat.zero_add, if_true, if_false, reduceIte, reduceCtorEq, Bool.false_eq_true, nD, is_integer2, a, b]
theorem fits (n : Nat) (f : Fact) (hf : f.length = n) (hn : n ≤ 60) : runG 3 g_fits_fact [nD n, fD f] = some (.bool true) := by
  rw [run_eq]
  unfold g_fits_fact
  have h1 : f.length ≤ 1000000 := by omega
  have h2 : (f.length : Int) = n := by omega
  have hc := lc_all (vs := [2]) (td := nmT 2) (ge := e_fits_fact_1) (ρ := [some (Sl.fz (nD n)), some (Sl.fz (.str (fT f))), none]) sD (fun _ => .bool true) f fun x hx => ⟨_, rfl, by
    unfold e_fits_fact_1
    simp only [init, retOf, seqG, setG, newG, iffG, rtG, drG, asgG, nxG, noG, liftP, liftT, nwM, tb, tbM, op1, op1M, op2, op2M, vG, rG, fG, cG, callG, aNil, aCons, aStar, tAndG, tOrG, tNotG, tAndM, tOrM, tNotM, andG, orG, Dn.andM, Dn.orM, ifG, ifM, boolOf, nmT, nilT, consT, tupT, setVG, fzV, olV, odV, parG, par3G', notD, negD, tupM, lstN, lenD, listI, cutN.listOf, wipeR, putBack, fzOf, intOf, iiG, iiB, iiC, List.map_cons, List.map_nil, List.cons_append, List.nil_append, List.append_nil, List.length_cons, List.length_nil, List.length_map, List.replicate_succ, List.replicate_zero, List.getElem?_cons_zero, List.getElem?_cons_succ, List.set_cons_zero, List.set_cons_succ, Option.bind_some, Option.bind_none, Option.map_some, Option.map_none, Bool.not_true, Bool.not_false, Bool.true_and, Bool.and_true, Bool.false_and, Bool.and_false, Bool.or_true, Bool.true_or, Bool.or_false, Bool.false_or, decide_true, decide_false, Nat.reduceSub, Nat.reduceAdd, Nat.reduceLeDiff, Nat.reduceEqDiff, Nat.zero_add, if_true, if_false, reduceIte, reduceCtorEq, Bool.false_eq_true, str_W, str_L, str_S]
    rw [show PyData.str (sT .L) = sD .L from rfl, show PyData.str (sT .W) = sD .W from rfl, show PyData.str (sT .S) = sD .S from rfl, in_t]
    rfl, rfl⟩
  simp only [init, retOf, seqG, setG, newG, iffG, rtG, drG, asgG, nxG, noG, liftP, liftT, nwM, tb, tbM, op1, op1M, op2, op2M, vG, rG, fG, cG, callG, aNil, aCons, aStar, tAndG, tOrG, tNotG, tAndM, tOrM, tNotM, andG, orG, Dn.andM, Dn.orM, ifG, ifM, boolOf, nmT, nilT, consT, tupT, setVG, fzV, olV, odV, parG, par3G', notD, negD, tupM, lstN, lenD, listI, cutN.listOf, wipeR, putBack, fzOf, intOf, iiG, iiB, iiC, List.map_cons, List.map_nil, List.cons_append, List.nil_append, List.append_nil, List.length_cons, List.length_nil, List.length_map, List.replicate_succ, List.replicate_zero, List.getElem?_cons_zero, List.getElem?_cons_succ, List.set_cons_zero, List.set_cons_succ, Option.bind_some, Option.bind_none, Option.map_some, Option.map_none, Bool.not_true, Bool.not_false, Bool.true_and, Bool.and_true, Bool.false_and, Bool.and_false, Bool.or_true, Bool.true_or, Bool.or_false, Bool.false_or, decide_true, decide_false, Nat.reduceSub, Nat.reduceAdd, Nat.reduceLeDiff, Nat.reduceEqDiff, Nat.zero_add, if_true, if_false, reduceIte, reduceCtorEq, Bool.false_eq_true, fD, isi_ss, lcN, strI, signs_f, wipeR, fT_len, nD, h1, ne_i, h2, str_W, str_L, str_S]
  simp only [sD, nD] at hc
  rw [hc]
  simp only [init, retOf, seqG, setG, newG, iffG, rtG, drG, asgG, nxG, noG, liftP, liftT, nwM, tb, tbM, op1, op1M, op2, op2M, vG, rG, fG, cG, callG, aNil, aCons, aStar, tAndG, tOrG, tNotG, tAndM, tOrM, tNotM, andG, orG, Dn.andM, Dn.orM, ifG, ifM, boolOf, nmT, nilT, consT, tupT, setVG, fzV, olV, odV, parG, par3G', notD, negD, tupM, lstN, lenD, listI, cutN.listOf, wipeR, putBack, fzOf, intOf, iiG, iiB, iiC, List.map_cons, List.map_nil, List.cons_append, List.nil_append, List.append_nil, List.length_cons, List.length_nil, List.length_map, List.replicate_succ, List.replicate_zero, List.getElem?_cons_zero, List.getElem?_cons_succ, List.set_cons_zero, List.set_cons_succ, Option.bind_some, Option.bind_none, Option.map_some, Option.map_none, Bool.not_true, Bool.not_false, Bool.true_and, Bool.and_true, Bool.false_and, Bool.and_false, Bool.or_true, Bool.true_or, Bool.or_false, Bool.false_or, decide_true, decide_false, Nat.reduceSub, Nat.reduceAdd, Nat.reduceLeDiff, Nat.reduceEqDiff, Nat.zero_add, if_true, if_false, reduceIte, reduceCtorEq, Bool.false_eq_true, all_b]
  simp
theorem need_fact (n : Nat) (f : Fact) (hf : f.length = n) (hn : n ≤ 60) : runG 2 g_need_fact [nD n, fD f] = some .none := by
  rw [run_eq]
  unfold g_need_fact
  simp only [init, retOf, seqG, setG, newG, iffG, rtG, drG, asgG, nxG, noG, liftP, liftT, nwM, tb, tbM, op1, op1M, op2, op2M, vG, rG, fG, cG, callG, aNil, aCons, aStar, tAndG, tOrG, tNotG, tAndM, tOrM, tNotM, andG, orG, Dn.andM, Dn.orM, ifG, ifM, boolOf, nmT, nilT, consT, tupT, setVG, fzV, olV, odV, parG, par3G', notD, negD, tupM, lstN, lenD, listI, cutN.listOf, wipeR, putBack, fzOf, intOf, iiG, iiB, iiC, List.map_cons, List.map_nil, List.cons_append, List.nil_append, List.append_nil, List.length_cons, List.length_nil, List.length_map, List.replicate_succ, List.replicate_zero, List.getElem?_cons_zero, List.getElem?_cons_succ, List.set_cons_zero, List.set_cons_succ, Option.bind_some, Option.bind_none, Option.map_some, Option.map_none, Bool.not_true, Bool.not_false, Bool.true_and, Bool.and_true, Bool.false_and, Bool.and_false, Bool.or_true, Bool.true_or, Bool.or_false, Bool.false_or, decide_true, decide_false, Nat.reduceSub, Nat.reduceAdd, Nat.reduceLeDiff, Nat.reduceEqDiff, Nat.zero_add, if_true, if_false, reduceIte, reduceCtorEq, Bool.false_eq_true, fits n f hf hn]
abbrev Fits (n : Nat) (fs : List Fact) : Prop := ∀ f ∈ fs, f.length = n
theorem need_facts (n : Nat) (fs : List Fact) (hf : Fits n fs) (hn : n ≤ 60) (hl : fs.length ≤ 200) : runG 3 g_need_facts [nD n, fsD fs] = some .none := by
  rw [run_eq]
  unfold g_need_facts
  have hc := lc_all (vs := [2]) (td := nmT 2) (ge := e_need_facts_1) (ρ := [some (Sl.fz (nD n)), some (Sl.fz (fsD fs)), none]) fD (fun _ => .bool true) fs fun f hx => ⟨_, rfl, by
    unfold e_need_facts_1
    simp only [init, retOf, seqG, setG, newG, iffG, rtG, drG, asgG, nxG, noG, liftP, liftT, nwM, tb, tbM, op1, op1M, op2, op2M, vG, rG, fG, cG, callG, aNil, aCons, aStar, tAndG, tOrG, tNotG, tAndM, tOrM, tNotM, andG, orG, Dn.andM, Dn.orM, ifG, ifM, boolOf, nmT, nilT, consT, tupT, setVG, fzV, olV, odV, parG, par3G', notD, negD, tupM, lstN, lenD, listI, cutN.listOf, wipeR, putBack, fzOf, intOf, iiG, iiB, iiC, List.map_cons, List.map_nil, List.cons_append, List.nil_append, List.append_nil, List.length_cons, List.length_nil, List.length_map, List.replicate_succ, List.replicate_zero, List.getElem?_cons_zero, List.getElem?_cons_succ, List.set_cons_zero, List.set_cons_succ, Option.bind_some, Option.bind_none, Option.map_some, Option.map_none, Bool.not_true, Bool.not_false, Bool.true_and, Bool.and_true, Bool.false_and, Bool.and_false, Bool.or_true, Bool.true_or, Bool.or_false, Bool.false_or, decide_true, decide_false, Nat.reduceSub, Nat.reduceAdd, Nat.reduceLeDiff, Nat.reduceEqDiff, Nat.zero_add, if_true, if_false, reduceIte, reduceCtorEq, Bool.false_eq_true, fits n f (hf f hx) hn], rfl⟩
  have h1 : fs.length ≤ 1000000 := by omega
  have h2 : ¬ (200 : Int) < fs.length := by omega
  simp only [init, retOf, seqG, setG, newG, iffG, rtG, drG, asgG, nxG, noG, liftP, liftT, nwM, tb, tbM, op1, op1M, op2, op2M, vG, rG, fG, cG, callG, aNil, aCons, aStar, tAndG, tOrG, tNotG, tAndM, tOrM, tNotM, andG, orG, Dn.andM, Dn.orM, ifG, ifM, boolOf, nmT, nilT, consT, tupT, setVG, fzV, olV, odV, parG, par3G', notD, negD, tupM, lstN, lenD, listI, cutN.listOf, wipeR, putBack, fzOf, intOf, iiG, iiB, iiC, List.map_cons, List.map_nil, List.cons_append, List.nil_append, List.append_nil, List.length_cons, List.length_nil, List.length_map, List.replicate_succ, List.replicate_zero, List.getElem?_cons_zero, List.getElem?_cons_succ, List.set_cons_zero, List.set_cons_succ, Option.bind_some, Option.bind_none, Option.map_some, Option.map_none, Bool.not_true, Bool.not_false, Bool.true_and, Bool.and_true, Bool.false_and, Bool.and_false, Bool.or_true, Bool.true_or, Bool.or_false, Bool.false_or, decide_true, decide_false, Nat.reduceSub, Nat.reduceAdd, Nat.reduceLeDiff, Nat.reduceEqDiff, Nat.zero_add, if_true, if_false, reduceIte, reduceCtorEq, Bool.false_eq_true, fsD, isi_ll, lcN, h1, h2]
  simp only [fsD] at hc
  rw [hc]
  simp only [init, retOf, seqG, setG, newG, iffG, rtG, drG, asgG, nxG, noG, liftP, liftT, nwM, tb, tbM, op1, op1M, op2, op2M, vG, rG, fG, cG, callG, aNil, aCons, aStar, tAndG, tOrG, tNotG, tAndM, tOrM, tNotM, andG, orG, Dn.andM, Dn.orM, ifG, ifM, boolOf, nmT, nilT, consT, tupT, setVG, fzV, olV, odV, parG, par3G', notD, negD, tupM, lstN, lenD, listI, cutN.listOf, wipeR, putBack, fzOf, intOf, iiG, iiB, iiC, List.map_cons, List.map_nil, List.cons_append, List.nil_append, List.append_nil, List.length_cons, List.length_nil, List.length_map, List.replicate_succ, List.replicate_zero, List.getElem?_cons_zero, List.getElem?_cons_succ, List.set_cons_zero, List.set_cons_succ, Option.bind_some, Option.bind_none, Option.map_some, Option.map_none, Bool.not_true, Bool.not_false, Bool.true_and, Bool.and_true, Bool.false_and, Bool.and_false, Bool.or_true, Bool.true_or, Bool.or_false, Bool.false_or, decide_true, decide_false, Nat.reduceSub, Nat.reduceAdd, Nat.reduceLeDiff, Nat.reduceEqDiff, Nat.zero_add, if_true, if_false, reduceIte, reduceCtorEq, Bool.false_eq_true, all_b]
  simp
theorem need_both (n : Nat) (fs : List Fact) (hf : Fits n fs) (h1 : 1 ≤ n) (hn : n ≤ 60) (hl : fs.length ≤ 200) : runG 3 g_need_count_and_facts [nD n, fsD fs, .int 60] = some .none := by
  rw [run_eq]
  unfold g_need_count_and_facts
  simp only [init, retOf, seqG, setG, newG, iffG, rtG, drG, asgG, nxG, noG, liftP, liftT, nwM, tb, tbM, op1, op1M, op2, op2M, vG, rG, fG, cG, callG, aNil, aCons, aStar, tAndG, tOrG, tNotG, tAndM, tOrM, tNotM, andG, orG, Dn.andM, Dn.orM, ifG, ifM, boolOf, nmT, nilT, consT, tupT, setVG, fzV, olV, odV, parG, par3G', notD, negD, tupM, lstN, lenD, listI, cutN.listOf, wipeR, putBack, fzOf, intOf, iiG, iiB, iiC, List.map_cons, List.map_nil, List.cons_append, List.nil_append, List.append_nil, List.length_cons, List.length_nil, List.length_map, List.replicate_succ, List.replicate_zero, List.getElem?_cons_zero, List.getElem?_cons_succ, List.set_cons_zero, List.set_cons_succ, Option.bind_some, Option.bind_none, Option.map_some, Option.map_none, Bool.not_true, Bool.not_false, Bool.true_and, Bool.and_true, Bool.false_and, Bool.and_false, Bool.or_true, Bool.true_or, Bool.or_false, Bool.false_or, decide_true, decide_false, Nat.reduceSub, Nat.reduceAdd, Nat.reduceLeDiff, Nat.reduceEqDiff, Nat.zero_add, if_true, if_false, reduceIte, reduceCtorEq, Bool.false_eq_true, need_count n h1 hn, need_facts n fs hf hn hl]
end K85
end
section
set_option Elab.async false
set_option linter.all false
set_option maxRecDepth 100000
set_option maxHeartbeats 4000000
namespace K85
open PySem L2 Dn Rk
theorem lit_W : PyData.str (sT .W) = sD .W := rfl
theorem lit_L : PyData.str (sT .L) = sD .L := rfl
theorem lit_S : PyData.str (sT .S) = sD .S := rfl
def fus1 (ss : List Sg) : Sg := if .L ∈ ss then .L else if .W ∈ ss then .W else .S
def over (n : Nat) (fs : List Fact) : Fact := (List.range n).map fun k => fus1 (fs.map fun f => f.getD k .S)
theorem over_len (n : Nat) (fs : List Fact) : (over n fs).length = n := by unfold over; simp
abbrev zD (i : Nat) : PyData := .int (0 + (i : Int))
theorem zD_eq (i : Nat) : zD i = nD i := by unfold zD nD; rw [Int.zero_add]
theorem rangeD_eq (n : Nat) : rangeD 0 n = (List.range n).map nD := by
  unfold rangeD
  exact List.map_congr_left fun i _ => zD_eq i
theorem rng_get {n j x : Nat} (h : (List.range n)[j]? = some x) : x = j ∧ j < n := by
  obtain ⟨h1, h2⟩ := List.getElem?_eq_some_iff.mp h
  simp at h1 h2
  exact ⟨h2.symm, h1⟩
theorem rng_n {g : MG} {ρ ρ' : Ro} {n : Nat} (h : g ρ = some (nD n, ρ')) (hn : n ≤ 1000000) : rng1I g ρ = some ((List.range n).map nD, ρ') := by
  unfold rng1I
  rw [h]
  show (if (-1000000 : Int) ≤ n ∧ (n : Int) ≤ 1000000 then some (rangeD 0 (n : Int).toNat, ρ') else none) = _
  rw [if_pos (by omega), Int.toNat_natCast, rangeD_eq]
theorem forG_eq {gi : AG} {td : DG} {b : SG} {ρ ρ1 : Ro} {ds : List PyData} (h : gi ρ = some (ds, ρ1)) : forG gi td b ρ = forL td b ds ρ1 := by
  unfold forG; rw [h]; rfl
theorem lcN_eq {gi : AG} {vs : List Nat} {td : DG} {tt : TMG} {g : MG} {ρ ρ1 : Ro} {ds : List PyData} (h : gi ρ = some (ds, ρ1)) (hl : ds.length ≤ 1000000) : lcN gi vs td tt g ρ = (lcL vs td tt g ds (wipeR ρ1 vs)).map fun r => (r.1, putBack ρ1 r.2 vs) := by
  unfold lcN; rw [h]; exact if_pos hl
/-- the signs of a rule -/
def col (fs : List Fact) (k : Nat) : List Sg := fs.map fun f => f.getD k .S
theorem getD_f {f : Fact} {k : Nat} (h : k < f.length) : f.getD k .S = f[k] := by
  rw [List.getD_eq_getElem?_getD, List.getElem?_eq_getElem h]; rfl
theorem ix_fD {n : Nat} {fs : List Fact} (hf : Fits n fs) (hn : n ≤ 60) {f : Fact} (hx : f ∈ fs) {k : Nat} (hk : k < n) : ixD (fD f) (nD k) = some (sD (f.getD k .S)) := by
  rw [ix_f f k (by rw [hf f hx]; exact hk) (by rw [hf f hx]; omega), getD_f (by rw [hf f hx]; exact hk)]
theorem over_body (n : Nat) (fs : List Fact) (hf : Fits n fs) (hn : n ≤ 60) (hl : fs.length ≤ 1000) (k : Nat) (hk : k < n) (acc : List PyData) (ha : acc.length ≤ 1000000) (x4 x5 : Option Sl) :
    b_over_all_1 [some (.fz (nD n)), some (.fz (fsD fs)), some (.ol acc), some (.fz (nD k)), x4, x5] = some (.nx, [some (.fz (nD n)), some (.fz (fsD fs)), some (.ol (acc ++ [sD (fus1 (col fs k))])), some (.fz (nD k)), some (.fz (.list ((col fs k).map sD))), fzOf (some x5)]) := by
  have hc := lc_all (vs := [5]) (td := nmT 5) (ge := e_over_all_1) (ρ := [some (.fz (nD n)), some (.fz (.list (fs.map fD))), some (.ol acc), some (.fz (nD k)), x4, none]) fD (fun f => sD (f.getD k .S)) fs fun f hx => ⟨_, rfl, by
    unfold e_over_all_1
    simp only [init, retOf, seqG, setG, newG, iffG, rtG, drG, asgG, nxG, noG, liftP, liftT, nwM, tb, tbM, op1, op1M, op2, op2M, vG, rG, fG, cG, callG, aNil, aCons, aStar, tAndG, tOrG, tNotG, tAndM, tOrM, tNotM, andG, orG, Dn.andM, Dn.orM, ifG, ifM, boolOf, nmT, nilT, consT, tupT, setVG, fzV, olV, odV, parG, par3G', notD, negD, tupM, lstN, lenD, listI, cutN.listOf, wipeR, putBack, fzOf, intOf, iiG, iiB, iiC, List.map_cons, List.map_nil, List.cons_append, List.nil_append, List.append_nil, List.length_cons, List.length_nil, List.length_map, List.replicate_succ, List.replicate_zero, List.getElem?_cons_zero, List.getElem?_cons_succ, List.set_cons_zero, List.set_cons_succ, Option.bind_some, Option.bind_none, Option.map_some, Option.map_none, Bool.not_true, Bool.not_false, Bool.true_and, Bool.and_true, Bool.false_and, Bool.and_false, Bool.or_true, Bool.true_or, Bool.or_false, Bool.false_or, decide_true, decide_false, Nat.reduceSub, Nat.reduceAdd, Nat.reduceLeDiff, Nat.reduceEqDiff, Nat.zero_add, if_true, if_false, reduceIte, reduceCtorEq, Bool.false_eq_true]
    rw [ix_fD hf hn hx hk]
    rfl, rfl⟩
  have h1 : fs.length ≤ 1000000 := by omega
  have e : (fs.map fun f => sD (f.getD k .S)) = (col fs k).map sD := by unfold col; rw [List.map_map]; rfl
  unfold b_over_all_1
  simp only [init, retOf, seqG, setG, newG, iffG, rtG, drG, asgG, nxG, noG, liftP, liftT, nwM, tb, tbM, op1, op1M, op2, op2M, vG, rG, fG, cG, callG, aNil, aCons, aStar, tAndG, tOrG, tNotG, tAndM, tOrM, tNotM, andG, orG, Dn.andM, Dn.orM, ifG, ifM, boolOf, nmT, nilT, consT, tupT, setVG, fzV, olV, odV, parG, par3G', notD, negD, tupM, lstN, lenD, listI, cutN.listOf, wipeR, putBack, fzOf, intOf, iiG, iiB, iiC, List.map_cons, List.map_nil, List.cons_append, List.nil_append, List.append_nil, List.length_cons, List.length_nil, List.length_map, List.replicate_succ, List.replicate_zero, List.getElem?_cons_zero, List.getElem?_cons_succ, List.set_cons_zero, List.set_cons_succ, Option.bind_some, Option.bind_none, Option.map_some, Option.map_none, Bool.not_true, Bool.not_false, Bool.true_and, Bool.and_true, Bool.false_and, Bool.and_false, Bool.or_true, Bool.true_or, Bool.or_false, Bool.false_or, decide_true, decide_false, Nat.reduceSub, Nat.reduceAdd, Nat.reduceLeDiff, Nat.reduceEqDiff, Nat.zero_add, if_true, if_false, reduceIte, reduceCtorEq, Bool.false_eq_true, fsD, lcN, h1]
  rw [hc, e]
  simp only [init, retOf, seqG, setG, newG, iffG, rtG, drG, asgG, nxG, noG, liftP, liftT, nwM, tb, tbM, op1, op1M, op2, op2M, vG, rG, fG, cG, callG, aNil, aCons, aStar, tAndG, tOrG, tNotG, tAndM, tOrM, tNotM, andG, orG, Dn.andM, Dn.orM, ifG, ifM, boolOf, nmT, nilT, consT, tupT, setVG, fzV, olV, odV, parG, par3G', notD, negD, tupM, lstN, lenD, listI, cutN.listOf, wipeR, putBack, fzOf, intOf, iiG, iiB, iiC, List.map_cons, List.map_nil, List.cons_append, List.nil_append, List.append_nil, List.length_cons, List.length_nil, List.length_map, List.replicate_succ, List.replicate_zero, List.getElem?_cons_zero, List.getElem?_cons_succ, List.set_cons_zero, List.set_cons_succ, Option.bind_some, Option.bind_none, Option.map_some, Option.map_none, Bool.not_true, Bool.not_false, Bool.true_and, Bool.and_true, Bool.false_and, Bool.and_false, Bool.or_true, Bool.true_or, Bool.or_false, Bool.false_or, decide_true, decide_false, Nat.reduceSub, Nat.reduceAdd, Nat.reduceLeDiff, Nat.reduceEqDiff, Nat.zero_add, if_true, if_false, reduceIte, reduceCtorEq, Bool.false_eq_true, str_W, str_L, str_S, lit_W, lit_L, lit_S, in_s, appG, olAt, olSet, ha]
  unfold fus1
  by_cases hL : Sg.L ∈ col fs k
  · simp [hL, ha]
  · by_cases hW : Sg.W ∈ col fs k <;> simp [hL, hW, ha]
theorem over_all (n : Nat) (fs : List Fact) (hf : Fits n fs) (hn : n ≤ 60) (hl : fs.length ≤ 1000) : runG 6 g_over_all [nD n, fsD fs] = some (fD (over n fs)) := by
  rw [run_eq]
  unfold g_over_all
  obtain ⟨ρ', e1, x3, x4, x5, rfl⟩ := for_all (td := nmT 3) (b := b_over_all_1) nD
    (fun j ρ => ∃ x3 x4 x5, ρ = [some (.fz (nD n)), some (.fz (fsD fs)), some (.ol (((List.range j).map fun k => fus1 (col fs k)).map sD)), x3, x4, x5]) (List.range n)
    [some (.fz (nD n)), some (.fz (fsD fs)), some (.ol []), none, none, none] (by
      rintro j x ρ hj ⟨x3, x4, x5, rfl⟩
      obtain ⟨rfl, hj'⟩ := rng_get hj
      refine ⟨_, _, rfl, over_body n fs hf hn hl x hj' _ (by simp; omega) _ _, some (.fz (nD x)), some (.fz (.list ((col fs x).map sD))), fzOf (some x5), ?_⟩
      rw [List.range_succ, List.map_append, List.map_append]
      rfl) ⟨none, none, none, rfl⟩
  simp only [init, retOf, seqG, setG, newG, iffG, rtG, drG, asgG, nxG, noG, liftP, liftT, nwM, tb, tbM, op1, op1M, op2, op2M, vG, rG, fG, cG, callG, aNil, aCons, aStar, tAndG, tOrG, tNotG, tAndM, tOrM, tNotM, andG, orG, Dn.andM, Dn.orM, ifG, ifM, boolOf, nmT, nilT, consT, tupT, setVG, fzV, olV, odV, parG, par3G', notD, negD, tupM, lstN, lenD, listI, cutN.listOf, wipeR, putBack, fzOf, intOf, iiG, iiB, iiC, List.map_cons, List.map_nil, List.cons_append, List.nil_append, List.append_nil, List.length_cons, List.length_nil, List.length_map, List.replicate_succ, List.replicate_zero, List.getElem?_cons_zero, List.getElem?_cons_succ, List.set_cons_zero, List.set_cons_succ, Option.bind_some, Option.bind_none, Option.map_some, Option.map_none, Bool.not_true, Bool.not_false, Bool.true_and, Bool.and_true, Bool.false_and, Bool.and_false, Bool.or_true, Bool.true_or, Bool.or_false, Bool.false_or, decide_true, decide_false, Nat.reduceSub, Nat.reduceAdd, Nat.reduceLeDiff, Nat.reduceEqDiff, Nat.zero_add, if_true, if_false, reduceIte, reduceCtorEq, Bool.false_eq_true]
  rw [forG_eq (rng_n (n := n) rfl (by omega)), e1]
  simp only [init, retOf, seqG, setG, newG, iffG, rtG, drG, asgG, nxG, noG, liftP, liftT, nwM, tb, tbM, op1, op1M, op2, op2M, vG, rG, fG, cG, callG, aNil, aCons, aStar, tAndG, tOrG, tNotG, tAndM, tOrM, tNotM, andG, orG, Dn.andM, Dn.orM, ifG, ifM, boolOf, nmT, nilT, consT, tupT, setVG, fzV, olV, odV, parG, par3G', notD, negD, tupM, lstN, lenD, listI, cutN.listOf, wipeR, putBack, fzOf, intOf, iiG, iiB, iiC, List.map_cons, List.map_nil, List.cons_append, List.nil_append, List.append_nil, List.length_cons, List.length_nil, List.length_map, List.replicate_succ, List.replicate_zero, List.getElem?_cons_zero, List.getElem?_cons_succ, List.set_cons_zero, List.set_cons_succ, Option.bind_some, Option.bind_none, Option.map_some, Option.map_none, Bool.not_true, Bool.not_false, Bool.true_and, Bool.and_true, Bool.false_and, Bool.and_false, Bool.or_true, Bool.true_or, Bool.or_false, Bool.false_or, decide_true, decide_false, Nat.reduceSub, Nat.reduceAdd, Nat.reduceLeDiff, Nat.reduceEqDiff, Nat.zero_add, if_true, if_false, reduceIte, reduceCtorEq, Bool.false_eq_true, str_E, List.length_range]
  rw [joinD_s _ (by simp; omega)]
  rfl
end K85
end
section
set_option Elab.async false
set_option linter.all false
set_option maxRecDepth 100000
set_option maxHeartbeats 4000000
namespace K85
open PySem L2 Dn Rk
/-- the rules that have the sign s -/
def rw_ (f : Fact) (s : Sg) : List Nat := (List.range f.length).filter fun k => decide (f.getD k .S = s)
theorem rw_mem {f : Fact} {s : Sg} {k : Nat} : k ∈ rw_ f s ↔ k < f.length ∧ f.getD k .S = s := by unfold rw_; simp
theorem enum_f (f : Fact) : enumFrom 0 (f.map sD) = (List.range f.length).map fun k => .tuple [nD k, sD (f.getD k .S)] := by
  apply List.ext_getElem?
  intro i
  rw [enumFrom_get, Nat.zero_add, List.getElem?_map, List.getElem?_map]
  by_cases h : i < f.length
  · rw [List.getElem?_range h, List.getElem?_eq_getElem h]
    show some _ = some (PyData.tuple [nD i, sD (f.getD i .S)])
    rw [getD_f h]; rfl
  · rw [List.getElem?_eq_none (by omega), List.getElem?_eq_none (by simp; omega)]; rfl
theorem rules_with (f : Fact) (s : Sg) (hn : f.length ≤ 60) : runG 4 g_rules_with [fD f, sD s] = some (nsD (rw_ f s)) := by
  rw [run_eq]
  unfold g_rules_with
  have hc := lc_typed (vs := [2, 3]) (td := tupT 2 (consT (nmT 2) (consT (nmT 3) nilT))) (tt := q_rules_with_1) (ge := e_rules_with_1) (ρ := [some (.fz (fD f)), some (.fz (sD s)), none, none])
    (fun k => .tuple [nD k, sD (f.getD k .S)]) (fun k => decide (f.getD k .S = s)) nD (List.range f.length) fun k hk => ⟨_, rfl, by
      unfold q_rules_with_1
      simp only [init, retOf, seqG, setG, newG, iffG, rtG, drG, asgG, nxG, noG, liftP, liftT, nwM, tb, tbM, op1, op1M, op2, op2M, vG, rG, fG, cG, callG, aNil, aCons, aStar, tAndG, tOrG, tNotG, tAndM, tOrM, tNotM, andG, orG, Dn.andM, Dn.orM, ifG, ifM, boolOf, nmT, nilT, consT, tupT, setVG, fzV, olV, odV, parG, par3G', notD, negD, tupM, lstN, lenD, listI, cutN.listOf, wipeR, putBack, fzOf, intOf, iiG, iiB, iiC, List.map_cons, List.map_nil, List.cons_append, List.nil_append, List.append_nil, List.length_cons, List.length_nil, List.length_map, List.replicate_succ, List.replicate_zero, List.getElem?_cons_zero, List.getElem?_cons_succ, List.set_cons_zero, List.set_cons_succ, Option.bind_some, Option.bind_none, Option.map_some, Option.map_none, Bool.not_true, Bool.not_false, Bool.true_and, Bool.and_true, Bool.false_and, Bool.and_false, Bool.or_true, Bool.true_or, Bool.or_false, Bool.false_or, decide_true, decide_false, Nat.reduceSub, Nat.reduceAdd, Nat.reduceLeDiff, Nat.reduceEqDiff, Nat.zero_add, if_true, if_false, reduceIte, reduceCtorEq, Bool.false_eq_true, eq_s], fun _ => by
      unfold e_rules_with_1
      simp only [init, retOf, seqG, setG, newG, iffG, rtG, drG, asgG, nxG, noG, liftP, liftT, nwM, tb, tbM, op1, op1M, op2, op2M, vG, rG, fG, cG, callG, aNil, aCons, aStar, tAndG, tOrG, tNotG, tAndM, tOrM, tNotM, andG, orG, Dn.andM, Dn.orM, ifG, ifM, boolOf, nmT, nilT, consT, tupT, setVG, fzV, olV, odV, parG, par3G', notD, negD, tupM, lstN, lenD, listI, cutN.listOf, wipeR, putBack, fzOf, intOf, iiG, iiB, iiC, List.map_cons, List.map_nil, List.cons_append, List.nil_append, List.append_nil, List.length_cons, List.length_nil, List.length_map, List.replicate_succ, List.replicate_zero, List.getElem?_cons_zero, List.getElem?_cons_succ, List.set_cons_zero, List.set_cons_succ, Option.bind_some, Option.bind_none, Option.map_some, Option.map_none, Bool.not_true, Bool.not_false, Bool.true_and, Bool.and_true, Bool.false_and, Bool.and_false, Bool.or_true, Bool.true_or, Bool.or_false, Bool.false_or, decide_true, decide_false, Nat.reduceSub, Nat.reduceAdd, Nat.reduceLeDiff, Nat.reduceEqDiff, Nat.zero_add, if_true, if_false, reduceIte, reduceCtorEq, Bool.false_eq_true], rfl⟩
  have h1 : (List.range f.length).length ≤ 1000000 := by simp; omega
  simp only [init, retOf, seqG, setG, newG, iffG, rtG, drG, asgG, nxG, noG, liftP, liftT, nwM, tb, tbM, op1, op1M, op2, op2M, vG, rG, fG, cG, callG, aNil, aCons, aStar, tAndG, tOrG, tNotG, tAndM, tOrM, tNotM, andG, orG, Dn.andM, Dn.orM, ifG, ifM, boolOf, nmT, nilT, consT, tupT, setVG, fzV, olV, odV, parG, par3G', notD, negD, tupM, lstN, lenD, listI, cutN.listOf, wipeR, putBack, fzOf, intOf, iiG, iiB, iiC, List.map_cons, List.map_nil, List.cons_append, List.nil_append, List.append_nil, List.length_cons, List.length_nil, List.length_map, List.replicate_succ, List.replicate_zero, List.getElem?_cons_zero, List.getElem?_cons_succ, List.set_cons_zero, List.set_cons_succ, Option.bind_some, Option.bind_none, Option.map_some, Option.map_none, Bool.not_true, Bool.not_false, Bool.true_and, Bool.and_true, Bool.false_and, Bool.and_false, Bool.or_true, Bool.true_or, Bool.or_false, Bool.false_or, decide_true, decide_false, Nat.reduceSub, Nat.reduceAdd, Nat.reduceLeDiff, Nat.reduceEqDiff, Nat.zero_add, if_true, if_false, reduceIte, reduceCtorEq, Bool.false_eq_true]
  rw [lcN_eq (ds := enumFrom 0 (f.map sD)) (ρ1 := [some (.fz (fD f)), some (.fz (sD s)), none, none]) (by
    unfold enumSI
    simp only [init, retOf, seqG, setG, newG, iffG, rtG, drG, asgG, nxG, noG, liftP, liftT, nwM, tb, tbM, op1, op1M, op2, op2M, vG, rG, fG, cG, callG, aNil, aCons, aStar, tAndG, tOrG, tNotG, tAndM, tOrM, tNotM, andG, orG, Dn.andM, Dn.orM, ifG, ifM, boolOf, nmT, nilT, consT, tupT, setVG, fzV, olV, odV, parG, par3G', notD, negD, tupM, lstN, lenD, listI, cutN.listOf, wipeR, putBack, fzOf, intOf, iiG, iiB, iiC, List.map_cons, List.map_nil, List.cons_append, List.nil_append, List.append_nil, List.length_cons, List.length_nil, List.length_map, List.replicate_succ, List.replicate_zero, List.getElem?_cons_zero, List.getElem?_cons_succ, List.set_cons_zero, List.set_cons_succ, Option.bind_some, Option.bind_none, Option.map_some, Option.map_none, Bool.not_true, Bool.not_false, Bool.true_and, Bool.and_true, Bool.false_and, Bool.and_false, Bool.or_true, Bool.true_or, Bool.or_false, Bool.false_or, decide_true, decide_false, Nat.reduceSub, Nat.reduceAdd, Nat.reduceLeDiff, Nat.reduceEqDiff, Nat.zero_add, if_true, if_false, reduceIte, reduceCtorEq, Bool.false_eq_true, fD, signs_f]) (by rw [enum_f]; simp; omega), enum_f]
  simp only [init, retOf, seqG, setG, newG, iffG, rtG, drG, asgG, nxG, noG, liftP, liftT, nwM, tb, tbM, op1, op1M, op2, op2M, vG, rG, fG, cG, callG, aNil, aCons, aStar, tAndG, tOrG, tNotG, tAndM, tOrM, tNotM, andG, orG, Dn.andM, Dn.orM, ifG, ifM, boolOf, nmT, nilT, consT, tupT, setVG, fzV, olV, odV, parG, par3G', notD, negD, tupM, lstN, lenD, listI, cutN.listOf, wipeR, putBack, fzOf, intOf, iiG, iiB, iiC, List.map_cons, List.map_nil, List.cons_append, List.nil_append, List.append_nil, List.length_cons, List.length_nil, List.length_map, List.replicate_succ, List.replicate_zero, List.getElem?_cons_zero, List.getElem?_cons_succ, List.set_cons_zero, List.set_cons_succ, Option.bind_some, Option.bind_none, Option.map_some, Option.map_none, Bool.not_true, Bool.not_false, Bool.true_and, Bool.and_true, Bool.false_and, Bool.and_false, Bool.or_true, Bool.true_or, Bool.or_false, Bool.false_or, decide_true, decide_false, Nat.reduceSub, Nat.reduceAdd, Nat.reduceLeDiff, Nat.reduceEqDiff, Nat.zero_add, if_true, if_false, reduceIte, reduceCtorEq, Bool.false_eq_true]
  rw [hc]
  simp only [init, retOf, seqG, setG, newG, iffG, rtG, drG, asgG, nxG, noG, liftP, liftT, nwM, tb, tbM, op1, op1M, op2, op2M, vG, rG, fG, cG, callG, aNil, aCons, aStar, tAndG, tOrG, tNotG, tAndM, tOrM, tNotM, andG, orG, Dn.andM, Dn.orM, ifG, ifM, boolOf, nmT, nilT, consT, tupT, setVG, fzV, olV, odV, parG, par3G', notD, negD, tupM, lstN, lenD, listI, cutN.listOf, wipeR, putBack, fzOf, intOf, iiG, iiB, iiC, List.map_cons, List.map_nil, List.cons_append, List.nil_append, List.append_nil, List.length_cons, List.length_nil, List.length_map, List.replicate_succ, List.replicate_zero, List.getElem?_cons_zero, List.getElem?_cons_succ, List.set_cons_zero, List.set_cons_succ, Option.bind_some, Option.bind_none, Option.map_some, Option.map_none, Bool.not_true, Bool.not_false, Bool.true_and, Bool.and_true, Bool.false_and, Bool.and_false, Bool.or_true, Bool.true_or, Bool.or_false, Bool.false_or, decide_true, decide_false, Nat.reduceSub, Nat.reduceAdd, Nat.reduceLeDiff, Nat.reduceEqDiff, Nat.zero_add, if_true, if_false, reduceIte, reduceCtorEq, Bool.false_eq_true]
  rfl
def fw (n : Nat) (ws ls : List Nat) : Fact := (List.range n).map fun k => if k ∈ ws then .W else if k ∈ ls then .L else .S
theorem fw_len (n : Nat) (ws ls : List Nat) : (fw n ws ls).length = n := by unfold fw; simp
theorem fw_at {n k : Nat} (ws ls : List Nat) (h : k < n) : (fw n ws ls).getD k .S = if k ∈ ws then .W else if k ∈ ls then .L else .S := by
  unfold fw
  rw [List.getD_eq_getElem?_getD, List.getElem?_map, List.getElem?_range h]; rfl
theorem fw_body (n : Nat) (ws ls : List Nat) (k : Nat) (acc : List PyData) (ha : acc.length ≤ 1000000) :
    b_fact_with_1 [some (.fz (nD n)), some (.fz (nsD ws)), some (.fz (nsD ls)), some (.ol acc), some (.fz (nD k))] = some (.nx, [some (.fz (nD n)), some (.fz (nsD ws)), some (.fz (nsD ls)), some (.ol (acc ++ [sD (if k ∈ ws then .W else if k ∈ ls then .L else .S)])), some (.fz (nD k))]) := by
  unfold b_fact_with_1 appG
  simp only [init, retOf, seqG, setG, newG, iffG, rtG, drG, asgG, nxG, noG, liftP, liftT, nwM, tb, tbM, op1, op1M, op2, op2M, vG, rG, fG, cG, callG, aNil, aCons, aStar, tAndG, tOrG, tNotG, tAndM, tOrM, tNotM, andG, orG, Dn.andM, Dn.orM, ifG, ifM, boolOf, nmT, nilT, consT, tupT, setVG, fzV, olV, odV, parG, par3G', notD, negD, tupM, lstN, lenD, listI, cutN.listOf, wipeR, putBack, fzOf, intOf, iiG, iiB, iiC, List.map_cons, List.map_nil, List.cons_append, List.nil_append, List.append_nil, List.length_cons, List.length_nil, List.length_map, List.replicate_succ, List.replicate_zero, List.getElem?_cons_zero, List.getElem?_cons_succ, List.set_cons_zero, List.set_cons_succ, Option.bind_some, Option.bind_none, Option.map_some, Option.map_none, Bool.not_true, Bool.not_false, Bool.true_and, Bool.and_true, Bool.false_and, Bool.and_false, Bool.or_true, Bool.true_or, Bool.or_false, Bool.false_or, decide_true, decide_false, Nat.reduceSub, Nat.reduceAdd, Nat.reduceLeDiff, Nat.reduceEqDiff, Nat.zero_add, if_true, if_false, reduceIte, reduceCtorEq, Bool.false_eq_true, str_W, str_L, str_S, lit_W, lit_L, lit_S, in_n, olAt, olSet, ha]
  by_cases hW : k ∈ ws
  · simp [hW, ha]
  · by_cases hL : k ∈ ls <;> simp [hL, hW, ha]
theorem fact_with (n : Nat) (ws ls : List Nat) (hn : n ≤ 60) : runG 5 g_fact_with [nD n, nsD ws, nsD ls] = some (fD (fw n ws ls)) := by
  rw [run_eq]
  unfold g_fact_with
  obtain ⟨ρ', e1, x4, rfl⟩ := for_all (td := nmT 4) (b := b_fact_with_1) nD
    (fun j ρ => ∃ x4, ρ = [some (.fz (nD n)), some (.fz (nsD ws)), some (.fz (nsD ls)), some (.ol (((List.range j).map fun k => if k ∈ ws then Sg.W else if k ∈ ls then .L else .S).map sD)), x4]) (List.range n)
    [some (.fz (nD n)), some (.fz (nsD ws)), some (.fz (nsD ls)), some (.ol []), none] (by
      rintro j x ρ hj ⟨x4, rfl⟩
      obtain ⟨rfl, hj'⟩ := rng_get hj
      refine ⟨_, _, rfl, fw_body n ws ls x _ (by simp; omega), some (.fz (nD x)), ?_⟩
      rw [List.range_succ, List.map_append, List.map_append]
      rfl) ⟨none, rfl⟩
  simp only [init, retOf, seqG, setG, newG, iffG, rtG, drG, asgG, nxG, noG, liftP, liftT, nwM, tb, tbM, op1, op1M, op2, op2M, vG, rG, fG, cG, callG, aNil, aCons, aStar, tAndG, tOrG, tNotG, tAndM, tOrM, tNotM, andG, orG, Dn.andM, Dn.orM, ifG, ifM, boolOf, nmT, nilT, consT, tupT, setVG, fzV, olV, odV, parG, par3G', notD, negD, tupM, lstN, lenD, listI, cutN.listOf, wipeR, putBack, fzOf, intOf, iiG, iiB, iiC, List.map_cons, List.map_nil, List.cons_append, List.nil_append, List.append_nil, List.length_cons, List.length_nil, List.length_map, List.replicate_succ, List.replicate_zero, List.getElem?_cons_zero, List.getElem?_cons_succ, List.set_cons_zero, List.set_cons_succ, Option.bind_some, Option.bind_none, Option.map_some, Option.map_none, Bool.not_true, Bool.not_false, Bool.true_and, Bool.and_true, Bool.false_and, Bool.and_false, Bool.or_true, Bool.true_or, Bool.or_false, Bool.false_or, decide_true, decide_false, Nat.reduceSub, Nat.reduceAdd, Nat.reduceLeDiff, Nat.reduceEqDiff, Nat.zero_add, if_true, if_false, reduceIte, reduceCtorEq, Bool.false_eq_true]
  rw [forG_eq (rng_n (n := n) rfl (by omega)), e1]
  simp only [init, retOf, seqG, setG, newG, iffG, rtG, drG, asgG, nxG, noG, liftP, liftT, nwM, tb, tbM, op1, op1M, op2, op2M, vG, rG, fG, cG, callG, aNil, aCons, aStar, tAndG, tOrG, tNotG, tAndM, tOrM, tNotM, andG, orG, Dn.andM, Dn.orM, ifG, ifM, boolOf, nmT, nilT, consT, tupT, setVG, fzV, olV, odV, parG, par3G', notD, negD, tupM, lstN, lenD, listI, cutN.listOf, wipeR, putBack, fzOf, intOf, iiG, iiB, iiC, List.map_cons, List.map_nil, List.cons_append, List.nil_append, List.append_nil, List.length_cons, List.length_nil, List.length_map, List.replicate_succ, List.replicate_zero, List.getElem?_cons_zero, List.getElem?_cons_succ, List.set_cons_zero, List.set_cons_succ, Option.bind_some, Option.bind_none, Option.map_some, Option.map_none, Bool.not_true, Bool.not_false, Bool.true_and, Bool.and_true, Bool.false_and, Bool.and_false, Bool.or_true, Bool.true_or, Bool.or_false, Bool.false_or, decide_true, decide_false, Nat.reduceSub, Nat.reduceAdd, Nat.reduceLeDiff, Nat.reduceEqDiff, Nat.zero_add, if_true, if_false, reduceIte, reduceCtorEq, Bool.false_eq_true, str_E, List.length_range]
  rw [joinD_s _ (by simp; omega)]
  rfl
theorem opposite (n r : Nat) (ahead : List Nat) (hn : n ≤ 60) : runG 3 g_opposite [nD n, nD r, nsD ahead] = some (fD (fw n [r] ahead)) := by
  rw [run_eq]
  unfold g_opposite
  have := fact_with n [r] ahead hn
  simp only [nsD, List.map_cons, List.map_nil] at this
  simp only [init, retOf, seqG, setG, newG, iffG, rtG, drG, asgG, nxG, noG, liftP, liftT, nwM, tb, tbM, op1, op1M, op2, op2M, vG, rG, fG, cG, callG, aNil, aCons, aStar, tAndG, tOrG, tNotG, tAndM, tOrM, tNotM, andG, orG, Dn.andM, Dn.orM, ifG, ifM, boolOf, nmT, nilT, consT, tupT, setVG, fzV, olV, odV, parG, par3G', notD, negD, tupM, lstN, lenD, listI, cutN.listOf, wipeR, putBack, fzOf, intOf, iiG, iiB, iiC, List.map_cons, List.map_nil, List.cons_append, List.nil_append, List.append_nil, List.length_cons, List.length_nil, List.length_map, List.replicate_succ, List.replicate_zero, List.getElem?_cons_zero, List.getElem?_cons_succ, List.set_cons_zero, List.set_cons_succ, Option.bind_some, Option.bind_none, Option.map_some, Option.map_none, Bool.not_true, Bool.not_false, Bool.true_and, Bool.and_true, Bool.false_and, Bool.and_false, Bool.or_true, Bool.true_or, Bool.or_false, Bool.false_or, decide_true, decide_false, Nat.reduceSub, Nat.reduceAdd, Nat.reduceLeDiff, Nat.reduceEqDiff, Nat.zero_add, if_true, if_false, reduceIte, reduceCtorEq, Bool.false_eq_true, nsD, this]
/-- a rule that has a W, and no L -/
def lack (n : Nat) (fs : List Fact) : Option Nat := (List.range n).find? fun k => decide (Sg.W ∈ col fs k) && !decide (Sg.L ∈ col fs k)
def onD : Option Nat → PyData
  | none => .none
  | some k => nD k
theorem lack_body (n : Nat) (fs : List Fact) (hf : Fits n fs) (hn : n ≤ 60) (hl : fs.length ≤ 1000) (k : Nat) (hk : k < n) (x3 x4 : Option Sl) :
    b_lacking_rule_1 [some (.fz (nD n)), some (.fz (fsD fs)), some (.fz (nD k)), x3, x4] = some (if (decide (Sg.W ∈ col fs k) && !decide (Sg.L ∈ col fs k)) = true then .rt (nD k) else .nx, [some (.fz (nD n)), some (.fz (fsD fs)), some (.fz (nD k)), some (.fz (.list ((col fs k).map sD))), fzOf (some x4)]) := by
  have hc := lc_all (vs := [4]) (td := nmT 4) (ge := e_lacking_rule_1) (ρ := [some (.fz (nD n)), some (.fz (.list (fs.map fD))), some (.fz (nD k)), x3, none]) fD (fun f => sD (f.getD k .S)) fs fun f hx => ⟨_, rfl, by
    unfold e_lacking_rule_1
    simp only [init, retOf, seqG, setG, newG, iffG, rtG, drG, asgG, nxG, noG, liftP, liftT, nwM, tb, tbM, op1, op1M, op2, op2M, vG, rG, fG, cG, callG, aNil, aCons, aStar, tAndG, tOrG, tNotG, tAndM, tOrM, tNotM, andG, orG, Dn.andM, Dn.orM, ifG, ifM, boolOf, nmT, nilT, consT, tupT, setVG, fzV, olV, odV, parG, par3G', notD, negD, tupM, lstN, lenD, listI, cutN.listOf, wipeR, putBack, fzOf, intOf, iiG, iiB, iiC, List.map_cons, List.map_nil, List.cons_append, List.nil_append, List.append_nil, List.length_cons, List.length_nil, List.length_map, List.replicate_succ, List.replicate_zero, List.getElem?_cons_zero, List.getElem?_cons_succ, List.set_cons_zero, List.set_cons_succ, Option.bind_some, Option.bind_none, Option.map_some, Option.map_none, Bool.not_true, Bool.not_false, Bool.true_and, Bool.and_true, Bool.false_and, Bool.and_false, Bool.or_true, Bool.true_or, Bool.or_false, Bool.false_or, decide_true, decide_false, Nat.reduceSub, Nat.reduceAdd, Nat.reduceLeDiff, Nat.reduceEqDiff, Nat.zero_add, if_true, if_false, reduceIte, reduceCtorEq, Bool.false_eq_true]
    rw [ix_fD hf hn hx hk]
    rfl, rfl⟩
  have h1 : fs.length ≤ 1000000 := by omega
  have e : (fs.map fun f => sD (f.getD k .S)) = (col fs k).map sD := by unfold col; rw [List.map_map]; rfl
  unfold b_lacking_rule_1
  simp only [init, retOf, seqG, setG, newG, iffG, rtG, drG, asgG, nxG, noG, liftP, liftT, nwM, tb, tbM, op1, op1M, op2, op2M, vG, rG, fG, cG, callG, aNil, aCons, aStar, tAndG, tOrG, tNotG, tAndM, tOrM, tNotM, andG, orG, Dn.andM, Dn.orM, ifG, ifM, boolOf, nmT, nilT, consT, tupT, setVG, fzV, olV, odV, parG, par3G', notD, negD, tupM, lstN, lenD, listI, cutN.listOf, wipeR, putBack, fzOf, intOf, iiG, iiB, iiC, List.map_cons, List.map_nil, List.cons_append, List.nil_append, List.append_nil, List.length_cons, List.length_nil, List.length_map, List.replicate_succ, List.replicate_zero, List.getElem?_cons_zero, List.getElem?_cons_succ, List.set_cons_zero, List.set_cons_succ, Option.bind_some, Option.bind_none, Option.map_some, Option.map_none, Bool.not_true, Bool.not_false, Bool.true_and, Bool.and_true, Bool.false_and, Bool.and_false, Bool.or_true, Bool.true_or, Bool.or_false, Bool.false_or, decide_true, decide_false, Nat.reduceSub, Nat.reduceAdd, Nat.reduceLeDiff, Nat.reduceEqDiff, Nat.zero_add, if_true, if_false, reduceIte, reduceCtorEq, Bool.false_eq_true, fsD, lcN, h1]
  rw [hc, e]
  simp only [init, retOf, seqG, setG, newG, iffG, rtG, drG, asgG, nxG, noG, liftP, liftT, nwM, tb, tbM, op1, op1M, op2, op2M, vG, rG, fG, cG, callG, aNil, aCons, aStar, tAndG, tOrG, tNotG, tAndM, tOrM, tNotM, andG, orG, Dn.andM, Dn.orM, ifG, ifM, boolOf, nmT, nilT, consT, tupT, setVG, fzV, olV, odV, parG, par3G', notD, negD, tupM, lstN, lenD, listI, cutN.listOf, wipeR, putBack, fzOf, intOf, iiG, iiB, iiC, List.map_cons, List.map_nil, List.cons_append, List.nil_append, List.append_nil, List.length_cons, List.length_nil, List.length_map, List.replicate_succ, List.replicate_zero, List.getElem?_cons_zero, List.getElem?_cons_succ, List.set_cons_zero, List.set_cons_succ, Option.bind_some, Option.bind_none, Option.map_some, Option.map_none, Bool.not_true, Bool.not_false, Bool.true_and, Bool.and_true, Bool.false_and, Bool.and_false, Bool.or_true, Bool.true_or, Bool.or_false, Bool.false_or, decide_true, decide_false, Nat.reduceSub, Nat.reduceAdd, Nat.reduceLeDiff, Nat.reduceEqDiff, Nat.zero_add, if_true, if_false, reduceIte, reduceCtorEq, Bool.false_eq_true, str_W, str_L, str_S, lit_W, lit_L, lit_S, in_s, notin_s]
  by_cases hL : Sg.L ∈ col fs k
  · by_cases hW : Sg.W ∈ col fs k <;> simp [hL, hW]
  · by_cases hW : Sg.W ∈ col fs k <;> simp [hL, hW]
theorem lacking_rule (n : Nat) (fs : List Fact) (hf : Fits n fs) (hn : n ≤ 60) (hl : fs.length ≤ 1000) : runG 5 g_lacking_rule [nD n, fsD fs] = some (onD (lack n fs)) := by
  rw [run_eq]
  unfold g_lacking_rule
  obtain ⟨o, ρ', e1, e2⟩ := for_typed (td := nmT 2) (b := b_lacking_rule_1) nD
    (fun j ρ => (∃ x2 x3 x4, ρ = [some (.fz (nD n)), some (.fz (fsD fs)), x2, x3, x4]) ∧ ∀ k, k < j → (decide (Sg.W ∈ col fs k) && !decide (Sg.L ∈ col fs k)) = false)
    (fun o ρ => (o = .nx ∧ lack n fs = none) ∨ ∃ k, o = .rt (nD k) ∧ lack n fs = some k) (List.range n) 0
    [some (.fz (nD n)), some (.fz (fsD fs)), none, none, none] (by
      rintro j x ρ hj ⟨⟨x2, x3, x4, rfl⟩, hno⟩
      obtain ⟨rfl, hj'⟩ := rng_get hj
      rw [Nat.zero_add] at hno ⊢
      refine ⟨_, _, _, rfl, lack_body n fs hf hn hl x hj' x3 x4, ?_⟩
      by_cases h : (decide (Sg.W ∈ col fs x) && !decide (Sg.L ∈ col fs x)) = true
      · rw [if_pos h]
        refine .inr ⟨x, rfl, ?_⟩
        unfold lack
        rw [List.find?_eq_some_iff_append]
        refine ⟨h, List.range x, (List.range (n - x - 1)).map (· + (x + 1)), ?_, fun a ha => ?_⟩
        · have : n = x + (1 + (n - x - 1)) := by omega
          conv => lhs; rw [this, List.range_add]
          rw [List.range_add, List.map_append]
          simp [Nat.add_comm, Nat.add_left_comm]
        · rw [hno a (by simpa using ha)]; rfl
      · rw [if_neg h]
        refine ⟨⟨_, _, _, rfl⟩, fun k hk => ?_⟩
        by_cases e : k = x
        · subst e; exact Bool.eq_false_iff.mpr h
        · exact hno k (by omega)) (by
      rintro ρ ⟨_, hno⟩
      refine .inl ⟨rfl, ?_⟩
      unfold lack
      rw [List.find?_eq_none]
      intro k hk
      rw [hno k (by simpa using hk)]; simp) ⟨⟨none, none, none, rfl⟩, fun k hk => by omega⟩
  simp only [init, retOf, seqG, setG, newG, iffG, rtG, drG, asgG, nxG, noG, liftP, liftT, nwM, tb, tbM, op1, op1M, op2, op2M, vG, rG, fG, cG, callG, aNil, aCons, aStar, tAndG, tOrG, tNotG, tAndM, tOrM, tNotM, andG, orG, Dn.andM, Dn.orM, ifG, ifM, boolOf, nmT, nilT, consT, tupT, setVG, fzV, olV, odV, parG, par3G', notD, negD, tupM, lstN, lenD, listI, cutN.listOf, wipeR, putBack, fzOf, intOf, iiG, iiB, iiC, List.map_cons, List.map_nil, List.cons_append, List.nil_append, List.append_nil, List.length_cons, List.length_nil, List.length_map, List.replicate_succ, List.replicate_zero, List.getElem?_cons_zero, List.getElem?_cons_succ, List.set_cons_zero, List.set_cons_succ, Option.bind_some, Option.bind_none, Option.map_some, Option.map_none, Bool.not_true, Bool.not_false, Bool.true_and, Bool.and_true, Bool.false_and, Bool.and_false, Bool.or_true, Bool.true_or, Bool.or_false, Bool.false_or, decide_true, decide_false, Nat.reduceSub, Nat.reduceAdd, Nat.reduceLeDiff, Nat.reduceEqDiff, Nat.zero_add, if_true, if_false, reduceIte, reduceCtorEq, Bool.false_eq_true]
  rw [forG_eq (rng_n (n := n) rfl (by omega)), e1]
  rcases e2 with ⟨rfl, e2⟩ | ⟨k, rfl, e2⟩
  · rw [e2]; simp only [init, retOf, seqG, setG, newG, iffG, rtG, drG, asgG, nxG, noG, liftP, liftT, nwM, tb, tbM, op1, op1M, op2, op2M, vG, rG, fG, cG, callG, aNil, aCons, aStar, tAndG, tOrG, tNotG, tAndM, tOrM, tNotM, andG, orG, Dn.andM, Dn.orM, ifG, ifM, boolOf, nmT, nilT, consT, tupT, setVG, fzV, olV, odV, parG, par3G', notD, negD, tupM, lstN, lenD, listI, cutN.listOf, wipeR, putBack, fzOf, intOf, iiG, iiB, iiC, List.map_cons, List.map_nil, List.cons_append, List.nil_append, List.append_nil, List.length_cons, List.length_nil, List.length_map, List.replicate_succ, List.replicate_zero, List.getElem?_cons_zero, List.getElem?_cons_succ, List.set_cons_zero, List.set_cons_succ, Option.bind_some, Option.bind_none, Option.map_some, Option.map_none, Bool.not_true, Bool.not_false, Bool.true_and, Bool.and_true, Bool.false_and, Bool.and_false, Bool.or_true, Bool.true_or, Bool.or_false, Bool.false_or, decide_true, decide_false, Nat.reduceSub, Nat.reduceAdd, Nat.reduceLeDiff, Nat.reduceEqDiff, Nat.zero_add, if_true, if_false, reduceIte, reduceCtorEq, Bool.false_eq_true, onD]
  · rw [e2]; simp only [init, retOf, seqG, setG, newG, iffG, rtG, drG, asgG, nxG, noG, liftP, liftT, nwM, tb, tbM, op1, op1M, op2, op2M, vG, rG, fG, cG, callG, aNil, aCons, aStar, tAndG, tOrG, tNotG, tAndM, tOrM, tNotM, andG, orG, Dn.andM, Dn.orM, ifG, ifM, boolOf, nmT, nilT, consT, tupT, setVG, fzV, olV, odV, parG, par3G', notD, negD, tupM, lstN, lenD, listI, cutN.listOf, wipeR, putBack, fzOf, intOf, iiG, iiB, iiC, List.map_cons, List.map_nil, List.cons_append, List.nil_append, List.append_nil, List.length_cons, List.length_nil, List.length_map, List.replicate_succ, List.replicate_zero, List.getElem?_cons_zero, List.getElem?_cons_succ, List.set_cons_zero, List.set_cons_succ, Option.bind_some, Option.bind_none, Option.map_some, Option.map_none, Bool.not_true, Bool.not_false, Bool.true_and, Bool.and_true, Bool.false_and, Bool.and_false, Bool.or_true, Bool.true_or, Bool.or_false, Bool.false_or, decide_true, decide_false, Nat.reduceSub, Nat.reduceAdd, Nat.reduceLeDiff, Nat.reduceEqDiff, Nat.zero_add, if_true, if_false, reduceIte, reduceCtorEq, Bool.false_eq_true, onD]
end K85
end
section
set_option Elab.async false
set_option linter.all false
set_option maxRecDepth 100000
set_option maxHeartbeats 4000000
namespace K85
open PySem L2 Dn Rk
/-! ### lists beside the empty one -/
def Flat0 (ds : List PyData) : Prop := ∀ d ∈ ds, d.canLay0 = true ∧ d.depth = 0
theorem shaped_flat : ∀ {ds : List PyData}, Flat0 ds → PyData.canLayAll0 ds = true ∧ PyData.depthAll ds = 0
  | [], _ => ⟨by simp [PyData.canLayAll0], by simp [PyData.depthAll]⟩
  | d :: ds, h => by
    obtain ⟨h1, h2⟩ := shaped_flat (ds := ds) fun x hx => h x (by simp [hx])
    obtain ⟨h3, h4⟩ := h d (by simp)
    exact ⟨by simp [PyData.canLayAll0, h1, h3], by simp [PyData.depthAll, h2, h4]⟩
theorem eq_nil {ds : List PyData} (h : Flat0 ds) : eqA (.list ds) (.list []) = some (.bool ds.isEmpty) := by
  obtain ⟨h1, h2⟩ := shaped_flat h
  have s : SeqAt.shaped (.list ds) = true := by unfold SeqAt.shaped; simp [PyData.canLay0, PyData.depth, h1, h2]
  have s0 : SeqAt.shaped (.list []) = true := by unfold SeqAt.shaped; simp [PyData.canLay0, PyData.depth, PyData.canLayAll0, PyData.depthAll]
  unfold eqA
  simp only [s, s0, Bool.and_true, if_true]
  congr 2
  cases ds with
  | nil => simp [PyData.eqv, PyData.eqvAll]
  | cons d ds => simp [PyData.eqv, PyData.eqvAll]
theorem ne_nil {ds : List PyData} (h : Flat0 ds) : neA (.list ds) (.list []) = some (.bool (!ds.isEmpty)) := by
  unfold neA; rw [eq_nil h]; rfl
theorem flat_nD (ns : List Nat) : Flat0 (ns.map nD) := fun d hd => by
  obtain ⟨k, _, rfl⟩ := List.mem_map.mp hd
  exact ⟨by simp [nD, PyData.canLay0], by simp [nD, PyData.depth]⟩
theorem strOk_f (f : Fact) : PyData.strOk (fT f) = true := by
  unfold PyData.strOk fT
  rw [Array.all_eq_true']
  intro x hx
  simp at hx
  obtain ⟨a, _, rfl⟩ := hx
  cases a <;> decide
theorem flat_fD (fs : List Fact) : Flat0 (fs.map fD) := fun d hd => by
  obtain ⟨k, _, rfl⟩ := List.mem_map.mp hd
  exact ⟨by simp [fD, PyData.canLay0, strOk_f], by simp [fD, PyData.depth]⟩
theorem eqn_n (ns : List Nat) : eqA (nsD ns) (.list []) = some (.bool ns.isEmpty) := by
  unfold nsD; rw [eq_nil (flat_nD ns)]; simp
theorem nen_n (ns : List Nat) : neA (nsD ns) (.list []) = some (.bool (!ns.isEmpty)) := by
  unfold nsD; rw [ne_nil (flat_nD ns)]; simp
theorem nen_f (fs : List Fact) : neA (fsD fs) (.list []) = some (.bool (!fs.isEmpty)) := by
  unfold fsD; rw [ne_nil (flat_fD fs)]; simp
/-! ### the silent fact -/
def dots (n : Nat) : Fact := List.replicate n .S
theorem reps_go (k : Nat) : ∀ a : Array Nat, (List.replicate k (sT .S).cps).foldl (· ++ ·) a = a ++ (List.replicate k (46 : Nat)).toArray := by
  induction k with
  | zero => intro a; simp
  | succ k ih =>
    intro a
    rw [List.replicate_succ, List.foldl_cons, ih]
    apply Array.ext'
    simp [sT, Sg.c, List.replicate_succ]
theorem mul_dots (n : Nat) : Txt.mul (sT .S) (n : Int) = fT (dots n) := by
  have e : fT (dots n) = ⟨(List.replicate n (46 : Nat)).toArray⟩ := by unfold fT dots; rw [List.map_replicate]; rfl
  rw [e]
  unfold Txt.mul
  by_cases h0 : (n : Int) < 1
  · rw [if_pos h0]
    have : n = 0 := by omega
    subst this; rfl
  · rw [if_neg h0]
    by_cases h1 : n = 1
    · subst h1; rfl
    · have h2 : ((n : Int) == 1 || (sT .S).length == 0) = false := by
        rw [Bool.or_eq_false_iff]
        refine ⟨?_, rfl⟩
        rw [beq_int, decide_eq_false_iff_not]; omega
      rw [if_neg (by rw [h2]; exact Bool.false_ne_true)]
      congr 1
      rw [Int.toNat_natCast, reps_go]
      simp
theorem mulS_dots (n : Nat) (hn : n ≤ 60) : mulS (sD .S) (nD n) = some (fD (dots n)) := by
  unfold mulS sD nD
  show (if (sT .S).length ≤ 1000 ∧ (0 : Int) ≤ n ∧ (n : Int) ≤ 1000 then _ else _) = _
  rw [if_pos ⟨by rw [sT_len]; omega, by omega, by omega⟩, mul_dots]
  rfl
/-! ### ascending indices -/
theorem cut1 (ds : List PyData) : cutD ds (some 1) none = ds.drop 1 := by
  unfold cutD HT.sIx
  cases ds with
  | nil => simp
  | cons d ds =>
    simp
theorem zip_n : ∀ (ns ms : List Nat), zipD (ns.map nD) (ms.map nD) = (ns.zip ms).map fun p => .tuple [nD p.1, nD p.2]
  | [], ms => by simp [zipD]
  | n :: ns, [] => by simp [zipD]
  | n :: ns, m :: ms => by
    simp only [List.map_cons, zipD, List.zip_cons_cons]
    rw [zip_n ns ms]
theorem asc_zip : ∀ {ns : List Nat}, ns.Pairwise (· < ·) → ∀ p ∈ ns.zip (ns.drop 1), p.1 < p.2
  | [], _, p, hp => by simp at hp
  | [a], _, p, hp => by simp at hp
  | a :: b :: r, h, p, hp => by
    rw [List.pairwise_cons] at h
    simp only [List.drop_succ_cons, List.drop_zero, List.zip_cons_cons] at hp
    rcases List.mem_cons.mp hp with rfl | hp
    · exact h.1 b (by simp)
    · exact asc_zip h.2 p (by simpa using hp)
theorem all_t {α : Type} (xs : List α) : allD (.list (xs.map fun _ => .bool true)) = some (.bool true) := by
  rw [all_b]; simp
theorem ints_ok (k m : Nat) (h : k < m) : runG 3 g_is_integer [nD k, .int 0, .int ((m : Int) - 1)] = some (.bool true) := by
  have := is_integer2 k 0 ((m : Int) - 1)
  unfold nD
  rw [this]
  have h1 : (0 : Int) ≤ k := by omega
  have h2 : (k : Int) ≤ m - 1 := by omega
  simp [h1, h2]
theorem are_indices (ns : List Nat) (m : Nat) (ha : ns.Pairwise (· < ·)) (hm : ∀ k ∈ ns, k < m) (hl : ns.length ≤ 1000) : runG 5 g_are_indices [nsD ns, nD m] = some (.bool true) := by
  rw [run_eq]
  unfold g_are_indices
  have h1 : ns.length ≤ 1000000 := by omega
  have hc := lc_all (vs := [4]) (td := nmT 4) (ge := e_are_indices_2) (ρ := [some (.fz (.list (ns.map nD))), some (.fz (nD m)), none, none, none]) nD (fun _ => .bool true) ns fun k hk => ⟨_, rfl, by
    unfold e_are_indices_2
    simp only [init, retOf, seqG, setG, newG, iffG, rtG, drG, asgG, nxG, noG, liftP, liftT, nwM, tb, tbM, op1, op1M, op2, op2M, vG, rG, fG, cG, callG, aNil, aCons, aStar, tAndG, tOrG, tNotG, tAndM, tOrM, tNotM, andG, orG, Dn.andM, Dn.orM, ifG, ifM, boolOf, nmT, nilT, consT, tupT, setVG, fzV, olV, odV, parG, par3G', notD, negD, tupM, lstN, lenD, listI, cutN.listOf, wipeR, putBack, fzOf, intOf, iiG, iiB, iiC, List.map_cons, List.map_nil, List.cons_append, List.nil_append, List.append_nil, List.length_cons, List.length_nil, List.length_map, List.replicate_succ, List.replicate_zero, List.getElem?_cons_zero, List.getElem?_cons_succ, List.set_cons_zero, List.set_cons_succ, Option.bind_some, Option.bind_none, Option.map_some, Option.map_none, Bool.not_true, Bool.not_false, Bool.true_and, Bool.and_true, Bool.false_and, Bool.and_false, Bool.or_true, Bool.true_or, Bool.or_false, Bool.false_or, decide_true, decide_false, Nat.reduceSub, Nat.reduceAdd, Nat.reduceLeDiff, Nat.reduceEqDiff, Nat.zero_add, if_true, if_false, reduceIte, reduceCtorEq, Bool.false_eq_true]
    have := ints_ok k m (hm k hk)
    simp only [nD] at this ⊢
    simp only [init, retOf, seqG, setG, newG, iffG, rtG, drG, asgG, nxG, noG, liftP, liftT, nwM, tb, tbM, op1, op1M, op2, op2M, vG, rG, fG, cG, callG, aNil, aCons, aStar, tAndG, tOrG, tNotG, tAndM, tOrM, tNotM, andG, orG, Dn.andM, Dn.orM, ifG, ifM, boolOf, nmT, nilT, consT, tupT, setVG, fzV, olV, odV, parG, par3G', notD, negD, tupM, lstN, lenD, listI, cutN.listOf, wipeR, putBack, fzOf, intOf, iiG, iiB, iiC, List.map_cons, List.map_nil, List.cons_append, List.nil_append, List.append_nil, List.length_cons, List.length_nil, List.length_map, List.replicate_succ, List.replicate_zero, List.getElem?_cons_zero, List.getElem?_cons_succ, List.set_cons_zero, List.set_cons_succ, Option.bind_some, Option.bind_none, Option.map_some, Option.map_none, Bool.not_true, Bool.not_false, Bool.true_and, Bool.and_true, Bool.false_and, Bool.and_false, Bool.or_true, Bool.true_or, Bool.or_false, Bool.false_or, decide_true, decide_false, Nat.reduceSub, Nat.reduceAdd, Nat.reduceLeDiff, Nat.reduceEqDiff, Nat.zero_add, if_true, if_false, reduceIte, reduceCtorEq, Bool.false_eq_true, this], rfl⟩
  have hd := lc_all (vs := [2, 3]) (td := tupT 2 (consT (nmT 2) (consT (nmT 3) nilT))) (ge := e_are_indices_1) (ρ := [some (.fz (.list (ns.map nD))), some (.fz (nD m)), none, none, none]) (fun p : Nat × Nat => .tuple [nD p.1, nD p.2]) (fun _ => .bool true) (ns.zip (ns.drop 1)) fun p hp => ⟨_, rfl, by
    unfold e_are_indices_1
    have h := asc_zip ha p hp
    have h' : (p.1 : Int) < p.2 := by omega
    simp only [init, retOf, seqG, setG, newG, iffG, rtG, drG, asgG, nxG, noG, liftP, liftT, nwM, tb, tbM, op1, op1M, op2, op2M, vG, rG, fG, cG, callG, aNil, aCons, aStar, tAndG, tOrG, tNotG, tAndM, tOrM, tNotM, andG, orG, Dn.andM, Dn.orM, ifG, ifM, boolOf, nmT, nilT, consT, tupT, setVG, fzV, olV, odV, parG, par3G', notD, negD, tupM, lstN, lenD, listI, cutN.listOf, wipeR, putBack, fzOf, intOf, iiG, iiB, iiC, List.map_cons, List.map_nil, List.cons_append, List.nil_append, List.append_nil, List.length_cons, List.length_nil, List.length_map, List.replicate_succ, List.replicate_zero, List.getElem?_cons_zero, List.getElem?_cons_succ, List.set_cons_zero, List.set_cons_succ, Option.bind_some, Option.bind_none, Option.map_some, Option.map_none, Bool.not_true, Bool.not_false, Bool.true_and, Bool.and_true, Bool.false_and, Bool.and_false, Bool.or_true, Bool.true_or, Bool.or_false, Bool.false_or, decide_true, decide_false, Nat.reduceSub, Nat.reduceAdd, Nat.reduceLeDiff, Nat.reduceEqDiff, Nat.zero_add, if_true, if_false, reduceIte, reduceCtorEq, Bool.false_eq_true, nD, h'], rfl⟩
  simp only [init, retOf, seqG, setG, newG, iffG, rtG, drG, asgG, nxG, noG, liftP, liftT, nwM, tb, tbM, op1, op1M, op2, op2M, vG, rG, fG, cG, callG, aNil, aCons, aStar, tAndG, tOrG, tNotG, tAndM, tOrM, tNotM, andG, orG, Dn.andM, Dn.orM, ifG, ifM, boolOf, nmT, nilT, consT, tupT, setVG, fzV, olV, odV, parG, par3G', notD, negD, tupM, lstN, lenD, listI, cutN.listOf, wipeR, putBack, fzOf, intOf, iiG, iiB, iiC, List.map_cons, List.map_nil, List.cons_append, List.nil_append, List.append_nil, List.length_cons, List.length_nil, List.length_map, List.replicate_succ, List.replicate_zero, List.getElem?_cons_zero, List.getElem?_cons_succ, List.set_cons_zero, List.set_cons_succ, Option.bind_some, Option.bind_none, Option.map_some, Option.map_none, Bool.not_true, Bool.not_false, Bool.true_and, Bool.and_true, Bool.false_and, Bool.and_false, Bool.or_true, Bool.true_or, Bool.or_false, Bool.false_or, decide_true, decide_false, Nat.reduceSub, Nat.reduceAdd, Nat.reduceLeDiff, Nat.reduceEqDiff, Nat.zero_add, if_true, if_false, reduceIte, reduceCtorEq, Bool.false_eq_true, nsD, isi_ll, lcN, h1]
  rw [hc]
  simp only [init, retOf, seqG, setG, newG, iffG, rtG, drG, asgG, nxG, noG, liftP, liftT, nwM, tb, tbM, op1, op1M, op2, op2M, vG, rG, fG, cG, callG, aNil, aCons, aStar, tAndG, tOrG, tNotG, tAndM, tOrM, tNotM, andG, orG, Dn.andM, Dn.orM, ifG, ifM, boolOf, nmT, nilT, consT, tupT, setVG, fzV, olV, odV, parG, par3G', notD, negD, tupM, lstN, lenD, listI, cutN.listOf, wipeR, putBack, fzOf, intOf, iiG, iiB, iiC, List.map_cons, List.map_nil, List.cons_append, List.nil_append, List.append_nil, List.length_cons, List.length_nil, List.length_map, List.replicate_succ, List.replicate_zero, List.getElem?_cons_zero, List.getElem?_cons_succ, List.set_cons_zero, List.set_cons_succ, Option.bind_some, Option.bind_none, Option.map_some, Option.map_none, Bool.not_true, Bool.not_false, Bool.true_and, Bool.and_true, Bool.false_and, Bool.and_false, Bool.or_true, Bool.true_or, Bool.or_false, Bool.false_or, decide_true, decide_false, Nat.reduceSub, Nat.reduceAdd, Nat.reduceLeDiff, Nat.reduceEqDiff, Nat.zero_add, if_true, if_false, reduceIte, reduceCtorEq, Bool.false_eq_true, all_t, zipI, cutN, oSome, oNone, cut1]
  rw [← List.map_drop, zip_n]
  have h2 : (ns.zip (ns.drop 1)).length ≤ 1000000 := by simp; omega
  simp only [init, retOf, seqG, setG, newG, iffG, rtG, drG, asgG, nxG, noG, liftP, liftT, nwM, tb, tbM, op1, op1M, op2, op2M, vG, rG, fG, cG, callG, aNil, aCons, aStar, tAndG, tOrG, tNotG, tAndM, tOrM, tNotM, andG, orG, Dn.andM, Dn.orM, ifG, ifM, boolOf, nmT, nilT, consT, tupT, setVG, fzV, olV, odV, parG, par3G', notD, negD, tupM, lstN, lenD, listI, cutN.listOf, wipeR, putBack, fzOf, intOf, iiG, iiB, iiC, List.map_cons, List.map_nil, List.cons_append, List.nil_append, List.append_nil, List.length_cons, List.length_nil, List.length_map, List.replicate_succ, List.replicate_zero, List.getElem?_cons_zero, List.getElem?_cons_succ, List.set_cons_zero, List.set_cons_succ, Option.bind_some, Option.bind_none, Option.map_some, Option.map_none, Bool.not_true, Bool.not_false, Bool.true_and, Bool.and_true, Bool.false_and, Bool.and_false, Bool.or_true, Bool.true_or, Bool.or_false, Bool.false_or, decide_true, decide_false, Nat.reduceSub, Nat.reduceAdd, Nat.reduceLeDiff, Nat.reduceEqDiff, Nat.zero_add, if_true, if_false, reduceIte, reduceCtorEq, Bool.false_eq_true, h2]
  rw [hd]
  simp only [init, retOf, seqG, setG, newG, iffG, rtG, drG, asgG, nxG, noG, liftP, liftT, nwM, tb, tbM, op1, op1M, op2, op2M, vG, rG, fG, cG, callG, aNil, aCons, aStar, tAndG, tOrG, tNotG, tAndM, tOrM, tNotM, andG, orG, Dn.andM, Dn.orM, ifG, ifM, boolOf, nmT, nilT, consT, tupT, setVG, fzV, olV, odV, parG, par3G', notD, negD, tupM, lstN, lenD, listI, cutN.listOf, wipeR, putBack, fzOf, intOf, iiG, iiB, iiC, List.map_cons, List.map_nil, List.cons_append, List.nil_append, List.append_nil, List.length_cons, List.length_nil, List.length_map, List.replicate_succ, List.replicate_zero, List.getElem?_cons_zero, List.getElem?_cons_succ, List.set_cons_zero, List.set_cons_succ, Option.bind_some, Option.bind_none, Option.map_some, Option.map_none, Bool.not_true, Bool.not_false, Bool.true_and, Bool.and_true, Bool.false_and, Bool.and_false, Bool.or_true, Bool.true_or, Bool.or_false, Bool.false_or, decide_true, decide_false, Nat.reduceSub, Nat.reduceAdd, Nat.reduceLeDiff, Nat.reduceEqDiff, Nat.zero_add, if_true, if_false, reduceIte, reduceCtorEq, Bool.false_eq_true, all_t]
end K85
end
section
set_option Elab.async false
set_option linter.all false
set_option maxRecDepth 100000
set_option maxHeartbeats 4000000
namespace K85
open PySem L2 Dn Rk
theorem isN_o (o : Option Nat) : isN (onD o) .none = some (.bool o.isNone) := by cases o <;> rfl
theorem isnN_o (o : Option Nat) : isnN (onD o) .none = some (.bool (!o.isNone)) := by cases o <;> rfl
def barB (n : Nat) (fs : List Fact) : Bool := !fs.isEmpty && (!decide (dots n ∈ fs) && (lack n fs).isNone)
theorem bars_all (n : Nat) (fs : List Fact) (hf : Fits n fs) (hn : n ≤ 60) (hl : fs.length ≤ 1000) : runG 2 g_bars_all [nD n, fsD fs] = some (.bool (barB n fs)) := by
  rw [run_eq]
  unfold g_bars_all
  have h0 : (0 : Nat) ≤ 1000000 := by omega
  simp only [init, retOf, seqG, setG, newG, iffG, rtG, drG, asgG, nxG, noG, liftP, liftT, nwM, tb, tbM, op1, op1M, op2, op2M, vG, rG, fG, cG, callG, aNil, aCons, aStar, tAndG, tOrG, tNotG, tAndM, tOrM, tNotM, andG, orG, Dn.andM, Dn.orM, ifG, ifM, boolOf, nmT, nilT, consT, tupT, setVG, fzV, olV, odV, parG, par3G', notD, negD, tupM, lstN, lenD, listI, cutN.listOf, wipeR, putBack, fzOf, intOf, iiG, iiB, iiC, List.map_cons, List.map_nil, List.cons_append, List.nil_append, List.append_nil, List.length_cons, List.length_nil, List.length_map, List.replicate_succ, List.replicate_zero, List.getElem?_cons_zero, List.getElem?_cons_succ, List.set_cons_zero, List.set_cons_succ, Option.bind_some, Option.bind_none, Option.map_some, Option.map_none, Bool.not_true, Bool.not_false, Bool.true_and, Bool.and_true, Bool.false_and, Bool.and_false, Bool.or_true, Bool.true_or, Bool.or_false, Bool.false_or, decide_true, decide_false, Nat.reduceSub, Nat.reduceAdd, Nat.reduceLeDiff, Nat.reduceEqDiff, Nat.zero_add, if_true, if_false, reduceIte, reduceCtorEq, Bool.false_eq_true, h0, nen_f, str_S, lit_S, mulS_dots n hn, notin_f, lacking_rule n fs hf hn hl, isN_o]
  unfold barB
  cases fs.isEmpty
  · by_cases h : dots n ∈ fs <;> simp [h, retOf]
  · rfl
def sel (fs : List Fact) (ns : List Nat) : List Fact := ns.map fun i => fs.getD i []
theorem getD_fs {fs : List Fact} {k : Nat} (h : k < fs.length) : fs.getD k [] = fs[k] := by
  rw [List.getD_eq_getElem?_getD, List.getElem?_eq_getElem h]; rfl
theorem sel_mem {fs : List Fact} {ns : List Nat} (hm : ∀ k ∈ ns, k < fs.length) {f : Fact} (h : f ∈ sel fs ns) : f ∈ fs := by
  unfold sel at h
  obtain ⟨k, hk, rfl⟩ := List.mem_map.mp h
  rw [getD_fs (hm k hk)]
  exact List.getElem_mem _
theorem sel_fits {n : Nat} {fs : List Fact} {ns : List Nat} (hf : Fits n fs) (hm : ∀ k ∈ ns, k < fs.length) : Fits n (sel fs ns) := fun f h => hf f (sel_mem hm h)
theorem ix_sel {fs : List Fact} {k : Nat} (h : k < fs.length) : ixD (fsD fs) (nD k) = some (fD (fs.getD k [])) := by rw [ix_fs fs k h, getD_fs h]
theorem map_sel (fs : List Fact) (ns : List Nat) : PyData.list (ns.map fun i => fD (fs.getD i [])) = fsD (sel fs ns) := by unfold fsD sel; rw [List.map_map]; rfl
theorem asc_len' : ∀ {ns : List Nat} {a m : Nat}, ns.Pairwise (· < ·) → (∀ k ∈ ns, a ≤ k ∧ k < m) → ns.length ≤ m - a
  | [], _, _, _, _ => Nat.zero_le _
  | b :: r, a, m, h, hm => by
    rw [List.pairwise_cons] at h
    have hb := hm b (by simp)
    have := asc_len' (ns := r) (a := b + 1) (m := m) h.2 fun k hk => ⟨h.1 k hk, (hm k (by simp [hk])).2⟩
    rw [List.length_cons]
    omega
theorem asc_len {ns : List Nat} {m : Nat} (ha : ns.Pairwise (· < ·)) (hm : ∀ k ∈ ns, k < m) : ns.length ≤ m := by
  have := asc_len' (a := 0) ha fun k hk => ⟨Nat.zero_le _, hm k hk⟩
  omega
theorem is_barring_set (n : Nat) (fs : List Fact) (ns : List Nat) (hf : Fits n fs) (h1 : 1 ≤ n) (hn : n ≤ 60) (hl : fs.length ≤ 200) (ha : ns.Pairwise (· < ·)) (hm : ∀ k ∈ ns, k < fs.length) :
    runG 4 g_is_barring_set [nD n, fsD fs, nsD ns] = some (.bool (barB n (sel fs ns))) := by
  rw [run_eq]
  unfold g_is_barring_set
  have hlen := asc_len ha hm
  have hz : ns.length ≤ 1000000 := by omega
  have hc := lc_all (vs := [3]) (td := nmT 3) (ge := e_is_barring_set_1) (ρ := [some (.fz (nD n)), some (.fz (fsD fs)), some (.fz (.list (ns.map nD))), none]) nD (fun i => fD (fs.getD i [])) ns fun k hk => ⟨_, rfl, by
    unfold e_is_barring_set_1
    simp only [init, retOf, seqG, setG, newG, iffG, rtG, drG, asgG, nxG, noG, liftP, liftT, nwM, tb, tbM, op1, op1M, op2, op2M, vG, rG, fG, cG, callG, aNil, aCons, aStar, tAndG, tOrG, tNotG, tAndM, tOrM, tNotM, andG, orG, Dn.andM, Dn.orM, ifG, ifM, boolOf, nmT, nilT, consT, tupT, setVG, fzV, olV, odV, parG, par3G', notD, negD, tupM, lstN, lenD, listI, cutN.listOf, wipeR, putBack, fzOf, intOf, iiG, iiB, iiC, List.map_cons, List.map_nil, List.cons_append, List.nil_append, List.append_nil, List.length_cons, List.length_nil, List.length_map, List.replicate_succ, List.replicate_zero, List.getElem?_cons_zero, List.getElem?_cons_succ, List.set_cons_zero, List.set_cons_succ, Option.bind_some, Option.bind_none, Option.map_some, Option.map_none, Bool.not_true, Bool.not_false, Bool.true_and, Bool.and_true, Bool.false_and, Bool.and_false, Bool.or_true, Bool.true_or, Bool.or_false, Bool.false_or, decide_true, decide_false, Nat.reduceSub, Nat.reduceAdd, Nat.reduceLeDiff, Nat.reduceEqDiff, Nat.zero_add, if_true, if_false, reduceIte, reduceCtorEq, Bool.false_eq_true]
    rw [ix_sel (hm k hk)]
    rfl, rfl⟩
  have ai := are_indices ns fs.length ha hm (by omega)
  simp only [nsD, nD] at ai
  have hb := bars_all n (sel fs ns) (sel_fits hf hm) hn (by unfold sel; simp; omega)
  have lf : lenD (fsD fs) = some (nD fs.length) := by show some (PyData.int ((fs.map fD).length : Nat)) = _; rw [List.length_map]; rfl
  simp only [Dn.andM, rtG, seqG, drG, callG, aCons, aNil, liftP, vG, init, Option.map_some, Option.bind_some, List.map_cons, List.map_nil, List.cons_append, List.nil_append, List.length_cons, List.length_nil, List.replicate_succ, List.replicate_zero, List.getElem?_cons_zero, List.getElem?_cons_succ, Nat.reduceSub, Nat.reduceAdd, if_true, need_both n fs hf h1 hn hl, op1, lf, nsD]
  simp only [init, retOf, seqG, setG, newG, iffG, rtG, drG, asgG, nxG, noG, liftP, liftT, nwM, tb, tbM, op1, op1M, op2, op2M, vG, rG, fG, cG, callG, aNil, aCons, aStar, tAndG, tOrG, tNotG, tAndM, tOrM, tNotM, andG, orG, Dn.andM, Dn.orM, ifG, ifM, boolOf, nmT, nilT, consT, tupT, setVG, fzV, olV, odV, parG, par3G', notD, negD, tupM, lstN, lenD, listI, cutN.listOf, wipeR, putBack, fzOf, intOf, iiG, iiB, iiC, List.map_cons, List.map_nil, List.cons_append, List.nil_append, List.append_nil, List.length_cons, List.length_nil, List.length_map, List.replicate_succ, List.replicate_zero, List.getElem?_cons_zero, List.getElem?_cons_succ, List.set_cons_zero, List.set_cons_succ, Option.bind_some, Option.bind_none, Option.map_some, Option.map_none, Bool.not_true, Bool.not_false, Bool.true_and, Bool.and_true, Bool.false_and, Bool.and_false, Bool.or_true, Bool.true_or, Bool.or_false, Bool.false_or, decide_true, decide_false, Nat.reduceSub, Nat.reduceAdd, Nat.reduceLeDiff, Nat.reduceEqDiff, Nat.zero_add, if_true, if_false, reduceIte, reduceCtorEq, Bool.false_eq_true, nD, ai] 
  simp only [nD] at hc hb
  have e : (ns.map nD) = ns.map fun (k : Nat) => PyData.int k := rfl
  rw [lcN_eq (ds := ns.map nD) (ρ1 := [some (.fz (.int n)), some (.fz (fsD fs)), some (.fz (.list (ns.map nD))), none]) rfl (by simp; omega)]
  simp only [init, retOf, seqG, setG, newG, iffG, rtG, drG, asgG, nxG, noG, liftP, liftT, nwM, tb, tbM, op1, op1M, op2, op2M, vG, rG, fG, cG, callG, aNil, aCons, aStar, tAndG, tOrG, tNotG, tAndM, tOrM, tNotM, andG, orG, Dn.andM, Dn.orM, ifG, ifM, boolOf, nmT, nilT, consT, tupT, setVG, fzV, olV, odV, parG, par3G', notD, negD, tupM, lstN, lenD, listI, cutN.listOf, wipeR, putBack, fzOf, intOf, iiG, iiB, iiC, List.map_cons, List.map_nil, List.cons_append, List.nil_append, List.append_nil, List.length_cons, List.length_nil, List.length_map, List.replicate_succ, List.replicate_zero, List.getElem?_cons_zero, List.getElem?_cons_succ, List.set_cons_zero, List.set_cons_succ, Option.bind_some, Option.bind_none, Option.map_some, Option.map_none, Bool.not_true, Bool.not_false, Bool.true_and, Bool.and_true, Bool.false_and, Bool.and_false, Bool.or_true, Bool.true_or, Bool.or_false, Bool.false_or, decide_true, decide_false, Nat.reduceSub, Nat.reduceAdd, Nat.reduceLeDiff, Nat.reduceEqDiff, Nat.zero_add, if_true, if_false, reduceIte, reduceCtorEq, Bool.false_eq_true]
  rw [hc]
  simp only [init, retOf, seqG, setG, newG, iffG, rtG, drG, asgG, nxG, noG, liftP, liftT, nwM, tb, tbM, op1, op1M, op2, op2M, vG, rG, fG, cG, callG, aNil, aCons, aStar, tAndG, tOrG, tNotG, tAndM, tOrM, tNotM, andG, orG, Dn.andM, Dn.orM, ifG, ifM, boolOf, nmT, nilT, consT, tupT, setVG, fzV, olV, odV, parG, par3G', notD, negD, tupM, lstN, lenD, listI, cutN.listOf, wipeR, putBack, fzOf, intOf, iiG, iiB, iiC, List.map_cons, List.map_nil, List.cons_append, List.nil_append, List.append_nil, List.length_cons, List.length_nil, List.length_map, List.replicate_succ, List.replicate_zero, List.getElem?_cons_zero, List.getElem?_cons_succ, List.set_cons_zero, List.set_cons_succ, Option.bind_some, Option.bind_none, Option.map_some, Option.map_none, Bool.not_true, Bool.not_false, Bool.true_and, Bool.and_true, Bool.false_and, Bool.and_false, Bool.or_true, Bool.true_or, Bool.or_false, Bool.false_or, decide_true, decide_false, Nat.reduceSub, Nat.reduceAdd, Nat.reduceLeDiff, Nat.reduceEqDiff, Nat.zero_add, if_true, if_false, reduceIte, reduceCtorEq, Bool.false_eq_true, map_sel, hb]
theorem laid_over (n : Nat) (fs : List Fact) (hf : Fits n fs) (h1 : 1 ≤ n) (hn : n ≤ 60) (hl : fs.length ≤ 200) : runG 2 g_laid_over [nD n, fsD fs] = some (fD (over n fs)) := by
  rw [run_eq]
  unfold g_laid_over
  simp only [init, retOf, seqG, setG, newG, iffG, rtG, drG, asgG, nxG, noG, liftP, liftT, nwM, tb, tbM, op1, op1M, op2, op2M, vG, rG, fG, cG, callG, aNil, aCons, aStar, tAndG, tOrG, tNotG, tAndM, tOrM, tNotM, andG, orG, Dn.andM, Dn.orM, ifG, ifM, boolOf, nmT, nilT, consT, tupT, setVG, fzV, olV, odV, parG, par3G', notD, negD, tupM, lstN, lenD, listI, cutN.listOf, wipeR, putBack, fzOf, intOf, iiG, iiB, iiC, List.map_cons, List.map_nil, List.cons_append, List.nil_append, List.append_nil, List.length_cons, List.length_nil, List.length_map, List.replicate_succ, List.replicate_zero, List.getElem?_cons_zero, List.getElem?_cons_succ, List.set_cons_zero, List.set_cons_succ, Option.bind_some, Option.bind_none, Option.map_some, Option.map_none, Bool.not_true, Bool.not_false, Bool.true_and, Bool.and_true, Bool.false_and, Bool.and_false, Bool.or_true, Bool.true_or, Bool.or_false, Bool.false_or, decide_true, decide_false, Nat.reduceSub, Nat.reduceAdd, Nat.reduceLeDiff, Nat.reduceEqDiff, Nat.zero_add, if_true, if_false, reduceIte, reduceCtorEq, Bool.false_eq_true, need_both n fs hf h1 hn hl, over_all n fs hf hn (by omega)]
/-- what is_paper says -/
def paperB (n : Nat) (fs : List Fact) (f : Fact) (ns : List Nat) : Bool :=
  (rw_ f .L).isEmpty || (!ns.isEmpty && ((rw_ (over n (sel fs ns)) .W).all fun k => decide (f.getD k .S = .W)) &&
    ((rw_ f .L).all (fun k => decide (k ∈ rw_ (over n (sel fs ns)) .L)) || (!(rw_ (over n (sel fs ns)) .L).isEmpty && (rw_ (over n (sel fs ns)) .W).isEmpty)))
theorem rw_lt {f : Fact} {s : Sg} : (rw_ f s).length ≤ f.length := by
  unfold rw_
  exact Nat.le_trans (List.length_filter_le _ _) (by simp)
theorem is_paper (n : Nat) (fs : List Fact) (f : Fact) (ns : List Nat) (hf : Fits n fs) (hff : f.length = n) (h1 : 1 ≤ n) (hn : n ≤ 60) (hl : fs.length ≤ 200) (ha : ns.Pairwise (· < ·)) (hm : ∀ k ∈ ns, k < fs.length) :
    runG 10 g_is_paper [nD n, fsD fs, fD f, nsD ns] = some (.bool (paperB n fs f ns)) := by
  rw [run_eq]
  unfold g_is_paper
  have hlen := asc_len ha hm
  have hz : ns.length ≤ 1000000 := by omega
  have ai := are_indices ns fs.length ha hm (by omega)
  have lf : lenD (fsD fs) = some (nD fs.length) := by show some (PyData.int ((fs.map fD).length : Nat)) = _; rw [List.length_map]; rfl
  have ov := over_all n (sel fs ns) (sel_fits hf hm) hn (by unfold sel; simp; omega)
  have ol := over_len n (sel fs ns)
  generalize hov : over n (sel fs ns) = o at ov ol
  have w1 := rules_with f .L (by omega)
  have w2 := rules_with o .W (by omega)
  have w3 := rules_with o .L (by omega)
  have hc := fun (x4 x5 x6 x7 x9 : Option Sl) => lc_all (vs := [8]) (td := nmT 8) (ge := e_is_paper_3) (ρ := [some (.fz (nD n)), some (.fz (fsD fs)), some (.fz (fD f)), some (.fz (nsD ns)), x4, x5, x6, x7, none, x9]) nD (fun i => fD (fs.getD i [])) ns fun k hk => ⟨_, rfl, by
    unfold e_is_paper_3
    simp only [init, retOf, seqG, setG, newG, iffG, rtG, drG, asgG, nxG, noG, liftP, liftT, nwM, tb, tbM, op1, op1M, op2, op2M, vG, rG, fG, cG, callG, aNil, aCons, aStar, tAndG, tOrG, tNotG, tAndM, tOrM, tNotM, andG, orG, Dn.andM, Dn.orM, ifG, ifM, boolOf, nmT, nilT, consT, tupT, setVG, fzV, olV, odV, parG, par3G', notD, negD, tupM, lstN, lenD, listI, cutN.listOf, wipeR, putBack, fzOf, intOf, iiG, iiB, iiC, List.map_cons, List.map_nil, List.cons_append, List.nil_append, List.append_nil, List.length_cons, List.length_nil, List.length_map, List.replicate_succ, List.replicate_zero, List.getElem?_cons_zero, List.getElem?_cons_succ, List.set_cons_zero, List.set_cons_succ, Option.bind_some, Option.bind_none, Option.map_some, Option.map_none, Bool.not_true, Bool.not_false, Bool.true_and, Bool.and_true, Bool.false_and, Bool.and_false, Bool.or_true, Bool.true_or, Bool.or_false, Bool.false_or, decide_true, decide_false, Nat.reduceSub, Nat.reduceAdd, Nat.reduceLeDiff, Nat.reduceEqDiff, Nat.zero_add, if_true, if_false, reduceIte, reduceCtorEq, Bool.false_eq_true]
    rw [ix_sel (hm k hk)]
    rfl, rfl⟩
  have hc1 := fun (x4 x5 x6 x8 : Option Sl) (ks : List Nat) (qs : List Nat) => lc_all (vs := [9]) (td := nmT 9) (ge := e_is_paper_1) (ρ := [some (.fz (nD n)), some (.fz (fsD fs)), some (.fz (fD f)), some (.fz (nsD ns)), x4, x5, x6, some (.fz (nsD qs)), x8, none]) nD (fun k => .bool (decide (k ∈ qs))) ks fun k hk => ⟨_, rfl, by
    unfold e_is_paper_1
    simp only [init, retOf, seqG, setG, newG, iffG, rtG, drG, asgG, nxG, noG, liftP, liftT, nwM, tb, tbM, op1, op1M, op2, op2M, vG, rG, fG, cG, callG, aNil, aCons, aStar, tAndG, tOrG, tNotG, tAndM, tOrM, tNotM, andG, orG, Dn.andM, Dn.orM, ifG, ifM, boolOf, nmT, nilT, consT, tupT, setVG, fzV, olV, odV, parG, par3G', notD, negD, tupM, lstN, lenD, listI, cutN.listOf, wipeR, putBack, fzOf, intOf, iiG, iiB, iiC, List.map_cons, List.map_nil, List.cons_append, List.nil_append, List.append_nil, List.length_cons, List.length_nil, List.length_map, List.replicate_succ, List.replicate_zero, List.getElem?_cons_zero, List.getElem?_cons_succ, List.set_cons_zero, List.set_cons_succ, Option.bind_some, Option.bind_none, Option.map_some, Option.map_none, Bool.not_true, Bool.not_false, Bool.true_and, Bool.and_true, Bool.false_and, Bool.and_false, Bool.or_true, Bool.true_or, Bool.or_false, Bool.false_or, decide_true, decide_false, Nat.reduceSub, Nat.reduceAdd, Nat.reduceLeDiff, Nat.reduceEqDiff, Nat.zero_add, if_true, if_false, reduceIte, reduceCtorEq, Bool.false_eq_true, in_n], rfl⟩
  have hc2 := fun (x4 x5 x6 x7 x8 : Option Sl) (ks : List Nat) (hks : ∀ k ∈ ks, k < n) => lc_all (vs := [9]) (td := nmT 9) (ge := e_is_paper_2) (ρ := [some (.fz (nD n)), some (.fz (fsD fs)), some (.fz (fD f)), some (.fz (nsD ns)), x4, x5, x6, x7, x8, none]) nD (fun k => .bool (decide (f.getD k .S = .W))) ks fun k hk => ⟨_, rfl, by
    have hk' : k < f.length := by rw [hff]; exact hks k hk
    unfold e_is_paper_2
    simp only [init, retOf, seqG, setG, newG, iffG, rtG, drG, asgG, nxG, noG, liftP, liftT, nwM, tb, tbM, op1, op1M, op2, op2M, vG, rG, fG, cG, callG, aNil, aCons, aStar, tAndG, tOrG, tNotG, tAndM, tOrM, tNotM, andG, orG, Dn.andM, Dn.orM, ifG, ifM, boolOf, nmT, nilT, consT, tupT, setVG, fzV, olV, odV, parG, par3G', notD, negD, tupM, lstN, lenD, listI, cutN.listOf, wipeR, putBack, fzOf, intOf, iiG, iiB, iiC, List.map_cons, List.map_nil, List.cons_append, List.nil_append, List.append_nil, List.length_cons, List.length_nil, List.length_map, List.replicate_succ, List.replicate_zero, List.getElem?_cons_zero, List.getElem?_cons_succ, List.set_cons_zero, List.set_cons_succ, Option.bind_some, Option.bind_none, Option.map_some, Option.map_none, Bool.not_true, Bool.not_false, Bool.true_and, Bool.and_true, Bool.false_and, Bool.and_false, Bool.or_true, Bool.true_or, Bool.or_false, Bool.false_or, decide_true, decide_false, Nat.reduceSub, Nat.reduceAdd, Nat.reduceLeDiff, Nat.reduceEqDiff, Nat.zero_add, if_true, if_false, reduceIte, reduceCtorEq, Bool.false_eq_true, str_W, lit_W]
    rw [ix_f f k hk' (by omega), ← getD_f hk']
    simp only [init, retOf, seqG, setG, newG, iffG, rtG, drG, asgG, nxG, noG, liftP, liftT, nwM, tb, tbM, op1, op1M, op2, op2M, vG, rG, fG, cG, callG, aNil, aCons, aStar, tAndG, tOrG, tNotG, tAndM, tOrM, tNotM, andG, orG, Dn.andM, Dn.orM, ifG, ifM, boolOf, nmT, nilT, consT, tupT, setVG, fzV, olV, odV, parG, par3G', notD, negD, tupM, lstN, lenD, listI, cutN.listOf, wipeR, putBack, fzOf, intOf, iiG, iiB, iiC, List.map_cons, List.map_nil, List.cons_append, List.nil_append, List.append_nil, List.length_cons, List.length_nil, List.length_map, List.replicate_succ, List.replicate_zero, List.getElem?_cons_zero, List.getElem?_cons_succ, List.set_cons_zero, List.set_cons_succ, Option.bind_some, Option.bind_none, Option.map_some, Option.map_none, Bool.not_true, Bool.not_false, Bool.true_and, Bool.and_true, Bool.false_and, Bool.and_false, Bool.or_true, Bool.true_or, Bool.or_false, Bool.false_or, decide_true, decide_false, Nat.reduceSub, Nat.reduceAdd, Nat.reduceLeDiff, Nat.reduceEqDiff, Nat.zero_add, if_true, if_false, reduceIte, reduceCtorEq, Bool.false_eq_true, eq_s], rfl⟩
  have h0 : (0 : Nat) ≤ 1000000 := by omega
  have l3 : ∀ s, ∀ k ∈ rw_ o s, k < n := fun s k hk => by have := (rw_mem.mp hk).1; omega
  have z1 : ∀ s g, List.length g = n → (rw_ g s).length ≤ 1000000 := fun s g hg => by have := rw_lt (f := g) (s := s); omega
  simp only [seqG, drG, nwM, callG, aCons, aNil, liftP, vG, init, Option.map_some, Option.bind_some, List.map_cons, List.map_nil, List.cons_append, List.nil_append, List.length_cons, List.length_nil, List.replicate_succ, List.replicate_zero, List.getElem?_cons_zero, List.getElem?_cons_succ, Nat.reduceSub, Nat.reduceAdd, if_true, need_both n fs hf h1 hn hl, need_fact n f hff hn, op1, lf, ai, tbM, tNotM, iffG, boolOf, Bool.not_true, Bool.false_eq_true, if_false, nxG, setG, cG, str_L, str_W, lit_L, lit_W, w1, List.set_cons_zero, List.set_cons_succ]
  rw [lcN_eq (ds := ns.map nD) (ρ1 := [some (.fz (nD n)), some (.fz (fsD fs)), some (.fz (fD f)), some (.fz (nsD ns)), some (.fz (nsD (rw_ f .L))), none, none, none, none, none]) rfl (by simp; omega)]
  simp only [wipeR, List.set_cons_zero, List.set_cons_succ]
  rw [hc]
  simp only [init, retOf, seqG, setG, newG, iffG, rtG, drG, asgG, nxG, noG, liftP, liftT, nwM, tb, tbM, op1, op1M, op2, op2M, vG, rG, fG, cG, callG, aNil, aCons, aStar, tAndG, tOrG, tNotG, tAndM, tOrM, tNotM, andG, orG, Dn.andM, Dn.orM, ifG, ifM, boolOf, nmT, nilT, consT, tupT, setVG, fzV, olV, odV, parG, par3G', notD, negD, tupM, lstN, lenD, listI, cutN.listOf, wipeR, putBack, fzOf, intOf, iiG, iiB, iiC, List.map_cons, List.map_nil, List.cons_append, List.nil_append, List.append_nil, List.length_cons, List.length_nil, List.length_map, List.replicate_succ, List.replicate_zero, List.getElem?_cons_zero, List.getElem?_cons_succ, List.set_cons_zero, List.set_cons_succ, Option.bind_some, Option.bind_none, Option.map_some, Option.map_none, Bool.not_true, Bool.not_false, Bool.true_and, Bool.and_true, Bool.false_and, Bool.and_false, Bool.or_true, Bool.true_or, Bool.or_false, Bool.false_or, decide_true, decide_false, Nat.reduceSub, Nat.reduceAdd, Nat.reduceLeDiff, Nat.reduceEqDiff, Nat.zero_add, if_true, if_false, reduceIte, reduceCtorEq, Bool.false_eq_true, map_sel, ov, w2, w3, h0, eqn_n, str_W, str_L, lit_W, lit_L]
  unfold paperB
  rw [hov]
  cases hL : (rw_ f .L).isEmpty with
  | true => simp only [init, retOf, seqG, setG, newG, iffG, rtG, drG, asgG, nxG, noG, liftP, liftT, nwM, tb, tbM, op1, op1M, op2, op2M, vG, rG, fG, cG, callG, aNil, aCons, aStar, tAndG, tOrG, tNotG, tAndM, tOrM, tNotM, andG, orG, Dn.andM, Dn.orM, ifG, ifM, boolOf, nmT, nilT, consT, tupT, setVG, fzV, olV, odV, parG, par3G', notD, negD, tupM, lstN, lenD, listI, cutN.listOf, wipeR, putBack, fzOf, intOf, iiG, iiB, iiC, List.map_cons, List.map_nil, List.cons_append, List.nil_append, List.append_nil, List.length_cons, List.length_nil, List.length_map, List.replicate_succ, List.replicate_zero, List.getElem?_cons_zero, List.getElem?_cons_succ, List.set_cons_zero, List.set_cons_succ, Option.bind_some, Option.bind_none, Option.map_some, Option.map_none, Bool.not_true, Bool.not_false, Bool.true_and, Bool.and_true, Bool.false_and, Bool.and_false, Bool.or_true, Bool.true_or, Bool.or_false, Bool.false_or, decide_true, decide_false, Nat.reduceSub, Nat.reduceAdd, Nat.reduceLeDiff, Nat.reduceEqDiff, Nat.zero_add, if_true, if_false, reduceIte, reduceCtorEq, Bool.false_eq_true]
  | false =>
    simp only [init, retOf, seqG, setG, newG, iffG, rtG, drG, asgG, nxG, noG, liftP, liftT, nwM, tb, tbM, op1, op1M, op2, op2M, vG, rG, fG, cG, callG, aNil, aCons, aStar, tAndG, tOrG, tNotG, tAndM, tOrM, tNotM, andG, orG, Dn.andM, Dn.orM, ifG, ifM, boolOf, nmT, nilT, consT, tupT, setVG, fzV, olV, odV, parG, par3G', notD, negD, tupM, lstN, lenD, listI, cutN.listOf, wipeR, putBack, fzOf, intOf, iiG, iiB, iiC, List.map_cons, List.map_nil, List.cons_append, List.nil_append, List.append_nil, List.length_cons, List.length_nil, List.length_map, List.replicate_succ, List.replicate_zero, List.getElem?_cons_zero, List.getElem?_cons_succ, List.set_cons_zero, List.set_cons_succ, Option.bind_some, Option.bind_none, Option.map_some, Option.map_none, Bool.not_true, Bool.not_false, Bool.true_and, Bool.and_true, Bool.false_and, Bool.and_false, Bool.or_true, Bool.true_or, Bool.or_false, Bool.false_or, decide_true, decide_false, Nat.reduceSub, Nat.reduceAdd, Nat.reduceLeDiff, Nat.reduceEqDiff, Nat.zero_add, if_true, if_false, reduceIte, reduceCtorEq, Bool.false_eq_true]
    cases hE : ns.isEmpty with
    | true => simp only [init, retOf, seqG, setG, newG, iffG, rtG, drG, asgG, nxG, noG, liftP, liftT, nwM, tb, tbM, op1, op1M, op2, op2M, vG, rG, fG, cG, callG, aNil, aCons, aStar, tAndG, tOrG, tNotG, tAndM, tOrM, tNotM, andG, orG, Dn.andM, Dn.orM, ifG, ifM, boolOf, nmT, nilT, consT, tupT, setVG, fzV, olV, odV, parG, par3G', notD, negD, tupM, lstN, lenD, listI, cutN.listOf, wipeR, putBack, fzOf, intOf, iiG, iiB, iiC, List.map_cons, List.map_nil, List.cons_append, List.nil_append, List.append_nil, List.length_cons, List.length_nil, List.length_map, List.replicate_succ, List.replicate_zero, List.getElem?_cons_zero, List.getElem?_cons_succ, List.set_cons_zero, List.set_cons_succ, Option.bind_some, Option.bind_none, Option.map_some, Option.map_none, Bool.not_true, Bool.not_false, Bool.true_and, Bool.and_true, Bool.false_and, Bool.and_false, Bool.or_true, Bool.true_or, Bool.or_false, Bool.false_or, decide_true, decide_false, Nat.reduceSub, Nat.reduceAdd, Nat.reduceLeDiff, Nat.reduceEqDiff, Nat.zero_add, if_true, if_false, reduceIte, reduceCtorEq, Bool.false_eq_true, h0, eqn_n, hE]
    | false =>
      simp only [init, retOf, seqG, setG, newG, iffG, rtG, drG, asgG, nxG, noG, liftP, liftT, nwM, tb, tbM, op1, op1M, op2, op2M, vG, rG, fG, cG, callG, aNil, aCons, aStar, tAndG, tOrG, tNotG, tAndM, tOrM, tNotM, andG, orG, Dn.andM, Dn.orM, ifG, ifM, boolOf, nmT, nilT, consT, tupT, setVG, fzV, olV, odV, parG, par3G', notD, negD, tupM, lstN, lenD, listI, cutN.listOf, wipeR, putBack, fzOf, intOf, iiG, iiB, iiC, List.map_cons, List.map_nil, List.cons_append, List.nil_append, List.append_nil, List.length_cons, List.length_nil, List.length_map, List.replicate_succ, List.replicate_zero, List.getElem?_cons_zero, List.getElem?_cons_succ, List.set_cons_zero, List.set_cons_succ, Option.bind_some, Option.bind_none, Option.map_some, Option.map_none, Bool.not_true, Bool.not_false, Bool.true_and, Bool.and_true, Bool.false_and, Bool.and_false, Bool.or_true, Bool.true_or, Bool.or_false, Bool.false_or, decide_true, decide_false, Nat.reduceSub, Nat.reduceAdd, Nat.reduceLeDiff, Nat.reduceEqDiff, Nat.zero_add, if_true, if_false, reduceIte, reduceCtorEq, Bool.false_eq_true, h0, eqn_n, hE]
      rw [lcN_eq (ds := (rw_ o .W).map nD) rfl (by rw [List.length_map]; exact z1 _ _ ol)]
      simp only [wipeR, List.set_cons_zero, List.set_cons_succ]
      rw [hc2 _ _ _ _ _ _ (l3 .W)]
      simp only [init, retOf, seqG, setG, newG, iffG, rtG, drG, asgG, nxG, noG, liftP, liftT, nwM, tb, tbM, op1, op1M, op2, op2M, vG, rG, fG, cG, callG, aNil, aCons, aStar, tAndG, tOrG, tNotG, tAndM, tOrM, tNotM, andG, orG, Dn.andM, Dn.orM, ifG, ifM, boolOf, nmT, nilT, consT, tupT, setVG, fzV, olV, odV, parG, par3G', notD, negD, tupM, lstN, lenD, listI, cutN.listOf, wipeR, putBack, fzOf, intOf, iiG, iiB, iiC, List.map_cons, List.map_nil, List.cons_append, List.nil_append, List.append_nil, List.length_cons, List.length_nil, List.length_map, List.replicate_succ, List.replicate_zero, List.getElem?_cons_zero, List.getElem?_cons_succ, List.set_cons_zero, List.set_cons_succ, Option.bind_some, Option.bind_none, Option.map_some, Option.map_none, Bool.not_true, Bool.not_false, Bool.true_and, Bool.and_true, Bool.false_and, Bool.and_false, Bool.or_true, Bool.true_or, Bool.or_false, Bool.false_or, decide_true, decide_false, Nat.reduceSub, Nat.reduceAdd, Nat.reduceLeDiff, Nat.reduceEqDiff, Nat.zero_add, if_true, if_false, reduceIte, reduceCtorEq, Bool.false_eq_true, all_b, h0, eqn_n, nen_n, hL, hE]
      cases hA : (rw_ o .W).all fun k => decide (f.getD k .S = .W) with
      | false => simp only [init, retOf, seqG, setG, newG, iffG, rtG, drG, asgG, nxG, noG, liftP, liftT, nwM, tb, tbM, op1, op1M, op2, op2M, vG, rG, fG, cG, callG, aNil, aCons, aStar, tAndG, tOrG, tNotG, tAndM, tOrM, tNotM, andG, orG, Dn.andM, Dn.orM, ifG, ifM, boolOf, nmT, nilT, consT, tupT, setVG, fzV, olV, odV, parG, par3G', notD, negD, tupM, lstN, lenD, listI, cutN.listOf, wipeR, putBack, fzOf, intOf, iiG, iiB, iiC, List.map_cons, List.map_nil, List.cons_append, List.nil_append, List.append_nil, List.length_cons, List.length_nil, List.length_map, List.replicate_succ, List.replicate_zero, List.getElem?_cons_zero, List.getElem?_cons_succ, List.set_cons_zero, List.set_cons_succ, Option.bind_some, Option.bind_none, Option.map_some, Option.map_none, Bool.not_true, Bool.not_false, Bool.true_and, Bool.and_true, Bool.false_and, Bool.and_false, Bool.or_true, Bool.true_or, Bool.or_false, Bool.false_or, decide_true, decide_false, Nat.reduceSub, Nat.reduceAdd, Nat.reduceLeDiff, Nat.reduceEqDiff, Nat.zero_add, if_true, if_false, reduceIte, reduceCtorEq, Bool.false_eq_true]
      | true =>
        simp only [init, retOf, seqG, setG, newG, iffG, rtG, drG, asgG, nxG, noG, liftP, liftT, nwM, tb, tbM, op1, op1M, op2, op2M, vG, rG, fG, cG, callG, aNil, aCons, aStar, tAndG, tOrG, tNotG, tAndM, tOrM, tNotM, andG, orG, Dn.andM, Dn.orM, ifG, ifM, boolOf, nmT, nilT, consT, tupT, setVG, fzV, olV, odV, parG, par3G', notD, negD, tupM, lstN, lenD, listI, cutN.listOf, wipeR, putBack, fzOf, intOf, iiG, iiB, iiC, List.map_cons, List.map_nil, List.cons_append, List.nil_append, List.append_nil, List.length_cons, List.length_nil, List.length_map, List.replicate_succ, List.replicate_zero, List.getElem?_cons_zero, List.getElem?_cons_succ, List.set_cons_zero, List.set_cons_succ, Option.bind_some, Option.bind_none, Option.map_some, Option.map_none, Bool.not_true, Bool.not_false, Bool.true_and, Bool.and_true, Bool.false_and, Bool.and_false, Bool.or_true, Bool.true_or, Bool.or_false, Bool.false_or, decide_true, decide_false, Nat.reduceSub, Nat.reduceAdd, Nat.reduceLeDiff, Nat.reduceEqDiff, Nat.zero_add, if_true, if_false, reduceIte, reduceCtorEq, Bool.false_eq_true]
        rw [lcN_eq (ds := (rw_ f .L).map nD) rfl (by rw [List.length_map]; exact z1 _ _ hff)]
        simp only [wipeR, List.set_cons_zero, List.set_cons_succ]
        rw [hc1]
        simp only [init, retOf, seqG, setG, newG, iffG, rtG, drG, asgG, nxG, noG, liftP, liftT, nwM, tb, tbM, op1, op1M, op2, op2M, vG, rG, fG, cG, callG, aNil, aCons, aStar, tAndG, tOrG, tNotG, tAndM, tOrM, tNotM, andG, orG, Dn.andM, Dn.orM, ifG, ifM, boolOf, nmT, nilT, consT, tupT, setVG, fzV, olV, odV, parG, par3G', notD, negD, tupM, lstN, lenD, listI, cutN.listOf, wipeR, putBack, fzOf, intOf, iiG, iiB, iiC, List.map_cons, List.map_nil, List.cons_append, List.nil_append, List.append_nil, List.length_cons, List.length_nil, List.length_map, List.replicate_succ, List.replicate_zero, List.getElem?_cons_zero, List.getElem?_cons_succ, List.set_cons_zero, List.set_cons_succ, Option.bind_some, Option.bind_none, Option.map_some, Option.map_none, Bool.not_true, Bool.not_false, Bool.true_and, Bool.and_true, Bool.false_and, Bool.and_false, Bool.or_true, Bool.true_or, Bool.or_false, Bool.false_or, decide_true, decide_false, Nat.reduceSub, Nat.reduceAdd, Nat.reduceLeDiff, Nat.reduceEqDiff, Nat.zero_add, if_true, if_false, reduceIte, reduceCtorEq, Bool.false_eq_true, all_b, h0, eqn_n, nen_n, hL, hE]
        cases hB : (rw_ f .L).all fun k => decide (k ∈ rw_ o .L) with
        | true => simp only [init, retOf, seqG, setG, newG, iffG, rtG, drG, asgG, nxG, noG, liftP, liftT, nwM, tb, tbM, op1, op1M, op2, op2M, vG, rG, fG, cG, callG, aNil, aCons, aStar, tAndG, tOrG, tNotG, tAndM, tOrM, tNotM, andG, orG, Dn.andM, Dn.orM, ifG, ifM, boolOf, nmT, nilT, consT, tupT, setVG, fzV, olV, odV, parG, par3G', notD, negD, tupM, lstN, lenD, listI, cutN.listOf, wipeR, putBack, fzOf, intOf, iiG, iiB, iiC, List.map_cons, List.map_nil, List.cons_append, List.nil_append, List.append_nil, List.length_cons, List.length_nil, List.length_map, List.replicate_succ, List.replicate_zero, List.getElem?_cons_zero, List.getElem?_cons_succ, List.set_cons_zero, List.set_cons_succ, Option.bind_some, Option.bind_none, Option.map_some, Option.map_none, Bool.not_true, Bool.not_false, Bool.true_and, Bool.and_true, Bool.false_and, Bool.and_false, Bool.or_true, Bool.true_or, Bool.or_false, Bool.false_or, decide_true, decide_false, Nat.reduceSub, Nat.reduceAdd, Nat.reduceLeDiff, Nat.reduceEqDiff, Nat.zero_add, if_true, if_false, reduceIte, reduceCtorEq, Bool.false_eq_true]
        | false =>
          simp only [init, retOf, seqG, setG, newG, iffG, rtG, drG, asgG, nxG, noG, liftP, liftT, nwM, tb, tbM, op1, op1M, op2, op2M, vG, rG, fG, cG, callG, aNil, aCons, aStar, tAndG, tOrG, tNotG, tAndM, tOrM, tNotM, andG, orG, Dn.andM, Dn.orM, ifG, ifM, boolOf, nmT, nilT, consT, tupT, setVG, fzV, olV, odV, parG, par3G', notD, negD, tupM, lstN, lenD, listI, cutN.listOf, wipeR, putBack, fzOf, intOf, iiG, iiB, iiC, List.map_cons, List.map_nil, List.cons_append, List.nil_append, List.append_nil, List.length_cons, List.length_nil, List.length_map, List.replicate_succ, List.replicate_zero, List.getElem?_cons_zero, List.getElem?_cons_succ, List.set_cons_zero, List.set_cons_succ, Option.bind_some, Option.bind_none, Option.map_some, Option.map_none, Bool.not_true, Bool.not_false, Bool.true_and, Bool.and_true, Bool.false_and, Bool.and_false, Bool.or_true, Bool.true_or, Bool.or_false, Bool.false_or, decide_true, decide_false, Nat.reduceSub, Nat.reduceAdd, Nat.reduceLeDiff, Nat.reduceEqDiff, Nat.zero_add, if_true, if_false, reduceIte, reduceCtorEq, Bool.false_eq_true, h0, nen_n, eqn_n, hB]
          cases hC : (rw_ o .L).isEmpty with
          | true => simp only [init, retOf, seqG, setG, newG, iffG, rtG, drG, asgG, nxG, noG, liftP, liftT, nwM, tb, tbM, op1, op1M, op2, op2M, vG, rG, fG, cG, callG, aNil, aCons, aStar, tAndG, tOrG, tNotG, tAndM, tOrM, tNotM, andG, orG, Dn.andM, Dn.orM, ifG, ifM, boolOf, nmT, nilT, consT, tupT, setVG, fzV, olV, odV, parG, par3G', notD, negD, tupM, lstN, lenD, listI, cutN.listOf, wipeR, putBack, fzOf, intOf, iiG, iiB, iiC, List.map_cons, List.map_nil, List.cons_append, List.nil_append, List.append_nil, List.length_cons, List.length_nil, List.length_map, List.replicate_succ, List.replicate_zero, List.getElem?_cons_zero, List.getElem?_cons_succ, List.set_cons_zero, List.set_cons_succ, Option.bind_some, Option.bind_none, Option.map_some, Option.map_none, Bool.not_true, Bool.not_false, Bool.true_and, Bool.and_true, Bool.false_and, Bool.and_false, Bool.or_true, Bool.true_or, Bool.or_false, Bool.false_or, decide_true, decide_false, Nat.reduceSub, Nat.reduceAdd, Nat.reduceLeDiff, Nat.reduceEqDiff, Nat.zero_add, if_true, if_false, reduceIte, reduceCtorEq, Bool.false_eq_true, h0, eqn_n, nen_n, hC]
          | false =>
            simp only [init, retOf, seqG, setG, newG, iffG, rtG, drG, asgG, nxG, noG, liftP, liftT, nwM, tb, tbM, op1, op1M, op2, op2M, vG, rG, fG, cG, callG, aNil, aCons, aStar, tAndG, tOrG, tNotG, tAndM, tOrM, tNotM, andG, orG, Dn.andM, Dn.orM, ifG, ifM, boolOf, nmT, nilT, consT, tupT, setVG, fzV, olV, odV, parG, par3G', notD, negD, tupM, lstN, lenD, listI, cutN.listOf, wipeR, putBack, fzOf, intOf, iiG, iiB, iiC, List.map_cons, List.map_nil, List.cons_append, List.nil_append, List.append_nil, List.length_cons, List.length_nil, List.length_map, List.replicate_succ, List.replicate_zero, List.getElem?_cons_zero, List.getElem?_cons_succ, List.set_cons_zero, List.set_cons_succ, Option.bind_some, Option.bind_none, Option.map_some, Option.map_none, Bool.not_true, Bool.not_false, Bool.true_and, Bool.and_true, Bool.false_and, Bool.and_false, Bool.or_true, Bool.true_or, Bool.or_false, Bool.false_or, decide_true, decide_false, Nat.reduceSub, Nat.reduceAdd, Nat.reduceLeDiff, Nat.reduceEqDiff, Nat.zero_add, if_true, if_false, reduceIte, reduceCtorEq, Bool.false_eq_true, h0, eqn_n, nen_n, hC]
end K85
end
section
set_option Elab.async false
set_option linter.all false
set_option maxRecDepth 100000
set_option maxHeartbeats 4000000
namespace K85
open PySem L2 Dn Rk
/-! ### bits -/
theorem and_nn (a b : Nat) : andI (nD a) (nD b) = some (nD (a &&& b)) := by
  show some (PyData.int (Builtin.bitAnd (a : Int) (b : Int))) = _
  unfold Builtin.bitAnd
  rw [decide_eq_true (show (0 : Int) ≤ a by omega), decide_eq_true (show (0 : Int) ≤ b by omega)]
  rfl
theorem not_n (a : Nat) : Builtin.bitNot (a : Int) = -(a : Int) - 1 := by
  unfold Builtin.bitNot; omega
theorem or_nn (a b : Nat) : orI (nD a) (nD b) = some (nD (a ||| b)) := by
  show some (PyData.int (Builtin.bitOr (a : Int) (b : Int))) = _
  rw [Bits.bitOr_pp (by omega) (by omega)]
  rfl
theorem xor_nn (a b : Nat) : xorI (nD a) (nD b) = some (nD (a ^^^ b)) := by
  show some (PyData.int (Builtin.bitXor (a : Int) (b : Int))) = _
  rw [Bits.bitXor_pp (by omega) (by omega)]
  rfl
theorem shl_1 (k : Nat) (h : k ≤ 1000) : shlI (.int 1) (nD k) = some (nD (2 ^ k)) := by
  show (if _ then some (PyData.int ((1 : Int) * 2 ^ (k : Int).toNat)) else none) = _
  rw [if_pos, Int.toNat_natCast, Int.one_mul]
  · rfl
  · rw [decide_eq_true_eq, show Builtin.Int.intBits 1 = 1 by decide]
    exact ⟨by omega, by omega⟩
theorem shr_nn (a k : Nat) : shrI (nD a) (nD k) = some (nD (a / 2 ^ k)) := by
  show (if decide ((0 : Int) ≤ k) = true then some (PyData.int ((a : Int) / 2 ^ (k : Int).toNat)) else none) = _
  rw [if_pos (by rw [decide_eq_true_eq]; omega), Int.toNat_natCast]
  unfold nD; congr 2
theorem int_0 : PyData.int 0 = nD 0 := rfl
theorem int_1 : PyData.int 1 = nD 1 := rfl
theorem eq_n (a b : Nat) : eqA (nD a) (nD b) = some (.bool (decide (a = b))) := by
  unfold nD; rw [eq_i]; congr 2
  exact decide_eq_decide.mpr ⟨fun h => by omega, fun h => by omega⟩
theorem ne_n (a b : Nat) : neA (nD a) (nD b) = some (.bool (!decide (a = b))) := by
  unfold neA; rw [eq_n]; rfl
theorem add_nn (a b : Nat) : addI (nD a) (nD b) = some (nD (a + b)) := by
  show some (PyData.int ((a : Int) + b)) = _
  unfold nD; congr 2
/-- (a >> k) & 1 -/
theorem bit_k (a k : Nat) : (a / 2 ^ k) &&& 1 = if a.testBit k = true then 1 else 0 := by
  rw [Nat.and_one_is_mod, Nat.testBit_eq_decide_div_mod_eq]
  have := Nat.mod_two_eq_zero_or_one (a / 2 ^ k)
  rcases this with h | h <;> simp [h]
/-- no common bit -/
theorem and_zero (a b : Nat) : a &&& b = 0 ↔ ∀ k, ¬ (a.testBit k = true ∧ b.testBit k = true) := by
  constructor
  · rintro h k ⟨h1, h2⟩
    have := congrArg (fun x => x.testBit k) h
    simp [h1, h2] at this
  · intro h
    apply Nat.eq_of_testBit_eq
    intro k
    have := h k
    simp only [Nat.testBit_and, Nat.zero_testBit]
    cases h1 : a.testBit k <;> cases h2 : b.testBit k <;> simp_all
/-! ### masks -/
def maskL : List Nat → Nat
  | [] => 0
  | k :: r => 2 ^ k + maskL r
theorem maskL_dvd : ∀ {ks : List Nat} {a : Nat}, (∀ k ∈ ks, a ≤ k) → 2 ^ a ∣ maskL ks
  | [], a, _ => Nat.dvd_zero _
  | k :: r, a, h => Nat.dvd_add (Nat.pow_dvd_pow 2 (h k (by simp))) (maskL_dvd fun j hj => h j (by simp [hj]))
theorem maskL_bit : ∀ {ks : List Nat}, ks.Pairwise (· < ·) → ∀ k, (maskL ks).testBit k = decide (k ∈ ks)
  | [], _, k => by simp [maskL]
  | a :: r, h, k => by
    rw [List.pairwise_cons] at h
    obtain ⟨q, hq⟩ := maskL_dvd (ks := r) (a := a + 1) fun j hj => h.1 j hj
    have ih := maskL_bit h.2 k
    have hlt : 2 ^ a < 2 ^ (a + 1) := Nat.pow_lt_pow_right (by omega) (by omega)
    unfold maskL
    rw [hq] at ih ⊢
    rw [Nat.add_comm, Nat.two_pow_add_eq_or_of_lt hlt, Nat.testBit_or, ih, Nat.testBit_two_pow]
    by_cases e : a = k
    · subst e; simp
    · have e' : ¬ k = a := fun z => e z.symm
      simp [e, e']
theorem rw_asc (f : Fact) (s : Sg) : (rw_ f s).Pairwise (· < ·) := by
  unfold rw_
  exact List.Pairwise.filter _ List.pairwise_lt_range
/-- the rules with sign s as a mask -/
def mask (f : Fact) (s : Sg) : Nat := maskL (rw_ f s)
theorem mask_bit (f : Fact) (s : Sg) (k : Nat) : (mask f s).testBit k = decide (k < f.length ∧ f.getD k .S = s) := by
  unfold mask
  rw [maskL_bit (rw_asc f s)]
  exact decide_eq_decide.mpr rw_mem
theorem sum_masks (ks : List Nat) : sumD (.list (ks.map fun k => nD (2 ^ k))) = some (nD (maskL ks)) := by
  have e : (ks.map fun k => nD (2 ^ k)) = (ks.map fun k => (((2 ^ k : Nat)) : Int)).map PyData.int := by rw [List.map_map]; rfl
  unfold sumD
  simp only [e, intsOf_map, Option.map_some]
  congr 1
  unfold nD
  congr 1
  clear e
  induction ks with
  | nil => rfl
  | cons k r ih => rw [List.map_cons, List.sum_cons, ih]; simp [maskL]
theorem mask_of (f : Fact) (s : Sg) (hn : f.length ≤ 60) : runG 3 g_mask_of [fD f, sD s] = some (nD (mask f s)) := by
  rw [run_eq]
  unfold g_mask_of
  have w := rules_with f s hn
  have hz : (rw_ f s).length ≤ 1000000 := by have := rw_lt (f := f) (s := s); omega
  have hc := lc_all (vs := [2]) (td := nmT 2) (ge := e_mask_of_1) (ρ := [some (.fz (fD f)), some (.fz (sD s)), none]) nD (fun k => nD (2 ^ k)) (rw_ f s) fun k hk => ⟨_, rfl, by
    have hk' := (rw_mem.mp hk).1
    unfold e_mask_of_1
    simp only [init, retOf, seqG, setG, newG, iffG, rtG, drG, asgG, nxG, noG, liftP, liftT, nwM, tb, tbM, op1, op1M, op2, op2M, vG, rG, fG, cG, callG, aNil, aCons, aStar, tAndG, tOrG, tNotG, tAndM, tOrM, tNotM, andG, orG, Dn.andM, Dn.orM, ifG, ifM, boolOf, nmT, nilT, consT, tupT, setVG, fzV, olV, odV, parG, par3G', notD, negD, tupM, lstN, lenD, listI, cutN.listOf, wipeR, putBack, fzOf, intOf, iiG, iiB, iiC, List.map_cons, List.map_nil, List.cons_append, List.nil_append, List.append_nil, List.length_cons, List.length_nil, List.length_map, List.replicate_succ, List.replicate_zero, List.getElem?_cons_zero, List.getElem?_cons_succ, List.set_cons_zero, List.set_cons_succ, Option.bind_some, Option.bind_none, Option.map_some, Option.map_none, Bool.not_true, Bool.not_false, Bool.true_and, Bool.and_true, Bool.false_and, Bool.and_false, Bool.or_true, Bool.true_or, Bool.or_false, Bool.false_or, decide_true, decide_false, Nat.reduceSub, Nat.reduceAdd, Nat.reduceLeDiff, Nat.reduceEqDiff, Nat.zero_add, if_true, if_false, reduceIte, reduceCtorEq, Bool.false_eq_true] 
    rw [shl_1 k (by omega)]
    rfl, rfl⟩
  simp only [op1M, nwM, rtG, Option.map_some, Option.bind_some, init, List.map_cons, List.map_nil, List.length_cons, List.length_nil, Nat.reduceAdd, Nat.reduceSub, List.replicate_succ, List.replicate_zero, List.cons_append, List.nil_append]
  rw [lcN_eq (ds := (rw_ f s).map nD) (ρ1 := [some (.fz (fD f)), some (.fz (sD s)), none]) (by
    simp only [init, retOf, seqG, setG, newG, iffG, rtG, drG, asgG, nxG, noG, liftP, liftT, nwM, tb, tbM, op1, op1M, op2, op2M, vG, rG, fG, cG, callG, aNil, aCons, aStar, tAndG, tOrG, tNotG, tAndM, tOrM, tNotM, andG, orG, Dn.andM, Dn.orM, ifG, ifM, boolOf, nmT, nilT, consT, tupT, setVG, fzV, olV, odV, parG, par3G', notD, negD, tupM, lstN, lenD, listI, cutN.listOf, wipeR, putBack, fzOf, intOf, iiG, iiB, iiC, List.map_cons, List.map_nil, List.cons_append, List.nil_append, List.append_nil, List.length_cons, List.length_nil, List.length_map, List.replicate_succ, List.replicate_zero, List.getElem?_cons_zero, List.getElem?_cons_succ, List.set_cons_zero, List.set_cons_succ, Option.bind_some, Option.bind_none, Option.map_some, Option.map_none, Bool.not_true, Bool.not_false, Bool.true_and, Bool.and_true, Bool.false_and, Bool.and_false, Bool.or_true, Bool.true_or, Bool.or_false, Bool.false_or, decide_true, decide_false, Nat.reduceSub, Nat.reduceAdd, Nat.reduceLeDiff, Nat.reduceEqDiff, Nat.zero_add, if_true, if_false, reduceIte, reduceCtorEq, Bool.false_eq_true, w]
    rfl) (by rw [List.length_map]; exact hz)]
  simp only [wipeR, List.set_cons_zero, List.set_cons_succ]
  rw [hc]
  simp only [init, retOf, seqG, setG, newG, iffG, rtG, drG, asgG, nxG, noG, liftP, liftT, nwM, tb, tbM, op1, op1M, op2, op2M, vG, rG, fG, cG, callG, aNil, aCons, aStar, tAndG, tOrG, tNotG, tAndM, tOrM, tNotM, andG, orG, Dn.andM, Dn.orM, ifG, ifM, boolOf, nmT, nilT, consT, tupT, setVG, fzV, olV, odV, parG, par3G', notD, negD, tupM, lstN, lenD, listI, cutN.listOf, wipeR, putBack, fzOf, intOf, iiG, iiB, iiC, List.map_cons, List.map_nil, List.cons_append, List.nil_append, List.append_nil, List.length_cons, List.length_nil, List.length_map, List.replicate_succ, List.replicate_zero, List.getElem?_cons_zero, List.getElem?_cons_succ, List.set_cons_zero, List.set_cons_succ, Option.bind_some, Option.bind_none, Option.map_some, Option.map_none, Bool.not_true, Bool.not_false, Bool.true_and, Bool.and_true, Bool.false_and, Bool.and_false, Bool.or_true, Bool.true_or, Bool.or_false, Bool.false_or, decide_true, decide_false, Nat.reduceSub, Nat.reduceAdd, Nat.reduceLeDiff, Nat.reduceEqDiff, Nat.zero_add, if_true, if_false, reduceIte, reduceCtorEq, Bool.false_eq_true, sum_masks]
  rfl
end K85
end
section
set_option Elab.async false
set_option linter.all false
set_option maxRecDepth 100000
set_option maxHeartbeats 4000000
namespace K85
open PySem L2 Dn Rk
/-- the W-masks of the facts that have an L at k -/
def lm (fs : List Fact) (k : Nat) : List Nat := (fs.filter fun f => decide (f.getD k .S = .L)).map fun f => mask f .W
/-- .. without repeats, in order -/
def mk (fs : List Fact) (k : Nat) : List Nat := (setI ((lm fs k).map Int.ofNat)).map Int.toNat
theorem mk_mem {fs : List Fact} {k m : Nat} : m ∈ mk fs k ↔ ∃ f ∈ fs, f.getD k .S = .L ∧ mask f .W = m := by
  unfold mk
  rw [List.mem_map]
  constructor
  · rintro ⟨i, hi, rfl⟩
    rw [setI_mem, List.mem_map] at hi
    obtain ⟨x, hx, rfl⟩ := hi
    unfold lm at hx
    obtain ⟨f, hf, rfl⟩ := List.mem_map.mp hx
    rw [List.mem_filter, decide_eq_true_eq] at hf
    exact ⟨f, hf.1, hf.2, rfl⟩
  · rintro ⟨f, h1, h2, rfl⟩
    refine ⟨Int.ofNat (mask f .W), ?_, rfl⟩
    rw [setI_mem, List.mem_map]
    refine ⟨mask f .W, ?_, rfl⟩
    unfold lm
    exact List.mem_map.mpr ⟨f, List.mem_filter.mpr ⟨h1, by simpa using h2⟩, rfl⟩
theorem mk_data (fs : List Fact) (k : Nat) : (setI ((lm fs k).map Int.ofNat)).map PyData.int = (mk fs k).map nD := by
  unfold mk
  rw [List.map_map]
  refine List.map_congr_left fun i hi => ?_
  rw [setI_mem, List.mem_map] at hi
  obtain ⟨x, _, rfl⟩ := hi
  rfl
theorem mk_len (fs : List Fact) (k : Nat) : (mk fs k).length ≤ fs.length := by
  unfold mk setI lm
  rw [List.length_map]
  have h1 : (sortI (dedup ((((fs.filter fun f => decide (f.getD k .S = .L)).map fun f => mask f .W)).map Int.ofNat))).length = (dedup ((((fs.filter fun f => decide (f.getD k .S = .L)).map fun f => mask f .W)).map Int.ofNat)).length := (sortI_perm _).length_eq
  rw [h1]
  refine Nat.le_trans (dedup_len _) ?_
  rw [List.length_map, List.length_map]
  exact List.length_filter_le _ _
/-- all of them -/
def msD (n : Nat) (fs : List Fact) : PyData := .list ((List.range n).map fun k => nsD (mk fs k))
def pD (f : Fact) : PyData := .tuple [fD f, nD (mask f .W)]
theorem masks_body (n : Nat) (fs : List Fact) (hf : Fits n fs) (hn : n ≤ 60) (hl : fs.length < 64) (k : Nat) (hk : k < n) (acc : List PyData) (ha : acc.length ≤ 1000000) (x5 x6 : Option Sl) :
    b_masks_of_1 [some (.fz (nD n)), some (.fz (fsD fs)), some (.ol acc), some (.fz (.list (fs.map pD))), some (.fz (nD k)), x5, x6] =
      some (.nx, [some (.fz (nD n)), some (.fz (fsD fs)), some (.ol (acc ++ [nsD (mk fs k)])), some (.fz (.list (fs.map pD))), some (.fz (nD k)), fzOf (some x5), fzOf (some x6)]) := by
  have hc := lc_typed (vs := [5, 6]) (td := tupT 2 (consT (nmT 5) (consT (nmT 6) nilT))) (tt := q_masks_of_1) (ge := e_masks_of_1) (ρ := [some (.fz (nD n)), some (.fz (fsD fs)), some (.ol acc), some (.fz (.list (fs.map pD))), some (.fz (nD k)), none, none]) pD
    (fun f => decide (f.getD k .S = .L)) (fun f => nD (mask f .W)) fs fun f hx => ⟨_, rfl, by
    unfold q_masks_of_1
    simp only [init, retOf, seqG, setG, newG, iffG, rtG, drG, asgG, nxG, noG, liftP, liftT, nwM, tb, tbM, op1, op1M, op2, op2M, vG, rG, fG, cG, callG, aNil, aCons, aStar, tAndG, tOrG, tNotG, tAndM, tOrM, tNotM, andG, orG, Dn.andM, Dn.orM, ifG, ifM, boolOf, nmT, nilT, consT, tupT, setVG, fzV, olV, odV, parG, par3G', notD, negD, tupM, lstN, lenD, listI, cutN.listOf, wipeR, putBack, fzOf, intOf, iiG, iiB, iiC, List.map_cons, List.map_nil, List.cons_append, List.nil_append, List.append_nil, List.length_cons, List.length_nil, List.length_map, List.replicate_succ, List.replicate_zero, List.getElem?_cons_zero, List.getElem?_cons_succ, List.set_cons_zero, List.set_cons_succ, Option.bind_some, Option.bind_none, Option.map_some, Option.map_none, Bool.not_true, Bool.not_false, Bool.true_and, Bool.and_true, Bool.false_and, Bool.and_false, Bool.or_true, Bool.true_or, Bool.or_false, Bool.false_or, decide_true, decide_false, Nat.reduceSub, Nat.reduceAdd, Nat.reduceLeDiff, Nat.reduceEqDiff, Nat.zero_add, if_true, if_false, reduceIte, reduceCtorEq, Bool.false_eq_true, str_L, lit_L]
    rw [ix_fD hf hn hx hk]
    simp only [init, retOf, seqG, setG, newG, iffG, rtG, drG, asgG, nxG, noG, liftP, liftT, nwM, tb, tbM, op1, op1M, op2, op2M, vG, rG, fG, cG, callG, aNil, aCons, aStar, tAndG, tOrG, tNotG, tAndM, tOrM, tNotM, andG, orG, Dn.andM, Dn.orM, ifG, ifM, boolOf, nmT, nilT, consT, tupT, setVG, fzV, olV, odV, parG, par3G', notD, negD, tupM, lstN, lenD, listI, cutN.listOf, wipeR, putBack, fzOf, intOf, iiG, iiB, iiC, List.map_cons, List.map_nil, List.cons_append, List.nil_append, List.append_nil, List.length_cons, List.length_nil, List.length_map, List.replicate_succ, List.replicate_zero, List.getElem?_cons_zero, List.getElem?_cons_succ, List.set_cons_zero, List.set_cons_succ, Option.bind_some, Option.bind_none, Option.map_some, Option.map_none, Bool.not_true, Bool.not_false, Bool.true_and, Bool.and_true, Bool.false_and, Bool.and_false, Bool.or_true, Bool.true_or, Bool.or_false, Bool.false_or, decide_true, decide_false, Nat.reduceSub, Nat.reduceAdd, Nat.reduceLeDiff, Nat.reduceEqDiff, Nat.zero_add, if_true, if_false, reduceIte, reduceCtorEq, Bool.false_eq_true, eq_s], fun _ => by
    unfold e_masks_of_1
    simp only [init, retOf, seqG, setG, newG, iffG, rtG, drG, asgG, nxG, noG, liftP, liftT, nwM, tb, tbM, op1, op1M, op2, op2M, vG, rG, fG, cG, callG, aNil, aCons, aStar, tAndG, tOrG, tNotG, tAndM, tOrM, tNotM, andG, orG, Dn.andM, Dn.orM, ifG, ifM, boolOf, nmT, nilT, consT, tupT, setVG, fzV, olV, odV, parG, par3G', notD, negD, tupM, lstN, lenD, listI, cutN.listOf, wipeR, putBack, fzOf, intOf, iiG, iiB, iiC, List.map_cons, List.map_nil, List.cons_append, List.nil_append, List.append_nil, List.length_cons, List.length_nil, List.length_map, List.replicate_succ, List.replicate_zero, List.getElem?_cons_zero, List.getElem?_cons_succ, List.set_cons_zero, List.set_cons_succ, Option.bind_some, Option.bind_none, Option.map_some, Option.map_none, Bool.not_true, Bool.not_false, Bool.true_and, Bool.and_true, Bool.false_and, Bool.and_false, Bool.or_true, Bool.true_or, Bool.or_false, Bool.false_or, decide_true, decide_false, Nat.reduceSub, Nat.reduceAdd, Nat.reduceLeDiff, Nat.reduceEqDiff, Nat.zero_add, if_true, if_false, reduceIte, reduceCtorEq, Bool.false_eq_true], rfl⟩
  have e2 : ((fs.filter fun f => decide (f.getD k .S = .L)).map fun f => nD (mask f .W)) = ((lm fs k).map Int.ofNat).map PyData.int := by unfold lm; rw [List.map_map, List.map_map]; rfl
  have e3 : ((lm fs k).map Int.ofNat).length < 64 := by
    unfold lm
    rw [List.length_map, List.length_map]
    exact Nat.lt_of_le_of_lt (List.length_filter_le _ _) hl
  unfold b_masks_of_1 appG sscN
  simp only [init, retOf, seqG, setG, newG, iffG, rtG, drG, asgG, nxG, noG, liftP, liftT, nwM, tb, tbM, op1, op1M, op2, op2M, vG, rG, fG, cG, callG, aNil, aCons, aStar, tAndG, tOrG, tNotG, tAndM, tOrM, tNotM, andG, orG, Dn.andM, Dn.orM, ifG, ifM, boolOf, nmT, nilT, consT, tupT, setVG, fzV, olV, odV, parG, par3G', notD, negD, tupM, lstN, lenD, listI, cutN.listOf, wipeR, putBack, fzOf, intOf, iiG, iiB, iiC, List.map_cons, List.map_nil, List.cons_append, List.nil_append, List.append_nil, List.length_cons, List.length_nil, List.length_map, List.replicate_succ, List.replicate_zero, List.getElem?_cons_zero, List.getElem?_cons_succ, List.set_cons_zero, List.set_cons_succ, Option.bind_some, Option.bind_none, Option.map_some, Option.map_none, Bool.not_true, Bool.not_false, Bool.true_and, Bool.and_true, Bool.false_and, Bool.and_false, Bool.or_true, Bool.true_or, Bool.or_false, Bool.false_or, decide_true, decide_false, Nat.reduceSub, Nat.reduceAdd, Nat.reduceLeDiff, Nat.reduceEqDiff, Nat.zero_add, if_true, if_false, reduceIte, reduceCtorEq, Bool.false_eq_true, olAt, ha]
  rw [lcN_eq (ds := fs.map pD) rfl (by rw [List.length_map]; omega)]
  simp only [wipeR, List.set_cons_zero, List.set_cons_succ]
  rw [hc, e2]
  simp only [init, retOf, seqG, setG, newG, iffG, rtG, drG, asgG, nxG, noG, liftP, liftT, nwM, tb, tbM, op1, op1M, op2, op2M, vG, rG, fG, cG, callG, aNil, aCons, aStar, tAndG, tOrG, tNotG, tAndM, tOrM, tNotM, andG, orG, Dn.andM, Dn.orM, ifG, ifM, boolOf, nmT, nilT, consT, tupT, setVG, fzV, olV, odV, parG, par3G', notD, negD, tupM, lstN, lenD, listI, cutN.listOf, wipeR, putBack, fzOf, intOf, iiG, iiB, iiC, List.map_cons, List.map_nil, List.cons_append, List.nil_append, List.append_nil, List.length_cons, List.length_nil, List.length_map, List.replicate_succ, List.replicate_zero, List.getElem?_cons_zero, List.getElem?_cons_succ, List.set_cons_zero, List.set_cons_succ, Option.bind_some, Option.bind_none, Option.map_some, Option.map_none, Bool.not_true, Bool.not_false, Bool.true_and, Bool.and_true, Bool.false_and, Bool.and_false, Bool.or_true, Bool.true_or, Bool.or_false, Bool.false_or, decide_true, decide_false, Nat.reduceSub, Nat.reduceAdd, Nat.reduceLeDiff, Nat.reduceEqDiff, Nat.zero_add, if_true, if_false, reduceIte, reduceCtorEq, Bool.false_eq_true, intsOf_map, olAt, olSet, ha]
  rw [if_pos (by rw [List.length_map] at e3; exact e3)]
  simp only [init, retOf, seqG, setG, newG, iffG, rtG, drG, asgG, nxG, noG, liftP, liftT, nwM, tb, tbM, op1, op1M, op2, op2M, vG, rG, fG, cG, callG, aNil, aCons, aStar, tAndG, tOrG, tNotG, tAndM, tOrM, tNotM, andG, orG, Dn.andM, Dn.orM, ifG, ifM, boolOf, nmT, nilT, consT, tupT, setVG, fzV, olV, odV, parG, par3G', notD, negD, tupM, lstN, lenD, listI, cutN.listOf, wipeR, putBack, fzOf, intOf, iiG, iiB, iiC, List.map_cons, List.map_nil, List.cons_append, List.nil_append, List.append_nil, List.length_cons, List.length_nil, List.length_map, List.replicate_succ, List.replicate_zero, List.getElem?_cons_zero, List.getElem?_cons_succ, List.set_cons_zero, List.set_cons_succ, Option.bind_some, Option.bind_none, Option.map_some, Option.map_none, Bool.not_true, Bool.not_false, Bool.true_and, Bool.and_true, Bool.false_and, Bool.and_false, Bool.or_true, Bool.true_or, Bool.or_false, Bool.false_or, decide_true, decide_false, Nat.reduceSub, Nat.reduceAdd, Nat.reduceLeDiff, Nat.reduceEqDiff, Nat.zero_add, if_true, if_false, reduceIte, reduceCtorEq, Bool.false_eq_true, olAt, olSet, ha, mk_data]
  simp [ha, nsD]
theorem masks_of (n : Nat) (fs : List Fact) (hf : Fits n fs) (hn : n ≤ 60) (hl : fs.length < 64) : runG 7 g_masks_of [nD n, fsD fs] = some (msD n fs) := by
  rw [run_eq]
  unfold g_masks_of
  obtain ⟨ρ', e1, x4, x5, x6, rfl⟩ := for_all (td := nmT 4) (b := b_masks_of_1) nD
    (fun j ρ => ∃ x4 x5 x6, ρ = [some (.fz (nD n)), some (.fz (fsD fs)), some (.ol ((List.range j).map fun k => nsD (mk fs k))), some (.fz (.list (fs.map pD))), x4, x5, x6]) (List.range n)
    [some (.fz (nD n)), some (.fz (fsD fs)), some (.ol []), some (.fz (.list (fs.map pD))), none, none, none] (by
      rintro j x ρ hj ⟨x4, x5, x6, rfl⟩
      obtain ⟨rfl, hj'⟩ := rng_get hj
      refine ⟨_, _, rfl, masks_body n fs hf hn hl x hj' _ (by simp; omega) _ _, some (.fz (nD x)), fzOf (some x5), fzOf (some x6), ?_⟩
      rw [List.range_succ, List.map_append]
      rfl) ⟨none, none, none, rfl⟩
  have hc := lc_all (vs := [5]) (td := nmT 5) (ge := e_masks_of_2) (ρ := [some (.fz (nD n)), some (.fz (fsD fs)), some (.ol []), none, none, none, none]) fD pD fs fun f hx => ⟨_, rfl, by
    unfold e_masks_of_2
    have := mask_of f .W (by rw [hf f hx]; exact hn)
    simp only [sD] at this
    simp only [init, retOf, seqG, setG, newG, iffG, rtG, drG, asgG, nxG, noG, liftP, liftT, nwM, tb, tbM, op1, op1M, op2, op2M, vG, rG, fG, cG, callG, aNil, aCons, aStar, tAndG, tOrG, tNotG, tAndM, tOrM, tNotM, andG, orG, Dn.andM, Dn.orM, ifG, ifM, boolOf, nmT, nilT, consT, tupT, setVG, fzV, olV, odV, parG, par3G', notD, negD, tupM, lstN, lenD, listI, cutN.listOf, wipeR, putBack, fzOf, intOf, iiG, iiB, iiC, List.map_cons, List.map_nil, List.cons_append, List.nil_append, List.append_nil, List.length_cons, List.length_nil, List.length_map, List.replicate_succ, List.replicate_zero, List.getElem?_cons_zero, List.getElem?_cons_succ, List.set_cons_zero, List.set_cons_succ, Option.bind_some, Option.bind_none, Option.map_some, Option.map_none, Bool.not_true, Bool.not_false, Bool.true_and, Bool.and_true, Bool.false_and, Bool.and_false, Bool.or_true, Bool.true_or, Bool.or_false, Bool.false_or, decide_true, decide_false, Nat.reduceSub, Nat.reduceAdd, Nat.reduceLeDiff, Nat.reduceEqDiff, Nat.zero_add, if_true, if_false, reduceIte, reduceCtorEq, Bool.false_eq_true, str_W, this]
    rfl, rfl⟩
  simp only [seqG, newG, lstN, aNil, setG, nwM, init, init, retOf, seqG, setG, newG, iffG, rtG, drG, asgG, nxG, noG, liftP, liftT, nwM, tb, tbM, op1, op1M, op2, op2M, vG, rG, fG, cG, callG, aNil, aCons, aStar, tAndG, tOrG, tNotG, tAndM, tOrM, tNotM, andG, orG, Dn.andM, Dn.orM, ifG, ifM, boolOf, nmT, nilT, consT, tupT, setVG, fzV, olV, odV, parG, par3G', notD, negD, tupM, lstN, lenD, listI, cutN.listOf, wipeR, putBack, fzOf, intOf, iiG, iiB, iiC, List.map_cons, List.map_nil, List.cons_append, List.nil_append, List.append_nil, List.length_cons, List.length_nil, List.length_map, List.replicate_succ, List.replicate_zero, List.getElem?_cons_zero, List.getElem?_cons_succ, List.set_cons_zero, List.set_cons_succ, Option.bind_some, Option.bind_none, Option.map_some, Option.map_none, Bool.not_true, Bool.not_false, Bool.true_and, Bool.and_true, Bool.false_and, Bool.and_false, Bool.or_true, Bool.true_or, Bool.or_false, Bool.false_or, decide_true, decide_false, Nat.reduceSub, Nat.reduceAdd, Nat.reduceLeDiff, Nat.reduceEqDiff, Nat.zero_add, if_true, if_false, reduceIte, reduceCtorEq, Bool.false_eq_true]
  rw [lcN_eq (ds := fs.map fD) (ρ1 := [some (.fz (nD n)), some (.fz (fsD fs)), some (.ol []), none, none, none, none]) rfl (by rw [List.length_map]; omega)]
  simp only [wipeR, List.set_cons_zero, List.set_cons_succ]
  rw [hc]
  simp only [init, retOf, seqG, setG, newG, iffG, rtG, drG, asgG, nxG, noG, liftP, liftT, nwM, tb, tbM, op1, op1M, op2, op2M, vG, rG, fG, cG, callG, aNil, aCons, aStar, tAndG, tOrG, tNotG, tAndM, tOrM, tNotM, andG, orG, Dn.andM, Dn.orM, ifG, ifM, boolOf, nmT, nilT, consT, tupT, setVG, fzV, olV, odV, parG, par3G', notD, negD, tupM, lstN, lenD, listI, cutN.listOf, wipeR, putBack, fzOf, intOf, iiG, iiB, iiC, List.map_cons, List.map_nil, List.cons_append, List.nil_append, List.append_nil, List.length_cons, List.length_nil, List.length_map, List.replicate_succ, List.replicate_zero, List.getElem?_cons_zero, List.getElem?_cons_succ, List.set_cons_zero, List.set_cons_succ, Option.bind_some, Option.bind_none, Option.map_some, Option.map_none, Bool.not_true, Bool.not_false, Bool.true_and, Bool.and_true, Bool.false_and, Bool.and_false, Bool.or_true, Bool.true_or, Bool.or_false, Bool.false_or, decide_true, decide_false, Nat.reduceSub, Nat.reduceAdd, Nat.reduceLeDiff, Nat.reduceEqDiff, Nat.zero_add, if_true, if_false, reduceIte, reduceCtorEq, Bool.false_eq_true]
  rw [forG_eq (rng_n (n := n) rfl (by omega)), e1]
  simp only [init, retOf, seqG, setG, newG, iffG, rtG, drG, asgG, nxG, noG, liftP, liftT, nwM, tb, tbM, op1, op1M, op2, op2M, vG, rG, fG, cG, callG, aNil, aCons, aStar, tAndG, tOrG, tNotG, tAndM, tOrM, tNotM, andG, orG, Dn.andM, Dn.orM, ifG, ifM, boolOf, nmT, nilT, consT, tupT, setVG, fzV, olV, odV, parG, par3G', notD, negD, tupM, lstN, lenD, listI, cutN.listOf, wipeR, putBack, fzOf, intOf, iiG, iiB, iiC, List.map_cons, List.map_nil, List.cons_append, List.nil_append, List.append_nil, List.length_cons, List.length_nil, List.length_map, List.replicate_succ, List.replicate_zero, List.getElem?_cons_zero, List.getElem?_cons_succ, List.set_cons_zero, List.set_cons_succ, Option.bind_some, Option.bind_none, Option.map_some, Option.map_none, Bool.not_true, Bool.not_false, Bool.true_and, Bool.and_true, Bool.false_and, Bool.and_false, Bool.or_true, Bool.true_or, Bool.or_false, Bool.false_or, decide_true, decide_false, Nat.reduceSub, Nat.reduceAdd, Nat.reduceLeDiff, Nat.reduceEqDiff, Nat.zero_add, if_true, if_false, reduceIte, reduceCtorEq, Bool.false_eq_true, List.length_range]
  rfl
/-- every mask of rule k meets the front -/
def can (fs : List Fact) (front k : Nat) : Bool := (mk fs k).all fun m => !decide (m &&& front = 0)
theorem can_iff {n : Nat} {fs : List Fact} (hf : Fits n fs) {front k : Nat} : can fs front k = true ↔ ∀ f ∈ fs, f.getD k .S = .L → ∃ w, w < n ∧ f.getD w .S = .W ∧ front.testBit w = true := by
  unfold can
  rw [List.all_eq_true]
  constructor
  · intro h f hx hL
    have := h _ (mk_mem.mpr ⟨f, hx, hL, rfl⟩)
    simp only [Bool.not_eq_true', decide_eq_false_iff_not] at this
    rw [and_zero] at this
    obtain ⟨w, h1⟩ := Classical.not_forall.mp this
    obtain ⟨h1, h2⟩ := Classical.not_not.mp h1
    rw [mask_bit, decide_eq_true_eq, hf f hx] at h1
    exact ⟨w, h1.1, h1.2, h2⟩
  · intro h m hm
    obtain ⟨f, hx, hL, rfl⟩ := mk_mem.mp hm
    obtain ⟨w, h1, h2, h3⟩ := h f hx hL
    simp only [Bool.not_eq_true', decide_eq_false_iff_not]
    rw [and_zero]
    intro z
    exact z w ⟨by rw [mask_bit, hf f hx]; simpa using ⟨h1, h2⟩, h3⟩
theorem can_stand (n : Nat) (fs : List Fact) (hl : fs.length < 64) (front k : Nat) (hk : k < n) : runG 4 g_can_stand [msD n fs, nD front, nD k] = some (.bool (can fs front k)) := by
  rw [run_eq]
  unfold g_can_stand
  have hz := mk_len fs k
  have hc := lc_all (vs := [3]) (td := nmT 3) (ge := e_can_stand_1) (ρ := [some (.fz (msD n fs)), some (.fz (nD front)), some (.fz (nD k)), none]) nD (fun m => .bool (!decide (m &&& front = 0))) (mk fs k) fun m hm => ⟨_, rfl, by
    unfold e_can_stand_1
    simp only [init, retOf, seqG, setG, newG, iffG, rtG, drG, asgG, nxG, noG, liftP, liftT, nwM, tb, tbM, op1, op1M, op2, op2M, vG, rG, fG, cG, callG, aNil, aCons, aStar, tAndG, tOrG, tNotG, tAndM, tOrM, tNotM, andG, orG, Dn.andM, Dn.orM, ifG, ifM, boolOf, nmT, nilT, consT, tupT, setVG, fzV, olV, odV, parG, par3G', notD, negD, tupM, lstN, lenD, listI, cutN.listOf, wipeR, putBack, fzOf, intOf, iiG, iiB, iiC, List.map_cons, List.map_nil, List.cons_append, List.nil_append, List.append_nil, List.length_cons, List.length_nil, List.length_map, List.replicate_succ, List.replicate_zero, List.getElem?_cons_zero, List.getElem?_cons_succ, List.set_cons_zero, List.set_cons_succ, Option.bind_some, Option.bind_none, Option.map_some, Option.map_none, Bool.not_true, Bool.not_false, Bool.true_and, Bool.and_true, Bool.false_and, Bool.and_false, Bool.or_true, Bool.true_or, Bool.or_false, Bool.false_or, decide_true, decide_false, Nat.reduceSub, Nat.reduceAdd, Nat.reduceLeDiff, Nat.reduceEqDiff, Nat.zero_add, if_true, if_false, reduceIte, reduceCtorEq, Bool.false_eq_true] 
    rw [and_nn]
    simp only [init, retOf, seqG, setG, newG, iffG, rtG, drG, asgG, nxG, noG, liftP, liftT, nwM, tb, tbM, op1, op1M, op2, op2M, vG, rG, fG, cG, callG, aNil, aCons, aStar, tAndG, tOrG, tNotG, tAndM, tOrM, tNotM, andG, orG, Dn.andM, Dn.orM, ifG, ifM, boolOf, nmT, nilT, consT, tupT, setVG, fzV, olV, odV, parG, par3G', notD, negD, tupM, lstN, lenD, listI, cutN.listOf, wipeR, putBack, fzOf, intOf, iiG, iiB, iiC, List.map_cons, List.map_nil, List.cons_append, List.nil_append, List.append_nil, List.length_cons, List.length_nil, List.length_map, List.replicate_succ, List.replicate_zero, List.getElem?_cons_zero, List.getElem?_cons_succ, List.set_cons_zero, List.set_cons_succ, Option.bind_some, Option.bind_none, Option.map_some, Option.map_none, Bool.not_true, Bool.not_false, Bool.true_and, Bool.and_true, Bool.false_and, Bool.and_false, Bool.or_true, Bool.true_or, Bool.or_false, Bool.false_or, decide_true, decide_false, Nat.reduceSub, Nat.reduceAdd, Nat.reduceLeDiff, Nat.reduceEqDiff, Nat.zero_add, if_true, if_false, reduceIte, reduceCtorEq, Bool.false_eq_true, int_0, ne_n], rfl⟩
  have ix : ixD (msD n fs) (nD k) = some (nsD (mk fs k)) := by
    show L2.atI ((List.range n).map fun k => nsD (mk fs k)) (k : Int) = _
    rw [atI_nat _ _ (by simpa using hk), List.getElem_map, List.getElem_range]
  simp only [op1M, nwM, rtG, init, init, retOf, seqG, setG, newG, iffG, rtG, drG, asgG, nxG, noG, liftP, liftT, nwM, tb, tbM, op1, op1M, op2, op2M, vG, rG, fG, cG, callG, aNil, aCons, aStar, tAndG, tOrG, tNotG, tAndM, tOrM, tNotM, andG, orG, Dn.andM, Dn.orM, ifG, ifM, boolOf, nmT, nilT, consT, tupT, setVG, fzV, olV, odV, parG, par3G', notD, negD, tupM, lstN, lenD, listI, cutN.listOf, wipeR, putBack, fzOf, intOf, iiG, iiB, iiC, List.map_cons, List.map_nil, List.cons_append, List.nil_append, List.append_nil, List.length_cons, List.length_nil, List.length_map, List.replicate_succ, List.replicate_zero, List.getElem?_cons_zero, List.getElem?_cons_succ, List.set_cons_zero, List.set_cons_succ, Option.bind_some, Option.bind_none, Option.map_some, Option.map_none, Bool.not_true, Bool.not_false, Bool.true_and, Bool.and_true, Bool.false_and, Bool.and_false, Bool.or_true, Bool.true_or, Bool.or_false, Bool.false_or, decide_true, decide_false, Nat.reduceSub, Nat.reduceAdd, Nat.reduceLeDiff, Nat.reduceEqDiff, Nat.zero_add, if_true, if_false, reduceIte, reduceCtorEq, Bool.false_eq_true]
  rw [lcN_eq (ds := (mk fs k).map nD) (ρ1 := [some (.fz (msD n fs)), some (.fz (nD front)), some (.fz (nD k)), none]) (by
    simp only [init, retOf, seqG, setG, newG, iffG, rtG, drG, asgG, nxG, noG, liftP, liftT, nwM, tb, tbM, op1, op1M, op2, op2M, vG, rG, fG, cG, callG, aNil, aCons, aStar, tAndG, tOrG, tNotG, tAndM, tOrM, tNotM, andG, orG, Dn.andM, Dn.orM, ifG, ifM, boolOf, nmT, nilT, consT, tupT, setVG, fzV, olV, odV, parG, par3G', notD, negD, tupM, lstN, lenD, listI, cutN.listOf, wipeR, putBack, fzOf, intOf, iiG, iiB, iiC, List.map_cons, List.map_nil, List.cons_append, List.nil_append, List.append_nil, List.length_cons, List.length_nil, List.length_map, List.replicate_succ, List.replicate_zero, List.getElem?_cons_zero, List.getElem?_cons_succ, List.set_cons_zero, List.set_cons_succ, Option.bind_some, Option.bind_none, Option.map_some, Option.map_none, Bool.not_true, Bool.not_false, Bool.true_and, Bool.and_true, Bool.false_and, Bool.and_false, Bool.or_true, Bool.true_or, Bool.or_false, Bool.false_or, decide_true, decide_false, Nat.reduceSub, Nat.reduceAdd, Nat.reduceLeDiff, Nat.reduceEqDiff, Nat.zero_add, if_true, if_false, reduceIte, reduceCtorEq, Bool.false_eq_true, ix, nsD]) (by rw [List.length_map]; omega)]
  simp only [wipeR, List.set_cons_zero, List.set_cons_succ]
  rw [hc]
  simp only [init, retOf, seqG, setG, newG, iffG, rtG, drG, asgG, nxG, noG, liftP, liftT, nwM, tb, tbM, op1, op1M, op2, op2M, vG, rG, fG, cG, callG, aNil, aCons, aStar, tAndG, tOrG, tNotG, tAndM, tOrM, tNotM, andG, orG, Dn.andM, Dn.orM, ifG, ifM, boolOf, nmT, nilT, consT, tupT, setVG, fzV, olV, odV, parG, par3G', notD, negD, tupM, lstN, lenD, listI, cutN.listOf, wipeR, putBack, fzOf, intOf, iiG, iiB, iiC, List.map_cons, List.map_nil, List.cons_append, List.nil_append, List.append_nil, List.length_cons, List.length_nil, List.length_map, List.replicate_succ, List.replicate_zero, List.getElem?_cons_zero, List.getElem?_cons_succ, List.set_cons_zero, List.set_cons_succ, Option.bind_some, Option.bind_none, Option.map_some, Option.map_none, Bool.not_true, Bool.not_false, Bool.true_and, Bool.and_true, Bool.false_and, Bool.and_false, Bool.or_true, Bool.true_or, Bool.or_false, Bool.false_or, decide_true, decide_false, Nat.reduceSub, Nat.reduceAdd, Nat.reduceLeDiff, Nat.reduceEqDiff, Nat.zero_add, if_true, if_false, reduceIte, reduceCtorEq, Bool.false_eq_true, all_b]
  rfl
end K85
end
section
set_option Elab.async false
set_option linter.all false
set_option maxRecDepth 100000
set_option maxHeartbeats 4000000
namespace K85
open PySem L2 Dn Rk
def pl (n : Nat) (fs : List Fact) (front : Nat) : List Nat := ((List.range n).filter fun k => !front.testBit k).filter fun k => can fs front k
theorem pl_mem {n : Nat} {fs : List Fact} {front k : Nat} : k ∈ pl n fs front ↔ k < n ∧ front.testBit k = false ∧ can fs front k = true := by
  unfold pl
  rw [List.mem_filter, List.mem_filter, List.mem_range]
  constructor
  · rintro ⟨⟨h1, h2⟩, h3⟩; exact ⟨h1, by simpa using h2, h3⟩
  · rintro ⟨h1, h2, h3⟩; exact ⟨⟨h1, by simpa using h2⟩, h3⟩
theorem bit_0 (a k : Nat) : eqA (nD ((a / 2 ^ k) &&& 1)) (nD 0) = some (.bool (!a.testBit k)) := by
  rw [eq_n, bit_k]
  cases h : a.testBit k <;> simp
theorem bit_1 (a k : Nat) : eqA (nD ((a / 2 ^ k) &&& 1)) (nD 1) = some (.bool (a.testBit k)) := by
  rw [eq_n, bit_k]
  cases h : a.testBit k <;> simp
theorem placeable (n : Nat) (fs : List Fact) (hn : n ≤ 60) (hl : fs.length < 64) (front : Nat) : runG 4 g_placeable [msD n fs, nD front] = some (nsD (pl n fs front)) := by
  rw [run_eq]
  unfold g_placeable
  have hc := lc_typed (vs := [3]) (td := nmT 3) (tt := q_placeable_2) (ge := e_placeable_2) (ρ := [some (.fz (msD n fs)), some (.fz (nD front)), none, none]) nD (fun k => !front.testBit k) nD (List.range n) fun k hk => ⟨_, rfl, by
    unfold q_placeable_2
    simp only [init, retOf, seqG, setG, newG, iffG, rtG, drG, asgG, nxG, noG, liftP, liftT, nwM, tb, tbM, op1, op1M, op2, op2M, vG, rG, fG, cG, callG, aNil, aCons, aStar, tAndG, tOrG, tNotG, tAndM, tOrM, tNotM, andG, orG, Dn.andM, Dn.orM, ifG, ifM, boolOf, nmT, nilT, consT, tupT, setVG, fzV, olV, odV, parG, par3G', notD, negD, tupM, lstN, lenD, listI, cutN.listOf, wipeR, putBack, fzOf, intOf, iiG, iiB, iiC, List.map_cons, List.map_nil, List.cons_append, List.nil_append, List.append_nil, List.length_cons, List.length_nil, List.length_map, List.replicate_succ, List.replicate_zero, List.getElem?_cons_zero, List.getElem?_cons_succ, List.set_cons_zero, List.set_cons_succ, Option.bind_some, Option.bind_none, Option.map_some, Option.map_none, Bool.not_true, Bool.not_false, Bool.true_and, Bool.and_true, Bool.false_and, Bool.and_false, Bool.or_true, Bool.true_or, Bool.or_false, Bool.false_or, decide_true, decide_false, Nat.reduceSub, Nat.reduceAdd, Nat.reduceLeDiff, Nat.reduceEqDiff, Nat.zero_add, if_true, if_false, reduceIte, reduceCtorEq, Bool.false_eq_true] 
    rw [shr_nn]
    simp only [init, retOf, seqG, setG, newG, iffG, rtG, drG, asgG, nxG, noG, liftP, liftT, nwM, tb, tbM, op1, op1M, op2, op2M, vG, rG, fG, cG, callG, aNil, aCons, aStar, tAndG, tOrG, tNotG, tAndM, tOrM, tNotM, andG, orG, Dn.andM, Dn.orM, ifG, ifM, boolOf, nmT, nilT, consT, tupT, setVG, fzV, olV, odV, parG, par3G', notD, negD, tupM, lstN, lenD, listI, cutN.listOf, wipeR, putBack, fzOf, intOf, iiG, iiB, iiC, List.map_cons, List.map_nil, List.cons_append, List.nil_append, List.append_nil, List.length_cons, List.length_nil, List.length_map, List.replicate_succ, List.replicate_zero, List.getElem?_cons_zero, List.getElem?_cons_succ, List.set_cons_zero, List.set_cons_succ, Option.bind_some, Option.bind_none, Option.map_some, Option.map_none, Bool.not_true, Bool.not_false, Bool.true_and, Bool.and_true, Bool.false_and, Bool.and_false, Bool.or_true, Bool.true_or, Bool.or_false, Bool.false_or, decide_true, decide_false, Nat.reduceSub, Nat.reduceAdd, Nat.reduceLeDiff, Nat.reduceEqDiff, Nat.zero_add, if_true, if_false, reduceIte, reduceCtorEq, Bool.false_eq_true, int_1, int_0]
    rw [and_nn]
    simp only [init, retOf, seqG, setG, newG, iffG, rtG, drG, asgG, nxG, noG, liftP, liftT, nwM, tb, tbM, op1, op1M, op2, op2M, vG, rG, fG, cG, callG, aNil, aCons, aStar, tAndG, tOrG, tNotG, tAndM, tOrM, tNotM, andG, orG, Dn.andM, Dn.orM, ifG, ifM, boolOf, nmT, nilT, consT, tupT, setVG, fzV, olV, odV, parG, par3G', notD, negD, tupM, lstN, lenD, listI, cutN.listOf, wipeR, putBack, fzOf, intOf, iiG, iiB, iiC, List.map_cons, List.map_nil, List.cons_append, List.nil_append, List.append_nil, List.length_cons, List.length_nil, List.length_map, List.replicate_succ, List.replicate_zero, List.getElem?_cons_zero, List.getElem?_cons_succ, List.set_cons_zero, List.set_cons_succ, Option.bind_some, Option.bind_none, Option.map_some, Option.map_none, Bool.not_true, Bool.not_false, Bool.true_and, Bool.and_true, Bool.false_and, Bool.and_false, Bool.or_true, Bool.true_or, Bool.or_false, Bool.false_or, decide_true, decide_false, Nat.reduceSub, Nat.reduceAdd, Nat.reduceLeDiff, Nat.reduceEqDiff, Nat.zero_add, if_true, if_false, reduceIte, reduceCtorEq, Bool.false_eq_true, bit_0], fun _ => by
    unfold e_placeable_2
    simp only [init, retOf, seqG, setG, newG, iffG, rtG, drG, asgG, nxG, noG, liftP, liftT, nwM, tb, tbM, op1, op1M, op2, op2M, vG, rG, fG, cG, callG, aNil, aCons, aStar, tAndG, tOrG, tNotG, tAndM, tOrM, tNotM, andG, orG, Dn.andM, Dn.orM, ifG, ifM, boolOf, nmT, nilT, consT, tupT, setVG, fzV, olV, odV, parG, par3G', notD, negD, tupM, lstN, lenD, listI, cutN.listOf, wipeR, putBack, fzOf, intOf, iiG, iiB, iiC, List.map_cons, List.map_nil, List.cons_append, List.nil_append, List.append_nil, List.length_cons, List.length_nil, List.length_map, List.replicate_succ, List.replicate_zero, List.getElem?_cons_zero, List.getElem?_cons_succ, List.set_cons_zero, List.set_cons_succ, Option.bind_some, Option.bind_none, Option.map_some, Option.map_none, Bool.not_true, Bool.not_false, Bool.true_and, Bool.and_true, Bool.false_and, Bool.and_false, Bool.or_true, Bool.true_or, Bool.or_false, Bool.false_or, decide_true, decide_false, Nat.reduceSub, Nat.reduceAdd, Nat.reduceLeDiff, Nat.reduceEqDiff, Nat.zero_add, if_true, if_false, reduceIte, reduceCtorEq, Bool.false_eq_true], rfl⟩
  have hd := fun (x2 : Option Sl) (ks : List Nat) (h : ∀ k ∈ ks, k < n) => lc_typed (vs := [3]) (td := nmT 3) (tt := q_placeable_1) (ge := e_placeable_1) (ρ := [some (.fz (msD n fs)), some (.fz (nD front)), x2, none]) nD (fun k => can fs front k) nD ks fun k hk => ⟨_, rfl, by
    unfold q_placeable_1
    simp only [init, retOf, seqG, setG, newG, iffG, rtG, drG, asgG, nxG, noG, liftP, liftT, nwM, tb, tbM, op1, op1M, op2, op2M, vG, rG, fG, cG, callG, aNil, aCons, aStar, tAndG, tOrG, tNotG, tAndM, tOrM, tNotM, andG, orG, Dn.andM, Dn.orM, ifG, ifM, boolOf, nmT, nilT, consT, tupT, setVG, fzV, olV, odV, parG, par3G', notD, negD, tupM, lstN, lenD, listI, cutN.listOf, wipeR, putBack, fzOf, intOf, iiG, iiB, iiC, List.map_cons, List.map_nil, List.cons_append, List.nil_append, List.append_nil, List.length_cons, List.length_nil, List.length_map, List.replicate_succ, List.replicate_zero, List.getElem?_cons_zero, List.getElem?_cons_succ, List.set_cons_zero, List.set_cons_succ, Option.bind_some, Option.bind_none, Option.map_some, Option.map_none, Bool.not_true, Bool.not_false, Bool.true_and, Bool.and_true, Bool.false_and, Bool.and_false, Bool.or_true, Bool.true_or, Bool.or_false, Bool.false_or, decide_true, decide_false, Nat.reduceSub, Nat.reduceAdd, Nat.reduceLeDiff, Nat.reduceEqDiff, Nat.zero_add, if_true, if_false, reduceIte, reduceCtorEq, Bool.false_eq_true, can_stand n fs hl front k (h k hk)], fun _ => by
    unfold e_placeable_1
    simp only [init, retOf, seqG, setG, newG, iffG, rtG, drG, asgG, nxG, noG, liftP, liftT, nwM, tb, tbM, op1, op1M, op2, op2M, vG, rG, fG, cG, callG, aNil, aCons, aStar, tAndG, tOrG, tNotG, tAndM, tOrM, tNotM, andG, orG, Dn.andM, Dn.orM, ifG, ifM, boolOf, nmT, nilT, consT, tupT, setVG, fzV, olV, odV, parG, par3G', notD, negD, tupM, lstN, lenD, listI, cutN.listOf, wipeR, putBack, fzOf, intOf, iiG, iiB, iiC, List.map_cons, List.map_nil, List.cons_append, List.nil_append, List.append_nil, List.length_cons, List.length_nil, List.length_map, List.replicate_succ, List.replicate_zero, List.getElem?_cons_zero, List.getElem?_cons_succ, List.set_cons_zero, List.set_cons_succ, Option.bind_some, Option.bind_none, Option.map_some, Option.map_none, Bool.not_true, Bool.not_false, Bool.true_and, Bool.and_true, Bool.false_and, Bool.and_false, Bool.or_true, Bool.true_or, Bool.or_false, Bool.false_or, decide_true, decide_false, Nat.reduceSub, Nat.reduceAdd, Nat.reduceLeDiff, Nat.reduceEqDiff, Nat.zero_add, if_true, if_false, reduceIte, reduceCtorEq, Bool.false_eq_true], rfl⟩
  have lf : lenD (msD n fs) = some (nD n) := by show some (PyData.int ((List.map _ (List.range n)).length : Nat)) = _; rw [List.length_map, List.length_range]; rfl
  have hz : ((List.range n).filter fun k => !front.testBit k).length ≤ 1000000 := Nat.le_trans (List.length_filter_le _ _) (by simp; omega)
  simp only [seqG, setG, nwM, init, init, retOf, seqG, setG, newG, iffG, rtG, drG, asgG, nxG, noG, liftP, liftT, nwM, tb, tbM, op1, op1M, op2, op2M, vG, rG, fG, cG, callG, aNil, aCons, aStar, tAndG, tOrG, tNotG, tAndM, tOrM, tNotM, andG, orG, Dn.andM, Dn.orM, ifG, ifM, boolOf, nmT, nilT, consT, tupT, setVG, fzV, olV, odV, parG, par3G', notD, negD, tupM, lstN, lenD, listI, cutN.listOf, wipeR, putBack, fzOf, intOf, iiG, iiB, iiC, List.map_cons, List.map_nil, List.cons_append, List.nil_append, List.append_nil, List.length_cons, List.length_nil, List.length_map, List.replicate_succ, List.replicate_zero, List.getElem?_cons_zero, List.getElem?_cons_succ, List.set_cons_zero, List.set_cons_succ, Option.bind_some, Option.bind_none, Option.map_some, Option.map_none, Bool.not_true, Bool.not_false, Bool.true_and, Bool.and_true, Bool.false_and, Bool.and_false, Bool.or_true, Bool.true_or, Bool.or_false, Bool.false_or, decide_true, decide_false, Nat.reduceSub, Nat.reduceAdd, Nat.reduceLeDiff, Nat.reduceEqDiff, Nat.zero_add, if_true, if_false, reduceIte, reduceCtorEq, Bool.false_eq_true]
  rw [lcN_eq (rng_n (n := n) (ρ' := [some (.fz (msD n fs)), some (.fz (nD front)), none, none]) (by simp only [liftP, op1, vG, List.getElem?_cons_zero, Option.bind_some, lf, Option.map_some]) (by omega)) (by simp; omega)]
  simp only [wipeR, List.set_cons_zero, List.set_cons_succ]
  rw [hc]
  simp only [init, retOf, seqG, setG, newG, iffG, rtG, drG, asgG, nxG, noG, liftP, liftT, nwM, tb, tbM, op1, op1M, op2, op2M, vG, rG, fG, cG, callG, aNil, aCons, aStar, tAndG, tOrG, tNotG, tAndM, tOrM, tNotM, andG, orG, Dn.andM, Dn.orM, ifG, ifM, boolOf, nmT, nilT, consT, tupT, setVG, fzV, olV, odV, parG, par3G', notD, negD, tupM, lstN, lenD, listI, cutN.listOf, wipeR, putBack, fzOf, intOf, iiG, iiB, iiC, List.map_cons, List.map_nil, List.cons_append, List.nil_append, List.append_nil, List.length_cons, List.length_nil, List.length_map, List.replicate_succ, List.replicate_zero, List.getElem?_cons_zero, List.getElem?_cons_succ, List.set_cons_zero, List.set_cons_succ, Option.bind_some, Option.bind_none, Option.map_some, Option.map_none, Bool.not_true, Bool.not_false, Bool.true_and, Bool.and_true, Bool.false_and, Bool.and_false, Bool.or_true, Bool.true_or, Bool.or_false, Bool.false_or, decide_true, decide_false, Nat.reduceSub, Nat.reduceAdd, Nat.reduceLeDiff, Nat.reduceEqDiff, Nat.zero_add, if_true, if_false, reduceIte, reduceCtorEq, Bool.false_eq_true]
  rw [lcN_eq (ds := ((List.range n).filter fun k => !front.testBit k).map nD) rfl (by rw [List.length_map]; exact hz)]
  simp only [wipeR, List.set_cons_zero, List.set_cons_succ]
  rw [hd _ _ fun k hk => by have := (List.mem_filter.mp hk).1; simpa using this]
  simp only [init, retOf, seqG, setG, newG, iffG, rtG, drG, asgG, nxG, noG, liftP, liftT, nwM, tb, tbM, op1, op1M, op2, op2M, vG, rG, fG, cG, callG, aNil, aCons, aStar, tAndG, tOrG, tNotG, tAndM, tOrM, tNotM, andG, orG, Dn.andM, Dn.orM, ifG, ifM, boolOf, nmT, nilT, consT, tupT, setVG, fzV, olV, odV, parG, par3G', notD, negD, tupM, lstN, lenD, listI, cutN.listOf, wipeR, putBack, fzOf, intOf, iiG, iiB, iiC, List.map_cons, List.map_nil, List.cons_append, List.nil_append, List.append_nil, List.length_cons, List.length_nil, List.length_map, List.replicate_succ, List.replicate_zero, List.getElem?_cons_zero, List.getElem?_cons_succ, List.set_cons_zero, List.set_cons_succ, Option.bind_some, Option.bind_none, Option.map_some, Option.map_none, Bool.not_true, Bool.not_false, Bool.true_and, Bool.and_true, Bool.false_and, Bool.and_false, Bool.or_true, Bool.true_or, Bool.or_false, Bool.false_or, decide_true, decide_false, Nat.reduceSub, Nat.reduceAdd, Nat.reduceLeDiff, Nat.reduceEqDiff, Nat.zero_add, if_true, if_false, reduceIte, reduceCtorEq, Bool.false_eq_true]
  rfl
/-! ### what may stand ahead without the barred ones -/
/-- a front that was built up rule by rule -/
def Leg (n : Nat) (fs : List Fact) (barred front : Nat) : Prop := ∃ (t : Nat → Nat) (T : Nat), ∀ r, front.testBit r = true → t r < T ∧ r < n ∧ barred.testBit r = false ∧ ∀ f ∈ fs, f.getD r .S = .L → ∃ w, w < n ∧ f.getD w .S = .W ∧ front.testBit w = true ∧ t w < t r
theorem or_bit (a k j : Nat) : (a ||| 2 ^ k).testBit j = (a.testBit j || decide (k = j)) := by rw [Nat.testBit_or, Nat.testBit_two_pow]
theorem Leg.add {n : Nat} {fs : List Fact} {barred front r : Nat} (h : Leg n fs barred front) (hr : r < n) (hb : barred.testBit r = false) (hc : ∀ f ∈ fs, f.getD r .S = .L → ∃ w, w < n ∧ f.getD w .S = .W ∧ front.testBit w = true) : Leg n fs barred (front ||| 2 ^ r) := by
  obtain ⟨t, T, h⟩ := h
  by_cases hin : front.testBit r = true
  · refine ⟨t, T, fun x hx => ?_⟩
    rw [or_bit] at hx
    have hx : front.testBit x = true := by
      by_cases e : r = x
      · subst e; exact hin
      · simpa [e] using hx
    obtain ⟨a1, a2, a3, a4⟩ := h x hx
    refine ⟨a1, a2, a3, fun f hf hL => ?_⟩
    obtain ⟨w, b1, b2, b3, b4⟩ := a4 f hf hL
    exact ⟨w, b1, b2, by rw [or_bit, b3]; rfl, b4⟩
  · refine ⟨fun x => if x = r then T else t x, T + 1, fun x hx => ?_⟩
    rw [or_bit] at hx
    by_cases e : x = r
    · subst e
      refine ⟨by simp, hr, hb, fun f hf hL => ?_⟩
      obtain ⟨w, b1, b2, b3⟩ := hc f hf hL
      have hne : w ≠ x := fun z => hin (z ▸ b3)
      refine ⟨w, b1, b2, by rw [or_bit, b3]; rfl, ?_⟩
      simp only [if_neg hne, if_true]
      exact (h w b3).1
    · have hx : front.testBit x = true := by
        have : ¬ r = x := fun z => e z.symm
        simpa [this] using hx
      obtain ⟨a1, a2, a3, a4⟩ := h x hx
      refine ⟨by simp only [if_neg e]; omega, a2, a3, fun f hf hL => ?_⟩
      obtain ⟨w, b1, b2, b3, b4⟩ := a4 f hf hL
      have hne : w ≠ r := fun z => hin (z ▸ b3)
      exact ⟨w, b1, b2, by rw [or_bit, b3]; rfl, by simp only [if_neg e, if_neg hne]; exact b4⟩
theorem Leg.zero {n : Nat} {fs : List Fact} {barred : Nat} : Leg n fs barred 0 := ⟨fun _ => 0, 0, fun r h => by simp at h⟩
def Closed (n : Nat) (fs : List Fact) (barred front : Nat) : Prop := ∀ r, r < n → barred.testBit r = false → can fs front r = true → front.testBit r = true
def cnt (n front : Nat) : Nat := ((List.range n).filter fun k => front.testBit k).length
theorem cnt_le (n front : Nat) : cnt n front ≤ n := Nat.le_trans (List.length_filter_le _ _) (by simp)
theorem filter_lt {p q : Nat → Bool} : ∀ {l : List Nat}, (∀ x ∈ l, p x = true → q x = true) → (∃ x ∈ l, q x = true ∧ p x = false) → (l.filter p).length < (l.filter q).length
  | [], _, ⟨x, h, _⟩ => by cases h
  | a :: l, h, ⟨x, hx, h1, h2⟩ => by
    have le : (l.filter p).length ≤ (l.filter q).length := by
      have : ∀ {l : List Nat}, (∀ x ∈ l, p x = true → q x = true) → (l.filter p).length ≤ (l.filter q).length := by
        intro l
        induction l with
        | nil => intro _; exact Nat.le_refl _
        | cons b l ih =>
          intro h
          have := ih fun x hx => h x (by simp [hx])
          have hb := h b (by simp)
          cases e1 : p b <;> cases e2 : q b <;> simp_all <;> omega
      exact this fun x hx => h x (by simp [hx])
    rcases List.mem_cons.mp hx with rfl | hx
    · rw [List.filter_cons, List.filter_cons, h1, h2]
      simp
      omega
    · have ih := filter_lt (l := l) (fun x hx => h x (by simp [hx])) ⟨x, hx, h1, h2⟩
      have ha := h a (by simp)
      cases e1 : p a <;> cases e2 : q a <;> simp_all <;> omega
theorem cnt_lt {n a b : Nat} (h : ∀ x, a.testBit x = true → b.testBit x = true) {r : Nat} (hr : r < n) (h1 : b.testBit r = true) (h2 : a.testBit r = false) : cnt n a < cnt n b :=
  filter_lt (fun x _ => h x) ⟨r, by simpa using hr, h1, h2⟩
theorem front_turn (n : Nat) (ms : PyData) (barred front : Nat) (st : Bool) (k : Nat) (hk : k < 60) :
    b_front_without_1 [some (.fz ms), some (.fz (nD barred)), some (.fz (nD front)), some (.fz (.bool st)), some (.fz (nD k))] =
      some (.nx, [some (.fz ms), some (.fz (nD barred)), some (.fz (nD (if barred.testBit k = true then front else front ||| 2 ^ k))), some (.fz (.bool (st && barred.testBit k))), some (.fz (nD k))]) := by
  unfold b_front_without_1
  simp only [init, retOf, seqG, setG, newG, iffG, rtG, drG, asgG, nxG, noG, liftP, liftT, nwM, tb, tbM, op1, op1M, op2, op2M, vG, rG, fG, cG, callG, aNil, aCons, aStar, tAndG, tOrG, tNotG, tAndM, tOrM, tNotM, andG, orG, Dn.andM, Dn.orM, ifG, ifM, boolOf, nmT, nilT, consT, tupT, setVG, fzV, olV, odV, parG, par3G', notD, negD, tupM, lstN, lenD, listI, cutN.listOf, wipeR, putBack, fzOf, intOf, iiG, iiB, iiC, List.map_cons, List.map_nil, List.cons_append, List.nil_append, List.append_nil, List.length_cons, List.length_nil, List.length_map, List.replicate_succ, List.replicate_zero, List.getElem?_cons_zero, List.getElem?_cons_succ, List.set_cons_zero, List.set_cons_succ, Option.bind_some, Option.bind_none, Option.map_some, Option.map_none, Bool.not_true, Bool.not_false, Bool.true_and, Bool.and_true, Bool.false_and, Bool.and_false, Bool.or_true, Bool.true_or, Bool.or_false, Bool.false_or, decide_true, decide_false, Nat.reduceSub, Nat.reduceAdd, Nat.reduceLeDiff, Nat.reduceEqDiff, Nat.zero_add, if_true, if_false, reduceIte, reduceCtorEq, Bool.false_eq_true]
  rw [shr_nn]
  simp only [init, retOf, seqG, setG, newG, iffG, rtG, drG, asgG, nxG, noG, liftP, liftT, nwM, tb, tbM, op1, op1M, op2, op2M, vG, rG, fG, cG, callG, aNil, aCons, aStar, tAndG, tOrG, tNotG, tAndM, tOrM, tNotM, andG, orG, Dn.andM, Dn.orM, ifG, ifM, boolOf, nmT, nilT, consT, tupT, setVG, fzV, olV, odV, parG, par3G', notD, negD, tupM, lstN, lenD, listI, cutN.listOf, wipeR, putBack, fzOf, intOf, iiG, iiB, iiC, List.map_cons, List.map_nil, List.cons_append, List.nil_append, List.append_nil, List.length_cons, List.length_nil, List.length_map, List.replicate_succ, List.replicate_zero, List.getElem?_cons_zero, List.getElem?_cons_succ, List.set_cons_zero, List.set_cons_succ, Option.bind_some, Option.bind_none, Option.map_some, Option.map_none, Bool.not_true, Bool.not_false, Bool.true_and, Bool.and_true, Bool.false_and, Bool.and_false, Bool.or_true, Bool.true_or, Bool.or_false, Bool.false_or, decide_true, decide_false, Nat.reduceSub, Nat.reduceAdd, Nat.reduceLeDiff, Nat.reduceEqDiff, Nat.zero_add, if_true, if_false, reduceIte, reduceCtorEq, Bool.false_eq_true, int_1, int_0]
  rw [and_nn]
  simp only [init, retOf, seqG, setG, newG, iffG, rtG, drG, asgG, nxG, noG, liftP, liftT, nwM, tb, tbM, op1, op1M, op2, op2M, vG, rG, fG, cG, callG, aNil, aCons, aStar, tAndG, tOrG, tNotG, tAndM, tOrM, tNotM, andG, orG, Dn.andM, Dn.orM, ifG, ifM, boolOf, nmT, nilT, consT, tupT, setVG, fzV, olV, odV, parG, par3G', notD, negD, tupM, lstN, lenD, listI, cutN.listOf, wipeR, putBack, fzOf, intOf, iiG, iiB, iiC, List.map_cons, List.map_nil, List.cons_append, List.nil_append, List.append_nil, List.length_cons, List.length_nil, List.length_map, List.replicate_succ, List.replicate_zero, List.getElem?_cons_zero, List.getElem?_cons_succ, List.set_cons_zero, List.set_cons_succ, Option.bind_some, Option.bind_none, Option.map_some, Option.map_none, Bool.not_true, Bool.not_false, Bool.true_and, Bool.and_true, Bool.false_and, Bool.and_false, Bool.or_true, Bool.true_or, Bool.or_false, Bool.false_or, decide_true, decide_false, Nat.reduceSub, Nat.reduceAdd, Nat.reduceLeDiff, Nat.reduceEqDiff, Nat.zero_add, if_true, if_false, reduceIte, reduceCtorEq, Bool.false_eq_true, bit_0]
  cases h : barred.testBit k
  · simp only [init, retOf, seqG, setG, newG, iffG, rtG, drG, asgG, nxG, noG, liftP, liftT, nwM, tb, tbM, op1, op1M, op2, op2M, vG, rG, fG, cG, callG, aNil, aCons, aStar, tAndG, tOrG, tNotG, tAndM, tOrM, tNotM, andG, orG, Dn.andM, Dn.orM, ifG, ifM, boolOf, nmT, nilT, consT, tupT, setVG, fzV, olV, odV, parG, par3G', notD, negD, tupM, lstN, lenD, listI, cutN.listOf, wipeR, putBack, fzOf, intOf, iiG, iiB, iiC, List.map_cons, List.map_nil, List.cons_append, List.nil_append, List.append_nil, List.length_cons, List.length_nil, List.length_map, List.replicate_succ, List.replicate_zero, List.getElem?_cons_zero, List.getElem?_cons_succ, List.set_cons_zero, List.set_cons_succ, Option.bind_some, Option.bind_none, Option.map_some, Option.map_none, Bool.not_true, Bool.not_false, Bool.true_and, Bool.and_true, Bool.false_and, Bool.and_false, Bool.or_true, Bool.true_or, Bool.or_false, Bool.false_or, decide_true, decide_false, Nat.reduceSub, Nat.reduceAdd, Nat.reduceLeDiff, Nat.reduceEqDiff, Nat.zero_add, if_true, if_false, reduceIte, reduceCtorEq, Bool.false_eq_true]
    rw [← int_1, shl_1 k (by omega)]
    simp only [init, retOf, seqG, setG, newG, iffG, rtG, drG, asgG, nxG, noG, liftP, liftT, nwM, tb, tbM, op1, op1M, op2, op2M, vG, rG, fG, cG, callG, aNil, aCons, aStar, tAndG, tOrG, tNotG, tAndM, tOrM, tNotM, andG, orG, Dn.andM, Dn.orM, ifG, ifM, boolOf, nmT, nilT, consT, tupT, setVG, fzV, olV, odV, parG, par3G', notD, negD, tupM, lstN, lenD, listI, cutN.listOf, wipeR, putBack, fzOf, intOf, iiG, iiB, iiC, List.map_cons, List.map_nil, List.cons_append, List.nil_append, List.append_nil, List.length_cons, List.length_nil, List.length_map, List.replicate_succ, List.replicate_zero, List.getElem?_cons_zero, List.getElem?_cons_succ, List.set_cons_zero, List.set_cons_succ, Option.bind_some, Option.bind_none, Option.map_some, Option.map_none, Bool.not_true, Bool.not_false, Bool.true_and, Bool.and_true, Bool.false_and, Bool.and_false, Bool.or_true, Bool.true_or, Bool.or_false, Bool.false_or, decide_true, decide_false, Nat.reduceSub, Nat.reduceAdd, Nat.reduceLeDiff, Nat.reduceEqDiff, Nat.zero_add, if_true, if_false, reduceIte, reduceCtorEq, Bool.false_eq_true]
    rw [or_nn]
    simp only [init, retOf, seqG, setG, newG, iffG, rtG, drG, asgG, nxG, noG, liftP, liftT, nwM, tb, tbM, op1, op1M, op2, op2M, vG, rG, fG, cG, callG, aNil, aCons, aStar, tAndG, tOrG, tNotG, tAndM, tOrM, tNotM, andG, orG, Dn.andM, Dn.orM, ifG, ifM, boolOf, nmT, nilT, consT, tupT, setVG, fzV, olV, odV, parG, par3G', notD, negD, tupM, lstN, lenD, listI, cutN.listOf, wipeR, putBack, fzOf, intOf, iiG, iiB, iiC, List.map_cons, List.map_nil, List.cons_append, List.nil_append, List.append_nil, List.length_cons, List.length_nil, List.length_map, List.replicate_succ, List.replicate_zero, List.getElem?_cons_zero, List.getElem?_cons_succ, List.set_cons_zero, List.set_cons_succ, Option.bind_some, Option.bind_none, Option.map_some, Option.map_none, Bool.not_true, Bool.not_false, Bool.true_and, Bool.and_true, Bool.false_and, Bool.and_false, Bool.or_true, Bool.true_or, Bool.or_false, Bool.false_or, decide_true, decide_false, Nat.reduceSub, Nat.reduceAdd, Nat.reduceLeDiff, Nat.reduceEqDiff, Nat.zero_add, if_true, if_false, reduceIte, reduceCtorEq, Bool.false_eq_true]
  · simp only [init, retOf, seqG, setG, newG, iffG, rtG, drG, asgG, nxG, noG, liftP, liftT, nwM, tb, tbM, op1, op1M, op2, op2M, vG, rG, fG, cG, callG, aNil, aCons, aStar, tAndG, tOrG, tNotG, tAndM, tOrM, tNotM, andG, orG, Dn.andM, Dn.orM, ifG, ifM, boolOf, nmT, nilT, consT, tupT, setVG, fzV, olV, odV, parG, par3G', notD, negD, tupM, lstN, lenD, listI, cutN.listOf, wipeR, putBack, fzOf, intOf, iiG, iiB, iiC, List.map_cons, List.map_nil, List.cons_append, List.nil_append, List.append_nil, List.length_cons, List.length_nil, List.length_map, List.replicate_succ, List.replicate_zero, List.getElem?_cons_zero, List.getElem?_cons_succ, List.set_cons_zero, List.set_cons_succ, Option.bind_some, Option.bind_none, Option.map_some, Option.map_none, Bool.not_true, Bool.not_false, Bool.true_and, Bool.and_true, Bool.false_and, Bool.and_false, Bool.or_true, Bool.true_or, Bool.or_false, Bool.false_or, decide_true, decide_false, Nat.reduceSub, Nat.reduceAdd, Nat.reduceLeDiff, Nat.reduceEqDiff, Nat.zero_add, if_true, if_false, reduceIte, reduceCtorEq, Bool.false_eq_true]
theorem front_without (n : Nat) (fs : List Fact) (hf : Fits n fs) (hn : n ≤ 60) (hl : fs.length < 64) (barred : Nat) :
    ∃ front, runG 5 g_front_without [msD n fs, nD barred] = some (nD front) ∧ Leg n fs barred front ∧ Closed n fs barred front := by
  obtain ⟨o, ρ', e1, e2⟩ := while_gen (c := w_front_without_1) (b := b_front_without_2)
    (fun k ρ => ∃ front st x4, ρ = [some (.fz (msD n fs)), some (.fz (nD barred)), some (.fz (nD front)), some (.fz (.bool st)), x4] ∧ Leg n fs barred front ∧ (st = true → Closed n fs barred front) ∧ k = if st = true then 0 else n - cnt n front + 1)
    (fun o ρ => o = .nx ∧ ∃ front st x4, ρ = [some (.fz (msD n fs)), some (.fz (nD barred)), some (.fz (nD front)), some (.fz (.bool st)), x4] ∧ Leg n fs barred front ∧ Closed n fs barred front) (by
      rintro k ρ ⟨front, st, x4, rfl, leg, cl, rfl⟩
      have hw : w_front_without_1 [some (.fz (msD n fs)), some (.fz (nD barred)), some (.fz (nD front)), some (.fz (.bool st)), x4] = some (!st, [some (.fz (msD n fs)), some (.fz (nD barred)), some (.fz (nD front)), some (.fz (.bool st)), x4]) := by
        unfold w_front_without_1; simp only [init, retOf, seqG, setG, newG, iffG, rtG, drG, asgG, nxG, noG, liftP, liftT, nwM, tb, tbM, op1, op1M, op2, op2M, vG, rG, fG, cG, callG, aNil, aCons, aStar, tAndG, tOrG, tNotG, tAndM, tOrM, tNotM, andG, orG, Dn.andM, Dn.orM, ifG, ifM, boolOf, nmT, nilT, consT, tupT, setVG, fzV, olV, odV, parG, par3G', notD, negD, tupM, lstN, lenD, listI, cutN.listOf, wipeR, putBack, fzOf, intOf, iiG, iiB, iiC, List.map_cons, List.map_nil, List.cons_append, List.nil_append, List.append_nil, List.length_cons, List.length_nil, List.length_map, List.replicate_succ, List.replicate_zero, List.getElem?_cons_zero, List.getElem?_cons_succ, List.set_cons_zero, List.set_cons_succ, Option.bind_some, Option.bind_none, Option.map_some, Option.map_none, Bool.not_true, Bool.not_false, Bool.true_and, Bool.and_true, Bool.false_and, Bool.and_false, Bool.or_true, Bool.true_or, Bool.or_false, Bool.false_or, decide_true, decide_false, Nat.reduceSub, Nat.reduceAdd, Nat.reduceLeDiff, Nat.reduceEqDiff, Nat.zero_add, if_true, if_false, reduceIte, reduceCtorEq, Bool.false_eq_true]
      refine ⟨!st, _, hw, fun h => ?_, fun h => ?_⟩
      · have hs : st = true := by simpa using h
        exact ⟨rfl, front, st, x4, rfl, leg, cl hs⟩
      · have hs : st = false := by simpa using h
        subst hs
        obtain ⟨ρ2, f1, front2, st2, y4, rfl, leg2, sub, all, nothing⟩ := for_all (td := nmT 4) (b := b_front_without_1) nD
          (fun j ρ => ∃ front2 st2 y4, ρ = [some (.fz (msD n fs)), some (.fz (nD barred)), some (.fz (nD front2)), some (.fz (.bool st2)), y4] ∧ Leg n fs barred front2 ∧ (∀ x, front.testBit x = true → front2.testBit x = true) ∧
            (st2 = true → front2 = front ∧ ∀ i, i < j → ∀ x, (pl n fs front)[i]? = some x → barred.testBit x = true) ∧ (st2 = false → ∃ x ∈ pl n fs front, front2.testBit x = true)) (pl n fs front)
          [some (.fz (msD n fs)), some (.fz (nD barred)), some (.fz (nD front)), some (.fz (.bool true)), x4] (by
            rintro j x ρ hj ⟨front2, st2, y4, rfl, leg2, sub, all, some2⟩
            have hx : x ∈ pl n fs front := List.mem_of_getElem? hj
            obtain ⟨q1, q2, q3⟩ := pl_mem.mp hx
            refine ⟨_, _, rfl, front_turn n _ barred front2 st2 x (by omega), _, _, _, rfl, ?_⟩
            cases hb : barred.testBit x with
            | true =>
              simp only [if_true, Bool.and_true]
              refine ⟨leg2, sub, fun hs => ⟨(all hs).1, fun i hi y hy => ?_⟩, some2⟩
              by_cases e : i = j
              · subst e; rw [hj] at hy; cases hy; exact hb
              · exact (all hs).2 i (by omega) y hy
            | false =>
              simp only [Bool.false_eq_true, if_false, Bool.and_false]
              refine ⟨leg2.add q1 hb fun f hx hL => ?_, fun y hy => by rw [or_bit, sub y hy]; rfl, fun hs => hs.elim, fun _ => ⟨x, hx, by rw [or_bit]; simp⟩⟩
              obtain ⟨w, b1, b2, b3⟩ := (can_iff hf).mp q3 f hx hL
              exact ⟨w, b1, b2, sub w b3⟩) ⟨front, true, x4, rfl, leg, fun _ h => h, fun _ => ⟨rfl, fun i hi => by omega⟩, fun h => by cases h⟩
        have hb2 : b_front_without_2 [some (.fz (msD n fs)), some (.fz (nD barred)), some (.fz (nD front)), some (.fz (.bool false)), x4] = some (.nx, [some (.fz (msD n fs)), some (.fz (nD barred)), some (.fz (nD front2)), some (.fz (.bool st2)), y4]) := by
          unfold b_front_without_2
          simp only [init, retOf, seqG, setG, newG, iffG, rtG, drG, asgG, nxG, noG, liftP, liftT, nwM, tb, tbM, op1, op1M, op2, op2M, vG, rG, fG, cG, callG, aNil, aCons, aStar, tAndG, tOrG, tNotG, tAndM, tOrM, tNotM, andG, orG, Dn.andM, Dn.orM, ifG, ifM, boolOf, nmT, nilT, consT, tupT, setVG, fzV, olV, odV, parG, par3G', notD, negD, tupM, lstN, lenD, listI, cutN.listOf, wipeR, putBack, fzOf, intOf, iiG, iiB, iiC, List.map_cons, List.map_nil, List.cons_append, List.nil_append, List.append_nil, List.length_cons, List.length_nil, List.length_map, List.replicate_succ, List.replicate_zero, List.getElem?_cons_zero, List.getElem?_cons_succ, List.set_cons_zero, List.set_cons_succ, Option.bind_some, Option.bind_none, Option.map_some, Option.map_none, Bool.not_true, Bool.not_false, Bool.true_and, Bool.and_true, Bool.false_and, Bool.and_false, Bool.or_true, Bool.true_or, Bool.or_false, Bool.false_or, decide_true, decide_false, Nat.reduceSub, Nat.reduceAdd, Nat.reduceLeDiff, Nat.reduceEqDiff, Nat.zero_add, if_true, if_false, reduceIte, reduceCtorEq, Bool.false_eq_true]
          rw [forG_eq (ds := (pl n fs front).map nD) (ρ1 := [some (.fz (msD n fs)), some (.fz (nD barred)), some (.fz (nD front)), some (.fz (.bool true)), x4]) (by simp only [init, retOf, seqG, setG, newG, iffG, rtG, drG, asgG, nxG, noG, liftP, liftT, nwM, tb, tbM, op1, op1M, op2, op2M, vG, rG, fG, cG, callG, aNil, aCons, aStar, tAndG, tOrG, tNotG, tAndM, tOrM, tNotM, andG, orG, Dn.andM, Dn.orM, ifG, ifM, boolOf, nmT, nilT, consT, tupT, setVG, fzV, olV, odV, parG, par3G', notD, negD, tupM, lstN, lenD, listI, cutN.listOf, wipeR, putBack, fzOf, intOf, iiG, iiB, iiC, List.map_cons, List.map_nil, List.cons_append, List.nil_append, List.append_nil, List.length_cons, List.length_nil, List.length_map, List.replicate_succ, List.replicate_zero, List.getElem?_cons_zero, List.getElem?_cons_succ, List.set_cons_zero, List.set_cons_succ, Option.bind_some, Option.bind_none, Option.map_some, Option.map_none, Bool.not_true, Bool.not_false, Bool.true_and, Bool.and_true, Bool.false_and, Bool.and_false, Bool.or_true, Bool.true_or, Bool.or_false, Bool.false_or, decide_true, decide_false, Nat.reduceSub, Nat.reduceAdd, Nat.reduceLeDiff, Nat.reduceEqDiff, Nat.zero_add, if_true, if_false, reduceIte, reduceCtorEq, Bool.false_eq_true, placeable n fs hn hl front, nsD]), f1]
        refine ⟨.nx, _, hb2, ?_⟩
        · cases hs : st2 with
          | true =>
            obtain ⟨rfl, hall⟩ := all hs
            refine ⟨0, by simp, front2, true, y4, rfl, leg2, fun _ r hr hb hc => ?_, by simp⟩
            cases hin : front2.testBit r with
            | true => rfl
            | false =>
              have hm : r ∈ pl n fs front2 := pl_mem.mpr ⟨hr, hin, hc⟩
              obtain ⟨i, hi⟩ := List.getElem?_of_mem hm
              have hlt := (List.getElem?_eq_some_iff.mp hi).1
              rw [hall i hlt r hi] at hb
              cases hb
          | false =>
            obtain ⟨x, hx, h2⟩ := nothing hs
            obtain ⟨q1, q2, q3⟩ := pl_mem.mp hx
            have := cnt_lt sub q1 h2 q2
            have := cnt_le n front2
            exact ⟨n - cnt n front2 + 1, by simp; omega, front2, false, y4, rfl, leg2, fun h => (by cases h), by simp⟩)
    100 (n - cnt n 0 + 1) [some (.fz (msD n fs)), some (.fz (nD barred)), some (.fz (nD 0)), some (.fz (.bool false)), none] (by omega)
    ⟨0, false, none, rfl, Leg.zero, fun h => (by cases h), by simp⟩
  obtain ⟨rfl, front, st, x4, rfl, leg, cl⟩ := e2
  refine ⟨front, ?_, leg, cl⟩
  rw [run_eq]
  unfold g_front_without
  simp only [init, retOf, seqG, setG, newG, iffG, rtG, drG, asgG, nxG, noG, liftP, liftT, nwM, tb, tbM, op1, op1M, op2, op2M, vG, rG, fG, cG, callG, aNil, aCons, aStar, tAndG, tOrG, tNotG, tAndM, tOrM, tNotM, andG, orG, Dn.andM, Dn.orM, ifG, ifM, boolOf, nmT, nilT, consT, tupT, setVG, fzV, olV, odV, parG, par3G', notD, negD, tupM, lstN, lenD, listI, cutN.listOf, wipeR, putBack, fzOf, intOf, iiG, iiB, iiC, List.map_cons, List.map_nil, List.cons_append, List.nil_append, List.append_nil, List.length_cons, List.length_nil, List.length_map, List.replicate_succ, List.replicate_zero, List.getElem?_cons_zero, List.getElem?_cons_succ, List.set_cons_zero, List.set_cons_succ, Option.bind_some, Option.bind_none, Option.map_some, Option.map_none, Bool.not_true, Bool.not_false, Bool.true_and, Bool.and_true, Bool.false_and, Bool.and_false, Bool.or_true, Bool.true_or, Bool.or_false, Bool.false_or, decide_true, decide_false, Nat.reduceSub, Nat.reduceAdd, Nat.reduceLeDiff, Nat.reduceEqDiff, Nat.zero_add, if_true, if_false, reduceIte, reduceCtorEq, Bool.false_eq_true, int_0]
  rw [e1]
  simp only [init, retOf, seqG, setG, newG, iffG, rtG, drG, asgG, nxG, noG, liftP, liftT, nwM, tb, tbM, op1, op1M, op2, op2M, vG, rG, fG, cG, callG, aNil, aCons, aStar, tAndG, tOrG, tNotG, tAndM, tOrM, tNotM, andG, orG, Dn.andM, Dn.orM, ifG, ifM, boolOf, nmT, nilT, consT, tupT, setVG, fzV, olV, odV, parG, par3G', notD, negD, tupM, lstN, lenD, listI, cutN.listOf, wipeR, putBack, fzOf, intOf, iiG, iiB, iiC, List.map_cons, List.map_nil, List.cons_append, List.nil_append, List.append_nil, List.length_cons, List.length_nil, List.length_map, List.replicate_succ, List.replicate_zero, List.getElem?_cons_zero, List.getElem?_cons_succ, List.set_cons_zero, List.set_cons_succ, Option.bind_some, Option.bind_none, Option.map_some, Option.map_none, Bool.not_true, Bool.not_false, Bool.true_and, Bool.and_true, Bool.false_and, Bool.and_false, Bool.or_true, Bool.true_or, Bool.or_false, Bool.false_or, decide_true, decide_false, Nat.reduceSub, Nat.reduceAdd, Nat.reduceLeDiff, Nat.reduceEqDiff, Nat.zero_add, if_true, if_false, reduceIte, reduceCtorEq, Bool.false_eq_true]
end K85
end
section
set_option Elab.async false
set_option linter.all false
set_option maxRecDepth 100000
set_option maxHeartbeats 4000000
namespace K85
open PySem L2 Dn Rk
def fa_ (fs : List Fact) (i : Nat) : Fact := fs.getD i []
def tD (fs : List Fact) (i : Nat) : PyData := .tuple [nD i, nD (mask (fa_ fs i) .W), nD (mask (fa_ fs i) .L)]
def prD (p : Nat × Nat) : PyData := .tuple [nD p.1, nD p.2]
def clo (fs : List Fact) (I : List Nat) (front : Nat) : Nat := I.foldl (fun a i => a ||| mask (fa_ fs i) .L) front
theorem clo_bit (fs : List Fact) : ∀ (I : List Nat) (front k : Nat), (clo fs I front).testBit k = true ↔ front.testBit k = true ∨ ∃ i ∈ I, (mask (fa_ fs i) .L).testBit k = true
  | [], front, k => by simp [clo]
  | i :: I, front, k => by
    have := clo_bit fs I (front ||| mask (fa_ fs i) .L) k
    unfold clo at this ⊢
    rw [List.foldl_cons, this, Nat.testBit_or, Bool.or_eq_true, or_assoc]
    simp
theorem enum_fs (fs : List Fact) : enumFrom 0 (fs.map fD) = (List.range fs.length).map fun i => .tuple [nD i, fD (fa_ fs i)] := by
  apply List.ext_getElem?
  intro i
  rw [enumFrom_get, Nat.zero_add, List.getElem?_map, List.getElem?_map]
  by_cases h : i < fs.length
  · rw [List.getElem?_range h, List.getElem?_eq_getElem h]
    show some _ = some (PyData.tuple [nD i, fD (fs.getD i [])])
    rw [getD_fs h]; rfl
  · rw [List.getElem?_eq_none (by omega), List.getElem?_eq_none (by simp; omega)]; rfl
theorem lay_first (n : Nat) (hn : n ≤ 60) (fs : List Fact) (hf : Fits n fs) (i : Nat) (hi : i < fs.length) (x2 x6 x7 x8 x9 x10 x11 x12 x13 x14 : Option Sl) (acc : List PyData) (ha : acc.length ≤ 1000000) :
    b_layered_3 [some (.fz (nD n)), some (.fz (fsD fs)), x2, some (.ol acc), some (.fz (nD i)), some (.fz (fD (fa_ fs i))), x6, x7, x8, x9, x10, x11, x12, x13, x14] =
      some (.nx, [some (.fz (nD n)), some (.fz (fsD fs)), x2, some (.ol (if fa_ fs i = dots n then acc else acc ++ [tD fs i])), some (.fz (nD i)), some (.fz (fD (fa_ fs i))), x6, x7, x8, x9, x10, x11, x12, x13, x14]) := by
  have hlen : (fa_ fs i).length ≤ 60 := by
    unfold fa_; rw [getD_fs hi, hf _ (List.getElem_mem _)]; exact hn
  have m1 := mask_of (fa_ fs i) .W hlen
  have m2 := mask_of (fa_ fs i) .L hlen
  unfold b_layered_3 appG
  simp only [sD] at m1
  simp only [init, retOf, seqG, setG, newG, iffG, rtG, drG, asgG, nxG, noG, liftP, liftT, nwM, tb, tbM, op1, op1M, op2, op2M, vG, rG, fG, cG, callG, aNil, aCons, aStar, tAndG, tOrG, tNotG, tAndM, tOrM, tNotM, andG, orG, Dn.andM, Dn.orM, ifG, ifM, boolOf, nmT, nilT, consT, tupT, setVG, fzV, olV, odV, parG, par3G', notD, negD, tupM, lstN, lenD, listI, cutN.listOf, wipeR, putBack, fzOf, intOf, iiG, iiB, iiC, List.map_cons, List.map_nil, List.cons_append, List.nil_append, List.append_nil, List.length_cons, List.length_nil, List.length_map, List.replicate_succ, List.replicate_zero, List.getElem?_cons_zero, List.getElem?_cons_succ, List.set_cons_zero, List.set_cons_succ, Option.bind_some, Option.bind_none, Option.map_some, Option.map_none, Bool.not_true, Bool.not_false, Bool.true_and, Bool.and_true, Bool.false_and, Bool.and_false, Bool.or_true, Bool.true_or, Bool.or_false, Bool.false_or, decide_true, decide_false, Nat.reduceSub, Nat.reduceAdd, Nat.reduceLeDiff, Nat.reduceEqDiff, Nat.zero_add, if_true, if_false, reduceIte, reduceCtorEq, Bool.false_eq_true, str_S, lit_S, mulS_dots n hn, ne_f]
  by_cases h : fa_ fs i = dots n
  · simp only [h, init, retOf, seqG, setG, newG, iffG, rtG, drG, asgG, nxG, noG, liftP, liftT, nwM, tb, tbM, op1, op1M, op2, op2M, vG, rG, fG, cG, callG, aNil, aCons, aStar, tAndG, tOrG, tNotG, tAndM, tOrM, tNotM, andG, orG, Dn.andM, Dn.orM, ifG, ifM, boolOf, nmT, nilT, consT, tupT, setVG, fzV, olV, odV, parG, par3G', notD, negD, tupM, lstN, lenD, listI, cutN.listOf, wipeR, putBack, fzOf, intOf, iiG, iiB, iiC, List.map_cons, List.map_nil, List.cons_append, List.nil_append, List.append_nil, List.length_cons, List.length_nil, List.length_map, List.replicate_succ, List.replicate_zero, List.getElem?_cons_zero, List.getElem?_cons_succ, List.set_cons_zero, List.set_cons_succ, Option.bind_some, Option.bind_none, Option.map_some, Option.map_none, Bool.not_true, Bool.not_false, Bool.true_and, Bool.and_true, Bool.false_and, Bool.and_false, Bool.or_true, Bool.true_or, Bool.or_false, Bool.false_or, decide_true, decide_false, Nat.reduceSub, Nat.reduceAdd, Nat.reduceLeDiff, Nat.reduceEqDiff, Nat.zero_add, if_true, if_false, reduceIte, reduceCtorEq, Bool.false_eq_true]
  · simp only [h, init, retOf, seqG, setG, newG, iffG, rtG, drG, asgG, nxG, noG, liftP, liftT, nwM, tb, tbM, op1, op1M, op2, op2M, vG, rG, fG, cG, callG, aNil, aCons, aStar, tAndG, tOrG, tNotG, tAndM, tOrM, tNotM, andG, orG, Dn.andM, Dn.orM, ifG, ifM, boolOf, nmT, nilT, consT, tupT, setVG, fzV, olV, odV, parG, par3G', notD, negD, tupM, lstN, lenD, listI, cutN.listOf, wipeR, putBack, fzOf, intOf, iiG, iiB, iiC, List.map_cons, List.map_nil, List.cons_append, List.nil_append, List.append_nil, List.length_cons, List.length_nil, List.length_map, List.replicate_succ, List.replicate_zero, List.getElem?_cons_zero, List.getElem?_cons_succ, List.set_cons_zero, List.set_cons_succ, Option.bind_some, Option.bind_none, Option.map_some, Option.map_none, Bool.not_true, Bool.not_false, Bool.true_and, Bool.and_true, Bool.false_and, Bool.and_false, Bool.or_true, Bool.true_or, Bool.or_false, Bool.false_or, decide_true, decide_false, Nat.reduceSub, Nat.reduceAdd, Nat.reduceLeDiff, Nat.reduceEqDiff, Nat.zero_add, if_true, if_false, reduceIte, reduceCtorEq, Bool.false_eq_true, olAt, olSet, str_W, str_L, m1, lit_L, m2, ha]
    rfl
theorem lay_inner (fs : List Fact) (I : List Nat) (front : Nat) (x0 x1 x2 x3 x4 x5 x6 x7 x8 x10 x11 x12 x13 x14 : Option Sl) :
    ∃ y4 y11 y12, forL (tupT 3 (consT (nmT 4) (consT (nmT 11) (consT (nmT 12) nilT)))) b_layered_1 (I.map (tD fs)) [x0, x1, x2, x3, x4, x5, x6, x7, x8, some (.fz (nD front)), x10, x11, x12, x13, x14] =
      some (.nx, [x0, x1, x2, x3, y4, x5, x6, x7, x8, some (.fz (nD (clo fs I front))), x10, y11, y12, x13, x14]) := by
  obtain ⟨ρ', e, y4, y11, y12, rfl⟩ := for_all (td := tupT 3 (consT (nmT 4) (consT (nmT 11) (consT (nmT 12) nilT)))) (b := b_layered_1) (tD fs)
    (fun j ρ => ∃ y4 y11 y12, ρ = [x0, x1, x2, x3, y4, x5, x6, x7, x8, some (.fz (nD (clo fs (I.take j) front))), x10, y11, y12, x13, x14]) I
    [x0, x1, x2, x3, x4, x5, x6, x7, x8, some (.fz (nD front)), x10, x11, x12, x13, x14] (by
      rintro j i ρ hj ⟨y4, y11, y12, rfl⟩
      have hb : b_layered_1 [x0, x1, x2, x3, some (.fz (nD i)), x5, x6, x7, x8, some (.fz (nD (clo fs (I.take j) front))), x10, some (.fz (nD (mask (fa_ fs i) .W))), some (.fz (nD (mask (fa_ fs i) .L))), x13, x14] =
          some (.nx, [x0, x1, x2, x3, some (.fz (nD i)), x5, x6, x7, x8, some (.fz (nD (clo fs (I.take (j + 1)) front))), x10, some (.fz (nD (mask (fa_ fs i) .W))), some (.fz (nD (mask (fa_ fs i) .L))), x13, x14]) := by
        unfold b_layered_1
        simp only [init, retOf, seqG, setG, newG, iffG, rtG, drG, asgG, nxG, noG, liftP, liftT, nwM, tb, tbM, op1, op1M, op2, op2M, vG, rG, fG, cG, callG, aNil, aCons, aStar, tAndG, tOrG, tNotG, tAndM, tOrM, tNotM, andG, orG, Dn.andM, Dn.orM, ifG, ifM, boolOf, nmT, nilT, consT, tupT, setVG, fzV, olV, odV, parG, par3G', notD, negD, tupM, lstN, lenD, listI, cutN.listOf, wipeR, putBack, fzOf, intOf, iiG, iiB, iiC, List.map_cons, List.map_nil, List.cons_append, List.nil_append, List.append_nil, List.length_cons, List.length_nil, List.length_map, List.replicate_succ, List.replicate_zero, List.getElem?_cons_zero, List.getElem?_cons_succ, List.set_cons_zero, List.set_cons_succ, Option.bind_some, Option.bind_none, Option.map_some, Option.map_none, Bool.not_true, Bool.not_false, Bool.true_and, Bool.and_true, Bool.false_and, Bool.and_false, Bool.or_true, Bool.true_or, Bool.or_false, Bool.false_or, decide_true, decide_false, Nat.reduceSub, Nat.reduceAdd, Nat.reduceLeDiff, Nat.reduceEqDiff, Nat.zero_add, if_true, if_false, reduceIte, reduceCtorEq, Bool.false_eq_true]
        rw [or_nn]
        simp only [init, retOf, seqG, setG, newG, iffG, rtG, drG, asgG, nxG, noG, liftP, liftT, nwM, tb, tbM, op1, op1M, op2, op2M, vG, rG, fG, cG, callG, aNil, aCons, aStar, tAndG, tOrG, tNotG, tAndM, tOrM, tNotM, andG, orG, Dn.andM, Dn.orM, ifG, ifM, boolOf, nmT, nilT, consT, tupT, setVG, fzV, olV, odV, parG, par3G', notD, negD, tupM, lstN, lenD, listI, cutN.listOf, wipeR, putBack, fzOf, intOf, iiG, iiB, iiC, List.map_cons, List.map_nil, List.cons_append, List.nil_append, List.append_nil, List.length_cons, List.length_nil, List.length_map, List.replicate_succ, List.replicate_zero, List.getElem?_cons_zero, List.getElem?_cons_succ, List.set_cons_zero, List.set_cons_succ, Option.bind_some, Option.bind_none, Option.map_some, Option.map_none, Bool.not_true, Bool.not_false, Bool.true_and, Bool.and_true, Bool.false_and, Bool.and_false, Bool.or_true, Bool.true_or, Bool.or_false, Bool.false_or, decide_true, decide_false, Nat.reduceSub, Nat.reduceAdd, Nat.reduceLeDiff, Nat.reduceEqDiff, Nat.zero_add, if_true, if_false, reduceIte, reduceCtorEq, Bool.false_eq_true]
        rw [List.take_add_one, hj]
        unfold clo
        rw [List.foldl_append]
        rfl
      exact ⟨_, _, rfl, hb, _, _, _, rfl⟩) ⟨x4, x11, x12, rfl⟩
  rw [List.take_length] at e
  exact ⟨y4, y11, y12, e⟩
theorem lay_body (n : Nat) (hn : n ≤ 60) (fs : List Fact) (I : List Nat) (hI : I.length ≤ 1000) (front layer whole : Nat) (pd : List (Nat × Nat)) (hp : pd.length ≤ 10000) (x4 x5 x9 x10 x11 x12 x13 x14 : Option Sl) :
    ∃ o ρ', b_layered_2 [some (.fz (nD n)), some (.fz (fsD fs)), some (.ol (pd.map prD)), some (.ol (I.map (tD fs))), x4, x5, some (.fz (nD front)), some (.fz (nD layer)), some (.fz (nD whole)), x9, x10, x11, x12, x13, x14] = some (o, ρ') ∧
      (whole ^^^ clo fs I front = 0 → o = .rt (.tuple [.list [], nsD I])) ∧
      (whole ^^^ clo fs I front ≠ 0 → o = .nx ∧ ∃ x4 x9 x10 x11 x12 x13 x14, ρ' = [some (.fz (nD n)), some (.fz (fsD fs)), some (.ol ((pd ++ ((List.range n).filter fun k => (whole ^^^ clo fs I front).testBit k).map fun k => (k, layer)).map prD)),
        some (.ol ((I.filter fun i => decide (mask (fa_ fs i) .W &&& (whole ^^^ clo fs I front) = 0)).map (tD fs))), x4, x5, some (.fz (nD (front ||| (whole ^^^ clo fs I front)))), some (.fz (nD (layer + 1))), some (.fz (nD whole)), x9, x10, x11, x12, x13, x14]) := by
  obtain ⟨y4, y11, y12, e⟩ := lay_inner fs I front (some (.fz (nD n))) (some (.fz (fsD fs))) (some (.ol (pd.map prD))) (some (.fz (.list (I.map (tD fs))))) x4 x5 (some (.fz (nD front))) (some (.fz (nD layer))) (some (.fz (nD whole))) x10 x11 x12 x13 x14
  generalize hcl : clo fs I front = cl at e ⊢
  have hz : (I.map (tD fs)).length ≤ 1000000 := by rw [List.length_map]; omega
  unfold b_layered_2
  simp only [init, retOf, seqG, setG, newG, iffG, rtG, drG, asgG, nxG, noG, liftP, liftT, nwM, tb, tbM, op1, op1M, op2, op2M, vG, rG, fG, cG, callG, aNil, aCons, aStar, tAndG, tOrG, tNotG, tAndM, tOrM, tNotM, andG, orG, Dn.andM, Dn.orM, ifG, ifM, boolOf, nmT, nilT, consT, tupT, setVG, fzV, olV, odV, parG, par3G', notD, negD, tupM, lstN, lenD, listI, cutN.listOf, wipeR, putBack, fzOf, intOf, iiG, iiB, iiC, List.map_cons, List.map_nil, List.cons_append, List.nil_append, List.append_nil, List.length_cons, List.length_nil, List.length_map, List.replicate_succ, List.replicate_zero, List.getElem?_cons_zero, List.getElem?_cons_succ, List.set_cons_zero, List.set_cons_succ, Option.bind_some, Option.bind_none, Option.map_some, Option.map_none, Bool.not_true, Bool.not_false, Bool.true_and, Bool.and_true, Bool.false_and, Bool.and_false, Bool.or_true, Bool.true_or, Bool.or_false, Bool.false_or, decide_true, decide_false, Nat.reduceSub, Nat.reduceAdd, Nat.reduceLeDiff, Nat.reduceEqDiff, Nat.zero_add, if_true, if_false, reduceIte, reduceCtorEq, Bool.false_eq_true]
  rw [forG_eq (ds := I.map (tD fs)) (ρ1 := [some (.fz (nD n)), some (.fz (fsD fs)), some (.ol (pd.map prD)), some (.fz (.list (I.map (tD fs)))), x4, x5, some (.fz (nD front)), some (.fz (nD layer)), some (.fz (nD whole)), some (.fz (nD front)), x10, x11, x12, x13, x14]) (by simp only [init, retOf, seqG, setG, newG, iffG, rtG, drG, asgG, nxG, noG, liftP, liftT, nwM, tb, tbM, op1, op1M, op2, op2M, vG, rG, fG, cG, callG, aNil, aCons, aStar, tAndG, tOrG, tNotG, tAndM, tOrM, tNotM, andG, orG, Dn.andM, Dn.orM, ifG, ifM, boolOf, nmT, nilT, consT, tupT, setVG, fzV, olV, odV, parG, par3G', notD, negD, tupM, lstN, lenD, listI, cutN.listOf, wipeR, putBack, fzOf, intOf, iiG, iiB, iiC, List.map_cons, List.map_nil, List.cons_append, List.nil_append, List.append_nil, List.length_cons, List.length_nil, List.length_map, List.replicate_succ, List.replicate_zero, List.getElem?_cons_zero, List.getElem?_cons_succ, List.set_cons_zero, List.set_cons_succ, Option.bind_some, Option.bind_none, Option.map_some, Option.map_none, Bool.not_true, Bool.not_false, Bool.true_and, Bool.and_true, Bool.false_and, Bool.and_false, Bool.or_true, Bool.true_or, Bool.or_false, Bool.false_or, decide_true, decide_false, Nat.reduceSub, Nat.reduceAdd, Nat.reduceLeDiff, Nat.reduceEqDiff, Nat.zero_add, if_true, if_false, reduceIte, reduceCtorEq, Bool.false_eq_true]), e]
  simp only [init, retOf, seqG, setG, newG, iffG, rtG, drG, asgG, nxG, noG, liftP, liftT, nwM, tb, tbM, op1, op1M, op2, op2M, vG, rG, fG, cG, callG, aNil, aCons, aStar, tAndG, tOrG, tNotG, tAndM, tOrM, tNotM, andG, orG, Dn.andM, Dn.orM, ifG, ifM, boolOf, nmT, nilT, consT, tupT, setVG, fzV, olV, odV, parG, par3G', notD, negD, tupM, lstN, lenD, listI, cutN.listOf, wipeR, putBack, fzOf, intOf, iiG, iiB, iiC, List.map_cons, List.map_nil, List.cons_append, List.nil_append, List.append_nil, List.length_cons, List.length_nil, List.length_map, List.replicate_succ, List.replicate_zero, List.getElem?_cons_zero, List.getElem?_cons_succ, List.set_cons_zero, List.set_cons_succ, Option.bind_some, Option.bind_none, Option.map_some, Option.map_none, Bool.not_true, Bool.not_false, Bool.true_and, Bool.and_true, Bool.false_and, Bool.and_false, Bool.or_true, Bool.true_or, Bool.or_false, Bool.false_or, decide_true, decide_false, Nat.reduceSub, Nat.reduceAdd, Nat.reduceLeDiff, Nat.reduceEqDiff, Nat.zero_add, if_true, if_false, reduceIte, reduceCtorEq, Bool.false_eq_true]
  rw [xor_nn]
  generalize hfr : whole ^^^ cl = free
  simp only [init, retOf, seqG, setG, newG, iffG, rtG, drG, asgG, nxG, noG, liftP, liftT, nwM, tb, tbM, op1, op1M, op2, op2M, vG, rG, fG, cG, callG, aNil, aCons, aStar, tAndG, tOrG, tNotG, tAndM, tOrM, tNotM, andG, orG, Dn.andM, Dn.orM, ifG, ifM, boolOf, nmT, nilT, consT, tupT, setVG, fzV, olV, odV, parG, par3G', notD, negD, tupM, lstN, lenD, listI, cutN.listOf, wipeR, putBack, fzOf, intOf, iiG, iiB, iiC, List.map_cons, List.map_nil, List.cons_append, List.nil_append, List.append_nil, List.length_cons, List.length_nil, List.length_map, List.replicate_succ, List.replicate_zero, List.getElem?_cons_zero, List.getElem?_cons_succ, List.set_cons_zero, List.set_cons_succ, Option.bind_some, Option.bind_none, Option.map_some, Option.map_none, Bool.not_true, Bool.not_false, Bool.true_and, Bool.and_true, Bool.false_and, Bool.and_false, Bool.or_true, Bool.true_or, Bool.or_false, Bool.false_or, decide_true, decide_false, Nat.reduceSub, Nat.reduceAdd, Nat.reduceLeDiff, Nat.reduceEqDiff, Nat.zero_add, if_true, if_false, reduceIte, reduceCtorEq, Bool.false_eq_true, int_0, eq_n]
  by_cases h0 : free = 0
  · have hc := lc_all (vs := [4, 11, 12]) (td := tupT 3 (consT (nmT 4) (consT (nmT 11) (consT (nmT 12) nilT)))) (ge := e_layered_4) (ρ := [some (.fz (nD n)), some (.fz (fsD fs)), some (.ol (pd.map prD)), some (.fz (.list (I.map (tD fs)))), none, x5, some (.fz (nD front)), some (.fz (nD layer)), some (.fz (nD whole)), some (.fz (nD cl)), some (.fz (nD 0)), none, none, x13, x14]) (tD fs) nD I fun i hi => ⟨_, rfl, by
      unfold e_layered_4
      simp only [init, retOf, seqG, setG, newG, iffG, rtG, drG, asgG, nxG, noG, liftP, liftT, nwM, tb, tbM, op1, op1M, op2, op2M, vG, rG, fG, cG, callG, aNil, aCons, aStar, tAndG, tOrG, tNotG, tAndM, tOrM, tNotM, andG, orG, Dn.andM, Dn.orM, ifG, ifM, boolOf, nmT, nilT, consT, tupT, setVG, fzV, olV, odV, parG, par3G', notD, negD, tupM, lstN, lenD, listI, cutN.listOf, wipeR, putBack, fzOf, intOf, iiG, iiB, iiC, List.map_cons, List.map_nil, List.cons_append, List.nil_append, List.append_nil, List.length_cons, List.length_nil, List.length_map, List.replicate_succ, List.replicate_zero, List.getElem?_cons_zero, List.getElem?_cons_succ, List.set_cons_zero, List.set_cons_succ, Option.bind_some, Option.bind_none, Option.map_some, Option.map_none, Bool.not_true, Bool.not_false, Bool.true_and, Bool.and_true, Bool.false_and, Bool.and_false, Bool.or_true, Bool.true_or, Bool.or_false, Bool.false_or, decide_true, decide_false, Nat.reduceSub, Nat.reduceAdd, Nat.reduceLeDiff, Nat.reduceEqDiff, Nat.zero_add, if_true, if_false, reduceIte, reduceCtorEq, Bool.false_eq_true], rfl⟩
    subst h0
    simp only [init, retOf, seqG, setG, newG, iffG, rtG, drG, asgG, nxG, noG, liftP, liftT, nwM, tb, tbM, op1, op1M, op2, op2M, vG, rG, fG, cG, callG, aNil, aCons, aStar, tAndG, tOrG, tNotG, tAndM, tOrM, tNotM, andG, orG, Dn.andM, Dn.orM, ifG, ifM, boolOf, nmT, nilT, consT, tupT, setVG, fzV, olV, odV, parG, par3G', notD, negD, tupM, lstN, lenD, listI, cutN.listOf, wipeR, putBack, fzOf, intOf, iiG, iiB, iiC, List.map_cons, List.map_nil, List.cons_append, List.nil_append, List.append_nil, List.length_cons, List.length_nil, List.length_map, List.replicate_succ, List.replicate_zero, List.getElem?_cons_zero, List.getElem?_cons_succ, List.set_cons_zero, List.set_cons_succ, Option.bind_some, Option.bind_none, Option.map_some, Option.map_none, Bool.not_true, Bool.not_false, Bool.true_and, Bool.and_true, Bool.false_and, Bool.and_false, Bool.or_true, Bool.true_or, Bool.or_false, Bool.false_or, decide_true, decide_false, Nat.reduceSub, Nat.reduceAdd, Nat.reduceLeDiff, Nat.reduceEqDiff, Nat.zero_add, if_true, if_false, reduceIte, reduceCtorEq, Bool.false_eq_true, Nat.zero_le]
    rw [lcN_eq (ds := I.map (tD fs)) rfl hz]
    simp only [wipeR, List.set_cons_zero, List.set_cons_succ]
    rw [hc]
    simp only [init, retOf, seqG, setG, newG, iffG, rtG, drG, asgG, nxG, noG, liftP, liftT, nwM, tb, tbM, op1, op1M, op2, op2M, vG, rG, fG, cG, callG, aNil, aCons, aStar, tAndG, tOrG, tNotG, tAndM, tOrM, tNotM, andG, orG, Dn.andM, Dn.orM, ifG, ifM, boolOf, nmT, nilT, consT, tupT, setVG, fzV, olV, odV, parG, par3G', notD, negD, tupM, lstN, lenD, listI, cutN.listOf, wipeR, putBack, fzOf, intOf, iiG, iiB, iiC, List.map_cons, List.map_nil, List.cons_append, List.nil_append, List.append_nil, List.length_cons, List.length_nil, List.length_map, List.replicate_succ, List.replicate_zero, List.getElem?_cons_zero, List.getElem?_cons_succ, List.set_cons_zero, List.set_cons_succ, Option.bind_some, Option.bind_none, Option.map_some, Option.map_none, Bool.not_true, Bool.not_false, Bool.true_and, Bool.and_true, Bool.false_and, Bool.and_false, Bool.or_true, Bool.true_or, Bool.or_false, Bool.false_or, decide_true, decide_false, Nat.reduceSub, Nat.reduceAdd, Nat.reduceLeDiff, Nat.reduceEqDiff, Nat.zero_add, if_true, if_false, reduceIte, reduceCtorEq, Bool.false_eq_true]
    exact ⟨_, _, rfl, fun _ => rfl, fun h => absurd rfl h⟩
  · simp only [init, retOf, seqG, setG, newG, iffG, rtG, drG, asgG, nxG, noG, liftP, liftT, nwM, tb, tbM, op1, op1M, op2, op2M, vG, rG, fG, cG, callG, aNil, aCons, aStar, tAndG, tOrG, tNotG, tAndM, tOrM, tNotM, andG, orG, Dn.andM, Dn.orM, ifG, ifM, boolOf, nmT, nilT, consT, tupT, setVG, fzV, olV, odV, parG, par3G', notD, negD, tupM, lstN, lenD, listI, cutN.listOf, wipeR, putBack, fzOf, intOf, iiG, iiB, iiC, List.map_cons, List.map_nil, List.cons_append, List.nil_append, List.append_nil, List.length_cons, List.length_nil, List.length_map, List.replicate_succ, List.replicate_zero, List.getElem?_cons_zero, List.getElem?_cons_succ, List.set_cons_zero, List.set_cons_succ, Option.bind_some, Option.bind_none, Option.map_some, Option.map_none, Bool.not_true, Bool.not_false, Bool.true_and, Bool.and_true, Bool.false_and, Bool.and_false, Bool.or_true, Bool.true_or, Bool.or_false, Bool.false_or, decide_true, decide_false, Nat.reduceSub, Nat.reduceAdd, Nat.reduceLeDiff, Nat.reduceEqDiff, Nat.zero_add, if_true, if_false, reduceIte, reduceCtorEq, Bool.false_eq_true, h0]
    have hc := lc_typed (vs := [14]) (td := nmT 14) (tt := q_layered_2) (ge := e_layered_3) (ρ := [some (.fz (nD n)), some (.fz (fsD fs)), some (.ol (pd.map prD)), some (.fz (.list (I.map (tD fs)))), y4, x5, some (.fz (nD front)), some (.fz (nD layer)), some (.fz (nD whole)), some (.fz (nD cl)), some (.fz (nD free)), y11, y12, x13, none]) nD (fun k => free.testBit k) (fun k => prD (k, layer)) (List.range n) fun k hk => ⟨_, rfl, by
      unfold q_layered_2
      simp only [init, retOf, seqG, setG, newG, iffG, rtG, drG, asgG, nxG, noG, liftP, liftT, nwM, tb, tbM, op1, op1M, op2, op2M, vG, rG, fG, cG, callG, aNil, aCons, aStar, tAndG, tOrG, tNotG, tAndM, tOrM, tNotM, andG, orG, Dn.andM, Dn.orM, ifG, ifM, boolOf, nmT, nilT, consT, tupT, setVG, fzV, olV, odV, parG, par3G', notD, negD, tupM, lstN, lenD, listI, cutN.listOf, wipeR, putBack, fzOf, intOf, iiG, iiB, iiC, List.map_cons, List.map_nil, List.cons_append, List.nil_append, List.append_nil, List.length_cons, List.length_nil, List.length_map, List.replicate_succ, List.replicate_zero, List.getElem?_cons_zero, List.getElem?_cons_succ, List.set_cons_zero, List.set_cons_succ, Option.bind_some, Option.bind_none, Option.map_some, Option.map_none, Bool.not_true, Bool.not_false, Bool.true_and, Bool.and_true, Bool.false_and, Bool.and_false, Bool.or_true, Bool.true_or, Bool.or_false, Bool.false_or, decide_true, decide_false, Nat.reduceSub, Nat.reduceAdd, Nat.reduceLeDiff, Nat.reduceEqDiff, Nat.zero_add, if_true, if_false, reduceIte, reduceCtorEq, Bool.false_eq_true]
      rw [shr_nn]
      simp only [init, retOf, seqG, setG, newG, iffG, rtG, drG, asgG, nxG, noG, liftP, liftT, nwM, tb, tbM, op1, op1M, op2, op2M, vG, rG, fG, cG, callG, aNil, aCons, aStar, tAndG, tOrG, tNotG, tAndM, tOrM, tNotM, andG, orG, Dn.andM, Dn.orM, ifG, ifM, boolOf, nmT, nilT, consT, tupT, setVG, fzV, olV, odV, parG, par3G', notD, negD, tupM, lstN, lenD, listI, cutN.listOf, wipeR, putBack, fzOf, intOf, iiG, iiB, iiC, List.map_cons, List.map_nil, List.cons_append, List.nil_append, List.append_nil, List.length_cons, List.length_nil, List.length_map, List.replicate_succ, List.replicate_zero, List.getElem?_cons_zero, List.getElem?_cons_succ, List.set_cons_zero, List.set_cons_succ, Option.bind_some, Option.bind_none, Option.map_some, Option.map_none, Bool.not_true, Bool.not_false, Bool.true_and, Bool.and_true, Bool.false_and, Bool.and_false, Bool.or_true, Bool.true_or, Bool.or_false, Bool.false_or, decide_true, decide_false, Nat.reduceSub, Nat.reduceAdd, Nat.reduceLeDiff, Nat.reduceEqDiff, Nat.zero_add, if_true, if_false, reduceIte, reduceCtorEq, Bool.false_eq_true, int_1]
      rw [and_nn]
      simp only [init, retOf, seqG, setG, newG, iffG, rtG, drG, asgG, nxG, noG, liftP, liftT, nwM, tb, tbM, op1, op1M, op2, op2M, vG, rG, fG, cG, callG, aNil, aCons, aStar, tAndG, tOrG, tNotG, tAndM, tOrM, tNotM, andG, orG, Dn.andM, Dn.orM, ifG, ifM, boolOf, nmT, nilT, consT, tupT, setVG, fzV, olV, odV, parG, par3G', notD, negD, tupM, lstN, lenD, listI, cutN.listOf, wipeR, putBack, fzOf, intOf, iiG, iiB, iiC, List.map_cons, List.map_nil, List.cons_append, List.nil_append, List.append_nil, List.length_cons, List.length_nil, List.length_map, List.replicate_succ, List.replicate_zero, List.getElem?_cons_zero, List.getElem?_cons_succ, List.set_cons_zero, List.set_cons_succ, Option.bind_some, Option.bind_none, Option.map_some, Option.map_none, Bool.not_true, Bool.not_false, Bool.true_and, Bool.and_true, Bool.false_and, Bool.and_false, Bool.or_true, Bool.true_or, Bool.or_false, Bool.false_or, decide_true, decide_false, Nat.reduceSub, Nat.reduceAdd, Nat.reduceLeDiff, Nat.reduceEqDiff, Nat.zero_add, if_true, if_false, reduceIte, reduceCtorEq, Bool.false_eq_true, bit_1], fun _ => by
      unfold e_layered_3
      simp only [init, retOf, seqG, setG, newG, iffG, rtG, drG, asgG, nxG, noG, liftP, liftT, nwM, tb, tbM, op1, op1M, op2, op2M, vG, rG, fG, cG, callG, aNil, aCons, aStar, tAndG, tOrG, tNotG, tAndM, tOrM, tNotM, andG, orG, Dn.andM, Dn.orM, ifG, ifM, boolOf, nmT, nilT, consT, tupT, setVG, fzV, olV, odV, parG, par3G', notD, negD, tupM, lstN, lenD, listI, cutN.listOf, wipeR, putBack, fzOf, intOf, iiG, iiB, iiC, List.map_cons, List.map_nil, List.cons_append, List.nil_append, List.append_nil, List.length_cons, List.length_nil, List.length_map, List.replicate_succ, List.replicate_zero, List.getElem?_cons_zero, List.getElem?_cons_succ, List.set_cons_zero, List.set_cons_succ, Option.bind_some, Option.bind_none, Option.map_some, Option.map_none, Bool.not_true, Bool.not_false, Bool.true_and, Bool.and_true, Bool.false_and, Bool.and_false, Bool.or_true, Bool.true_or, Bool.or_false, Bool.false_or, decide_true, decide_false, Nat.reduceSub, Nat.reduceAdd, Nat.reduceLeDiff, Nat.reduceEqDiff, Nat.zero_add, if_true, if_false, reduceIte, reduceCtorEq, Bool.false_eq_true]
      rfl, rfl⟩
    have hd := fun (x2 x14 : Option Sl) => lc_typed (vs := [13]) (td := nmT 13) (tt := q_layered_1) (ge := e_layered_2) (ρ := [some (.fz (nD n)), some (.fz (fsD fs)), x2, some (.fz (.list (I.map (tD fs)))), y4, x5, some (.fz (nD front)), some (.fz (nD layer)), some (.fz (nD whole)), some (.fz (nD cl)), some (.fz (nD free)), y11, y12, none, x14]) (tD fs) (fun i => decide (mask (fa_ fs i) .W &&& free = 0)) (tD fs) I fun i hi => ⟨_, rfl, by
      have ix : ixD (tD fs i) (.int 1) = some (nD (mask (fa_ fs i) .W)) := rfl
      unfold q_layered_1
      simp only [init, retOf, seqG, setG, newG, iffG, rtG, drG, asgG, nxG, noG, liftP, liftT, nwM, tb, tbM, op1, op1M, op2, op2M, vG, rG, fG, cG, callG, aNil, aCons, aStar, tAndG, tOrG, tNotG, tAndM, tOrM, tNotM, andG, orG, Dn.andM, Dn.orM, ifG, ifM, boolOf, nmT, nilT, consT, tupT, setVG, fzV, olV, odV, parG, par3G', notD, negD, tupM, lstN, lenD, listI, cutN.listOf, wipeR, putBack, fzOf, intOf, iiG, iiB, iiC, List.map_cons, List.map_nil, List.cons_append, List.nil_append, List.append_nil, List.length_cons, List.length_nil, List.length_map, List.replicate_succ, List.replicate_zero, List.getElem?_cons_zero, List.getElem?_cons_succ, List.set_cons_zero, List.set_cons_succ, Option.bind_some, Option.bind_none, Option.map_some, Option.map_none, Bool.not_true, Bool.not_false, Bool.true_and, Bool.and_true, Bool.false_and, Bool.and_false, Bool.or_true, Bool.true_or, Bool.or_false, Bool.false_or, decide_true, decide_false, Nat.reduceSub, Nat.reduceAdd, Nat.reduceLeDiff, Nat.reduceEqDiff, Nat.zero_add, if_true, if_false, reduceIte, reduceCtorEq, Bool.false_eq_true, ix]
      rw [and_nn]
      simp only [init, retOf, seqG, setG, newG, iffG, rtG, drG, asgG, nxG, noG, liftP, liftT, nwM, tb, tbM, op1, op1M, op2, op2M, vG, rG, fG, cG, callG, aNil, aCons, aStar, tAndG, tOrG, tNotG, tAndM, tOrM, tNotM, andG, orG, Dn.andM, Dn.orM, ifG, ifM, boolOf, nmT, nilT, consT, tupT, setVG, fzV, olV, odV, parG, par3G', notD, negD, tupM, lstN, lenD, listI, cutN.listOf, wipeR, putBack, fzOf, intOf, iiG, iiB, iiC, List.map_cons, List.map_nil, List.cons_append, List.nil_append, List.append_nil, List.length_cons, List.length_nil, List.length_map, List.replicate_succ, List.replicate_zero, List.getElem?_cons_zero, List.getElem?_cons_succ, List.set_cons_zero, List.set_cons_succ, Option.bind_some, Option.bind_none, Option.map_some, Option.map_none, Bool.not_true, Bool.not_false, Bool.true_and, Bool.and_true, Bool.false_and, Bool.and_false, Bool.or_true, Bool.true_or, Bool.or_false, Bool.false_or, decide_true, decide_false, Nat.reduceSub, Nat.reduceAdd, Nat.reduceLeDiff, Nat.reduceEqDiff, Nat.zero_add, if_true, if_false, reduceIte, reduceCtorEq, Bool.false_eq_true, int_0, eq_n], fun _ => by
      unfold e_layered_2
      simp only [init, retOf, seqG, setG, newG, iffG, rtG, drG, asgG, nxG, noG, liftP, liftT, nwM, tb, tbM, op1, op1M, op2, op2M, vG, rG, fG, cG, callG, aNil, aCons, aStar, tAndG, tOrG, tNotG, tAndM, tOrM, tNotM, andG, orG, Dn.andM, Dn.orM, ifG, ifM, boolOf, nmT, nilT, consT, tupT, setVG, fzV, olV, odV, parG, par3G', notD, negD, tupM, lstN, lenD, listI, cutN.listOf, wipeR, putBack, fzOf, intOf, iiG, iiB, iiC, List.map_cons, List.map_nil, List.cons_append, List.nil_append, List.append_nil, List.length_cons, List.length_nil, List.length_map, List.replicate_succ, List.replicate_zero, List.getElem?_cons_zero, List.getElem?_cons_succ, List.set_cons_zero, List.set_cons_succ, Option.bind_some, Option.bind_none, Option.map_some, Option.map_none, Bool.not_true, Bool.not_false, Bool.true_and, Bool.and_true, Bool.false_and, Bool.and_false, Bool.or_true, Bool.true_or, Bool.or_false, Bool.false_or, decide_true, decide_false, Nat.reduceSub, Nat.reduceAdd, Nat.reduceLeDiff, Nat.reduceEqDiff, Nat.zero_add, if_true, if_false, reduceIte, reduceCtorEq, Bool.false_eq_true], rfl⟩
    have h2 : pd.length + ((List.range n).filter fun k => free.testBit k).length ≤ 1000000 := by
      have := List.length_filter_le (fun k => free.testBit k) (List.range n)
      rw [List.length_range] at this
      omega
    unfold extG
    simp only [init, retOf, seqG, setG, newG, iffG, rtG, drG, asgG, nxG, noG, liftP, liftT, nwM, tb, tbM, op1, op1M, op2, op2M, vG, rG, fG, cG, callG, aNil, aCons, aStar, tAndG, tOrG, tNotG, tAndM, tOrM, tNotM, andG, orG, Dn.andM, Dn.orM, ifG, ifM, boolOf, nmT, nilT, consT, tupT, setVG, fzV, olV, odV, parG, par3G', notD, negD, tupM, lstN, lenD, listI, cutN.listOf, wipeR, putBack, fzOf, intOf, iiG, iiB, iiC, List.map_cons, List.map_nil, List.cons_append, List.nil_append, List.append_nil, List.length_cons, List.length_nil, List.length_map, List.replicate_succ, List.replicate_zero, List.getElem?_cons_zero, List.getElem?_cons_succ, List.set_cons_zero, List.set_cons_succ, Option.bind_some, Option.bind_none, Option.map_some, Option.map_none, Bool.not_true, Bool.not_false, Bool.true_and, Bool.and_true, Bool.false_and, Bool.and_false, Bool.or_true, Bool.true_or, Bool.or_false, Bool.false_or, decide_true, decide_false, Nat.reduceSub, Nat.reduceAdd, Nat.reduceLeDiff, Nat.reduceEqDiff, Nat.zero_add, if_true, if_false, reduceIte, reduceCtorEq, Bool.false_eq_true, olAt]
    rw [lcN_eq (rng_n (n := n) rfl (by omega)) (by simp; omega)]
    simp only [wipeR, List.set_cons_zero, List.set_cons_succ]
    rw [hc]
    simp only [init, retOf, seqG, setG, newG, iffG, rtG, drG, asgG, nxG, noG, liftP, liftT, nwM, tb, tbM, op1, op1M, op2, op2M, vG, rG, fG, cG, callG, aNil, aCons, aStar, tAndG, tOrG, tNotG, tAndM, tOrM, tNotM, andG, orG, Dn.andM, Dn.orM, ifG, ifM, boolOf, nmT, nilT, consT, tupT, setVG, fzV, olV, odV, parG, par3G', notD, negD, tupM, lstN, lenD, listI, cutN.listOf, wipeR, putBack, fzOf, intOf, iiG, iiB, iiC, List.map_cons, List.map_nil, List.cons_append, List.nil_append, List.append_nil, List.length_cons, List.length_nil, List.length_map, List.replicate_succ, List.replicate_zero, List.getElem?_cons_zero, List.getElem?_cons_succ, List.set_cons_zero, List.set_cons_succ, Option.bind_some, Option.bind_none, Option.map_some, Option.map_none, Bool.not_true, Bool.not_false, Bool.true_and, Bool.and_true, Bool.false_and, Bool.and_false, Bool.or_true, Bool.true_or, Bool.or_false, Bool.false_or, decide_true, decide_false, Nat.reduceSub, Nat.reduceAdd, Nat.reduceLeDiff, Nat.reduceEqDiff, Nat.zero_add, if_true, if_false, reduceIte, reduceCtorEq, Bool.false_eq_true, olAt, olSet, h2]
    rw [lcN_eq (ds := I.map (tD fs)) rfl hz]
    simp only [wipeR, List.set_cons_zero, List.set_cons_succ]
    rw [hd]
    simp only [init, retOf, seqG, setG, newG, iffG, rtG, drG, asgG, nxG, noG, liftP, liftT, nwM, tb, tbM, op1, op1M, op2, op2M, vG, rG, fG, cG, callG, aNil, aCons, aStar, tAndG, tOrG, tNotG, tAndM, tOrM, tNotM, andG, orG, Dn.andM, Dn.orM, ifG, ifM, boolOf, nmT, nilT, consT, tupT, setVG, fzV, olV, odV, parG, par3G', notD, negD, tupM, lstN, lenD, listI, cutN.listOf, wipeR, putBack, fzOf, intOf, iiG, iiB, iiC, List.map_cons, List.map_nil, List.cons_append, List.nil_append, List.append_nil, List.length_cons, List.length_nil, List.length_map, List.replicate_succ, List.replicate_zero, List.getElem?_cons_zero, List.getElem?_cons_succ, List.set_cons_zero, List.set_cons_succ, Option.bind_some, Option.bind_none, Option.map_some, Option.map_none, Bool.not_true, Bool.not_false, Bool.true_and, Bool.and_true, Bool.false_and, Bool.and_false, Bool.or_true, Bool.true_or, Bool.or_false, Bool.false_or, decide_true, decide_false, Nat.reduceSub, Nat.reduceAdd, Nat.reduceLeDiff, Nat.reduceEqDiff, Nat.zero_add, if_true, if_false, reduceIte, reduceCtorEq, Bool.false_eq_true]
    rw [or_nn]
    simp only [init, retOf, seqG, setG, newG, iffG, rtG, drG, asgG, nxG, noG, liftP, liftT, nwM, tb, tbM, op1, op1M, op2, op2M, vG, rG, fG, cG, callG, aNil, aCons, aStar, tAndG, tOrG, tNotG, tAndM, tOrM, tNotM, andG, orG, Dn.andM, Dn.orM, ifG, ifM, boolOf, nmT, nilT, consT, tupT, setVG, fzV, olV, odV, parG, par3G', notD, negD, tupM, lstN, lenD, listI, cutN.listOf, wipeR, putBack, fzOf, intOf, iiG, iiB, iiC, List.map_cons, List.map_nil, List.cons_append, List.nil_append, List.append_nil, List.length_cons, List.length_nil, List.length_map, List.replicate_succ, List.replicate_zero, List.getElem?_cons_zero, List.getElem?_cons_succ, List.set_cons_zero, List.set_cons_succ, Option.bind_some, Option.bind_none, Option.map_some, Option.map_none, Bool.not_true, Bool.not_false, Bool.true_and, Bool.and_true, Bool.false_and, Bool.and_false, Bool.or_true, Bool.true_or, Bool.or_false, Bool.false_or, decide_true, decide_false, Nat.reduceSub, Nat.reduceAdd, Nat.reduceLeDiff, Nat.reduceEqDiff, Nat.zero_add, if_true, if_false, reduceIte, reduceCtorEq, Bool.false_eq_true, int_1]
    rw [add_nn]
    simp only [init, retOf, seqG, setG, newG, iffG, rtG, drG, asgG, nxG, noG, liftP, liftT, nwM, tb, tbM, op1, op1M, op2, op2M, vG, rG, fG, cG, callG, aNil, aCons, aStar, tAndG, tOrG, tNotG, tAndM, tOrM, tNotM, andG, orG, Dn.andM, Dn.orM, ifG, ifM, boolOf, nmT, nilT, consT, tupT, setVG, fzV, olV, odV, parG, par3G', notD, negD, tupM, lstN, lenD, listI, cutN.listOf, wipeR, putBack, fzOf, intOf, iiG, iiB, iiC, List.map_cons, List.map_nil, List.cons_append, List.nil_append, List.append_nil, List.length_cons, List.length_nil, List.length_map, List.replicate_succ, List.replicate_zero, List.getElem?_cons_zero, List.getElem?_cons_succ, List.set_cons_zero, List.set_cons_succ, Option.bind_some, Option.bind_none, Option.map_some, Option.map_none, Bool.not_true, Bool.not_false, Bool.true_and, Bool.and_true, Bool.false_and, Bool.and_false, Bool.or_true, Bool.true_or, Bool.or_false, Bool.false_or, decide_true, decide_false, Nat.reduceSub, Nat.reduceAdd, Nat.reduceLeDiff, Nat.reduceEqDiff, Nat.zero_add, if_true, if_false, reduceIte, reduceCtorEq, Bool.false_eq_true]
    refine ⟨_, _, rfl, fun h => (by first | exact absurd h h0 | exact h.elim), fun _ => ⟨rfl, y4, some (.fz (nD cl)), some (.fz (nD free)), y11, y12, fzOf (some x13), fzOf (some x14), ?_⟩⟩
    rw [List.map_append, List.map_map]
    rfl
end K85
end
section
set_option Elab.async false
set_option linter.all false
set_option maxRecDepth 100000
set_option maxHeartbeats 4000000
namespace K85
open PySem L2 Dn Rk
/-- s keeps f: each L has a W of smaller s -/
def Sat (n : Nat) (s : Nat → Nat) (f : Fact) : Prop := ∀ k, k < n → f.getD k .S = .L → ∃ w, w < n ∧ f.getD w .S = .W ∧ s w < s k
def Con (n : Nat) (fs : List Fact) : Prop := ∃ s, ∀ f ∈ fs, Sat n s f
theorem col_mem {fs : List Fact} {k : Nat} {s : Sg} : s ∈ col fs k ↔ ∃ f ∈ fs, f.getD k .S = s := by unfold col; simp
/-- bars_all in words -/
def Bar (n : Nat) (fs : List Fact) : Prop := fs ≠ [] ∧ dots n ∉ fs ∧ ∀ k, k < n → (∃ f ∈ fs, f.getD k .S = .W) → ∃ f ∈ fs, f.getD k .S = .L
theorem barB_iff {n : Nat} {fs : List Fact} : barB n fs = true ↔ Bar n fs := by
  unfold barB Bar
  rw [Bool.and_eq_true, Bool.and_eq_true]
  have h1 : (!fs.isEmpty) = true ↔ fs ≠ [] := by cases fs <;> simp
  have h2 : (!decide (dots n ∈ fs)) = true ↔ dots n ∉ fs := by simp
  have h3 : (lack n fs).isNone = true ↔ ∀ k, k < n → (∃ f ∈ fs, f.getD k .S = .W) → ∃ f ∈ fs, f.getD k .S = .L := by
    unfold lack
    rw [Option.isNone_iff_eq_none, List.find?_eq_none]
    constructor
    · intro h k hk hw
      have := h k (by simpa using hk)
      rw [Bool.and_eq_true, decide_eq_true_eq, Bool.not_eq_true', decide_eq_false_iff_not, col_mem, col_mem] at this
      exact Classical.byContradiction fun z => this ⟨hw, z⟩
    · intro h k hk
      rw [Bool.and_eq_true, decide_eq_true_eq, Bool.not_eq_true', decide_eq_false_iff_not, col_mem, col_mem]
      rintro ⟨hw, hl⟩
      exact hl (h k (by simpa using hk) hw)
  rw [h1, h2, h3]
theorem exists_least {P : Nat → Prop} (s : Nat → Nat) (h : ∃ k, P k) : ∃ k, P k ∧ ∀ j, P j → s k ≤ s j := by
  obtain ⟨k, hk⟩ := h
  have : ∀ m k, s k = m → P k → ∃ k, P k ∧ ∀ j, P j → s k ≤ s j := by
    intro m
    induction m using Nat.strongRecOn with
    | ind m ih =>
      intro k e hk
      by_cases q : ∃ j, P j ∧ s j < m
      · obtain ⟨j, hj, lt⟩ := q
        exact ih (s j) lt j rfl hj
      · refine ⟨k, hk, fun j hj => ?_⟩
        rw [e]
        exact Nat.le_of_not_lt fun lt => q ⟨j, hj, lt⟩
  exact this _ k rfl hk
theorem fact_ext {n : Nat} {f : Fact} (hf : f.length = n) (h : ∀ k, k < n → f.getD k .S = .S) : f = dots n := by
  unfold dots
  rw [List.eq_replicate_iff]
  refine ⟨hf, fun b hb => ?_⟩
  obtain ⟨i, hi, e⟩ := List.getElem_of_mem hb
  have := h i (by omega)
  rw [getD_f hi, e] at this
  exact this
/-- what bars is kept by no order -/
theorem Bar.no {n : Nat} {fs : List Fact} (hf : Fits n fs) (b : Bar n fs) : ¬ Con n fs := by
  rintro ⟨s, hs⟩
  obtain ⟨h1, h2, h3⟩ := b
  have hw : ∃ k, k < n ∧ ∃ f ∈ fs, f.getD k .S = .W := by
    cases fs with
    | nil => exact absurd rfl h1
    | cons f fs =>
      have hne : f ≠ dots n := fun e => h2 (by simp [e])
      have : ∃ k, k < n ∧ f.getD k .S ≠ .S := Classical.byContradiction fun z => hne (fact_ext (hf f (by simp)) fun k hk => Classical.byContradiction fun q => z ⟨k, hk, q⟩)
      obtain ⟨k, hk, q⟩ := this
      cases e : f.getD k .S with
      | W => exact ⟨k, hk, f, by simp, e⟩
      | L =>
        obtain ⟨w, a1, a2, _⟩ := hs f (by simp) k hk e
        exact ⟨w, a1, f, by simp, a2⟩
      | S => exact absurd e q
  obtain ⟨k, ⟨hk, hkw⟩, least⟩ := exists_least (P := fun k => k < n ∧ ∃ f ∈ fs, f.getD k .S = .W) s hw
  obtain ⟨f, hfm, e⟩ := h3 k hk hkw
  obtain ⟨w, a1, a2, a3⟩ := hs f hfm k hk e
  have := least w ⟨a1, f, hfm, a2⟩
  omega
theorem Leg.addset {n : Nat} {fs : List Fact} {front free : Nat} (h : Leg n fs 0 front) (hf : ∀ k, free.testBit k = true → k < n ∧ front.testBit k = false ∧ ∀ f ∈ fs, f.getD k .S = .L → ∃ w, w < n ∧ f.getD w .S = .W ∧ front.testBit w = true) : Leg n fs 0 (front ||| free) := by
  obtain ⟨t, T, h⟩ := h
  refine ⟨fun x => if front.testBit x = true then t x else T, T + 1, fun x hx => ?_⟩
  rw [Nat.testBit_or, Bool.or_eq_true] at hx
  by_cases e : front.testBit x = true
  · obtain ⟨a1, a2, a3, a4⟩ := h x e
    refine ⟨by simp only [e, if_true]; omega, a2, a3, fun f hfm hL => ?_⟩
    obtain ⟨w, b1, b2, b3, b4⟩ := a4 f hfm hL
    exact ⟨w, b1, b2, by rw [Nat.testBit_or, b3]; rfl, by simp only [e, b3, if_true]; exact b4⟩
  · have hx : free.testBit x = true := hx.resolve_left e
    obtain ⟨a1, a2, a3⟩ := hf x hx
    refine ⟨by simp only [e, if_false, Bool.false_eq_true]; omega, a1, by simp, fun f hfm hL => ?_⟩
    obtain ⟨w, b1, b2, b3⟩ := a3 f hfm hL
    refine ⟨w, b1, b2, by rw [Nat.testBit_or, b3]; rfl, ?_⟩
    simp only [e, b3, if_true, if_false, Bool.false_eq_true]
    exact (h w b3).1
theorem fa_mem {fs : List Fact} {i : Nat} (h : i < fs.length) : fa_ fs i ∈ fs := by
  unfold fa_; rw [getD_fs h]; exact List.getElem_mem _
theorem mem_fa {fs : List Fact} {f : Fact} (h : f ∈ fs) : ∃ i, i < fs.length ∧ fa_ fs i = f := by
  obtain ⟨i, hi, e⟩ := List.getElem_of_mem h
  exact ⟨i, hi, by unfold fa_; rw [getD_fs hi]; exact e⟩
theorem mask_and {n : Nat} {fs : List Fact} (hf : Fits n fs) {i : Nat} (hi : i < fs.length) (s : Sg) (m : Nat) : mask (fa_ fs i) s &&& m = 0 ↔ ∀ k, k < n → (fa_ fs i).getD k .S = s → m.testBit k = false := by
  rw [and_zero]
  have hl := hf _ (fa_mem hi)
  constructor
  · intro h k hk e
    cases q : m.testBit k with
    | false => rfl
    | true => exact absurd ⟨by rw [mask_bit, hl]; simpa using ⟨hk, e⟩, q⟩ (h k)
  · rintro h k ⟨h1, h2⟩
    rw [mask_bit, hl, decide_eq_true_eq] at h1
    rw [h k h1.1 h1.2] at h2; cases h2
/-- what holds between two layers -/
structure Lay (n : Nat) (fs : List Fact) (front layer : Nat) (I : List Nat) (pd : List (Nat × Nat)) : Prop where
  leg : Leg n fs 0 front
  asc : I.Pairwise (· < ·)
  lt : ∀ i ∈ I, i < fs.length
  loud : ∀ i ∈ I, fa_ fs i ≠ dots n
  out : ∀ i ∈ I, mask (fa_ fs i) .W &&& front = 0
  rest : ∀ i, i < fs.length → fa_ fs i ≠ dots n → i ∈ I ∨ mask (fa_ fs i) .W &&& front ≠ 0
  few : layer ≤ cnt n front
  len : pd.length ≤ 60 * layer
theorem whole_bit (n k : Nat) : (2 ^ n - 1).testBit k = decide (k < n) := Nat.testBit_two_pow_sub_one n k
theorem free_bit {n : Nat} {fs : List Fact} (hf : Fits n fs) {front layer : Nat} {I : List Nat} {pd : List (Nat × Nat)} (h : Lay n fs front layer I pd) (k : Nat) :
    ((2 ^ n - 1) ^^^ clo fs I front).testBit k = true ↔ k < n ∧ front.testBit k = false ∧ ∀ i ∈ I, (fa_ fs i).getD k .S ≠ .L := by
  rw [Nat.testBit_xor, whole_bit]
  have hc := clo_bit fs I front k
  have hlt : (clo fs I front).testBit k = true → k < n := fun q => by
    rcases hc.mp q with q | ⟨i, hi, q⟩
    · obtain ⟨t, T, l⟩ := h.leg; exact (l k q).2.1
    · rw [mask_bit, hf _ (fa_mem (h.lt i hi)), decide_eq_true_eq] at q; exact q.1
  by_cases hk : k < n
  · simp only [hk, decide_true, Bool.true_xor, Bool.not_eq_true', true_and]
    constructor
    · intro q
      refine ⟨?_, fun i hi e => ?_⟩
      · cases z : front.testBit k with
        | false => rfl
        | true => rw [hc.mpr (.inl z)] at q; cases q
      · rw [hc.mpr (.inr ⟨i, hi, by rw [mask_bit, hf _ (fa_mem (h.lt i hi))]; simpa using ⟨hk, e⟩⟩)] at q; cases q
    · rintro ⟨q1, q2⟩
      cases z : (clo fs I front).testBit k with
      | false => rfl
      | true =>
        rcases hc.mp z with q | ⟨i, hi, q⟩
        · rw [q] at q1; cases q1
        · rw [mask_bit, decide_eq_true_eq] at q
          exact absurd q.2 (q2 i hi)
  · have : (clo fs I front).testBit k = false := by
      cases z : (clo fs I front).testBit k with
      | false => rfl
      | true => exact absurd (hlt z) hk
    simp [hk, this]
/-- the next layer -/
theorem Lay.next {n : Nat} (hn : n ≤ 60) {fs : List Fact} (hf : Fits n fs) {front layer : Nat} {I : List Nat} {pd : List (Nat × Nat)} (h : Lay n fs front layer I pd) (h0 : (2 ^ n - 1) ^^^ clo fs I front ≠ 0) :
    Lay n fs (front ||| ((2 ^ n - 1) ^^^ clo fs I front)) (layer + 1) (I.filter fun i => decide (mask (fa_ fs i) .W &&& ((2 ^ n - 1) ^^^ clo fs I front) = 0)) (pd ++ ((List.range n).filter fun k => ((2 ^ n - 1) ^^^ clo fs I front).testBit k).map fun k => (k, layer)) ∧
      cnt n front < cnt n (front ||| ((2 ^ n - 1) ^^^ clo fs I front)) := by
  have fb := free_bit hf h
  generalize (2 ^ n - 1) ^^^ clo fs I front = free at *
  have hc : cnt n front < cnt n (front ||| free) := by
    have : ∃ k, free.testBit k = true := Nat.exists_testBit_of_ne_zero h0
    obtain ⟨k, hk⟩ := this
    obtain ⟨a1, a2, _⟩ := (fb k).mp hk
    exact cnt_lt (fun x hx => by rw [Nat.testBit_or, hx]; rfl) a1 (by rw [Nat.testBit_or, hk]; simp) a2
  have hand : ∀ i, mask (fa_ fs i) .W &&& (front ||| free) = 0 ↔ mask (fa_ fs i) .W &&& front = 0 ∧ mask (fa_ fs i) .W &&& free = 0 := fun i => by
    rw [and_zero, and_zero, and_zero]
    constructor
    · intro q
      exact ⟨fun k ⟨q1, q2⟩ => q k ⟨q1, by rw [Nat.testBit_or, q2]; rfl⟩, fun k ⟨q1, q2⟩ => q k ⟨q1, by rw [Nat.testBit_or, q2]; simp⟩⟩
    · rintro ⟨q1, q2⟩ k ⟨r1, r2⟩
      rw [Nat.testBit_or, Bool.or_eq_true] at r2
      rcases r2 with r2 | r2
      · exact q1 k ⟨r1, r2⟩
      · exact q2 k ⟨r1, r2⟩
  refine ⟨⟨h.leg.addset fun k hk => ?_, h.asc.filter _, fun i hi => h.lt i (List.mem_filter.mp hi).1, fun i hi => h.loud i (List.mem_filter.mp hi).1, fun i hi => ?_, fun i hi hl => ?_, by have := h.few; omega, ?_⟩, hc⟩
  · obtain ⟨a1, a2, a3⟩ := (fb k).mp hk
    refine ⟨a1, a2, fun f hfm hL => ?_⟩
    obtain ⟨i, hi, rfl⟩ := mem_fa hfm
    have hloud : fa_ fs i ≠ dots n := fun e => by
      rw [e] at hL
      unfold dots at hL
      rw [List.getD_eq_getElem?_getD, List.getElem?_replicate] at hL
      split at hL <;> cases hL
    rcases h.rest i hi hloud with q | q
    · exact absurd hL (a3 i q)
    · have := mt (mask_and hf hi .W front).mpr q
      obtain ⟨w, hw⟩ := Classical.not_forall.mp this
      obtain ⟨w1, hw⟩ := Classical.not_imp.mp hw
      obtain ⟨w2, hw⟩ := Classical.not_imp.mp hw
      exact ⟨w, w1, w2, by simpa using hw⟩
  · obtain ⟨q1, q2⟩ := List.mem_filter.mp hi
    exact (hand i).mpr ⟨h.out i q1, by simpa using q2⟩
  · by_cases q : i ∈ I.filter fun i => decide (mask (fa_ fs i) .W &&& free = 0)
    · exact .inl q
    · refine .inr fun z => ?_
      obtain ⟨z1, z2⟩ := (hand i).mp z
      rcases h.rest i hi hl with r | r
      · exact q (List.mem_filter.mpr ⟨r, by simpa using z2⟩)
      · exact r z1
  · have := h.len
    rw [List.length_append, List.length_map]
    have h2 := List.length_filter_le (fun k => free.testBit k) (List.range n)
    rw [List.length_range] at h2
    omega
end K85
end
section
set_option Elab.async false
set_option linter.all false
set_option maxRecDepth 100000
set_option maxHeartbeats 4000000
namespace K85
open PySem L2 Dn Rk
theorem Lay.bar {n : Nat} {fs : List Fact} (hf : Fits n fs) {front layer : Nat} {I : List Nat} {pd : List (Nat × Nat)} (h : Lay n fs front layer I pd) (hne : front ≠ 2 ^ n - 1) (h0 : (2 ^ n - 1) ^^^ clo fs I front = 0) : I ≠ [] ∧ Bar n (sel fs I) := by
  have fb := free_bit hf h
  rw [h0] at fb
  have key : ∀ k, k < n → front.testBit k = false → ∃ i ∈ I, (fa_ fs i).getD k .S = .L := fun k hk hfk => by
    have := mt (fb k).mpr (by simp)
    exact Classical.byContradiction fun z => this ⟨hk, hfk, fun i hi e => z ⟨i, hi, e⟩⟩
  have un : ∃ k, k < n ∧ front.testBit k = false := Classical.byContradiction fun z => hne (by
    apply Nat.eq_of_testBit_eq
    intro k
    rw [whole_bit]
    by_cases hk : k < n
    · rw [decide_eq_true hk]
      cases q : front.testBit k with
      | true => rfl
      | false => exact absurd ⟨k, hk, q⟩ z
    · rw [decide_eq_false hk]
      cases q : front.testBit k with
      | false => rfl
      | true =>
        obtain ⟨t, T, l⟩ := h.leg
        exact absurd (l k q).2.1 hk)
  obtain ⟨k0, hk0, hf0⟩ := un
  obtain ⟨i0, hi0, _⟩ := key k0 hk0 hf0
  have hI : I ≠ [] := fun e => by rw [e] at hi0; cases hi0
  have sm : ∀ i ∈ I, fa_ fs i ∈ sel fs I := fun i hi => by unfold sel; exact List.mem_map.mpr ⟨i, hi, rfl⟩
  refine ⟨hI, And.intro (fun e => (by have := sm i0 hi0; rw [e] at this; cases this)) (And.intro (fun hd => ?_) fun k hk hw => ?_)⟩
  · unfold sel at hd
    obtain ⟨i, hi, e⟩ := List.mem_map.mp hd
    exact h.loud i hi e
  · obtain ⟨f, hfm, e⟩ := hw
    unfold sel at hfm
    obtain ⟨i, hi, rfl⟩ := List.mem_map.mp hfm
    have hfk := (mask_and hf (h.lt i hi) .W front).mp (h.out i hi) k hk e
    obtain ⟨j, hj, e2⟩ := key k hk hfk
    exact ⟨fa_ fs j, sm j hj, e2⟩
theorem Lay.con {n : Nat} {fs : List Fact} (hf : Fits n fs) {front layer : Nat} {I : List Nat} {pd : List (Nat × Nat)} (h : Lay n fs front layer I pd) (he : front = 2 ^ n - 1) : Con n fs := by
  obtain ⟨t, T, l⟩ := h.leg
  refine ⟨t, fun f hfm k hk hL => ?_⟩
  obtain ⟨w, a1, a2, a3, a4⟩ := (l k (by rw [he, whole_bit]; simpa using hk)).2.2.2 f hfm hL
  exact ⟨w, a1, a2, a4⟩
theorem sort_pr (pd : List (Nat × Nat)) : ∃ ps : List (Int × Int), sortDP (.list (pd.map prD)) = some (ps.map pairD) ∧ ps.length = pd.length := by
  refine ⟨sortP (pd.map fun p => ((p.1 : Int), (p.2 : Int))), ?_, ?_⟩
  · unfold sortDP
    have e : pd.map prD = (pd.map fun p => ((p.1 : Int), (p.2 : Int))).map pairD := by rw [List.map_map]; rfl
    simp only [e, pairsOf_map, Option.map_some]
  · rw [(sortP_perm _).length_eq, List.length_map]
theorem layered (n : Nat) (hn : n ≤ 60) (fs : List Fact) (hf : Fits n fs) (hl : fs.length ≤ 1000) :
    ∃ ds I, runG 15 g_layered [nD n, fsD fs] = some (.tuple [.list ds, nsD I]) ∧ (I = [] → Con n fs) ∧ (I ≠ [] → I.Pairwise (· < ·) ∧ (∀ i ∈ I, i < fs.length) ∧ Bar n (sel fs I)) := by
  -- the facts that say something
  obtain ⟨ρ1, f1, y4, y5, rfl⟩ := for_all (td := tupT 2 (consT (nmT 4) (consT (nmT 5) nilT))) (b := b_layered_3) (fun i => .tuple [nD i, fD (fa_ fs i)])
    (fun j ρ => ∃ y4 y5, ρ = [some (.fz (nD n)), some (.fz (fsD fs)), some (.ol []), some (.ol (((List.range j).filter fun i => !decide (fa_ fs i = dots n)).map (tD fs))), y4, y5, none, none, none, none, none, none, none, none, none]) (List.range fs.length)
    [some (.fz (nD n)), some (.fz (fsD fs)), some (.ol []), some (.ol []), none, none, none, none, none, none, none, none, none, none, none] (by
      rintro j i ρ hj ⟨y4, y5, rfl⟩
      obtain ⟨rfl, hi⟩ := rng_get hj
      refine ⟨_, _, rfl, lay_first n hn fs hf i hi _ _ _ _ _ _ _ _ _ _ _ ?_, some (.fz (nD i)), some (.fz (fD (fa_ fs i))), ?_⟩
      · rw [List.length_map]
        exact Nat.le_trans (List.length_filter_le _ _) (by simp; omega)
      · rw [List.range_succ, List.filter_append, List.map_append]
        by_cases e : fa_ fs i = dots n <;> simp [e]) ⟨none, none, rfl⟩
  rw [List.length_range] at f1
  have start : Lay n fs 0 0 ((List.range fs.length).filter fun i => !decide (fa_ fs i = dots n)) [] := by
    refine ⟨Leg.zero, List.Pairwise.filter _ List.pairwise_lt_range, fun i hi => by simpa using (List.mem_filter.mp hi).1, fun i hi => by simpa using (List.mem_filter.mp hi).2, fun i hi => Nat.and_zero _, fun i hi hd => .inl (List.mem_filter.mpr ⟨by simpa using hi, by simpa using hd⟩), Nat.zero_le _, Nat.zero_le _⟩
  obtain ⟨o, ρ', e1, e2⟩ := while_gen (c := w_layered_1) (b := b_layered_2)
    (fun k ρ => ∃ front layer I pd x4 x5 x9 x10 x11 x12 x13 x14, ρ = [some (.fz (nD n)), some (.fz (fsD fs)), some (.ol (pd.map prD)), some (.ol (I.map (tD fs))), x4, x5, some (.fz (nD front)), some (.fz (nD layer)), some (.fz (nD (2 ^ n - 1))), x9, x10, x11, x12, x13, x14] ∧ Lay n fs front layer I pd ∧ k = n - cnt n front)
    (fun o ρ => (∃ I, o = .rt (.tuple [.list [], nsD I]) ∧ I ≠ [] ∧ I.Pairwise (· < ·) ∧ (∀ i ∈ I, i < fs.length) ∧ Bar n (sel fs I)) ∨
      (o = .nx ∧ Con n fs ∧ ∃ pd : List (Nat × Nat), pd.length ≤ 10000 ∧ ∃ x3 x4 x5 x6 x7 x8 x9 x10 x11 x12 x13 x14, ρ = [some (.fz (nD n)), some (.fz (fsD fs)), some (.ol (pd.map prD)), x3, x4, x5, x6, x7, x8, x9, x10, x11, x12, x13, x14])) (by
      rintro k ρ ⟨front, layer, I, pd, x4, x5, x9, x10, x11, x12, x13, x14, rfl, h, rfl⟩
      have hcn := cnt_le n front
      have hpl : pd.length ≤ 10000 := by have := h.len; have := h.few; omega
      have hIl : I.length ≤ 1000 := by have := asc_len h.asc h.lt; omega
      have hw : w_layered_1 [some (.fz (nD n)), some (.fz (fsD fs)), some (.ol (pd.map prD)), some (.ol (I.map (tD fs))), x4, x5, some (.fz (nD front)), some (.fz (nD layer)), some (.fz (nD (2 ^ n - 1))), x9, x10, x11, x12, x13, x14] =
          some (!decide (front = 2 ^ n - 1), [some (.fz (nD n)), some (.fz (fsD fs)), some (.ol (pd.map prD)), some (.ol (I.map (tD fs))), x4, x5, some (.fz (nD front)), some (.fz (nD layer)), some (.fz (nD (2 ^ n - 1))), x9, x10, x11, x12, x13, x14]) := by
        unfold w_layered_1
        simp only [init, retOf, seqG, setG, newG, iffG, rtG, drG, asgG, nxG, noG, liftP, liftT, nwM, tb, tbM, op1, op1M, op2, op2M, vG, rG, fG, cG, callG, aNil, aCons, aStar, tAndG, tOrG, tNotG, tAndM, tOrM, tNotM, andG, orG, Dn.andM, Dn.orM, ifG, ifM, boolOf, nmT, nilT, consT, tupT, setVG, fzV, olV, odV, parG, par3G', notD, negD, tupM, lstN, lenD, listI, cutN.listOf, wipeR, putBack, fzOf, intOf, iiG, iiB, iiC, List.map_cons, List.map_nil, List.cons_append, List.nil_append, List.append_nil, List.length_cons, List.length_nil, List.length_map, List.replicate_succ, List.replicate_zero, List.getElem?_cons_zero, List.getElem?_cons_succ, List.set_cons_zero, List.set_cons_succ, Option.bind_some, Option.bind_none, Option.map_some, Option.map_none, Bool.not_true, Bool.not_false, Bool.true_and, Bool.and_true, Bool.false_and, Bool.and_false, Bool.or_true, Bool.true_or, Bool.or_false, Bool.false_or, decide_true, decide_false, Nat.reduceSub, Nat.reduceAdd, Nat.reduceLeDiff, Nat.reduceEqDiff, Nat.zero_add, if_true, if_false, reduceIte, reduceCtorEq, Bool.false_eq_true, ne_n]
      refine ⟨_, _, hw, fun q => ?_, fun q => ?_⟩
      · have he : front = 2 ^ n - 1 := by simpa using q
        exact .inr ⟨rfl, h.con hf he, pd, hpl, _, _, _, _, _, _, _, _, _, _, _, _, rfl⟩
      · have hne : front ≠ 2 ^ n - 1 := by simpa using q
        obtain ⟨o, ρ2, b1, b2, b3⟩ := lay_body n hn fs I hIl front layer (2 ^ n - 1) pd hpl x4 x5 x9 x10 x11 x12 x13 x14
        refine ⟨o, ρ2, b1, ?_⟩
        by_cases h0 : (2 ^ n - 1) ^^^ clo fs I front = 0
        · rw [b2 h0]
          obtain ⟨c1, c2⟩ := h.bar hf hne h0
          exact .inl ⟨I, rfl, c1, h.asc, h.lt, c2⟩
        · obtain ⟨rfl, z4, z9, z10, z11, z12, z13, z14, rfl⟩ := b3 h0
          obtain ⟨c1, c2⟩ := h.next hn hf h0
          have hc2 := cnt_le n (front ||| ((2 ^ n - 1) ^^^ clo fs I front))
          exact ⟨_, by omega, _, _, _, _, _, _, _, _, _, _, _, _, rfl, c1, rfl⟩)
    100 (n - cnt n 0) [some (.fz (nD n)), some (.fz (fsD fs)), some (.ol (([] : List (Nat × Nat)).map prD)), some (.ol (((List.range fs.length).filter fun i => !decide (fa_ fs i = dots n)).map (tD fs))), y4, y5, some (.fz (nD 0)), some (.fz (nD 0)), some (.fz (nD (2 ^ n - 1))), none, none, none, none, none, none] (by omega)
    ⟨0, 0, _, [], y4, y5, none, none, none, none, none, none, rfl, start, rfl⟩
  have hsub : subI (nD (2 ^ n)) (.int 1) = some (nD (2 ^ n - 1)) := by
    show some (PyData.int (((2 ^ n : Nat) : Int) - 1)) = _
    unfold nD
    congr 2
    have := Nat.one_le_two_pow (n := n)
    omega
  have head : ∀ X : Out × Ro → Option PyData, True := fun _ => trivial
  rw [run_eq]
  unfold g_layered
  simp only [init, retOf, seqG, setG, newG, iffG, rtG, drG, asgG, nxG, noG, liftP, liftT, nwM, tb, tbM, op1, op1M, op2, op2M, vG, rG, fG, cG, callG, aNil, aCons, aStar, tAndG, tOrG, tNotG, tAndM, tOrM, tNotM, andG, orG, Dn.andM, Dn.orM, ifG, ifM, boolOf, nmT, nilT, consT, tupT, setVG, fzV, olV, odV, parG, par3G', notD, negD, tupM, lstN, lenD, listI, cutN.listOf, wipeR, putBack, fzOf, intOf, iiG, iiB, iiC, List.map_cons, List.map_nil, List.cons_append, List.nil_append, List.append_nil, List.length_cons, List.length_nil, List.length_map, List.replicate_succ, List.replicate_zero, List.getElem?_cons_zero, List.getElem?_cons_succ, List.set_cons_zero, List.set_cons_succ, Option.bind_some, Option.bind_none, Option.map_some, Option.map_none, Bool.not_true, Bool.not_false, Bool.true_and, Bool.and_true, Bool.false_and, Bool.and_false, Bool.or_true, Bool.true_or, Bool.or_false, Bool.false_or, decide_true, decide_false, Nat.reduceSub, Nat.reduceAdd, Nat.reduceLeDiff, Nat.reduceEqDiff, Nat.zero_add, if_true, if_false, reduceIte, reduceCtorEq, Bool.false_eq_true, Nat.zero_le]
  rw [forG_eq (ds := (List.range fs.length).map fun i => .tuple [nD i, fD (fa_ fs i)]) (ρ1 := [some (.fz (nD n)), some (.fz (fsD fs)), some (.ol []), some (.ol []), none, none, none, none, none, none, none, none, none, none, none]) (by
    unfold enumI
    simp only [init, retOf, seqG, setG, newG, iffG, rtG, drG, asgG, nxG, noG, liftP, liftT, nwM, tb, tbM, op1, op1M, op2, op2M, vG, rG, fG, cG, callG, aNil, aCons, aStar, tAndG, tOrG, tNotG, tAndM, tOrM, tNotM, andG, orG, Dn.andM, Dn.orM, ifG, ifM, boolOf, nmT, nilT, consT, tupT, setVG, fzV, olV, odV, parG, par3G', notD, negD, tupM, lstN, lenD, listI, cutN.listOf, wipeR, putBack, fzOf, intOf, iiG, iiB, iiC, List.map_cons, List.map_nil, List.cons_append, List.nil_append, List.append_nil, List.length_cons, List.length_nil, List.length_map, List.replicate_succ, List.replicate_zero, List.getElem?_cons_zero, List.getElem?_cons_succ, List.set_cons_zero, List.set_cons_succ, Option.bind_some, Option.bind_none, Option.map_some, Option.map_none, Bool.not_true, Bool.not_false, Bool.true_and, Bool.and_true, Bool.false_and, Bool.and_false, Bool.or_true, Bool.true_or, Bool.or_false, Bool.false_or, decide_true, decide_false, Nat.reduceSub, Nat.reduceAdd, Nat.reduceLeDiff, Nat.reduceEqDiff, Nat.zero_add, if_true, if_false, reduceIte, reduceCtorEq, Bool.false_eq_true, fsD, enum_fs]), f1]
  simp only [init, retOf, seqG, setG, newG, iffG, rtG, drG, asgG, nxG, noG, liftP, liftT, nwM, tb, tbM, op1, op1M, op2, op2M, vG, rG, fG, cG, callG, aNil, aCons, aStar, tAndG, tOrG, tNotG, tAndM, tOrM, tNotM, andG, orG, Dn.andM, Dn.orM, ifG, ifM, boolOf, nmT, nilT, consT, tupT, setVG, fzV, olV, odV, parG, par3G', notD, negD, tupM, lstN, lenD, listI, cutN.listOf, wipeR, putBack, fzOf, intOf, iiG, iiB, iiC, List.map_cons, List.map_nil, List.cons_append, List.nil_append, List.append_nil, List.length_cons, List.length_nil, List.length_map, List.replicate_succ, List.replicate_zero, List.getElem?_cons_zero, List.getElem?_cons_succ, List.set_cons_zero, List.set_cons_succ, Option.bind_some, Option.bind_none, Option.map_some, Option.map_none, Bool.not_true, Bool.not_false, Bool.true_and, Bool.and_true, Bool.false_and, Bool.and_false, Bool.or_true, Bool.true_or, Bool.or_false, Bool.false_or, decide_true, decide_false, Nat.reduceSub, Nat.reduceAdd, Nat.reduceLeDiff, Nat.reduceEqDiff, Nat.zero_add, if_true, if_false, reduceIte, reduceCtorEq, Bool.false_eq_true, shl_1 n (by omega), hsub, int_0]
  simp only [List.map_nil] at e1
  rw [e1]
  rcases e2 with ⟨I, rfl, c1, c2, c3, c4⟩ | ⟨rfl, c1, pd, c2, x3, x4, x5, x6, x7, x8, x9, x10, x11, x12, x13, x14, rfl⟩
  · simp only [init, retOf, seqG, setG, newG, iffG, rtG, drG, asgG, nxG, noG, liftP, liftT, nwM, tb, tbM, op1, op1M, op2, op2M, vG, rG, fG, cG, callG, aNil, aCons, aStar, tAndG, tOrG, tNotG, tAndM, tOrM, tNotM, andG, orG, Dn.andM, Dn.orM, ifG, ifM, boolOf, nmT, nilT, consT, tupT, setVG, fzV, olV, odV, parG, par3G', notD, negD, tupM, lstN, lenD, listI, cutN.listOf, wipeR, putBack, fzOf, intOf, iiG, iiB, iiC, List.map_cons, List.map_nil, List.cons_append, List.nil_append, List.append_nil, List.length_cons, List.length_nil, List.length_map, List.replicate_succ, List.replicate_zero, List.getElem?_cons_zero, List.getElem?_cons_succ, List.set_cons_zero, List.set_cons_succ, Option.bind_some, Option.bind_none, Option.map_some, Option.map_none, Bool.not_true, Bool.not_false, Bool.true_and, Bool.and_true, Bool.false_and, Bool.and_false, Bool.or_true, Bool.true_or, Bool.or_false, Bool.false_or, decide_true, decide_false, Nat.reduceSub, Nat.reduceAdd, Nat.reduceLeDiff, Nat.reduceEqDiff, Nat.zero_add, if_true, if_false, reduceIte, reduceCtorEq, Bool.false_eq_true]
    exact ⟨_, I, rfl, fun e => absurd e c1, fun _ => ⟨c2, c3, c4⟩⟩
  · obtain ⟨ps, s1, s2⟩ := sort_pr pd
    have hc := lc_all (vs := [14, 7]) (td := tupT 2 (consT (nmT 14) (consT (nmT 7) nilT))) (ge := e_layered_1) (ρ := [some (.fz (nD n)), some (.fz (fsD fs)), some (.ol (pd.map prD)), x3, x4, x5, x6, none, x8, x9, x10, x11, x12, x13, none]) pairD (fun p => .int p.2) ps fun p hp => ⟨_, rfl, by
      unfold e_layered_1
      simp only [init, retOf, seqG, setG, newG, iffG, rtG, drG, asgG, nxG, noG, liftP, liftT, nwM, tb, tbM, op1, op1M, op2, op2M, vG, rG, fG, cG, callG, aNil, aCons, aStar, tAndG, tOrG, tNotG, tAndM, tOrM, tNotM, andG, orG, Dn.andM, Dn.orM, ifG, ifM, boolOf, nmT, nilT, consT, tupT, setVG, fzV, olV, odV, parG, par3G', notD, negD, tupM, lstN, lenD, listI, cutN.listOf, wipeR, putBack, fzOf, intOf, iiG, iiB, iiC, List.map_cons, List.map_nil, List.cons_append, List.nil_append, List.append_nil, List.length_cons, List.length_nil, List.length_map, List.replicate_succ, List.replicate_zero, List.getElem?_cons_zero, List.getElem?_cons_succ, List.set_cons_zero, List.set_cons_succ, Option.bind_some, Option.bind_none, Option.map_some, Option.map_none, Bool.not_true, Bool.not_false, Bool.true_and, Bool.and_true, Bool.false_and, Bool.and_false, Bool.or_true, Bool.true_or, Bool.or_false, Bool.false_or, decide_true, decide_false, Nat.reduceSub, Nat.reduceAdd, Nat.reduceLeDiff, Nat.reduceEqDiff, Nat.zero_add, if_true, if_false, reduceIte, reduceCtorEq, Bool.false_eq_true], rfl⟩
    simp only [init, retOf, seqG, setG, newG, iffG, rtG, drG, asgG, nxG, noG, liftP, liftT, nwM, tb, tbM, op1, op1M, op2, op2M, vG, rG, fG, cG, callG, aNil, aCons, aStar, tAndG, tOrG, tNotG, tAndM, tOrM, tNotM, andG, orG, Dn.andM, Dn.orM, ifG, ifM, boolOf, nmT, nilT, consT, tupT, setVG, fzV, olV, odV, parG, par3G', notD, negD, tupM, lstN, lenD, listI, cutN.listOf, wipeR, putBack, fzOf, intOf, iiG, iiB, iiC, List.map_cons, List.map_nil, List.cons_append, List.nil_append, List.append_nil, List.length_cons, List.length_nil, List.length_map, List.replicate_succ, List.replicate_zero, List.getElem?_cons_zero, List.getElem?_cons_succ, List.set_cons_zero, List.set_cons_succ, Option.bind_some, Option.bind_none, Option.map_some, Option.map_none, Bool.not_true, Bool.not_false, Bool.true_and, Bool.and_true, Bool.false_and, Bool.and_false, Bool.or_true, Bool.true_or, Bool.or_false, Bool.false_or, decide_true, decide_false, Nat.reduceSub, Nat.reduceAdd, Nat.reduceLeDiff, Nat.reduceEqDiff, Nat.zero_add, if_true, if_false, reduceIte, reduceCtorEq, Bool.false_eq_true]
    rw [lcN_eq (ds := ps.map pairD) (ρ1 := [some (.fz (nD n)), some (.fz (fsD fs)), some (.ol (pd.map prD)), x3, x4, x5, x6, x7, x8, x9, x10, x11, x12, x13, x14]) (by simp only [init, retOf, seqG, setG, newG, iffG, rtG, drG, asgG, nxG, noG, liftP, liftT, nwM, tb, tbM, op1, op1M, op2, op2M, vG, rG, fG, cG, callG, aNil, aCons, aStar, tAndG, tOrG, tNotG, tAndM, tOrM, tNotM, andG, orG, Dn.andM, Dn.orM, ifG, ifM, boolOf, nmT, nilT, consT, tupT, setVG, fzV, olV, odV, parG, par3G', notD, negD, tupM, lstN, lenD, listI, cutN.listOf, wipeR, putBack, fzOf, intOf, iiG, iiB, iiC, List.map_cons, List.map_nil, List.cons_append, List.nil_append, List.append_nil, List.length_cons, List.length_nil, List.length_map, List.replicate_succ, List.replicate_zero, List.getElem?_cons_zero, List.getElem?_cons_succ, List.set_cons_zero, List.set_cons_succ, Option.bind_some, Option.bind_none, Option.map_some, Option.map_none, Bool.not_true, Bool.not_false, Bool.true_and, Bool.and_true, Bool.false_and, Bool.and_false, Bool.or_true, Bool.true_or, Bool.or_false, Bool.false_or, decide_true, decide_false, Nat.reduceSub, Nat.reduceAdd, Nat.reduceLeDiff, Nat.reduceEqDiff, Nat.zero_add, if_true, if_false, reduceIte, reduceCtorEq, Bool.false_eq_true, nw1, s1]) (by rw [List.length_map, s2]; omega)]
    simp only [wipeR, List.set_cons_zero, List.set_cons_succ]
    rw [hc]
    simp only [init, retOf, seqG, setG, newG, iffG, rtG, drG, asgG, nxG, noG, liftP, liftT, nwM, tb, tbM, op1, op1M, op2, op2M, vG, rG, fG, cG, callG, aNil, aCons, aStar, tAndG, tOrG, tNotG, tAndM, tOrM, tNotM, andG, orG, Dn.andM, Dn.orM, ifG, ifM, boolOf, nmT, nilT, consT, tupT, setVG, fzV, olV, odV, parG, par3G', notD, negD, tupM, lstN, lenD, listI, cutN.listOf, wipeR, putBack, fzOf, intOf, iiG, iiB, iiC, List.map_cons, List.map_nil, List.cons_append, List.nil_append, List.append_nil, List.length_cons, List.length_nil, List.length_map, List.replicate_succ, List.replicate_zero, List.getElem?_cons_zero, List.getElem?_cons_succ, List.set_cons_zero, List.set_cons_succ, Option.bind_some, Option.bind_none, Option.map_some, Option.map_none, Bool.not_true, Bool.not_false, Bool.true_and, Bool.and_true, Bool.false_and, Bool.and_false, Bool.or_true, Bool.true_or, Bool.or_false, Bool.false_or, decide_true, decide_false, Nat.reduceSub, Nat.reduceAdd, Nat.reduceLeDiff, Nat.reduceEqDiff, Nat.zero_add, if_true, if_false, reduceIte, reduceCtorEq, Bool.false_eq_true, Nat.zero_le]
    exact ⟨_, [], rfl, fun _ => c1, fun h => absurd rfl h⟩
end K85
end
section
set_option Elab.async false
set_option linter.all false
set_option maxRecDepth 100000
set_option maxHeartbeats 4000000
namespace K85
open PySem L2 Dn Rk
theorem sort_n (F : List Nat) : ∃ G : List Nat, sortDI (nsD F) = some (G.map nD) ∧ G.Perm F ∧ G.Pairwise (· ≤ ·) := by
  have e : F.map nD = (F.map Int.ofNat).map PyData.int := by rw [List.map_map]; rfl
  have hp := sortI_perm (F.map Int.ofNat)
  have hs := sortI_sorted (F.map Int.ofNat)
  refine ⟨(sortI (F.map Int.ofNat)).map Int.toNat, ?_, ?_, ?_⟩
  · unfold sortDI nsD
    simp only [e, intsOf_map, Option.map_some]
    congr 1
    rw [List.map_map]
    refine List.map_congr_left fun i hi => ?_
    obtain ⟨x, _, rfl⟩ := List.mem_map.mp (hp.mem_iff.mp hi)
    rfl
  · have := hp.map Int.toNat
    rw [List.map_map] at this
    have e2 : F.map (Int.toNat ∘ Int.ofNat) = F := by
      conv => rhs; rw [← List.map_id F]
      exact List.map_congr_left fun x _ => rfl
    rw [e2] at this
    exact this
  · rw [List.pairwise_map]
    exact hs.imp fun {a b} h => by omega
theorem asc_of {G F : List Nat} (h : G.Perm F) (hs : G.Pairwise (· ≤ ·)) (hn : F.Nodup) : G.Pairwise (· < ·) := by
  have := h.nodup_iff.mpr hn
  exact (hs.and this).imp fun {a b} q => Nat.lt_of_le_of_ne q.1 q.2
theorem sel_in {fs : List Fact} {I : List Nat} {f : Fact} : f ∈ sel fs I ↔ ∃ i ∈ I, fa_ fs i = f := by unfold sel fa_; rw [List.mem_map]
theorem Bar.of {n : Nat} {fs : List Fact} {F : List Nat} (h1 : F ≠ []) (h2 : ∀ i ∈ F, fa_ fs i ≠ dots n) (h3 : ∀ k, k < n → (∃ i ∈ F, (fa_ fs i).getD k .S = .W) → ∃ i ∈ F, (fa_ fs i).getD k .S = .L) : Bar n (sel fs F) := by
  refine And.intro (fun e => h1 ?_) (And.intro (fun h => ?_) fun k hk hw => ?_)
  · unfold sel at e; simpa using e
  · obtain ⟨i, hi, e⟩ := sel_in.mp h
    exact h2 i hi e
  · obtain ⟨f, hf, e⟩ := hw
    obtain ⟨i, hi, rfl⟩ := sel_in.mp hf
    obtain ⟨j, hj, e2⟩ := h3 k hk ⟨i, hi, e⟩
    exact ⟨_, sel_in.mpr ⟨j, hj, rfl⟩, e2⟩
theorem Bar.to {n : Nat} {fs : List Fact} {F : List Nat} (b : Bar n (sel fs F)) : F ≠ [] ∧ (∀ i ∈ F, fa_ fs i ≠ dots n) ∧ ∀ k, k < n → (∃ i ∈ F, (fa_ fs i).getD k .S = .W) → ∃ i ∈ F, (fa_ fs i).getD k .S = .L := by
  obtain ⟨b1, b2, b3⟩ := b
  refine ⟨fun e => b1 (by unfold sel; rw [e]; rfl), fun i hi e => b2 (sel_in.mpr ⟨i, hi, e⟩), fun k hk ⟨i, hi, e⟩ => ?_⟩
  obtain ⟨f, hf, e2⟩ := b3 k hk ⟨_, sel_in.mpr ⟨i, hi, rfl⟩, e⟩
  obtain ⟨j, hj, rfl⟩ := sel_in.mp hf
  exact ⟨j, hj, e2⟩
theorem lack_some {n : Nat} {fs : List Fact} {k : Nat} (h : lack n fs = some k) : k < n ∧ (∃ f ∈ fs, f.getD k .S = .W) ∧ ¬ ∃ f ∈ fs, f.getD k .S = .L := by
  unfold lack at h
  have h1 := List.find?_some h
  have h2 := List.mem_of_find?_eq_some h
  rw [Bool.and_eq_true, decide_eq_true_eq, Bool.not_eq_true', decide_eq_false_iff_not, col_mem, col_mem] at h1
  exact ⟨by simpa using h2, h1.1, h1.2⟩
theorem lack_none {n : Nat} {fs : List Fact} (h : lack n fs = none) (k : Nat) (hk : k < n) (hw : ∃ f ∈ fs, f.getD k .S = .W) : ∃ f ∈ fs, f.getD k .S = .L := by
  unfold lack at h
  rw [List.find?_eq_none] at h
  have := h k (by simpa using hk)
  rw [Bool.and_eq_true, decide_eq_true_eq, Bool.not_eq_true', decide_eq_false_iff_not, col_mem, col_mem] at this
  exact Classical.byContradiction fun z => this ⟨hw, z⟩
/-- how many rules have an L -/
def lcnt (n : Nat) (fs : List Fact) : Nat := ((List.range n).filter fun k => decide (Sg.L ∈ col fs k)).length
theorem lcnt_le (n : Nat) (fs : List Fact) : lcnt n fs ≤ n := Nat.le_trans (List.length_filter_le _ _) (by simp)
theorem ix_at {fs : List Fact} (hn : ∀ f ∈ fs, f.length ≤ 60) {i k : Nat} (hi : i < fs.length) (hk : k < (fa_ fs i).length) : (ixD (fsD fs) (nD i)).bind (fun x => ixD x (nD k)) = some (sD ((fa_ fs i).getD k .S)) := by
  rw [ix_sel hi]
  show ixD (fD (fa_ fs i)) (nD k) = _
  rw [ix_f _ k hk (by have := hn _ (fa_mem hi); omega), getD_f hk]
theorem covering (n : Nat) (hn : n ≤ 60) (fs : List Fact) (hf : Fits n fs) (hl : fs.length ≤ 500) (I : List Nat) (ha : I.Pairwise (· < ·)) (hI : ∀ i ∈ I, i < fs.length) (b : Bar n (sel fs I)) :
    ∃ G, runG 6 g_covering [nD n, fsD fs, nsD I] = some (nsD G) ∧ G.Pairwise (· < ·) ∧ (∀ i ∈ G, i ∈ I) ∧ Bar n (sel fs G) := by
  obtain ⟨b1, b2, b3⟩ := b.to
  have hIl := asc_len ha hI
  -- the chosen facts
  have hp := fun (x4 x5 : Option Sl) (F : List Nat) (hF : ∀ i ∈ F, i < fs.length) => lc_all (vs := [5]) (td := nmT 5) (ge := e_covering_1) (ρ := [some (.fz (nD n)), some (.fz (fsD fs)), some (.fz (nsD I)), none, x4, none]) nD (fun i => fD (fa_ fs i)) F fun i hi => ⟨_, rfl, by
    unfold e_covering_1
    simp only [init, retOf, seqG, setG, newG, iffG, rtG, drG, asgG, nxG, noG, liftP, liftT, nwM, tb, tbM, op1, op1M, op2, op2M, vG, rG, fG, cG, callG, aNil, aCons, aStar, tAndG, tOrG, tNotG, tAndM, tOrM, tNotM, andG, orG, Dn.andM, Dn.orM, ifG, ifM, boolOf, nmT, nilT, consT, tupT, setVG, fzV, olV, odV, parG, par3G', notD, negD, tupM, lstN, lenD, listI, cutN.listOf, wipeR, putBack, fzOf, intOf, iiG, iiB, iiC, List.map_cons, List.map_nil, List.cons_append, List.nil_append, List.append_nil, List.length_cons, List.length_nil, List.length_map, List.replicate_succ, List.replicate_zero, List.getElem?_cons_zero, List.getElem?_cons_succ, List.set_cons_zero, List.set_cons_succ, Option.bind_some, Option.bind_none, Option.map_some, Option.map_none, Bool.not_true, Bool.not_false, Bool.true_and, Bool.and_true, Bool.false_and, Bool.and_false, Bool.or_true, Bool.true_or, Bool.or_false, Bool.false_or, decide_true, decide_false, Nat.reduceSub, Nat.reduceAdd, Nat.reduceLeDiff, Nat.reduceEqDiff, Nat.zero_add, if_true, if_false, reduceIte, reduceCtorEq, Bool.false_eq_true]
    rw [ix_sel (hF i hi)]
    rfl, rfl⟩
  have selD : ∀ F : List Nat, PyData.list (F.map fun i => fD (fa_ fs i)) = fsD (sel fs F) := fun F => map_sel fs F
  have lk := fun (F : List Nat) (hF : ∀ i ∈ F, i < fs.length) (hl2 : F.length ≤ 1000) => lacking_rule n (sel fs F) (sel_fits hf hF) hn (by unfold sel; simpa using hl2)
  have hnd : ∀ {F : List Nat}, F.Nodup → (∀ i ∈ F, i < fs.length) → F.length ≤ 1000 := fun {F} h1 h2 => by
    obtain ⟨G, _, g1, g2⟩ := sort_n F
    have := asc_len (asc_of g1 g2 h1) fun i hi => h2 i (g1.mem_iff.mp hi)
    have := g1.length_eq
    omega
  obtain ⟨o, ρ', e1, e2⟩ := while_gen (c := w_covering_1) (b := b_covering_1)
    (fun k ρ => ∃ F x5, ρ = [some (.fz (nD n)), some (.fz (fsD fs)), some (.fz (nsD I)), some (.ol (F.map nD)), some (.fz (onD (lack n (sel fs F)))), x5] ∧ F ≠ [] ∧ F.Nodup ∧ (∀ i ∈ F, i ∈ I) ∧ k = n - lcnt n (sel fs F))
    (fun o ρ => o = .nx ∧ ∃ F x4 x5, ρ = [some (.fz (nD n)), some (.fz (fsD fs)), some (.fz (nsD I)), some (.ol (F.map nD)), x4, x5] ∧ F ≠ [] ∧ F.Nodup ∧ (∀ i ∈ F, i ∈ I) ∧ lack n (sel fs F) = none) (by
      rintro k ρ ⟨F, x5, rfl, f1, f2, f3, rfl⟩
      have hw : w_covering_1 [some (.fz (nD n)), some (.fz (fsD fs)), some (.fz (nsD I)), some (.ol (F.map nD)), some (.fz (onD (lack n (sel fs F)))), x5] =
          some (!(lack n (sel fs F)).isNone, [some (.fz (nD n)), some (.fz (fsD fs)), some (.fz (nsD I)), some (.ol (F.map nD)), some (.fz (onD (lack n (sel fs F)))), x5]) := by
        unfold w_covering_1
        simp only [init, retOf, seqG, setG, newG, iffG, rtG, drG, asgG, nxG, noG, liftP, liftT, nwM, tb, tbM, op1, op1M, op2, op2M, vG, rG, fG, cG, callG, aNil, aCons, aStar, tAndG, tOrG, tNotG, tAndM, tOrM, tNotM, andG, orG, Dn.andM, Dn.orM, ifG, ifM, boolOf, nmT, nilT, consT, tupT, setVG, fzV, olV, odV, parG, par3G', notD, negD, tupM, lstN, lenD, listI, cutN.listOf, wipeR, putBack, fzOf, intOf, iiG, iiB, iiC, List.map_cons, List.map_nil, List.cons_append, List.nil_append, List.append_nil, List.length_cons, List.length_nil, List.length_map, List.replicate_succ, List.replicate_zero, List.getElem?_cons_zero, List.getElem?_cons_succ, List.set_cons_zero, List.set_cons_succ, Option.bind_some, Option.bind_none, Option.map_some, Option.map_none, Bool.not_true, Bool.not_false, Bool.true_and, Bool.and_true, Bool.false_and, Bool.and_false, Bool.or_true, Bool.true_or, Bool.or_false, Bool.false_or, decide_true, decide_false, Nat.reduceSub, Nat.reduceAdd, Nat.reduceLeDiff, Nat.reduceEqDiff, Nat.zero_add, if_true, if_false, reduceIte, reduceCtorEq, Bool.false_eq_true, isnN_o]
      refine ⟨_, _, hw, fun q => ⟨rfl, F, _, _, rfl, f1, f2, f3, by simpa using q⟩, fun q => ?_⟩
      obtain ⟨r, hr⟩ : ∃ r, lack n (sel fs F) = some r := by
        cases z : lack n (sel fs F) with
        | none => rw [z] at q; cases q
        | some r => exact ⟨r, rfl⟩
      obtain ⟨r1, ⟨f, r2, r3⟩, r4⟩ := lack_some hr
      obtain ⟨i0, hi0, rfl⟩ := sel_in.mp r2
      -- the first index with an L there
      obtain ⟨j, hj, hjL⟩ := b3 r r1 ⟨i0, f3 i0 hi0, r3⟩
      have hne : I.filter (fun i => decide ((fa_ fs i).getD r .S = .L)) ≠ [] := fun z => by
        have : j ∈ I.filter (fun i => decide ((fa_ fs i).getD r .S = .L)) := List.mem_filter.mpr ⟨hj, by simpa using hjL⟩
        rw [z] at this; cases this
      obtain ⟨i, tl, hi⟩ : ∃ i tl, I.filter (fun i => decide ((fa_ fs i).getD r .S = .L)) = i :: tl := by
        cases z : I.filter (fun i => decide ((fa_ fs i).getD r .S = .L)) with
        | nil => exact absurd z hne
        | cons i tl => exact ⟨i, tl, rfl⟩
      have him : i ∈ I ∧ (fa_ fs i).getD r .S = .L := by
        have : i ∈ I.filter (fun i => decide ((fa_ fs i).getD r .S = .L)) := by rw [hi]; simp
        have := List.mem_filter.mp this
        exact ⟨this.1, by simpa using this.2⟩
      have hiF : i ∉ F := fun z => r4 ⟨_, sel_in.mpr ⟨i, z, rfl⟩, him.2⟩
      have nd2 : (F ++ [i]).Nodup := by
        rw [List.nodup_append]
        exact ⟨f2, by simp, fun a ha b hb => by simp at hb; subst hb; exact fun z => hiF (z ▸ ha)⟩
      have in2 : ∀ x ∈ F ++ [i], x ∈ I := fun x hx => by
        rcases List.mem_append.mp hx with hx | hx
        · exact f3 x hx
        · simp at hx; subst hx; exact him.1
      have hF2 : ∀ x ∈ F ++ [i], x < fs.length := fun x hx => hI x (in2 x hx)
      have hlen2 := hnd nd2 hF2
      have hc := lc_typed (vs := [5]) (td := nmT 5) (tt := q_covering_1) (ge := e_covering_2) (ρ := [some (.fz (nD n)), some (.fz (fsD fs)), some (.fz (nsD I)), some (.ol (F.map nD)), some (.fz (nD r)), none]) nD (fun i => decide ((fa_ fs i).getD r .S = .L)) nD I fun i hi => ⟨_, rfl, by
        have := ix_at (fun f hfm => by rw [hf f hfm]; exact hn) (hI i hi) (show r < (fa_ fs i).length by rw [hf _ (fa_mem (hI i hi))]; exact r1)
        unfold q_covering_1
        simp only [init, retOf, seqG, setG, newG, iffG, rtG, drG, asgG, nxG, noG, liftP, liftT, nwM, tb, tbM, op1, op1M, op2, op2M, vG, rG, fG, cG, callG, aNil, aCons, aStar, tAndG, tOrG, tNotG, tAndM, tOrM, tNotM, andG, orG, Dn.andM, Dn.orM, ifG, ifM, boolOf, nmT, nilT, consT, tupT, setVG, fzV, olV, odV, parG, par3G', notD, negD, tupM, lstN, lenD, listI, cutN.listOf, wipeR, putBack, fzOf, intOf, iiG, iiB, iiC, List.map_cons, List.map_nil, List.cons_append, List.nil_append, List.append_nil, List.length_cons, List.length_nil, List.length_map, List.replicate_succ, List.replicate_zero, List.getElem?_cons_zero, List.getElem?_cons_succ, List.set_cons_zero, List.set_cons_succ, Option.bind_some, Option.bind_none, Option.map_some, Option.map_none, Bool.not_true, Bool.not_false, Bool.true_and, Bool.and_true, Bool.false_and, Bool.and_false, Bool.or_true, Bool.true_or, Bool.or_false, Bool.false_or, decide_true, decide_false, Nat.reduceSub, Nat.reduceAdd, Nat.reduceLeDiff, Nat.reduceEqDiff, Nat.zero_add, if_true, if_false, reduceIte, reduceCtorEq, Bool.false_eq_true, str_L, lit_L]
        rw [this]
        simp only [init, retOf, seqG, setG, newG, iffG, rtG, drG, asgG, nxG, noG, liftP, liftT, nwM, tb, tbM, op1, op1M, op2, op2M, vG, rG, fG, cG, callG, aNil, aCons, aStar, tAndG, tOrG, tNotG, tAndM, tOrM, tNotM, andG, orG, Dn.andM, Dn.orM, ifG, ifM, boolOf, nmT, nilT, consT, tupT, setVG, fzV, olV, odV, parG, par3G', notD, negD, tupM, lstN, lenD, listI, cutN.listOf, wipeR, putBack, fzOf, intOf, iiG, iiB, iiC, List.map_cons, List.map_nil, List.cons_append, List.nil_append, List.append_nil, List.length_cons, List.length_nil, List.length_map, List.replicate_succ, List.replicate_zero, List.getElem?_cons_zero, List.getElem?_cons_succ, List.set_cons_zero, List.set_cons_succ, Option.bind_some, Option.bind_none, Option.map_some, Option.map_none, Bool.not_true, Bool.not_false, Bool.true_and, Bool.and_true, Bool.false_and, Bool.and_false, Bool.or_true, Bool.true_or, Bool.or_false, Bool.false_or, decide_true, decide_false, Nat.reduceSub, Nat.reduceAdd, Nat.reduceLeDiff, Nat.reduceEqDiff, Nat.zero_add, if_true, if_false, reduceIte, reduceCtorEq, Bool.false_eq_true, eq_s], fun _ => by
        unfold e_covering_2
        simp only [init, retOf, seqG, setG, newG, iffG, rtG, drG, asgG, nxG, noG, liftP, liftT, nwM, tb, tbM, op1, op1M, op2, op2M, vG, rG, fG, cG, callG, aNil, aCons, aStar, tAndG, tOrG, tNotG, tAndM, tOrM, tNotM, andG, orG, Dn.andM, Dn.orM, ifG, ifM, boolOf, nmT, nilT, consT, tupT, setVG, fzV, olV, odV, parG, par3G', notD, negD, tupM, lstN, lenD, listI, cutN.listOf, wipeR, putBack, fzOf, intOf, iiG, iiB, iiC, List.map_cons, List.map_nil, List.cons_append, List.nil_append, List.append_nil, List.length_cons, List.length_nil, List.length_map, List.replicate_succ, List.replicate_zero, List.getElem?_cons_zero, List.getElem?_cons_succ, List.set_cons_zero, List.set_cons_succ, Option.bind_some, Option.bind_none, Option.map_some, Option.map_none, Bool.not_true, Bool.not_false, Bool.true_and, Bool.and_true, Bool.false_and, Bool.and_false, Bool.or_true, Bool.true_or, Bool.or_false, Bool.false_or, decide_true, decide_false, Nat.reduceSub, Nat.reduceAdd, Nat.reduceLeDiff, Nat.reduceEqDiff, Nat.zero_add, if_true, if_false, reduceIte, reduceCtorEq, Bool.false_eq_true], rfl⟩
      have hb : ∃ x5', b_covering_1 [some (.fz (nD n)), some (.fz (fsD fs)), some (.fz (nsD I)), some (.ol (F.map nD)), some (.fz (nD r)), x5] = some (.nx, [some (.fz (nD n)), some (.fz (fsD fs)), some (.fz (nsD I)), some (.ol ((F ++ [i]).map nD)), some (.fz (onD (lack n (sel fs (F ++ [i]))))), x5']) := by
        have hFl : F.length ≤ 1000000 := by rw [List.length_append] at hlen2; omega
        have hFl2 : (F ++ [i]).length ≤ 1000000 := by omega
        have e0 : ixD (.list ((i :: tl).map nD)) (.int 0) = some (nD i) := ix_n (i :: tl) 0 (by simp)
        unfold b_covering_1 appG
        simp only [init, retOf, seqG, setG, newG, iffG, rtG, drG, asgG, nxG, noG, liftP, liftT, nwM, tb, tbM, op1, op1M, op2, op2M, vG, rG, fG, cG, callG, aNil, aCons, aStar, tAndG, tOrG, tNotG, tAndM, tOrM, tNotM, andG, orG, Dn.andM, Dn.orM, ifG, ifM, boolOf, nmT, nilT, consT, tupT, setVG, fzV, olV, odV, parG, par3G', notD, negD, tupM, lstN, lenD, listI, cutN.listOf, wipeR, putBack, fzOf, intOf, iiG, iiB, iiC, List.map_cons, List.map_nil, List.cons_append, List.nil_append, List.append_nil, List.length_cons, List.length_nil, List.length_map, List.replicate_succ, List.replicate_zero, List.getElem?_cons_zero, List.getElem?_cons_succ, List.set_cons_zero, List.set_cons_succ, Option.bind_some, Option.bind_none, Option.map_some, Option.map_none, Bool.not_true, Bool.not_false, Bool.true_and, Bool.and_true, Bool.false_and, Bool.and_false, Bool.or_true, Bool.true_or, Bool.or_false, Bool.false_or, decide_true, decide_false, Nat.reduceSub, Nat.reduceAdd, Nat.reduceLeDiff, Nat.reduceEqDiff, Nat.zero_add, if_true, if_false, reduceIte, reduceCtorEq, Bool.false_eq_true, olAt]
        rw [lcN_eq (ds := I.map nD) rfl (by rw [List.length_map]; omega)]
        simp only [wipeR, List.set_cons_zero, List.set_cons_succ]
        rw [hc, hi]
        simp only [putBack, fzOf, Option.map_some, Option.bind_some, List.getElem?_cons_zero, List.getElem?_cons_succ, List.set_cons_zero, List.set_cons_succ, e0, olAt, olSet, List.length_map, hFl, if_true]
        have e1 : F.map nD ++ [nD i] = (F ++ [i]).map nD := by rw [List.map_append]; rfl
        rw [e1]
        unfold lcP
        simp only [oAt, Option.map_some, Option.bind_some, List.getElem?_cons_zero, List.getElem?_cons_succ, List.set_cons_zero, List.set_cons_succ, List.length_map, hFl2, if_true, wipeR]
        rw [hp _ none _ hF2]
        simp only [init, retOf, seqG, setG, newG, iffG, rtG, drG, asgG, nxG, noG, liftP, liftT, nwM, tb, tbM, op1, op1M, op2, op2M, vG, rG, fG, cG, callG, aNil, aCons, aStar, tAndG, tOrG, tNotG, tAndM, tOrM, tNotM, andG, orG, Dn.andM, Dn.orM, ifG, ifM, boolOf, nmT, nilT, consT, tupT, setVG, fzV, olV, odV, parG, par3G', notD, negD, tupM, lstN, lenD, listI, cutN.listOf, wipeR, putBack, fzOf, intOf, iiG, iiB, iiC, List.map_cons, List.map_nil, List.cons_append, List.nil_append, List.append_nil, List.length_cons, List.length_nil, List.length_map, List.replicate_succ, List.replicate_zero, List.getElem?_cons_zero, List.getElem?_cons_succ, List.set_cons_zero, List.set_cons_succ, Option.bind_some, Option.bind_none, Option.map_some, Option.map_none, Bool.not_true, Bool.not_false, Bool.true_and, Bool.and_true, Bool.false_and, Bool.and_false, Bool.or_true, Bool.true_or, Bool.or_false, Bool.false_or, decide_true, decide_false, Nat.reduceSub, Nat.reduceAdd, Nat.reduceLeDiff, Nat.reduceEqDiff, Nat.zero_add, if_true, if_false, reduceIte, reduceCtorEq, Bool.false_eq_true, selD, lk _ hF2 hlen2]
        exact ⟨_, rfl⟩
      obtain ⟨x5', hb⟩ := hb
      rw [hr] at hw ⊢
      refine ⟨.nx, _, hb, ?_⟩
      have hlt : lcnt n (sel fs F) < lcnt n (sel fs (F ++ [i])) := by
        refine filter_lt (fun k _ h => ?_) ⟨r, by simpa using r1, ?_, ?_⟩
        · rw [decide_eq_true_eq, col_mem] at h ⊢
          obtain ⟨f, h1, h2⟩ := h
          obtain ⟨x, hx, rfl⟩ := sel_in.mp h1
          exact ⟨_, sel_in.mpr ⟨x, by simp [hx], rfl⟩, h2⟩
        · rw [decide_eq_true_eq, col_mem]
          exact ⟨_, sel_in.mpr ⟨i, by simp, rfl⟩, him.2⟩
        · rw [decide_eq_false_iff_not, col_mem]; exact r4
      have := lcnt_le n (sel fs (F ++ [i]))
      exact ⟨_, by omega, F ++ [i], x5', rfl, by simp, nd2, in2, rfl⟩)
    100 (n - lcnt n (sel fs [I[0]'(by cases I with | nil => exact absurd rfl b1 | cons _ _ => simp)])) [some (.fz (nD n)), some (.fz (fsD fs)), some (.fz (nsD I)), some (.ol ([I[0]'(by cases I with | nil => exact absurd rfl b1 | cons _ _ => simp)].map nD)), some (.fz (onD (lack n (sel fs [I[0]'(by cases I with | nil => exact absurd rfl b1 | cons _ _ => simp)])))), none] (by omega)
    ⟨_, none, rfl, by simp, by simp, fun i hi => by simp at hi; subst hi; exact List.getElem_mem _, rfl⟩
  obtain ⟨rfl, F, x4, x5, rfl, f1, f2, f3, f4⟩ := e2
  obtain ⟨G, g0, g1, g2⟩ := sort_n F
  refine ⟨G, ?_, asc_of g1 g2 f2, fun i hi => f3 i (g1.mem_iff.mp hi), Bar.of (fun e => f1 (by rw [e] at g1; exact g1.symm.eq_nil)) (fun i hi => b2 i (f3 i (g1.mem_iff.mp hi))) fun k hk ⟨i, hi, e⟩ => ?_⟩
  · have hpos : 0 < I.length := by cases I with | nil => exact absurd rfl b1 | cons _ _ => simp
    have h0 : ∀ x ∈ [I[0]], x < fs.length := fun x hx => by simp at hx; subst hx; exact hI _ (List.getElem_mem _)
    have ix0 : ixD (nsD I) (nD 0) = some (nD I[0]) := ix_n I 0 hpos
    rw [run_eq]
    unfold g_covering
    simp only [init, retOf, seqG, setG, newG, iffG, rtG, drG, asgG, nxG, noG, liftP, liftT, nwM, tb, tbM, op1, op1M, op2, op2M, vG, rG, fG, cG, callG, aNil, aCons, aStar, tAndG, tOrG, tNotG, tAndM, tOrM, tNotM, andG, orG, Dn.andM, Dn.orM, ifG, ifM, boolOf, nmT, nilT, consT, tupT, setVG, fzV, olV, odV, parG, par3G', notD, negD, tupM, lstN, lenD, listI, cutN.listOf, wipeR, putBack, fzOf, intOf, iiG, iiB, iiC, List.map_cons, List.map_nil, List.cons_append, List.nil_append, List.append_nil, List.length_cons, List.length_nil, List.length_map, List.replicate_succ, List.replicate_zero, List.getElem?_cons_zero, List.getElem?_cons_succ, List.set_cons_zero, List.set_cons_succ, Option.bind_some, Option.bind_none, Option.map_some, Option.map_none, Bool.not_true, Bool.not_false, Bool.true_and, Bool.and_true, Bool.false_and, Bool.and_false, Bool.or_true, Bool.true_or, Bool.or_false, Bool.false_or, decide_true, decide_false, Nat.reduceSub, Nat.reduceAdd, Nat.reduceLeDiff, Nat.reduceEqDiff, Nat.zero_add, if_true, if_false, reduceIte, reduceCtorEq, Bool.false_eq_true, int_0, ix0]
    unfold lcP
    have hz : (1 : Nat) ≤ 1000000 := by omega
    have hq := hp none none [I[0]] h0
    simp only [List.map_cons, List.map_nil] at hq
    have hs := selD [I[0]]
    simp only [List.map_cons, List.map_nil] at hs
    simp only [init, retOf, seqG, setG, newG, iffG, rtG, drG, asgG, nxG, noG, liftP, liftT, nwM, tb, tbM, op1, op1M, op2, op2M, vG, rG, fG, cG, callG, aNil, aCons, aStar, tAndG, tOrG, tNotG, tAndM, tOrM, tNotM, andG, orG, Dn.andM, Dn.orM, ifG, ifM, boolOf, nmT, nilT, consT, tupT, setVG, fzV, olV, odV, parG, par3G', notD, negD, tupM, lstN, lenD, listI, cutN.listOf, wipeR, putBack, fzOf, intOf, iiG, iiB, iiC, List.map_cons, List.map_nil, List.cons_append, List.nil_append, List.append_nil, List.length_cons, List.length_nil, List.length_map, List.replicate_succ, List.replicate_zero, List.getElem?_cons_zero, List.getElem?_cons_succ, List.set_cons_zero, List.set_cons_succ, Option.bind_some, Option.bind_none, Option.map_some, Option.map_none, Bool.not_true, Bool.not_false, Bool.true_and, Bool.and_true, Bool.false_and, Bool.and_false, Bool.or_true, Bool.true_or, Bool.or_false, Bool.false_or, decide_true, decide_false, Nat.reduceSub, Nat.reduceAdd, Nat.reduceLeDiff, Nat.reduceEqDiff, Nat.zero_add, if_true, if_false, reduceIte, reduceCtorEq, Bool.false_eq_true, oAt, hz]
    rw [show e_covering_3 = e_covering_1 from rfl, hq]
    simp only [init, retOf, seqG, setG, newG, iffG, rtG, drG, asgG, nxG, noG, liftP, liftT, nwM, tb, tbM, op1, op1M, op2, op2M, vG, rG, fG, cG, callG, aNil, aCons, aStar, tAndG, tOrG, tNotG, tAndM, tOrM, tNotM, andG, orG, Dn.andM, Dn.orM, ifG, ifM, boolOf, nmT, nilT, consT, tupT, setVG, fzV, olV, odV, parG, par3G', notD, negD, tupM, lstN, lenD, listI, cutN.listOf, wipeR, putBack, fzOf, intOf, iiG, iiB, iiC, List.map_cons, List.map_nil, List.cons_append, List.nil_append, List.append_nil, List.length_cons, List.length_nil, List.length_map, List.replicate_succ, List.replicate_zero, List.getElem?_cons_zero, List.getElem?_cons_succ, List.set_cons_zero, List.set_cons_succ, Option.bind_some, Option.bind_none, Option.map_some, Option.map_none, Bool.not_true, Bool.not_false, Bool.true_and, Bool.and_true, Bool.false_and, Bool.and_false, Bool.or_true, Bool.true_or, Bool.or_false, Bool.false_or, decide_true, decide_false, Nat.reduceSub, Nat.reduceAdd, Nat.reduceLeDiff, Nat.reduceEqDiff, Nat.zero_add, if_true, if_false, reduceIte, reduceCtorEq, Bool.false_eq_true, hs, lk [I[0]] h0 (by simp)]
    simp only [List.map_cons, List.map_nil] at e1
    rw [e1]
    simp only [nsD] at g0
    simp only [init, retOf, seqG, setG, newG, iffG, rtG, drG, asgG, nxG, noG, liftP, liftT, nwM, tb, tbM, op1, op1M, op2, op2M, vG, rG, fG, cG, callG, aNil, aCons, aStar, tAndG, tOrG, tNotG, tAndM, tOrM, tNotM, andG, orG, Dn.andM, Dn.orM, ifG, ifM, boolOf, nmT, nilT, consT, tupT, setVG, fzV, olV, odV, parG, par3G', notD, negD, tupM, lstN, lenD, listI, cutN.listOf, wipeR, putBack, fzOf, intOf, iiG, iiB, iiC, List.map_cons, List.map_nil, List.cons_append, List.nil_append, List.append_nil, List.length_cons, List.length_nil, List.length_map, List.replicate_succ, List.replicate_zero, List.getElem?_cons_zero, List.getElem?_cons_succ, List.set_cons_zero, List.set_cons_succ, Option.bind_some, Option.bind_none, Option.map_some, Option.map_none, Bool.not_true, Bool.not_false, Bool.true_and, Bool.and_true, Bool.false_and, Bool.and_false, Bool.or_true, Bool.true_or, Bool.or_false, Bool.false_or, decide_true, decide_false, Nat.reduceSub, Nat.reduceAdd, Nat.reduceLeDiff, Nat.reduceEqDiff, Nat.zero_add, if_true, if_false, reduceIte, reduceCtorEq, Bool.false_eq_true, nw1, g0, nsD]
  · obtain ⟨f, h1, h2⟩ := lack_none f4 k hk ⟨_, sel_in.mpr ⟨i, g1.mem_iff.mp hi, rfl⟩, e⟩
    obtain ⟨j, hj, rfl⟩ := sel_in.mp h1
    exact ⟨j, g1.mem_iff.mpr hj, h2⟩
end K85
end
section
set_option Elab.async false
set_option linter.all false
set_option maxRecDepth 100000
set_option maxHeartbeats 4000000
namespace K85
open PySem L2 Dn Rk
theorem sel_sel (fs : List Fact) (F I : List Nat) (hI : ∀ i ∈ I, i < F.length) : sel (sel fs F) I = sel fs (I.map fun i => F.getD i 0) := by
  unfold sel
  rw [List.map_map]
  refine List.map_congr_left fun i hi => ?_
  have h := hI i hi
  rw [List.getD_eq_getElem?_getD, List.getElem?_map, List.getElem?_eq_getElem h]
  show fs.getD F[i] [] = fs.getD (F.getD i 0) []
  rw [List.getD_eq_getElem?_getD (l := F), List.getElem?_eq_getElem h]; rfl
theorem asc_get {F : List Nat} (hF : F.Pairwise (· < ·)) {i j : Nat} (hij : i < j) (hj : j < F.length) : F.getD i 0 < F.getD j 0 := by
  rw [List.getD_eq_getElem?_getD, List.getD_eq_getElem?_getD, List.getElem?_eq_getElem hj, List.getElem?_eq_getElem (by omega)]
  exact List.pairwise_iff_getElem.mp hF i j (by omega) hj hij
theorem asc_map {F I : List Nat} (hF : F.Pairwise (· < ·)) (hI : I.Pairwise (· < ·)) (hl : ∀ i ∈ I, i < F.length) : (I.map fun i => F.getD i 0).Pairwise (· < ·) := by
  rw [List.pairwise_map]
  exact (List.Pairwise.and_mem.mp hI).imp fun {a b} h => asc_get hF h.2.2 (hl b h.2.1)
/-- an ascending barring list of indices -/
def BarI (n : Nat) (fs : List Fact) (K : List Nat) : Prop := K.Pairwise (· < ·) ∧ (∀ i ∈ K, i < fs.length) ∧ Bar n (sel fs K)
theorem keep_turn (n : Nat) (hn : n ≤ 60) (fs : List Fact) (hf : Fits n fs) (hl : fs.length ≤ 500) (K : List Nat) (hK : BarI n fs K) (x : Nat) (x2 x5 x6 x7 x8 : Option Sl) :
    ∃ K' y5 y6 y7 y8, b_least_barring_1 [some (.fz (nD n)), some (.fz (fsD fs)), x2, some (.fz (nsD K)), some (.fz (nD x)), x5, x6, x7, x8] = some (.nx, [some (.fz (nD n)), some (.fz (fsD fs)), x2, some (.fz (nsD K')), some (.fz (nD x)), y5, y6, y7, y8]) ∧ BarI n fs K' := by
  obtain ⟨k1, k2, k3⟩ := hK
  have hKl := asc_len k1 k2
  unfold b_least_barring_1
  simp only [init, retOf, seqG, setG, newG, iffG, rtG, drG, asgG, nxG, noG, liftP, liftT, nwM, tb, tbM, op1, op1M, op2, op2M, vG, rG, fG, cG, callG, aNil, aCons, aStar, tAndG, tOrG, tNotG, tAndM, tOrM, tNotM, andG, orG, Dn.andM, Dn.orM, ifG, ifM, boolOf, nmT, nilT, consT, tupT, setVG, fzV, olV, odV, parG, par3G', notD, negD, tupM, lstN, lenD, listI, cutN.listOf, wipeR, putBack, fzOf, intOf, iiG, iiB, iiC, List.map_cons, List.map_nil, List.cons_append, List.nil_append, List.append_nil, List.length_cons, List.length_nil, List.length_map, List.replicate_succ, List.replicate_zero, List.getElem?_cons_zero, List.getElem?_cons_succ, List.set_cons_zero, List.set_cons_succ, Option.bind_some, Option.bind_none, Option.map_some, Option.map_none, Bool.not_true, Bool.not_false, Bool.true_and, Bool.and_true, Bool.false_and, Bool.and_false, Bool.or_true, Bool.true_or, Bool.or_false, Bool.false_or, decide_true, decide_false, Nat.reduceSub, Nat.reduceAdd, Nat.reduceLeDiff, Nat.reduceEqDiff, Nat.zero_add, if_true, if_false, reduceIte, reduceCtorEq, Bool.false_eq_true, in_n]
  by_cases hx : x ∈ K
  · simp only [hx, init, retOf, seqG, setG, newG, iffG, rtG, drG, asgG, nxG, noG, liftP, liftT, nwM, tb, tbM, op1, op1M, op2, op2M, vG, rG, fG, cG, callG, aNil, aCons, aStar, tAndG, tOrG, tNotG, tAndM, tOrM, tNotM, andG, orG, Dn.andM, Dn.orM, ifG, ifM, boolOf, nmT, nilT, consT, tupT, setVG, fzV, olV, odV, parG, par3G', notD, negD, tupM, lstN, lenD, listI, cutN.listOf, wipeR, putBack, fzOf, intOf, iiG, iiB, iiC, List.map_cons, List.map_nil, List.cons_append, List.nil_append, List.append_nil, List.length_cons, List.length_nil, List.length_map, List.replicate_succ, List.replicate_zero, List.getElem?_cons_zero, List.getElem?_cons_succ, List.set_cons_zero, List.set_cons_succ, Option.bind_some, Option.bind_none, Option.map_some, Option.map_none, Bool.not_true, Bool.not_false, Bool.true_and, Bool.and_true, Bool.false_and, Bool.and_false, Bool.or_true, Bool.true_or, Bool.or_false, Bool.false_or, decide_true, decide_false, Nat.reduceSub, Nat.reduceAdd, Nat.reduceLeDiff, Nat.reduceEqDiff, Nat.zero_add, if_true, if_false, reduceIte, reduceCtorEq, Bool.false_eq_true]
    have hc := lc_typed (vs := [7]) (td := nmT 7) (tt := q_least_barring_1) (ge := e_least_barring_3) (ρ := [some (.fz (nD n)), some (.fz (fsD fs)), x2, some (.fz (nsD K)), some (.fz (nD x)), x5, x6, none, x8]) nD (fun k => !decide (k = x)) nD K fun k hk => ⟨_, rfl, by
      unfold q_least_barring_1
      simp only [init, retOf, seqG, setG, newG, iffG, rtG, drG, asgG, nxG, noG, liftP, liftT, nwM, tb, tbM, op1, op1M, op2, op2M, vG, rG, fG, cG, callG, aNil, aCons, aStar, tAndG, tOrG, tNotG, tAndM, tOrM, tNotM, andG, orG, Dn.andM, Dn.orM, ifG, ifM, boolOf, nmT, nilT, consT, tupT, setVG, fzV, olV, odV, parG, par3G', notD, negD, tupM, lstN, lenD, listI, cutN.listOf, wipeR, putBack, fzOf, intOf, iiG, iiB, iiC, List.map_cons, List.map_nil, List.cons_append, List.nil_append, List.append_nil, List.length_cons, List.length_nil, List.length_map, List.replicate_succ, List.replicate_zero, List.getElem?_cons_zero, List.getElem?_cons_succ, List.set_cons_zero, List.set_cons_succ, Option.bind_some, Option.bind_none, Option.map_some, Option.map_none, Bool.not_true, Bool.not_false, Bool.true_and, Bool.and_true, Bool.false_and, Bool.and_false, Bool.or_true, Bool.true_or, Bool.or_false, Bool.false_or, decide_true, decide_false, Nat.reduceSub, Nat.reduceAdd, Nat.reduceLeDiff, Nat.reduceEqDiff, Nat.zero_add, if_true, if_false, reduceIte, reduceCtorEq, Bool.false_eq_true, ne_n], fun _ => by
      unfold e_least_barring_3
      simp only [init, retOf, seqG, setG, newG, iffG, rtG, drG, asgG, nxG, noG, liftP, liftT, nwM, tb, tbM, op1, op1M, op2, op2M, vG, rG, fG, cG, callG, aNil, aCons, aStar, tAndG, tOrG, tNotG, tAndM, tOrM, tNotM, andG, orG, Dn.andM, Dn.orM, ifG, ifM, boolOf, nmT, nilT, consT, tupT, setVG, fzV, olV, odV, parG, par3G', notD, negD, tupM, lstN, lenD, listI, cutN.listOf, wipeR, putBack, fzOf, intOf, iiG, iiB, iiC, List.map_cons, List.map_nil, List.cons_append, List.nil_append, List.append_nil, List.length_cons, List.length_nil, List.length_map, List.replicate_succ, List.replicate_zero, List.getElem?_cons_zero, List.getElem?_cons_succ, List.set_cons_zero, List.set_cons_succ, Option.bind_some, Option.bind_none, Option.map_some, Option.map_none, Bool.not_true, Bool.not_false, Bool.true_and, Bool.and_true, Bool.false_and, Bool.and_false, Bool.or_true, Bool.true_or, Bool.or_false, Bool.false_or, decide_true, decide_false, Nat.reduceSub, Nat.reduceAdd, Nat.reduceLeDiff, Nat.reduceEqDiff, Nat.zero_add, if_true, if_false, reduceIte, reduceCtorEq, Bool.false_eq_true], rfl⟩
    rw [lcN_eq (ds := K.map nD) rfl (by rw [List.length_map]; omega)]
    simp only [wipeR, List.set_cons_zero, List.set_cons_succ]
    rw [hc]
    have f1 : (K.filter fun k => !decide (k = x)).Pairwise (· < ·) := k1.filter _
    have f2 : ∀ i ∈ K.filter (fun k => !decide (k = x)), i < fs.length := fun i hi => k2 i (List.mem_filter.mp hi).1
    generalize (K.filter fun k => !decide (k = x)) = F at f1 f2 ⊢
    have hFl := asc_len f1 f2
    have hd := fun (x6 x8 : Option Sl) => lc_all (vs := [7]) (td := nmT 7) (ge := e_least_barring_2) (ρ := [some (.fz (nD n)), some (.fz (fsD fs)), x2, some (.fz (nsD K)), some (.fz (nD x)), some (.fz (.list (F.map nD))), x6, none, x8]) nD (fun i => fD (fa_ fs i)) F fun i hi => ⟨_, rfl, by
      unfold e_least_barring_2
      simp only [init, retOf, seqG, setG, newG, iffG, rtG, drG, asgG, nxG, noG, liftP, liftT, nwM, tb, tbM, op1, op1M, op2, op2M, vG, rG, fG, cG, callG, aNil, aCons, aStar, tAndG, tOrG, tNotG, tAndM, tOrM, tNotM, andG, orG, Dn.andM, Dn.orM, ifG, ifM, boolOf, nmT, nilT, consT, tupT, setVG, fzV, olV, odV, parG, par3G', notD, negD, tupM, lstN, lenD, listI, cutN.listOf, wipeR, putBack, fzOf, intOf, iiG, iiB, iiC, List.map_cons, List.map_nil, List.cons_append, List.nil_append, List.append_nil, List.length_cons, List.length_nil, List.length_map, List.replicate_succ, List.replicate_zero, List.getElem?_cons_zero, List.getElem?_cons_succ, List.set_cons_zero, List.set_cons_succ, Option.bind_some, Option.bind_none, Option.map_some, Option.map_none, Bool.not_true, Bool.not_false, Bool.true_and, Bool.and_true, Bool.false_and, Bool.and_false, Bool.or_true, Bool.true_or, Bool.or_false, Bool.false_or, decide_true, decide_false, Nat.reduceSub, Nat.reduceAdd, Nat.reduceLeDiff, Nat.reduceEqDiff, Nat.zero_add, if_true, if_false, reduceIte, reduceCtorEq, Bool.false_eq_true]
      rw [ix_sel (f2 i hi)]
      rfl, rfl⟩
    have selD : PyData.list (F.map fun i => fD (fa_ fs i)) = fsD (sel fs F) := map_sel fs F
    obtain ⟨ds, I, l1, l2, l3⟩ := layered n hn (sel fs F) (sel_fits hf f2) (by unfold sel; rw [List.length_map]; omega)
    have ix1 : ixD (.tuple [.list ds, nsD I]) (.int 1) = some (nsD I) := rfl
    simp only [putBack, fzOf, Option.map_some, Option.bind_some, List.getElem?_cons_zero, List.getElem?_cons_succ, List.set_cons_zero, List.set_cons_succ]
    rw [lcN_eq (ds := F.map nD) rfl (by rw [List.length_map]; omega)]
    simp only [wipeR, List.set_cons_zero, List.set_cons_succ]
    rw [hd]
    simp only [init, retOf, seqG, setG, newG, iffG, rtG, drG, asgG, nxG, noG, liftP, liftT, nwM, tb, tbM, op1, op1M, op2, op2M, vG, rG, fG, cG, callG, aNil, aCons, aStar, tAndG, tOrG, tNotG, tAndM, tOrM, tNotM, andG, orG, Dn.andM, Dn.orM, ifG, ifM, boolOf, nmT, nilT, consT, tupT, setVG, fzV, olV, odV, parG, par3G', notD, negD, tupM, lstN, lenD, listI, cutN.listOf, wipeR, putBack, fzOf, intOf, iiG, iiB, iiC, List.map_cons, List.map_nil, List.cons_append, List.nil_append, List.append_nil, List.length_cons, List.length_nil, List.length_map, List.replicate_succ, List.replicate_zero, List.getElem?_cons_zero, List.getElem?_cons_succ, List.set_cons_zero, List.set_cons_succ, Option.bind_some, Option.bind_none, Option.map_some, Option.map_none, Bool.not_true, Bool.not_false, Bool.true_and, Bool.and_true, Bool.false_and, Bool.and_false, Bool.or_true, Bool.true_or, Bool.or_false, Bool.false_or, decide_true, decide_false, Nat.reduceSub, Nat.reduceAdd, Nat.reduceLeDiff, Nat.reduceEqDiff, Nat.zero_add, if_true, if_false, reduceIte, reduceCtorEq, Bool.false_eq_true, selD, l1, ix1, Nat.zero_le, nen_n]
    cases hI : I.isEmpty with
    | true =>
      simp only [init, retOf, seqG, setG, newG, iffG, rtG, drG, asgG, nxG, noG, liftP, liftT, nwM, tb, tbM, op1, op1M, op2, op2M, vG, rG, fG, cG, callG, aNil, aCons, aStar, tAndG, tOrG, tNotG, tAndM, tOrM, tNotM, andG, orG, Dn.andM, Dn.orM, ifG, ifM, boolOf, nmT, nilT, consT, tupT, setVG, fzV, olV, odV, parG, par3G', notD, negD, tupM, lstN, lenD, listI, cutN.listOf, wipeR, putBack, fzOf, intOf, iiG, iiB, iiC, List.map_cons, List.map_nil, List.cons_append, List.nil_append, List.append_nil, List.length_cons, List.length_nil, List.length_map, List.replicate_succ, List.replicate_zero, List.getElem?_cons_zero, List.getElem?_cons_succ, List.set_cons_zero, List.set_cons_succ, Option.bind_some, Option.bind_none, Option.map_some, Option.map_none, Bool.not_true, Bool.not_false, Bool.true_and, Bool.and_true, Bool.false_and, Bool.and_false, Bool.or_true, Bool.true_or, Bool.or_false, Bool.false_or, decide_true, decide_false, Nat.reduceSub, Nat.reduceAdd, Nat.reduceLeDiff, Nat.reduceEqDiff, Nat.zero_add, if_true, if_false, reduceIte, reduceCtorEq, Bool.false_eq_true]
      exact ⟨K, _, _, _, _, rfl, k1, k2, k3⟩
    | false =>
      have hne : I ≠ [] := fun e => by rw [e] at hI; cases hI
      obtain ⟨m1, m2, m3⟩ := l3 hne
      have m2' : ∀ i ∈ I, i < F.length := fun i hi => by have := m2 i hi; unfold sel at this; simpa using this
      have hIl := asc_len m1 m2'
      have he := fun (x7 : Option Sl) => lc_all (vs := [8]) (td := nmT 8) (ge := e_least_barring_1) (ρ := [some (.fz (nD n)), some (.fz (fsD fs)), x2, some (.fz (nsD K)), some (.fz (nD x)), some (.fz (nsD F)), some (.fz (nsD I)), x7, none]) nD (fun i => nD (F.getD i 0)) I fun i hi => ⟨_, rfl, by
        unfold e_least_barring_1
        simp only [init, retOf, seqG, setG, newG, iffG, rtG, drG, asgG, nxG, noG, liftP, liftT, nwM, tb, tbM, op1, op1M, op2, op2M, vG, rG, fG, cG, callG, aNil, aCons, aStar, tAndG, tOrG, tNotG, tAndM, tOrM, tNotM, andG, orG, Dn.andM, Dn.orM, ifG, ifM, boolOf, nmT, nilT, consT, tupT, setVG, fzV, olV, odV, parG, par3G', notD, negD, tupM, lstN, lenD, listI, cutN.listOf, wipeR, putBack, fzOf, intOf, iiG, iiB, iiC, List.map_cons, List.map_nil, List.cons_append, List.nil_append, List.append_nil, List.length_cons, List.length_nil, List.length_map, List.replicate_succ, List.replicate_zero, List.getElem?_cons_zero, List.getElem?_cons_succ, List.set_cons_zero, List.set_cons_succ, Option.bind_some, Option.bind_none, Option.map_some, Option.map_none, Bool.not_true, Bool.not_false, Bool.true_and, Bool.and_true, Bool.false_and, Bool.and_false, Bool.or_true, Bool.true_or, Bool.or_false, Bool.false_or, decide_true, decide_false, Nat.reduceSub, Nat.reduceAdd, Nat.reduceLeDiff, Nat.reduceEqDiff, Nat.zero_add, if_true, if_false, reduceIte, reduceCtorEq, Bool.false_eq_true]
        rw [ix_n F i (m2' i hi)]
        show _ = some (nD (F.getD i 0), _)
        rw [List.getD_eq_getElem?_getD, List.getElem?_eq_getElem (m2' i hi)]
        rfl, rfl⟩
      simp only [init, retOf, seqG, setG, newG, iffG, rtG, drG, asgG, nxG, noG, liftP, liftT, nwM, tb, tbM, op1, op1M, op2, op2M, vG, rG, fG, cG, callG, aNil, aCons, aStar, tAndG, tOrG, tNotG, tAndM, tOrM, tNotM, andG, orG, Dn.andM, Dn.orM, ifG, ifM, boolOf, nmT, nilT, consT, tupT, setVG, fzV, olV, odV, parG, par3G', notD, negD, tupM, lstN, lenD, listI, cutN.listOf, wipeR, putBack, fzOf, intOf, iiG, iiB, iiC, List.map_cons, List.map_nil, List.cons_append, List.nil_append, List.append_nil, List.length_cons, List.length_nil, List.length_map, List.replicate_succ, List.replicate_zero, List.getElem?_cons_zero, List.getElem?_cons_succ, List.set_cons_zero, List.set_cons_succ, Option.bind_some, Option.bind_none, Option.map_some, Option.map_none, Bool.not_true, Bool.not_false, Bool.true_and, Bool.and_true, Bool.false_and, Bool.and_false, Bool.or_true, Bool.true_or, Bool.or_false, Bool.false_or, decide_true, decide_false, Nat.reduceSub, Nat.reduceAdd, Nat.reduceLeDiff, Nat.reduceEqDiff, Nat.zero_add, if_true, if_false, reduceIte, reduceCtorEq, Bool.false_eq_true]
      rw [lcN_eq (ds := I.map nD) rfl (by rw [List.length_map]; omega)]
      simp only [wipeR, List.set_cons_zero, List.set_cons_succ]
      simp only [nsD] at he ⊢
      rw [he]
      simp only [init, retOf, seqG, setG, newG, iffG, rtG, drG, asgG, nxG, noG, liftP, liftT, nwM, tb, tbM, op1, op1M, op2, op2M, vG, rG, fG, cG, callG, aNil, aCons, aStar, tAndG, tOrG, tNotG, tAndM, tOrM, tNotM, andG, orG, Dn.andM, Dn.orM, ifG, ifM, boolOf, nmT, nilT, consT, tupT, setVG, fzV, olV, odV, parG, par3G', notD, negD, tupM, lstN, lenD, listI, cutN.listOf, wipeR, putBack, fzOf, intOf, iiG, iiB, iiC, List.map_cons, List.map_nil, List.cons_append, List.nil_append, List.append_nil, List.length_cons, List.length_nil, List.length_map, List.replicate_succ, List.replicate_zero, List.getElem?_cons_zero, List.getElem?_cons_succ, List.set_cons_zero, List.set_cons_succ, Option.bind_some, Option.bind_none, Option.map_some, Option.map_none, Bool.not_true, Bool.not_false, Bool.true_and, Bool.and_true, Bool.false_and, Bool.and_false, Bool.or_true, Bool.true_or, Bool.or_false, Bool.false_or, decide_true, decide_false, Nat.reduceSub, Nat.reduceAdd, Nat.reduceLeDiff, Nat.reduceEqDiff, Nat.zero_add, if_true, if_false, reduceIte, reduceCtorEq, Bool.false_eq_true]
      refine ⟨I.map fun i => F.getD i 0, _, _, _, _, by rw [List.map_map]; rfl, asc_map f1 m1 m2', fun k hk => ?_, ?_⟩
      · obtain ⟨i, hi, rfl⟩ := List.mem_map.mp hk
        have h := m2' i hi
        rw [List.getD_eq_getElem?_getD, List.getElem?_eq_getElem h]
        exact f2 _ (List.getElem_mem h)
      · rw [← sel_sel fs F I m2']; exact m3
  · simp only [hx, init, retOf, seqG, setG, newG, iffG, rtG, drG, asgG, nxG, noG, liftP, liftT, nwM, tb, tbM, op1, op1M, op2, op2M, vG, rG, fG, cG, callG, aNil, aCons, aStar, tAndG, tOrG, tNotG, tAndM, tOrM, tNotM, andG, orG, Dn.andM, Dn.orM, ifG, ifM, boolOf, nmT, nilT, consT, tupT, setVG, fzV, olV, odV, parG, par3G', notD, negD, tupM, lstN, lenD, listI, cutN.listOf, wipeR, putBack, fzOf, intOf, iiG, iiB, iiC, List.map_cons, List.map_nil, List.cons_append, List.nil_append, List.append_nil, List.length_cons, List.length_nil, List.length_map, List.replicate_succ, List.replicate_zero, List.getElem?_cons_zero, List.getElem?_cons_succ, List.set_cons_zero, List.set_cons_succ, Option.bind_some, Option.bind_none, Option.map_some, Option.map_none, Bool.not_true, Bool.not_false, Bool.true_and, Bool.and_true, Bool.false_and, Bool.and_false, Bool.or_true, Bool.true_or, Bool.or_false, Bool.false_or, decide_true, decide_false, Nat.reduceSub, Nat.reduceAdd, Nat.reduceLeDiff, Nat.reduceEqDiff, Nat.zero_add, if_true, if_false, reduceIte, reduceCtorEq, Bool.false_eq_true]
    exact ⟨K, _, _, _, _, rfl, k1, k2, k3⟩
def olD : Option (List Nat) → PyData
  | none => .none
  | some K => nsD K
theorem least_barring (n : Nat) (hn : n ≤ 60) (fs : List Fact) (hf : Fits n fs) (hl : fs.length ≤ 500) :
    (runG 9 g_least_barring [nD n, fsD fs] = some .none ∧ Con n fs) ∨ ∃ K, runG 9 g_least_barring [nD n, fsD fs] = some (nsD K) ∧ BarI n fs K := by
  obtain ⟨ds, I, l1, l2, l3⟩ := layered n hn fs hf (by omega)
  have ix1 : ixD (.tuple [.list ds, nsD I]) (.int 1) = some (nsD I) := rfl
  rw [run_eq]
  unfold g_least_barring
  simp only [init, retOf, seqG, setG, newG, iffG, rtG, drG, asgG, nxG, noG, liftP, liftT, nwM, tb, tbM, op1, op1M, op2, op2M, vG, rG, fG, cG, callG, aNil, aCons, aStar, tAndG, tOrG, tNotG, tAndM, tOrM, tNotM, andG, orG, Dn.andM, Dn.orM, ifG, ifM, boolOf, nmT, nilT, consT, tupT, setVG, fzV, olV, odV, parG, par3G', notD, negD, tupM, lstN, lenD, listI, cutN.listOf, wipeR, putBack, fzOf, intOf, iiG, iiB, iiC, List.map_cons, List.map_nil, List.cons_append, List.nil_append, List.append_nil, List.length_cons, List.length_nil, List.length_map, List.replicate_succ, List.replicate_zero, List.getElem?_cons_zero, List.getElem?_cons_succ, List.set_cons_zero, List.set_cons_succ, Option.bind_some, Option.bind_none, Option.map_some, Option.map_none, Bool.not_true, Bool.not_false, Bool.true_and, Bool.and_true, Bool.false_and, Bool.and_false, Bool.or_true, Bool.true_or, Bool.or_false, Bool.false_or, decide_true, decide_false, Nat.reduceSub, Nat.reduceAdd, Nat.reduceLeDiff, Nat.reduceEqDiff, Nat.zero_add, if_true, if_false, reduceIte, reduceCtorEq, Bool.false_eq_true, l1, ix1, Nat.zero_le, eqn_n]
  cases hI : I.isEmpty with
  | true =>
    simp only [init, retOf, seqG, setG, newG, iffG, rtG, drG, asgG, nxG, noG, liftP, liftT, nwM, tb, tbM, op1, op1M, op2, op2M, vG, rG, fG, cG, callG, aNil, aCons, aStar, tAndG, tOrG, tNotG, tAndM, tOrM, tNotM, andG, orG, Dn.andM, Dn.orM, ifG, ifM, boolOf, nmT, nilT, consT, tupT, setVG, fzV, olV, odV, parG, par3G', notD, negD, tupM, lstN, lenD, listI, cutN.listOf, wipeR, putBack, fzOf, intOf, iiG, iiB, iiC, List.map_cons, List.map_nil, List.cons_append, List.nil_append, List.append_nil, List.length_cons, List.length_nil, List.length_map, List.replicate_succ, List.replicate_zero, List.getElem?_cons_zero, List.getElem?_cons_succ, List.set_cons_zero, List.set_cons_succ, Option.bind_some, Option.bind_none, Option.map_some, Option.map_none, Bool.not_true, Bool.not_false, Bool.true_and, Bool.and_true, Bool.false_and, Bool.and_false, Bool.or_true, Bool.true_or, Bool.or_false, Bool.false_or, decide_true, decide_false, Nat.reduceSub, Nat.reduceAdd, Nat.reduceLeDiff, Nat.reduceEqDiff, Nat.zero_add, if_true, if_false, reduceIte, reduceCtorEq, Bool.false_eq_true]
    exact .inl ⟨trivial, l2 (by simpa using hI)⟩
  | false =>
    have hne : I ≠ [] := fun e => by rw [e] at hI; cases hI
    obtain ⟨m1, m2, m3⟩ := l3 hne
    obtain ⟨G, c1, c2, c3, c4⟩ := covering n hn fs hf hl I m1 m2 m3
    obtain ⟨ρ', e1, K, x4, x5, x6, x7, x8, rfl, hK⟩ := for_all (td := nmT 4) (b := b_least_barring_1) nD
      (fun j ρ => ∃ K x4 x5 x6 x7 x8, ρ = [some (.fz (nD n)), some (.fz (fsD fs)), some (.fz (nsD I)), some (.fz (nsD K)), x4, x5, x6, x7, x8] ∧ BarI n fs K) G
      [some (.fz (nD n)), some (.fz (fsD fs)), some (.fz (nsD I)), some (.fz (nsD G)), none, none, none, none, none] (by
        rintro j x ρ hj ⟨K, x4, x5, x6, x7, x8, rfl, hK⟩
        obtain ⟨K', y5, y6, y7, y8, h1, h2⟩ := keep_turn n hn fs hf hl K hK x (some (.fz (nsD I))) x5 x6 x7 x8
        exact ⟨_, _, rfl, h1, K', _, y5, y6, y7, y8, rfl, h2⟩) ⟨G, none, none, none, none, none, rfl, c2, fun i hi => m2 i (c3 i hi), c4⟩
    simp only [init, retOf, seqG, setG, newG, iffG, rtG, drG, asgG, nxG, noG, liftP, liftT, nwM, tb, tbM, op1, op1M, op2, op2M, vG, rG, fG, cG, callG, aNil, aCons, aStar, tAndG, tOrG, tNotG, tAndM, tOrM, tNotM, andG, orG, Dn.andM, Dn.orM, ifG, ifM, boolOf, nmT, nilT, consT, tupT, setVG, fzV, olV, odV, parG, par3G', notD, negD, tupM, lstN, lenD, listI, cutN.listOf, wipeR, putBack, fzOf, intOf, iiG, iiB, iiC, List.map_cons, List.map_nil, List.cons_append, List.nil_append, List.append_nil, List.length_cons, List.length_nil, List.length_map, List.replicate_succ, List.replicate_zero, List.getElem?_cons_zero, List.getElem?_cons_succ, List.set_cons_zero, List.set_cons_succ, Option.bind_some, Option.bind_none, Option.map_some, Option.map_none, Bool.not_true, Bool.not_false, Bool.true_and, Bool.and_true, Bool.false_and, Bool.and_false, Bool.or_true, Bool.true_or, Bool.or_false, Bool.false_or, decide_true, decide_false, Nat.reduceSub, Nat.reduceAdd, Nat.reduceLeDiff, Nat.reduceEqDiff, Nat.zero_add, if_true, if_false, reduceIte, reduceCtorEq, Bool.false_eq_true, c1]
    rw [forG_eq (ds := G.map nD) (ρ1 := [some (.fz (nD n)), some (.fz (fsD fs)), some (.fz (nsD I)), some (.fz (nsD G)), none, none, none, none, none]) (by simp only [init, retOf, seqG, setG, newG, iffG, rtG, drG, asgG, nxG, noG, liftP, liftT, nwM, tb, tbM, op1, op1M, op2, op2M, vG, rG, fG, cG, callG, aNil, aCons, aStar, tAndG, tOrG, tNotG, tAndM, tOrM, tNotM, andG, orG, Dn.andM, Dn.orM, ifG, ifM, boolOf, nmT, nilT, consT, tupT, setVG, fzV, olV, odV, parG, par3G', notD, negD, tupM, lstN, lenD, listI, cutN.listOf, wipeR, putBack, fzOf, intOf, iiG, iiB, iiC, List.map_cons, List.map_nil, List.cons_append, List.nil_append, List.append_nil, List.length_cons, List.length_nil, List.length_map, List.replicate_succ, List.replicate_zero, List.getElem?_cons_zero, List.getElem?_cons_succ, List.set_cons_zero, List.set_cons_succ, Option.bind_some, Option.bind_none, Option.map_some, Option.map_none, Bool.not_true, Bool.not_false, Bool.true_and, Bool.and_true, Bool.false_and, Bool.and_false, Bool.or_true, Bool.true_or, Bool.or_false, Bool.false_or, decide_true, decide_false, Nat.reduceSub, Nat.reduceAdd, Nat.reduceLeDiff, Nat.reduceEqDiff, Nat.zero_add, if_true, if_false, reduceIte, reduceCtorEq, Bool.false_eq_true, nw1, nsD, listD]), e1]
    simp only [init, retOf, seqG, setG, newG, iffG, rtG, drG, asgG, nxG, noG, liftP, liftT, nwM, tb, tbM, op1, op1M, op2, op2M, vG, rG, fG, cG, callG, aNil, aCons, aStar, tAndG, tOrG, tNotG, tAndM, tOrM, tNotM, andG, orG, Dn.andM, Dn.orM, ifG, ifM, boolOf, nmT, nilT, consT, tupT, setVG, fzV, olV, odV, parG, par3G', notD, negD, tupM, lstN, lenD, listI, cutN.listOf, wipeR, putBack, fzOf, intOf, iiG, iiB, iiC, List.map_cons, List.map_nil, List.cons_append, List.nil_append, List.append_nil, List.length_cons, List.length_nil, List.length_map, List.replicate_succ, List.replicate_zero, List.getElem?_cons_zero, List.getElem?_cons_succ, List.set_cons_zero, List.set_cons_succ, Option.bind_some, Option.bind_none, Option.map_some, Option.map_none, Bool.not_true, Bool.not_false, Bool.true_and, Bool.and_true, Bool.false_and, Bool.and_false, Bool.or_true, Bool.true_or, Bool.or_false, Bool.false_or, decide_true, decide_false, Nat.reduceSub, Nat.reduceAdd, Nat.reduceLeDiff, Nat.reduceEqDiff, Nat.zero_add, if_true, if_false, reduceIte, reduceCtorEq, Bool.false_eq_true]
    exact .inr ⟨K, rfl, hK⟩
theorem BarI.no {n : Nat} {fs : List Fact} (hf : Fits n fs) {K : List Nat} (h : BarI n fs K) : ¬ Con n fs := fun ⟨s, hs⟩ =>
  h.2.2.no (sel_fits hf h.2.1) ⟨s, fun f hfm => hs f (sel_mem h.2.1 hfm)⟩
theorem barring_set (n : Nat) (h1 : 1 ≤ n) (hn : n ≤ 60) (fs : List Fact) (hf : Fits n fs) (hl : fs.length ≤ 200) :
    (runG 2 g_barring_set [nD n, fsD fs] = some .none ∧ Con n fs) ∨ ∃ K, runG 2 g_barring_set [nD n, fsD fs] = some (nsD K) ∧ BarI n fs K := by
  have e : runG 2 g_barring_set [nD n, fsD fs] = runG 9 g_least_barring [nD n, fsD fs] := by
    rw [run_eq]
    unfold g_barring_set
    simp only [init, retOf, seqG, setG, newG, iffG, rtG, drG, asgG, nxG, noG, liftP, liftT, nwM, tb, tbM, op1, op1M, op2, op2M, vG, rG, fG, cG, callG, aNil, aCons, aStar, tAndG, tOrG, tNotG, tAndM, tOrM, tNotM, andG, orG, Dn.andM, Dn.orM, ifG, ifM, boolOf, nmT, nilT, consT, tupT, setVG, fzV, olV, odV, parG, par3G', notD, negD, tupM, lstN, lenD, listI, cutN.listOf, wipeR, putBack, fzOf, intOf, iiG, iiB, iiC, List.map_cons, List.map_nil, List.cons_append, List.nil_append, List.append_nil, List.length_cons, List.length_nil, List.length_map, List.replicate_succ, List.replicate_zero, List.getElem?_cons_zero, List.getElem?_cons_succ, List.set_cons_zero, List.set_cons_succ, Option.bind_some, Option.bind_none, Option.map_some, Option.map_none, Bool.not_true, Bool.not_false, Bool.true_and, Bool.and_true, Bool.false_and, Bool.and_false, Bool.or_true, Bool.true_or, Bool.or_false, Bool.false_or, decide_true, decide_false, Nat.reduceSub, Nat.reduceAdd, Nat.reduceLeDiff, Nat.reduceEqDiff, Nat.zero_add, if_true, if_false, reduceIte, reduceCtorEq, Bool.false_eq_true, need_both n fs hf h1 hn hl]
    rcases least_barring n hn fs hf (by omega) with ⟨h, _⟩ | ⟨K, h, _⟩ <;> simp only [h, init, retOf, seqG, setG, newG, iffG, rtG, drG, asgG, nxG, noG, liftP, liftT, nwM, tb, tbM, op1, op1M, op2, op2M, vG, rG, fG, cG, callG, aNil, aCons, aStar, tAndG, tOrG, tNotG, tAndM, tOrM, tNotM, andG, orG, Dn.andM, Dn.orM, ifG, ifM, boolOf, nmT, nilT, consT, tupT, setVG, fzV, olV, odV, parG, par3G', notD, negD, tupM, lstN, lenD, listI, cutN.listOf, wipeR, putBack, fzOf, intOf, iiG, iiB, iiC, List.map_cons, List.map_nil, List.cons_append, List.nil_append, List.append_nil, List.length_cons, List.length_nil, List.length_map, List.replicate_succ, List.replicate_zero, List.getElem?_cons_zero, List.getElem?_cons_succ, List.set_cons_zero, List.set_cons_succ, Option.bind_some, Option.bind_none, Option.map_some, Option.map_none, Bool.not_true, Bool.not_false, Bool.true_and, Bool.and_true, Bool.false_and, Bool.and_false, Bool.or_true, Bool.true_or, Bool.or_false, Bool.false_or, decide_true, decide_false, Nat.reduceSub, Nat.reduceAdd, Nat.reduceLeDiff, Nat.reduceEqDiff, Nat.zero_add, if_true, if_false, reduceIte, reduceCtorEq, Bool.false_eq_true]
  rw [e]
  exact least_barring n hn fs hf (by omega)
theorem is_barred (n : Nat) (hn : n ≤ 60) (fs : List Fact) (hf : Fits n fs) (hl : fs.length ≤ 500) : ∃ b : Bool, runG 2 g_is_barred [nD n, fsD fs] = some (.bool b) ∧ (b = false ↔ Con n fs) := by
  obtain ⟨ds, I, l1, l2, l3⟩ := layered n hn fs hf (by omega)
  have ix1 : ixD (.tuple [.list ds, nsD I]) (.int 1) = some (nsD I) := rfl
  refine ⟨!I.isEmpty, ?_, ?_⟩
  · rw [run_eq]
    unfold g_is_barred
    simp only [init, retOf, seqG, setG, newG, iffG, rtG, drG, asgG, nxG, noG, liftP, liftT, nwM, tb, tbM, op1, op1M, op2, op2M, vG, rG, fG, cG, callG, aNil, aCons, aStar, tAndG, tOrG, tNotG, tAndM, tOrM, tNotM, andG, orG, Dn.andM, Dn.orM, ifG, ifM, boolOf, nmT, nilT, consT, tupT, setVG, fzV, olV, odV, parG, par3G', notD, negD, tupM, lstN, lenD, listI, cutN.listOf, wipeR, putBack, fzOf, intOf, iiG, iiB, iiC, List.map_cons, List.map_nil, List.cons_append, List.nil_append, List.append_nil, List.length_cons, List.length_nil, List.length_map, List.replicate_succ, List.replicate_zero, List.getElem?_cons_zero, List.getElem?_cons_succ, List.set_cons_zero, List.set_cons_succ, Option.bind_some, Option.bind_none, Option.map_some, Option.map_none, Bool.not_true, Bool.not_false, Bool.true_and, Bool.and_true, Bool.false_and, Bool.and_false, Bool.or_true, Bool.true_or, Bool.or_false, Bool.false_or, decide_true, decide_false, Nat.reduceSub, Nat.reduceAdd, Nat.reduceLeDiff, Nat.reduceEqDiff, Nat.zero_add, if_true, if_false, reduceIte, reduceCtorEq, Bool.false_eq_true, l1, ix1, Nat.zero_le, nen_n]
  · constructor
    · intro h; exact l2 (by simpa using h)
    · intro h
      by_cases e : I = []
      · simp [e]
      · obtain ⟨m1, m2, m3⟩ := l3 e
        exact absurd h (BarI.no hf ⟨m1, m2, m3⟩)
/-- all orders that keep fs keep f -/
def Fol (n : Nat) (fs : List Fact) (f : Fact) : Prop := ∀ s, (∀ g ∈ fs, Sat n s g) → Sat n s f
theorem fact_follows (n : Nat) (hn : n ≤ 60) (fs : List Fact) (hf : Fits n fs) (hl : fs.length < 64) (f : Fact) (hff : f.length = n) : ∃ b : Bool, runG 4 g_fact_follows [nD n, fsD fs, fD f] = some (.bool b) ∧ (b = true ↔ Fol n fs f) := by
  obtain ⟨b, b1, b2⟩ := is_barred n hn fs hf (by omega)
  rw [run_eq]
  unfold g_fact_follows
  cases b with
  | true =>
    simp only [init, retOf, seqG, setG, newG, iffG, rtG, drG, asgG, nxG, noG, liftP, liftT, nwM, tb, tbM, op1, op1M, op2, op2M, vG, rG, fG, cG, callG, aNil, aCons, aStar, tAndG, tOrG, tNotG, tAndM, tOrM, tNotM, andG, orG, Dn.andM, Dn.orM, ifG, ifM, boolOf, nmT, nilT, consT, tupT, setVG, fzV, olV, odV, parG, par3G', notD, negD, tupM, lstN, lenD, listI, cutN.listOf, wipeR, putBack, fzOf, intOf, iiG, iiB, iiC, List.map_cons, List.map_nil, List.cons_append, List.nil_append, List.append_nil, List.length_cons, List.length_nil, List.length_map, List.replicate_succ, List.replicate_zero, List.getElem?_cons_zero, List.getElem?_cons_succ, List.set_cons_zero, List.set_cons_succ, Option.bind_some, Option.bind_none, Option.map_some, Option.map_none, Bool.not_true, Bool.not_false, Bool.true_and, Bool.and_true, Bool.false_and, Bool.and_false, Bool.or_true, Bool.true_or, Bool.or_false, Bool.false_or, decide_true, decide_false, Nat.reduceSub, Nat.reduceAdd, Nat.reduceLeDiff, Nat.reduceEqDiff, Nat.zero_add, if_true, if_false, reduceIte, reduceCtorEq, Bool.false_eq_true, b1]
    refine ⟨true, rfl, fun _ s hs => ?_, fun _ => rfl⟩
    exact absurd (b2.mpr ⟨s, hs⟩) (by simp)
  | false =>
    obtain ⟨s0, hs0⟩ := b2.mp rfl
    obtain ⟨front, c1, ⟨t, T, leg⟩, c2⟩ := front_without n fs hf hn hl (mask f .W)
    have mW := mask_of f .W (by omega)
    have mL := mask_of f .L (by omega)
    simp only [sD] at mW
    simp only [init, retOf, seqG, setG, newG, iffG, rtG, drG, asgG, nxG, noG, liftP, liftT, nwM, tb, tbM, op1, op1M, op2, op2M, vG, rG, fG, cG, callG, aNil, aCons, aStar, tAndG, tOrG, tNotG, tAndM, tOrM, tNotM, andG, orG, Dn.andM, Dn.orM, ifG, ifM, boolOf, nmT, nilT, consT, tupT, setVG, fzV, olV, odV, parG, par3G', notD, negD, tupM, lstN, lenD, listI, cutN.listOf, wipeR, putBack, fzOf, intOf, iiG, iiB, iiC, List.map_cons, List.map_nil, List.cons_append, List.nil_append, List.append_nil, List.length_cons, List.length_nil, List.length_map, List.replicate_succ, List.replicate_zero, List.getElem?_cons_zero, List.getElem?_cons_succ, List.set_cons_zero, List.set_cons_succ, Option.bind_some, Option.bind_none, Option.map_some, Option.map_none, Bool.not_true, Bool.not_false, Bool.true_and, Bool.and_true, Bool.false_and, Bool.and_false, Bool.or_true, Bool.true_or, Bool.or_false, Bool.false_or, decide_true, decide_false, Nat.reduceSub, Nat.reduceAdd, Nat.reduceLeDiff, Nat.reduceEqDiff, Nat.zero_add, if_true, if_false, reduceIte, reduceCtorEq, Bool.false_eq_true, b1, masks_of n fs hf hn hl, str_W, str_L, lit_L, mW, mL, c1]
    rw [and_nn]
    simp only [init, retOf, seqG, setG, newG, iffG, rtG, drG, asgG, nxG, noG, liftP, liftT, nwM, tb, tbM, op1, op1M, op2, op2M, vG, rG, fG, cG, callG, aNil, aCons, aStar, tAndG, tOrG, tNotG, tAndM, tOrM, tNotM, andG, orG, Dn.andM, Dn.orM, ifG, ifM, boolOf, nmT, nilT, consT, tupT, setVG, fzV, olV, odV, parG, par3G', notD, negD, tupM, lstN, lenD, listI, cutN.listOf, wipeR, putBack, fzOf, intOf, iiG, iiB, iiC, List.map_cons, List.map_nil, List.cons_append, List.nil_append, List.append_nil, List.length_cons, List.length_nil, List.length_map, List.replicate_succ, List.replicate_zero, List.getElem?_cons_zero, List.getElem?_cons_succ, List.set_cons_zero, List.set_cons_succ, Option.bind_some, Option.bind_none, Option.map_some, Option.map_none, Bool.not_true, Bool.not_false, Bool.true_and, Bool.and_true, Bool.false_and, Bool.and_false, Bool.or_true, Bool.true_or, Bool.or_false, Bool.false_or, decide_true, decide_false, Nat.reduceSub, Nat.reduceAdd, Nat.reduceLeDiff, Nat.reduceEqDiff, Nat.zero_add, if_true, if_false, reduceIte, reduceCtorEq, Bool.false_eq_true, int_0, eq_n]
    refine ⟨_, rfl, ?_⟩
    rw [decide_eq_true_eq, and_zero]
    have bitW : ∀ k, (mask f .W).testBit k = true ↔ k < n ∧ f.getD k .S = .W := fun k => by rw [mask_bit, hff]; simp
    have bitL : ∀ k, (mask f .L).testBit k = true ↔ k < n ∧ f.getD k .S = .L := fun k => by rw [mask_bit, hff]; simp
    constructor
    · intro h s hs q hq hL
      refine Classical.byContradiction fun no => ?_
      have no : ∀ w, w < n → f.getD w .S = .W → s q ≤ s w := fun w hw e => Nat.le_of_not_lt fun lt => no ⟨w, hw, e, lt⟩
      -- all that stand ahead of q, and q, stand in the front
      have all : ∀ m p, s p = m → p < n → (s p < s q ∨ p = q) → front.testBit p = true := by
        intro m
        induction m using Nat.strongRecOn with
        | ind m ih =>
          intro p e hp hpq
          refine c2 p hp ?_ ((can_iff hf).mpr fun g hg hgL => ?_)
          · cases z : (mask f .W).testBit p with
            | false => rfl
            | true =>
              obtain ⟨z1, z2⟩ := (bitW p).mp z
              rcases hpq with lt | rfl
              · have := no p z1 z2; omega
              · rw [hL] at z2; cases z2
          · obtain ⟨w, w1, w2, w3⟩ := hs g hg p hp hgL
            refine ⟨w, w1, w2, ih (s w) (by omega) w rfl w1 (.inl ?_)⟩
            rcases hpq with lt | rfl <;> omega
      exact h q ⟨all _ q rfl hq (.inr rfl), (bitL q).mpr ⟨hq, hL⟩⟩
    · rintro h k ⟨k1, k2⟩
      obtain ⟨k3, k4⟩ := (bitL k).mp k2
      -- the front first, then as s0 says
      let s : Nat → Nat := fun x => if front.testBit x = true then t x else T + s0 x
      have hs : ∀ g ∈ fs, Sat n s g := fun g hg q hq hL => by
        by_cases e : front.testBit q = true
        · obtain ⟨w, w1, w2, w3, w4⟩ := (leg q e).2.2.2 g hg hL
          exact ⟨w, w1, w2, by show (if _ then _ else _) < (if _ then _ else _); rw [if_pos w3, if_pos e]; exact w4⟩
        · obtain ⟨w, w1, w2, w3⟩ := hs0 g hg q hq hL
          refine ⟨w, w1, w2, ?_⟩
          show (if _ then _ else _) < (if _ then _ else _)
          rw [if_neg e]
          by_cases e2 : front.testBit w = true
          · rw [if_pos e2]; have := (leg w e2).1; omega
          · rw [if_neg e2]; omega
      obtain ⟨w, w1, w2, w3⟩ := h s hs k k3 k4
      have w3 : (if _ then _ else _) < (if _ then _ else _) := w3
      have hwf : ¬ front.testBit w = true := fun e => by
        have := (leg w e).2.2.1
        rw [(bitW w).mpr ⟨w1, w2⟩] at this; cases this
      rw [if_neg hwf, if_pos k1] at w3
      have := (leg k k1).1
      omega
theorem follows (n : Nat) (h1 : 1 ≤ n) (hn : n ≤ 60) (fs : List Fact) (hf : Fits n fs) (hl : fs.length < 64) (f : Fact) (hff : f.length = n) : ∃ b : Bool, runG 3 g_follows [nD n, fsD fs, fD f] = some (.bool b) ∧ (b = true ↔ Fol n fs f) := by
  obtain ⟨b, b1, b2⟩ := fact_follows n hn fs hf hl f hff
  refine ⟨b, ?_, b2⟩
  rw [run_eq]
  unfold g_follows
  simp only [init, retOf, seqG, setG, newG, iffG, rtG, drG, asgG, nxG, noG, liftP, liftT, nwM, tb, tbM, op1, op1M, op2, op2M, vG, rG, fG, cG, callG, aNil, aCons, aStar, tAndG, tOrG, tNotG, tAndM, tOrM, tNotM, andG, orG, Dn.andM, Dn.orM, ifG, ifM, boolOf, nmT, nilT, consT, tupT, setVG, fzV, olV, odV, parG, par3G', notD, negD, tupM, lstN, lenD, listI, cutN.listOf, wipeR, putBack, fzOf, intOf, iiG, iiB, iiC, List.map_cons, List.map_nil, List.cons_append, List.nil_append, List.append_nil, List.length_cons, List.length_nil, List.length_map, List.replicate_succ, List.replicate_zero, List.getElem?_cons_zero, List.getElem?_cons_succ, List.set_cons_zero, List.set_cons_succ, Option.bind_some, Option.bind_none, Option.map_some, Option.map_none, Bool.not_true, Bool.not_false, Bool.true_and, Bool.and_true, Bool.false_and, Bool.and_false, Bool.or_true, Bool.true_or, Bool.or_false, Bool.false_or, decide_true, decide_false, Nat.reduceSub, Nat.reduceAdd, Nat.reduceLeDiff, Nat.reduceEqDiff, Nat.zero_add, if_true, if_false, reduceIte, reduceCtorEq, Bool.false_eq_true, need_both n fs hf h1 hn (by omega), need_fact n f hff hn, b1]
end K85
end
section
set_option Elab.async false
set_option linter.all false
set_option maxRecDepth 100000
set_option maxHeartbeats 4000000
namespace K85
open PySem L2 Dn Rk
def hasS (fs : List Fact) (ns : List Nat) (s : Sg) (k : Nat) : Prop := ∃ i ∈ ns, (fa_ fs i).getD k .S = s
/-- what a paper is -/
def Paper (n : Nat) (fs : List Fact) (f : Fact) (ns : List Nat) : Prop := (∀ k, k < n → f.getD k .S ≠ .L) ∨
  (ns ≠ [] ∧ (∀ k, k < n → hasS fs ns .W k → ¬ hasS fs ns .L k → f.getD k .S = .W) ∧ ((∀ k, k < n → f.getD k .S = .L → hasS fs ns .L k) ∨ ((∃ k, k < n ∧ hasS fs ns .L k) ∧ ∀ k, k < n → hasS fs ns .W k → hasS fs ns .L k)))
theorem over_at {n : Nat} {fs : List Fact} {k : Nat} (hk : k < n) : (over n fs).getD k .S = fus1 (col fs k) := by
  unfold over
  rw [List.getD_eq_getElem?_getD, List.getElem?_map, List.getElem?_range hk]; rfl
theorem col_sel {fs : List Fact} {ns : List Nat} {s : Sg} {k : Nat} : s ∈ col (sel fs ns) k ↔ hasS fs ns s k := by
  rw [col_mem]
  constructor
  · rintro ⟨f, hf, e⟩
    obtain ⟨i, hi, rfl⟩ := sel_in.mp hf
    exact ⟨i, hi, e⟩
  · rintro ⟨i, hi, e⟩
    exact ⟨_, sel_in.mpr ⟨i, hi, rfl⟩, e⟩
theorem fus_L {ss : List Sg} : fus1 ss = .L ↔ .L ∈ ss := by
  unfold fus1
  by_cases h : Sg.L ∈ ss
  · simp [h]
  · by_cases h2 : Sg.W ∈ ss <;> simp [h, h2]
theorem fus_W {ss : List Sg} : fus1 ss = .W ↔ .W ∈ ss ∧ .L ∉ ss := by
  unfold fus1
  by_cases h : Sg.L ∈ ss
  · simp [h]
  · by_cases h2 : Sg.W ∈ ss <;> simp [h, h2]
theorem over_L {n : Nat} {fs : List Fact} {ns : List Nat} {k : Nat} : k ∈ rw_ (over n (sel fs ns)) .L ↔ k < n ∧ hasS fs ns .L k := by
  rw [rw_mem, over_len]
  constructor
  · rintro ⟨h1, h2⟩
    rw [over_at h1, fus_L, col_sel] at h2
    exact ⟨h1, h2⟩
  · rintro ⟨h1, h2⟩
    exact ⟨h1, by rw [over_at h1, fus_L, col_sel]; exact h2⟩
theorem over_W {n : Nat} {fs : List Fact} {ns : List Nat} {k : Nat} : k ∈ rw_ (over n (sel fs ns)) .W ↔ k < n ∧ hasS fs ns .W k ∧ ¬ hasS fs ns .L k := by
  rw [rw_mem, over_len]
  constructor
  · rintro ⟨h1, h2⟩
    rw [over_at h1, fus_W, col_sel, col_sel] at h2
    exact ⟨h1, h2⟩
  · rintro ⟨h1, h2⟩
    exact ⟨h1, by rw [over_at h1, fus_W, col_sel, col_sel]; exact h2⟩
theorem empty_iff {l : List Nat} : l.isEmpty = true ↔ ∀ k, k ∉ l := by
  cases l with
  | nil => simp
  | cons a l => simp only [List.isEmpty_cons, Bool.false_eq_true, false_iff]; exact fun h => h a (by simp)
theorem paperB_iff {n : Nat} {fs : List Fact} {f : Fact} (hf : f.length = n) {ns : List Nat} : paperB n fs f ns = true ↔ Paper n fs f ns := by
  unfold paperB Paper
  rw [Bool.or_eq_true, Bool.and_eq_true, Bool.and_eq_true, Bool.or_eq_true, Bool.and_eq_true, empty_iff, List.all_eq_true, List.all_eq_true, empty_iff]
  have a1 : (∀ k, k ∉ rw_ f .L) ↔ ∀ k, k < n → f.getD k .S ≠ .L := by
    constructor
    · intro h k hk e; exact h k (rw_mem.mpr ⟨by omega, e⟩)
    · intro h k hk; obtain ⟨q1, q2⟩ := rw_mem.mp hk; exact h k (by omega) q2
  have a2 : (!ns.isEmpty) = true ↔ ns ≠ [] := by cases ns <;> simp
  have a3 : (∀ x ∈ rw_ (over n (sel fs ns)) .W, decide (f.getD x .S = .W) = true) ↔ ∀ k, k < n → hasS fs ns .W k → ¬ hasS fs ns .L k → f.getD k .S = .W := by
    constructor
    · intro h k hk h1 h2
      have := h k (over_W.mpr ⟨hk, h1, h2⟩)
      simpa using this
    · intro h k hk
      obtain ⟨q1, q2, q3⟩ := over_W.mp hk
      simpa using h k q1 q2 q3
  have a4 : (∀ x ∈ rw_ f .L, decide (x ∈ rw_ (over n (sel fs ns)) .L) = true) ↔ ∀ k, k < n → f.getD k .S = .L → hasS fs ns .L k := by
    constructor
    · intro h k hk e
      have := h k (rw_mem.mpr ⟨by omega, e⟩)
      rw [decide_eq_true_eq, over_L] at this
      exact this.2
    · intro h k hk
      obtain ⟨q1, q2⟩ := rw_mem.mp hk
      rw [decide_eq_true_eq, over_L]
      exact ⟨by omega, h k (by omega) q2⟩
  have a5 : (!(rw_ (over n (sel fs ns)) .L).isEmpty) = true ↔ ∃ k, k < n ∧ hasS fs ns .L k := by
    rw [Bool.not_eq_true', Bool.eq_false_iff, ne_eq, empty_iff]
    constructor
    · intro h
      obtain ⟨k, hk⟩ := Classical.not_forall.mp h
      exact ⟨k, over_L.mp (Classical.not_not.mp hk)⟩
    · rintro ⟨k, h1, h2⟩ h
      exact h k (over_L.mpr ⟨h1, h2⟩)
  have a6 : (∀ k, k ∉ rw_ (over n (sel fs ns)) .W) ↔ ∀ k, k < n → hasS fs ns .W k → hasS fs ns .L k := by
    constructor
    · intro h k hk h1
      exact Classical.byContradiction fun z => h k (over_W.mpr ⟨hk, h1, z⟩)
    · intro h k hk
      obtain ⟨q1, q2, q3⟩ := over_W.mp hk
      exact q3 (h k q1 q2)
  rw [a1, a2, a3, a4, a5, a6, and_assoc]
/-- what bars is a paper of everything -/
theorem BarI.paper {n : Nat} {fs : List Fact} (hf : Fits n fs) {K : List Nat} (h : BarI n fs K) (f : Fact) : Paper n fs f K := by
  obtain ⟨h1, h2, h3⟩ := h
  obtain ⟨b1, b2, b3⟩ := h3.to
  refine .inr ⟨b1, fun k hk hw hl => absurd (b3 k hk hw) hl, .inr ⟨?_, b3⟩⟩
  obtain ⟨i, hi⟩ : ∃ i, i ∈ K := by cases K with | nil => exact absurd rfl b1 | cons i _ => exact ⟨i, by simp⟩
  have : ∃ k, k < n ∧ (fa_ fs i).getD k .S ≠ .S := Classical.byContradiction fun z => b2 i hi (fact_ext (hf _ (fa_mem (h2 i hi))) fun k hk => Classical.byContradiction fun q => z ⟨k, hk, q⟩)
  obtain ⟨k, hk, q⟩ := this
  cases e : (fa_ fs i).getD k .S with
  | W => exact ⟨k, hk, b3 k hk ⟨i, hi, e⟩⟩
  | L => exact ⟨k, hk, i, hi, e⟩
  | S => exact absurd e q
/-! ### the opposite of one L -/
abbrev opp (n r : Nat) (A : List Nat) : Fact := fw n [r] A
theorem opp_at {n r k : Nat} {A : List Nat} (hk : k < n) : (opp n r A).getD k .S = if k = r then .W else if k ∈ A then .L else .S := by
  rw [fw_at _ _ hk]; simp
theorem fa_app {fs : List Fact} {g : Fact} {i : Nat} (h : i < fs.length) : fa_ (fs ++ [g]) i = fa_ fs i := by
  unfold fa_
  rw [List.getD_eq_getElem?_getD, List.getD_eq_getElem?_getD, List.getElem?_append_left h]
theorem fa_last {fs : List Fact} {g : Fact} : fa_ (fs ++ [g]) fs.length = g := by
  unfold fa_
  rw [List.getD_eq_getElem?_getD, List.getElem?_append_right (Nat.le_refl _)]; simp
theorem fits_app {n : Nat} {fs : List Fact} {g : Fact} (hf : Fits n fs) (hg : g.length = n) : Fits n (fs ++ [g]) := fun f h => by
  rcases List.mem_append.mp h with h | h
  · exact hf f h
  · simp at h; subst h; exact hg
/-- with the opposite of one of its Ls no order keeps what f follows from -/
theorem Fol.barOpp {n : Nat} {fs : List Fact} {f : Fact} (h : Fol n fs f) {r : Nat} (hr : r < n) (hL : f.getD r .S = .L) (hff : f.length = n) : ¬ Con n (fs ++ [opp n r (rw_ f .W)]) := by
  rintro ⟨s, hs⟩
  obtain ⟨w, w1, w2, w3⟩ := h s (fun g hg => hs g (List.mem_append_left _ hg)) r hr hL
  have hne : w ≠ r := fun e => by rw [e, hL] at w2; cases w2
  have hin : w ∈ rw_ f .W := rw_mem.mpr ⟨by omega, w2⟩
  obtain ⟨v, v1, v2, v3⟩ := hs (opp n r (rw_ f .W)) (List.mem_append_right _ (List.mem_singleton.mpr rfl)) w w1 (by rw [opp_at w1, if_neg hne, if_pos hin])
  rw [opp_at v1] at v2
  by_cases e : v = r
  · subst e; omega
  · rw [if_neg e] at v2
    split at v2 <;> cases v2
/-- not following: one of the opposites goes -/
theorem Fol.goOpp {n : Nat} {fs : List Fact} {f : Fact} (hff : f.length = n) (h : ¬ Fol n fs f) : ∃ r, r < n ∧ f.getD r .S = .L ∧ Con n (fs ++ [opp n r (rw_ f .W)]) := by
  obtain ⟨s, hs⟩ := Classical.not_forall.mp h
  obtain ⟨hs, hno⟩ := Classical.not_imp.mp hs
  obtain ⟨r, hno⟩ := Classical.not_forall.mp hno
  obtain ⟨hr, hno⟩ := Classical.not_imp.mp hno
  obtain ⟨hL, hno⟩ := Classical.not_imp.mp hno
  have hge : ∀ w, w < n → f.getD w .S = .W → s r ≤ s w := fun w h1 h2 => Nat.le_of_not_lt fun lt => hno ⟨w, h1, h2, lt⟩
  -- r a little ahead of its own place
  let t : Nat → Nat := fun x => if x = r then 2 * s x else 2 * s x + 1
  have tx : ∀ x, t x = if x = r then 2 * s x else 2 * s x + 1 := fun _ => rfl
  refine ⟨r, hr, hL, t, fun g hg => ?_⟩
  rcases List.mem_append.mp hg with hg | hg
  · intro k hk e
    obtain ⟨w, w1, w2, w3⟩ := hs g hg k hk e
    refine ⟨w, w1, w2, ?_⟩
    rw [tx, tx]
    split <;> split <;> omega
  · simp at hg
    subst hg
    intro k hk e
    rw [opp_at hk] at e
    by_cases e1 : k = r
    · rw [if_pos e1] at e; cases e
    · rw [if_neg e1] at e
      by_cases e2 : k ∈ rw_ f .W
      · refine ⟨r, hr, by rw [opp_at hr, if_pos rfl], ?_⟩
        have := hge k hk (rw_mem.mp e2).2
        rw [tx, tx, if_pos rfl, if_neg e1]
        omega
      · rw [if_neg e2] at e; cases e
/-- what bars facts with an opposite holds the opposite -/
theorem BarI.last {n : Nat} {fs : List Fact} {g : Fact} (hf : Fits n fs) {K : List Nat} (c : Con n fs) (h : BarI n (fs ++ [g]) K) : fs.length ∈ K := Classical.byContradiction fun z => by
  have lt : ∀ i ∈ K, i < fs.length := fun i hi => by
    have := h.2.1 i hi
    rw [List.length_append, List.length_singleton] at this
    have : i ≠ fs.length := fun e => z (e ▸ hi)
    omega
  have e : sel (fs ++ [g]) K = sel fs K := List.map_congr_left fun i hi => fa_app (lt i hi)
  have b := h.2.2
  rw [e] at b
  exact BarI.no hf ⟨h.1, lt, b⟩ c
end K85
end
section
set_option Elab.async false
set_option linter.all false
set_option maxRecDepth 100000
set_option maxHeartbeats 4000000
namespace K85
open PySem L2 Dn Rk
/-- the dict of the known indices -/
def kv (F : List Nat) : List (Key × PyData) := F.map fun (i : Nat) => ((Sum.inl (i : Int) : Key), PyData.bool true)
theorem kv_any (F : List Nat) (i : Nat) : ((kv F).any fun p => decide (p.1 = Sum.inl (i : Int))) = decide (i ∈ F) := by
  unfold kv
  rw [List.any_map]
  induction F with
  | nil => rfl
  | cons a F ih =>
    rw [List.any_cons, ih]
    show (decide ((Sum.inl (a : Int) : Key) = Sum.inl (i : Int)) || _) = _
    by_cases e : a = i
    · subst e; simp
    · have e2 : ¬ i = a := fun z => e z.symm
      have e3 : ¬ (Sum.inl (a : Int) : Key) = Sum.inl (i : Int) := fun z => e (by have := Sum.inl.inj z; omega)
      simp [e2, e3]
theorem kv_put (F : List Nat) (i : Nat) : putD (kv F) (Sum.inl (i : Int)) (.bool true) = kv (if i ∈ F then F else F ++ [i]) := by
  unfold putD
  rw [kv_any]
  by_cases h : i ∈ F
  · simp only [h, decide_true, if_true]
    unfold kv
    rw [List.map_map]
    refine List.map_congr_left fun a _ => ?_
    show (if (Sum.inl (a : Int) : Key) = Sum.inl (i : Int) then ((Sum.inl (a : Int) : Key), PyData.bool true) else _) = _
    split <;> rfl
  · simp only [h, decide_false, if_false, Bool.false_eq_true]
    unfold kv
    rw [List.map_append]; rfl
theorem ikeys_kv : ∀ F : List Nat, ikeys (kv F) = some (F.map Int.ofNat)
  | [] => rfl
  | a :: F => by
    show (ikeys (kv F)).map _ = _
    rw [ikeys_kv F]; rfl
theorem known_turn (n : Nat) (fs : List Fact) (F : List Nat) (hF : F.length ≤ 1000) (x2 x3 x4 x6 : Option Sl) (i : Nat) :
    b_paper_in_1 [some (.fz (nD n)), some (.fz (fsD fs)), x2, x3, x4, some (.od (kv F)), x6, some (.fz (nD i))] =
      some (.nx, [some (.fz (nD n)), some (.fz (fsD fs)), x2, x3, x4, some (.od (kv (if i < fs.length ∧ i ∉ F then F ++ [i] else F))), x6, some (.fz (nD i))]) := by
  have lf : lenD (fsD fs) = some (nD fs.length) := by show some (PyData.int ((fs.map fD).length : Nat)) = _; rw [List.length_map]; rfl
  have lt : ltI (nD i) (nD fs.length) = some (.bool (decide (i < fs.length))) := by
    show some (PyData.bool (decide ((i : Int) < (fs.length : Int)))) = _
    congr 2
    exact decide_eq_decide.mpr ⟨fun h => by omega, fun h => by omega⟩
  have hk : (kv F).length ≤ 1000000 := by unfold kv; rw [List.length_map]; omega
  have ko : Dn.keyOf (nD i) = some (Sum.inl (i : Int)) := rfl
  unfold b_paper_in_1 putG
  simp only [iffG, liftT, tb, op2, op1, vG, cG, liftP, List.getElem?_cons_zero, List.getElem?_cons_succ, Option.bind_some, Option.map_some, lf, lt, boolOf, odAt, ko, hk, if_true, nxG, List.set_cons_zero, List.set_cons_succ, kv_put]
  by_cases h : i < fs.length
  · by_cases h2 : i ∈ F <;> simp [h, h2]
  · simp [h]
/-- the union of the barring sets, the opposites left out -/
def Known (n : Nat) (fs : List Fact) (f : Fact) (rs : List Nat) (F : List Nat) : Prop :=
  F.Nodup ∧ (∀ r ∈ rs, ∃ K, BarI n (fs ++ [opp n r (rw_ f .W)]) K ∧ ∀ i ∈ K, i < fs.length → i ∈ F) ∧
    ∀ x ∈ F, x < fs.length ∧ ∃ r, r < n ∧ f.getD r .S = .L ∧ ∃ K, BarI n (fs ++ [opp n r (rw_ f .W)]) K ∧ x ∈ K ∧ ∀ i ∈ K, i < fs.length → i ∈ F
theorem known_inner (n : Nat) (fs : List Fact) (hl : fs.length ≤ 500) (F : List Nat) (hF : F.Nodup) (hlt : ∀ i ∈ F, i < fs.length) (K : List Nat) (x2 x3 x4 x6 x7 : Option Sl) :
    ∃ F' y7, forL (nmT 7) b_paper_in_1 (K.map nD) [some (.fz (nD n)), some (.fz (fsD fs)), x2, x3, x4, some (.od (kv F)), x6, x7] = some (.nx, [some (.fz (nD n)), some (.fz (fsD fs)), x2, x3, x4, some (.od (kv F')), x6, y7]) ∧ F'.Nodup ∧ ∀ x, x ∈ F' ↔ x ∈ F ∨ (x ∈ K ∧ x < fs.length) := by
  have hlen : ∀ {F : List Nat}, F.Nodup → (∀ i ∈ F, i < fs.length) → F.length ≤ 1000 := fun {F} h1 h2 => by
    obtain ⟨G, _, g1, g2⟩ := sort_n F
    have := asc_len (asc_of g1 g2 h1) fun i hi => h2 i (g1.mem_iff.mp hi)
    have := g1.length_eq
    omega
  obtain ⟨ρ', e, F', y7, rfl, h1, h2⟩ := for_all (td := nmT 7) (b := b_paper_in_1) nD
    (fun j ρ => ∃ F' y7, ρ = [some (.fz (nD n)), some (.fz (fsD fs)), x2, x3, x4, some (.od (kv F')), x6, y7] ∧ F'.Nodup ∧ ∀ x, x ∈ F' ↔ x ∈ F ∨ (x ∈ K.take j ∧ x < fs.length)) K
    [some (.fz (nD n)), some (.fz (fsD fs)), x2, x3, x4, some (.od (kv F)), x6, x7] (by
      rintro j i ρ hj ⟨F', y7, rfl, h1, h2⟩
      have h3 : ∀ i ∈ F', i < fs.length := fun i hi => ((h2 i).mp hi).elim (hlt i) (·.2)
      refine ⟨_, _, rfl, known_turn n fs F' (hlen h1 h3) x2 x3 x4 x6 i, _, some (.fz (nD i)), rfl, ?_, fun x => ?_⟩
      · split
        · rename_i h
          rw [List.nodup_append]
          exact ⟨h1, by simp, fun a ha b hb => by simp at hb; subst hb; exact fun z => h.2 (z ▸ ha)⟩
        · exact h1
      · rw [List.take_add_one, hj]
        simp only [Option.toList_some, List.mem_append, List.mem_singleton]
        split
        · rename_i h
          rw [List.mem_append, List.mem_singleton, h2]
          constructor
          · rintro ((q | q) | rfl)
            · exact .inl q
            · exact .inr ⟨.inl q.1, q.2⟩
            · exact .inr ⟨.inr rfl, h.1⟩
          · rintro (q | ⟨q | rfl, q2⟩)
            · exact .inl (.inl q)
            · exact .inl (.inr ⟨q, q2⟩)
            · exact .inr rfl
        · rename_i h
          rw [h2]
          constructor
          · rintro (q | q)
            · exact .inl q
            · exact .inr ⟨.inl q.1, q.2⟩
          · rintro (q | ⟨q | rfl, q2⟩)
            · exact .inl q
            · exact .inr ⟨q, q2⟩
            · have : x ∈ F' := Classical.byContradiction fun z => h ⟨q2, z⟩
              exact (h2 x).mp this) ⟨F, x7, rfl, hF, fun x => by simp⟩
  rw [List.take_length] at h2
  exact ⟨F', y7, e, h1, h2⟩
theorem Known.paper {n : Nat} {fs : List Fact} {f : Fact} (hf : Fits n fs) (hff : f.length = n) (c : Con n fs) {F : List Nat} (h : Known n fs f (rw_ f .L) F) (hne : rw_ f .L ≠ []) {G : List Nat} (hG : ∀ i, i ∈ G ↔ i ∈ F) : Paper n fs f G := by
  obtain ⟨h1, h2, h3⟩ := h
  -- what a barring set with an opposite tells
  have tell : ∀ r, r < n → f.getD r .S = .L → ∀ K, BarI n (fs ++ [opp n r (rw_ f .W)]) K → (∀ i ∈ K, i < fs.length → i ∈ F) → hasS fs G .L r ∧ ∀ k, k < n → (∃ i ∈ K, i < fs.length ∧ (fa_ fs i).getD k .S = .W) → hasS fs G .L k ∨ f.getD k .S = .W := fun r hr hL K hK hin => by
    obtain ⟨k1, k2, k3⟩ := hK
    obtain ⟨b1, b2, b3⟩ := k3.to
    have hlast := BarI.last hf c ⟨k1, k2, k3⟩
    have split : ∀ i ∈ K, i < fs.length ∨ i = fs.length := fun i hi => by
      have := k2 i hi
      rw [List.length_append, List.length_singleton] at this
      omega
    constructor
    · obtain ⟨j, hj, e⟩ := b3 r hr ⟨fs.length, hlast, by rw [fa_last, opp_at hr, if_pos rfl]⟩
      rcases split j hj with lt | rfl
      · rw [fa_app lt] at e
        exact ⟨j, (hG j).mpr (hin j hj lt), e⟩
      · rw [fa_last, opp_at hr, if_pos rfl] at e; cases e
    · rintro k hk ⟨i, hi, lt, e⟩
      obtain ⟨j, hj, e2⟩ := b3 k hk ⟨i, hi, by rw [fa_app lt]; exact e⟩
      rcases split j hj with lt2 | rfl
      · rw [fa_app lt2] at e2
        exact .inl ⟨j, (hG j).mpr (hin j hj lt2), e2⟩
      · rw [fa_last, opp_at hk] at e2
        by_cases e3 : k = r
        · rw [if_pos e3] at e2; cases e2
        · rw [if_neg e3] at e2
          by_cases e4 : k ∈ rw_ f .W
          · exact .inr (rw_mem.mp e4).2
          · rw [if_neg e4] at e2; cases e2
  have all : ∀ k, k < n → f.getD k .S = .L → hasS fs G .L k := fun r hr hL => by
    obtain ⟨K, hK, hin⟩ := h2 r (rw_mem.mpr ⟨by omega, hL⟩)
    exact (tell r hr hL K hK hin).1
  refine .inr ⟨fun e => ?_, fun k hk ⟨i, hi, e⟩ hno => ?_, .inl all⟩
  · obtain ⟨r, hr⟩ : ∃ r, r ∈ rw_ f .L := by
      cases z : rw_ f .L with
      | nil => exact absurd z hne
      | cons r _ => exact ⟨r, by simp⟩
    obtain ⟨q1, q2⟩ := rw_mem.mp hr
    obtain ⟨i, hi, _⟩ := all r (by omega) q2
    rw [e] at hi; cases hi
  · obtain ⟨lt, r, hr, hL, K, hK, hxK, hin⟩ := h3 i ((hG i).mp hi)
    exact ((tell r hr hL K hK hin).2 k hk ⟨i, hxK, lt, e⟩).resolve_left hno
end K85
end
section
set_option Elab.async false
set_option linter.all false
set_option maxRecDepth 100000
set_option maxHeartbeats 4000000
namespace K85
open PySem L2 Dn Rk
theorem list_app (fs : List Fact) (g : Fact) : PyData.list (fs.map fD ++ [fD g]) = fsD (fs ++ [g]) := by unfold fsD; rw [List.map_append]; rfl
theorem paper_turn (n : Nat) (hn : n ≤ 60) (fs : List Fact) (hf : Fits n fs) (hl : fs.length < 60) (f : Fact) (hff : f.length = n) (hfol : Fol n fs f) (r : Nat) (hr : r < n) (hL : f.getD r .S = .L) (F : List Nat) (hF : F.Nodup) (hlt : ∀ i ∈ F, i < fs.length) (x3 x4 x7 : Option Sl) :
    ∃ F' y7, b_paper_in_2 [some (.fz (nD n)), some (.fz (fsD fs)), some (.fz (fD f)), x3, x4, some (.od (kv F)), some (.fz (nD r)), x7] = some (.nx, [some (.fz (nD n)), some (.fz (fsD fs)), some (.fz (fD f)), x3, x4, some (.od (kv F')), some (.fz (nD r)), y7]) ∧ F'.Nodup ∧
      ∃ K, BarI n (fs ++ [opp n r (rw_ f .W)]) K ∧ ∀ x, x ∈ F' ↔ x ∈ F ∨ (x ∈ K ∧ x < fs.length) := by
  have w := rules_with f .W (by omega)
  have o := opposite n r (rw_ f .W) hn
  have lb := least_barring n hn (fs ++ [opp n r (rw_ f .W)]) (fits_app hf (fw_len _ _ _)) (by simp; omega)
  obtain ⟨K, lb, hK⟩ := lb.resolve_left fun h => hfol.barOpp hr hL hff h.2
  obtain ⟨F', y7, e, e1, e2⟩ := known_inner n fs (by omega) F hF hlt K (some (.fz (fD f))) x3 x4 (some (.fz (nD r))) x7
  have hz : fs.length + 1 ≤ 1000000 := by omega
  refine ⟨F', y7, ?_, e1, K, hK, e2⟩
  unfold b_paper_in_2
  rw [forG_eq (ds := K.map nD) (ρ1 := [some (.fz (nD n)), some (.fz (fsD fs)), some (.fz (fD f)), x3, x4, some (.od (kv F)), some (.fz (nD r)), x7]), e]
  simp only [sD] at w
  simp only [init, retOf, seqG, setG, newG, iffG, rtG, drG, asgG, nxG, noG, liftP, liftT, nwM, tb, tbM, op1, op1M, op2, op2M, vG, rG, fG, cG, callG, aNil, aCons, aStar, tAndG, tOrG, tNotG, tAndM, tOrM, tNotM, andG, orG, Dn.andM, Dn.orM, ifG, ifM, boolOf, nmT, nilT, consT, tupT, setVG, fzV, olV, odV, parG, par3G', notD, negD, tupM, lstN, lenD, listI, cutN.listOf, wipeR, putBack, fzOf, intOf, iiG, iiB, iiC, List.map_cons, List.map_nil, List.cons_append, List.nil_append, List.append_nil, List.length_cons, List.length_nil, List.length_map, List.replicate_succ, List.replicate_zero, List.getElem?_cons_zero, List.getElem?_cons_succ, List.set_cons_zero, List.set_cons_succ, Option.bind_some, Option.bind_none, Option.map_some, Option.map_none, Bool.not_true, Bool.not_false, Bool.true_and, Bool.and_true, Bool.false_and, Bool.and_false, Bool.or_true, Bool.true_or, Bool.or_false, Bool.false_or, decide_true, decide_false, Nat.reduceSub, Nat.reduceAdd, Nat.reduceLeDiff, Nat.reduceEqDiff, Nat.zero_add, if_true, if_false, reduceIte, reduceCtorEq, Bool.false_eq_true, str_W, w, o]
  rw [show fsD fs = .list (fs.map fD) from rfl]
  simp only [init, retOf, seqG, setG, newG, iffG, rtG, drG, asgG, nxG, noG, liftP, liftT, nwM, tb, tbM, op1, op1M, op2, op2M, vG, rG, fG, cG, callG, aNil, aCons, aStar, tAndG, tOrG, tNotG, tAndM, tOrM, tNotM, andG, orG, Dn.andM, Dn.orM, ifG, ifM, boolOf, nmT, nilT, consT, tupT, setVG, fzV, olV, odV, parG, par3G', notD, negD, tupM, lstN, lenD, listI, cutN.listOf, wipeR, putBack, fzOf, intOf, iiG, iiB, iiC, List.map_cons, List.map_nil, List.cons_append, List.nil_append, List.append_nil, List.length_cons, List.length_nil, List.length_map, List.replicate_succ, List.replicate_zero, List.getElem?_cons_zero, List.getElem?_cons_succ, List.set_cons_zero, List.set_cons_succ, Option.bind_some, Option.bind_none, Option.map_some, Option.map_none, Bool.not_true, Bool.not_false, Bool.true_and, Bool.and_true, Bool.false_and, Bool.and_false, Bool.or_true, Bool.true_or, Bool.or_false, Bool.false_or, decide_true, decide_false, Nat.reduceSub, Nat.reduceAdd, Nat.reduceLeDiff, Nat.reduceEqDiff, Nat.zero_add, if_true, if_false, reduceIte, reduceCtorEq, Bool.false_eq_true, List.length_append, hz, list_app]
  rw [lb]
  simp only [init, retOf, seqG, setG, newG, iffG, rtG, drG, asgG, nxG, noG, liftP, liftT, nwM, tb, tbM, op1, op1M, op2, op2M, vG, rG, fG, cG, callG, aNil, aCons, aStar, tAndG, tOrG, tNotG, tAndM, tOrM, tNotM, andG, orG, Dn.andM, Dn.orM, ifG, ifM, boolOf, nmT, nilT, consT, tupT, setVG, fzV, olV, odV, parG, par3G', notD, negD, tupM, lstN, lenD, listI, cutN.listOf, wipeR, putBack, fzOf, intOf, iiG, iiB, iiC, List.map_cons, List.map_nil, List.cons_append, List.nil_append, List.append_nil, List.length_cons, List.length_nil, List.length_map, List.replicate_succ, List.replicate_zero, List.getElem?_cons_zero, List.getElem?_cons_succ, List.set_cons_zero, List.set_cons_succ, Option.bind_some, Option.bind_none, Option.map_some, Option.map_none, Bool.not_true, Bool.not_false, Bool.true_and, Bool.and_true, Bool.false_and, Bool.and_false, Bool.or_true, Bool.true_or, Bool.or_false, Bool.false_or, decide_true, decide_false, Nat.reduceSub, Nat.reduceAdd, Nat.reduceLeDiff, Nat.reduceEqDiff, Nat.zero_add, if_true, if_false, reduceIte, reduceCtorEq, Bool.false_eq_true, nsD]
theorem paper_in (n : Nat) (hn : n ≤ 60) (fs : List Fact) (hf : Fits n fs) (hl : fs.length < 60) (f : Fact) (hff : f.length = n) (hfol : Fol n fs f) :
    ∃ P, runG 8 g_paper_in [nD n, fsD fs, fD f] = some (nsD P) ∧ P.Pairwise (· < ·) ∧ (∀ i ∈ P, i < fs.length) ∧ Paper n fs f P ∧ (rw_ f .L = [] → P = []) := by
  have w := rules_with f .L (by omega)
  rw [run_eq]
  unfold g_paper_in
  by_cases hempty : rw_ f .L = []
  · have np : Paper n fs f [] := .inl fun k hk e => by
      have : k ∈ rw_ f .L := rw_mem.mpr ⟨by omega, e⟩
      rw [hempty] at this; cases this
    refine ⟨[], ?_, List.Pairwise.nil, fun i hi => (by cases hi), np, fun _ => rfl⟩
    rcases least_barring n hn fs hf (by omega) with ⟨h, _⟩ | ⟨K, h, _⟩
    · simp only [init, retOf, seqG, setG, newG, iffG, rtG, drG, asgG, nxG, noG, liftP, liftT, nwM, tb, tbM, op1, op1M, op2, op2M, vG, rG, fG, cG, callG, aNil, aCons, aStar, tAndG, tOrG, tNotG, tAndM, tOrM, tNotM, andG, orG, Dn.andM, Dn.orM, ifG, ifM, boolOf, nmT, nilT, consT, tupT, setVG, fzV, olV, odV, parG, par3G', notD, negD, tupM, lstN, lenD, listI, cutN.listOf, wipeR, putBack, fzOf, intOf, iiG, iiB, iiC, List.map_cons, List.map_nil, List.cons_append, List.nil_append, List.append_nil, List.length_cons, List.length_nil, List.length_map, List.replicate_succ, List.replicate_zero, List.getElem?_cons_zero, List.getElem?_cons_succ, List.set_cons_zero, List.set_cons_succ, Option.bind_some, Option.bind_none, Option.map_some, Option.map_none, Bool.not_true, Bool.not_false, Bool.true_and, Bool.and_true, Bool.false_and, Bool.and_false, Bool.or_true, Bool.true_or, Bool.or_false, Bool.false_or, decide_true, decide_false, Nat.reduceSub, Nat.reduceAdd, Nat.reduceLeDiff, Nat.reduceEqDiff, Nat.zero_add, if_true, if_false, reduceIte, reduceCtorEq, Bool.false_eq_true, str_L, lit_L, w, h, Nat.zero_le, eqn_n, hempty, List.isEmpty_nil]
      rfl
    · simp only [init, retOf, seqG, setG, newG, iffG, rtG, drG, asgG, nxG, noG, liftP, liftT, nwM, tb, tbM, op1, op1M, op2, op2M, vG, rG, fG, cG, callG, aNil, aCons, aStar, tAndG, tOrG, tNotG, tAndM, tOrM, tNotM, andG, orG, Dn.andM, Dn.orM, ifG, ifM, boolOf, nmT, nilT, consT, tupT, setVG, fzV, olV, odV, parG, par3G', notD, negD, tupM, lstN, lenD, listI, cutN.listOf, wipeR, putBack, fzOf, intOf, iiG, iiB, iiC, List.map_cons, List.map_nil, List.cons_append, List.nil_append, List.append_nil, List.length_cons, List.length_nil, List.length_map, List.replicate_succ, List.replicate_zero, List.getElem?_cons_zero, List.getElem?_cons_succ, List.set_cons_zero, List.set_cons_succ, Option.bind_some, Option.bind_none, Option.map_some, Option.map_none, Bool.not_true, Bool.not_false, Bool.true_and, Bool.and_true, Bool.false_and, Bool.and_false, Bool.or_true, Bool.true_or, Bool.or_false, Bool.false_or, decide_true, decide_false, Nat.reduceSub, Nat.reduceAdd, Nat.reduceLeDiff, Nat.reduceEqDiff, Nat.zero_add, if_true, if_false, reduceIte, reduceCtorEq, Bool.false_eq_true, str_L, lit_L, w, h, Nat.zero_le, eqn_n, hempty, List.isEmpty_nil]
      rfl
  · have hE : (rw_ f .L).isEmpty = false := by
      cases z : rw_ f .L with
      | nil => exact absurd z hempty
      | cons a b => rfl
    rcases least_barring n hn fs hf (by omega) with ⟨h, c⟩ | ⟨K, h, hK⟩
    · obtain ⟨ρ', e1, F, x4, x6, x7, rfl, hk1, hk2, hk3⟩ := for_all (td := nmT 6) (b := b_paper_in_2) nD
        (fun j ρ => ∃ F x4 x6 x7, ρ = [some (.fz (nD n)), some (.fz (fsD fs)), some (.fz (fD f)), some (.fz (nsD (rw_ f .L))), x4, some (.od (kv F)), x6, x7] ∧ Known n fs f ((rw_ f .L).take j) F) (rw_ f .L)
        [some (.fz (nD n)), some (.fz (fsD fs)), some (.fz (fD f)), some (.fz (nsD (rw_ f .L))), some (.fz .none), some (.od (kv [])), none, none] (by
          rintro j r ρ hj ⟨F, x4, x6, x7, rfl, k1, k2, k3⟩
          obtain ⟨q1, q2⟩ := rw_mem.mp (List.mem_of_getElem? hj)
          obtain ⟨F', y7, a1, a2, K, a3, a4⟩ := paper_turn n hn fs hf hl f hff hfol r (by omega) q2 F k1 (fun i hi => (k3 i hi).1) (some (.fz (nsD (rw_ f .L)))) x4 x7
          refine ⟨_, _, rfl, a1, F', _, _, y7, rfl, a2, fun r' hr' => ?_, fun x hx => ?_⟩
          · rw [List.take_add_one, hj] at hr'
            rcases List.mem_append.mp hr' with hr' | hr'
            · obtain ⟨K', b1, b2⟩ := k2 r' hr'
              exact ⟨K', b1, fun i hi lt => (a4 i).mpr (.inl (b2 i hi lt))⟩
            · simp at hr'; subst hr'
              exact ⟨K, a3, fun i hi lt => (a4 i).mpr (.inr ⟨hi, lt⟩)⟩
          · rcases (a4 x).mp hx with hx | ⟨hx, lt⟩
            · obtain ⟨c1, r', c2, c3, K', c4, c5, c6⟩ := k3 x hx
              exact ⟨c1, r', c2, c3, K', c4, c5, fun i hi lt => (a4 i).mpr (.inl (c6 i hi lt))⟩
            · exact ⟨lt, r, by omega, q2, K, a3, hx, fun i hi lt => (a4 i).mpr (.inr ⟨hi, lt⟩)⟩)
        ⟨[], _, none, none, rfl, List.nodup_nil, fun r hr => (by simp at hr), fun x hx => (by cases hx)⟩
      rw [List.take_length] at hk2
      obtain ⟨G, g0, g1, g2⟩ := sort_n F
      have gA := asc_of g1 g2 hk1
      have gl : ∀ i ∈ G, i < fs.length := fun i hi => (hk3 i (g1.mem_iff.mp hi)).1
      refine ⟨G, ?_, gA, gl, Known.paper hf hff c ⟨hk1, hk2, hk3⟩ hempty fun i => g1.mem_iff, fun e => absurd e hempty⟩
      have hlen : (F.map Int.ofNat).length < 64 := by
        rw [List.length_map, ← g1.length_eq]
        have := asc_len gA gl
        omega
      have hsort : (sortI (F.map Int.ofNat)).map PyData.int = G.map nD := by
        unfold sortDI nsD at g0
        have e : F.map nD = (F.map Int.ofNat).map PyData.int := by rw [List.map_map]; rfl
        simp only [e, intsOf_map, Option.map_some] at g0
        exact Option.some.inj g0
      simp only [init, retOf, seqG, setG, newG, iffG, rtG, drG, asgG, nxG, noG, liftP, liftT, nwM, tb, tbM, op1, op1M, op2, op2M, vG, rG, fG, cG, callG, aNil, aCons, aStar, tAndG, tOrG, tNotG, tAndM, tOrM, tNotM, andG, orG, Dn.andM, Dn.orM, ifG, ifM, boolOf, nmT, nilT, consT, tupT, setVG, fzV, olV, odV, parG, par3G', notD, negD, tupM, lstN, lenD, listI, cutN.listOf, wipeR, putBack, fzOf, intOf, iiG, iiB, iiC, List.map_cons, List.map_nil, List.cons_append, List.nil_append, List.append_nil, List.length_cons, List.length_nil, List.length_map, List.replicate_succ, List.replicate_zero, List.getElem?_cons_zero, List.getElem?_cons_succ, List.set_cons_zero, List.set_cons_succ, Option.bind_some, Option.bind_none, Option.map_some, Option.map_none, Bool.not_true, Bool.not_false, Bool.true_and, Bool.and_true, Bool.false_and, Bool.and_false, Bool.or_true, Bool.true_or, Bool.or_false, Bool.false_or, decide_true, decide_false, Nat.reduceSub, Nat.reduceAdd, Nat.reduceLeDiff, Nat.reduceEqDiff, Nat.zero_add, if_true, if_false, reduceIte, reduceCtorEq, Bool.false_eq_true, str_L, lit_L, w, h, Nat.zero_le, eqn_n, hE, isnN, nonD]
      rw [forG_eq (ds := (rw_ f .L).map nD) (ρ1 := [some (.fz (nD n)), some (.fz (fsD fs)), some (.fz (fD f)), some (.fz (nsD (rw_ f .L))), some (.fz .none), some (.od []), none, none]) (by simp only [init, retOf, seqG, setG, newG, iffG, rtG, drG, asgG, nxG, noG, liftP, liftT, nwM, tb, tbM, op1, op1M, op2, op2M, vG, rG, fG, cG, callG, aNil, aCons, aStar, tAndG, tOrG, tNotG, tAndM, tOrM, tNotM, andG, orG, Dn.andM, Dn.orM, ifG, ifM, boolOf, nmT, nilT, consT, tupT, setVG, fzV, olV, odV, parG, par3G', notD, negD, tupM, lstN, lenD, listI, cutN.listOf, wipeR, putBack, fzOf, intOf, iiG, iiB, iiC, List.map_cons, List.map_nil, List.cons_append, List.nil_append, List.append_nil, List.length_cons, List.length_nil, List.length_map, List.replicate_succ, List.replicate_zero, List.getElem?_cons_zero, List.getElem?_cons_succ, List.set_cons_zero, List.set_cons_succ, Option.bind_some, Option.bind_none, Option.map_some, Option.map_none, Bool.not_true, Bool.not_false, Bool.true_and, Bool.and_true, Bool.false_and, Bool.and_false, Bool.or_true, Bool.true_or, Bool.or_false, Bool.false_or, decide_true, decide_false, Nat.reduceSub, Nat.reduceAdd, Nat.reduceLeDiff, Nat.reduceEqDiff, Nat.zero_add, if_true, if_false, reduceIte, reduceCtorEq, Bool.false_eq_true, nsD])]
      rw [show ([] : List (Key × PyData)) = kv [] from rfl, e1]
      unfold sortDN
      simp only [init, retOf, seqG, setG, newG, iffG, rtG, drG, asgG, nxG, noG, liftP, liftT, nwM, tb, tbM, op1, op1M, op2, op2M, vG, rG, fG, cG, callG, aNil, aCons, aStar, tAndG, tOrG, tNotG, tAndM, tOrM, tNotM, andG, orG, Dn.andM, Dn.orM, ifG, ifM, boolOf, nmT, nilT, consT, tupT, setVG, fzV, olV, odV, parG, par3G', notD, negD, tupM, lstN, lenD, listI, cutN.listOf, wipeR, putBack, fzOf, intOf, iiG, iiB, iiC, List.map_cons, List.map_nil, List.cons_append, List.nil_append, List.append_nil, List.length_cons, List.length_nil, List.length_map, List.replicate_succ, List.replicate_zero, List.getElem?_cons_zero, List.getElem?_cons_succ, List.set_cons_zero, List.set_cons_succ, Option.bind_some, Option.bind_none, Option.map_some, Option.map_none, Bool.not_true, Bool.not_false, Bool.true_and, Bool.and_true, Bool.false_and, Bool.and_false, Bool.or_true, Bool.true_or, Bool.or_false, Bool.false_or, decide_true, decide_false, Nat.reduceSub, Nat.reduceAdd, Nat.reduceLeDiff, Nat.reduceEqDiff, Nat.zero_add, if_true, if_false, reduceIte, reduceCtorEq, Bool.false_eq_true, odAt, ikeys_kv]
      rw [if_pos (by rw [List.length_map] at hlen; exact hlen)]
      simp only [init, retOf, seqG, setG, newG, iffG, rtG, drG, asgG, nxG, noG, liftP, liftT, nwM, tb, tbM, op1, op1M, op2, op2M, vG, rG, fG, cG, callG, aNil, aCons, aStar, tAndG, tOrG, tNotG, tAndM, tOrM, tNotM, andG, orG, Dn.andM, Dn.orM, ifG, ifM, boolOf, nmT, nilT, consT, tupT, setVG, fzV, olV, odV, parG, par3G', notD, negD, tupM, lstN, lenD, listI, cutN.listOf, wipeR, putBack, fzOf, intOf, iiG, iiB, iiC, List.map_cons, List.map_nil, List.cons_append, List.nil_append, List.append_nil, List.length_cons, List.length_nil, List.length_map, List.replicate_succ, List.replicate_zero, List.getElem?_cons_zero, List.getElem?_cons_succ, List.set_cons_zero, List.set_cons_succ, Option.bind_some, Option.bind_none, Option.map_some, Option.map_none, Bool.not_true, Bool.not_false, Bool.true_and, Bool.and_true, Bool.false_and, Bool.and_false, Bool.or_true, Bool.true_or, Bool.or_false, Bool.false_or, decide_true, decide_false, Nat.reduceSub, Nat.reduceAdd, Nat.reduceLeDiff, Nat.reduceEqDiff, Nat.zero_add, if_true, if_false, reduceIte, reduceCtorEq, Bool.false_eq_true, hsort]
      rfl
    · refine ⟨K, ?_, hK.1, hK.2.1, hK.paper hf f, fun e => absurd e hempty⟩
      have hn1 : isnN (nsD K) .none = some (.bool true) := rfl
      simp only [init, retOf, seqG, setG, newG, iffG, rtG, drG, asgG, nxG, noG, liftP, liftT, nwM, tb, tbM, op1, op1M, op2, op2M, vG, rG, fG, cG, callG, aNil, aCons, aStar, tAndG, tOrG, tNotG, tAndM, tOrM, tNotM, andG, orG, Dn.andM, Dn.orM, ifG, ifM, boolOf, nmT, nilT, consT, tupT, setVG, fzV, olV, odV, parG, par3G', notD, negD, tupM, lstN, lenD, listI, cutN.listOf, wipeR, putBack, fzOf, intOf, iiG, iiB, iiC, List.map_cons, List.map_nil, List.cons_append, List.nil_append, List.append_nil, List.length_cons, List.length_nil, List.length_map, List.replicate_succ, List.replicate_zero, List.getElem?_cons_zero, List.getElem?_cons_succ, List.set_cons_zero, List.set_cons_succ, Option.bind_some, Option.bind_none, Option.map_some, Option.map_none, Bool.not_true, Bool.not_false, Bool.true_and, Bool.and_true, Bool.false_and, Bool.and_false, Bool.or_true, Bool.true_or, Bool.or_false, Bool.false_or, decide_true, decide_false, Nat.reduceSub, Nat.reduceAdd, Nat.reduceLeDiff, Nat.reduceEqDiff, Nat.zero_add, if_true, if_false, reduceIte, reduceCtorEq, Bool.false_eq_true, str_L, lit_L, w, h, Nat.zero_le, eqn_n, hE, hn1]
theorem paper_for (n : Nat) (h1 : 1 ≤ n) (hn : n ≤ 60) (fs : List Fact) (hf : Fits n fs) (hl : fs.length < 60) (f : Fact) (hff : f.length = n) :
    (runG 3 g_paper_for [nD n, fsD fs, fD f] = some .none ∧ ¬ Fol n fs f) ∨
    (Fol n fs f ∧ ∃ P, runG 3 g_paper_for [nD n, fsD fs, fD f] = some (nsD P) ∧ P.Pairwise (· < ·) ∧ (∀ i ∈ P, i < fs.length) ∧ Paper n fs f P ∧ (rw_ f .L = [] → P = [])) := by
  obtain ⟨b, b1, b2⟩ := fact_follows n hn fs hf (by omega) f hff
  rw [run_eq]
  unfold g_paper_for
  cases b with
  | false =>
    simp only [init, retOf, seqG, setG, newG, iffG, rtG, drG, asgG, nxG, noG, liftP, liftT, nwM, tb, tbM, op1, op1M, op2, op2M, vG, rG, fG, cG, callG, aNil, aCons, aStar, tAndG, tOrG, tNotG, tAndM, tOrM, tNotM, andG, orG, Dn.andM, Dn.orM, ifG, ifM, boolOf, nmT, nilT, consT, tupT, setVG, fzV, olV, odV, parG, par3G', notD, negD, tupM, lstN, lenD, listI, cutN.listOf, wipeR, putBack, fzOf, intOf, iiG, iiB, iiC, List.map_cons, List.map_nil, List.cons_append, List.nil_append, List.append_nil, List.length_cons, List.length_nil, List.length_map, List.replicate_succ, List.replicate_zero, List.getElem?_cons_zero, List.getElem?_cons_succ, List.set_cons_zero, List.set_cons_succ, Option.bind_some, Option.bind_none, Option.map_some, Option.map_none, Bool.not_true, Bool.not_false, Bool.true_and, Bool.and_true, Bool.false_and, Bool.and_false, Bool.or_true, Bool.true_or, Bool.or_false, Bool.false_or, decide_true, decide_false, Nat.reduceSub, Nat.reduceAdd, Nat.reduceLeDiff, Nat.reduceEqDiff, Nat.zero_add, if_true, if_false, reduceIte, reduceCtorEq, Bool.false_eq_true, need_both n fs hf h1 hn (by omega), need_fact n f hff hn, b1]
    exact .inl ⟨trivial, fun h => by have := b2.mpr h; cases this⟩
  | true =>
    have hfol := b2.mp rfl
    obtain ⟨P, p1, p2⟩ := paper_in n hn fs hf hl f hff hfol
    simp only [init, retOf, seqG, setG, newG, iffG, rtG, drG, asgG, nxG, noG, liftP, liftT, nwM, tb, tbM, op1, op1M, op2, op2M, vG, rG, fG, cG, callG, aNil, aCons, aStar, tAndG, tOrG, tNotG, tAndM, tOrM, tNotM, andG, orG, Dn.andM, Dn.orM, ifG, ifM, boolOf, nmT, nilT, consT, tupT, setVG, fzV, olV, odV, parG, par3G', notD, negD, tupM, lstN, lenD, listI, cutN.listOf, wipeR, putBack, fzOf, intOf, iiG, iiB, iiC, List.map_cons, List.map_nil, List.cons_append, List.nil_append, List.append_nil, List.length_cons, List.length_nil, List.length_map, List.replicate_succ, List.replicate_zero, List.getElem?_cons_zero, List.getElem?_cons_succ, List.set_cons_zero, List.set_cons_succ, Option.bind_some, Option.bind_none, Option.map_some, Option.map_none, Bool.not_true, Bool.not_false, Bool.true_and, Bool.and_true, Bool.false_and, Bool.and_false, Bool.or_true, Bool.true_or, Bool.or_false, Bool.false_or, decide_true, decide_false, Nat.reduceSub, Nat.reduceAdd, Nat.reduceLeDiff, Nat.reduceEqDiff, Nat.zero_add, if_true, if_false, reduceIte, reduceCtorEq, Bool.false_eq_true, need_both n fs hf h1 hn (by omega), need_fact n f hff hn, b1, p1]
    exact .inr ⟨hfol, P, rfl, p2⟩
end K85
end
section
set_option Elab.async false
set_option linter.all false
set_option maxRecDepth 100000
set_option maxHeartbeats 4000000
namespace K85
open PySem L2 Dn Rk
theorem cnt_add {n front r : Nat} (hr : r < n) (h : front.testBit r = false) : cnt n (front ||| 2 ^ r) = cnt n front + 1 := by
  unfold cnt
  have : ∀ m, ((List.range m).filter fun k => (front ||| 2 ^ r).testBit k).length = ((List.range m).filter fun k => front.testBit k).length + if r < m then 1 else 0 := by
    intro m
    induction m with
    | zero => simp
    | succ m ih =>
      rw [List.range_succ, List.filter_append, List.filter_append, List.length_append, List.length_append, ih]
      by_cases e : m = r
      · subst e
        simp [or_bit, h]
      · have e2 : ¬ r = m := fun z => e z.symm
        have e3 : (r < m + 1) ↔ r < m := by omega
        simp only [List.filter_cons, List.filter_nil, or_bit, decide_eq_false e2, Bool.or_false, e3]
        split <;> split <;> simp <;> omega
  rw [this n, if_pos hr]
theorem cnt_full {n front : Nat} (h : cnt n front < n) : ∃ k, k < n ∧ front.testBit k = false := Classical.byContradiction fun z => by
  have : (List.range n).filter (fun k => front.testBit k) = List.range n := by
    rw [List.filter_eq_self]
    intro k hk
    cases q : front.testBit k with
    | true => rfl
    | false => exact absurd ⟨k, by simpa using hk, q⟩ z
  unfold cnt at h
  rw [this, List.length_range] at h
  omega
theorem order_turn (n : Nat) (hn : n ≤ 60) (fs : List Fact) (hf : Fits n fs) (hl : fs.length < 64) (c : Con n fs) (front : Nat) (hc : cnt n front < n) (acc : List PyData) (ha : acc.length ≤ 1000) (x2 x6 : Option Sl) :
    ∃ r, r < n ∧ front.testBit r = false ∧ b_least_order_1 [some (.fz (nD n)), some (.fz (fsD fs)), x2, some (.fz (msD n fs)), some (.fz (nD front)), some (.ol acc), x6] =
      some (.nx, [some (.fz (nD n)), some (.fz (fsD fs)), x2, some (.fz (msD n fs)), some (.fz (nD (front ||| 2 ^ r))), some (.ol (acc ++ [nD r])), some (.fz (nD r))]) := by
  obtain ⟨s, hs⟩ := c
  obtain ⟨k, ⟨k1, k2⟩, least⟩ := exists_least (P := fun k => k < n ∧ front.testBit k = false) s (cnt_full hc)
  have hk : k ∈ pl n fs front := pl_mem.mpr ⟨k1, k2, (can_iff hf).mpr fun f hfm hL => by
    obtain ⟨w, w1, w2, w3⟩ := hs f hfm k k1 hL
    refine ⟨w, w1, w2, ?_⟩
    cases q : front.testBit w with
    | true => rfl
    | false => have := least w ⟨w1, q⟩; omega⟩
  obtain ⟨r, tl, e⟩ : ∃ r tl, pl n fs front = r :: tl := by
    cases z : pl n fs front with
    | nil => rw [z] at hk; cases hk
    | cons r tl => exact ⟨r, tl, rfl⟩
  obtain ⟨r1, r2, _⟩ := pl_mem.mp (show r ∈ pl n fs front by rw [e]; simp)
  have e0 : ixD (nsD (r :: tl)) (.int 0) = some (nD r) := ix_n (r :: tl) 0 (by simp)
  have h1 : acc.length ≤ 1000000 := by omega
  refine ⟨r, r1, r2, ?_⟩
  unfold b_least_order_1 appG
  simp only [init, retOf, seqG, setG, newG, iffG, rtG, drG, asgG, nxG, noG, liftP, liftT, nwM, tb, tbM, op1, op1M, op2, op2M, vG, rG, fG, cG, callG, aNil, aCons, aStar, tAndG, tOrG, tNotG, tAndM, tOrM, tNotM, andG, orG, Dn.andM, Dn.orM, ifG, ifM, boolOf, nmT, nilT, consT, tupT, setVG, fzV, olV, odV, parG, par3G', notD, negD, tupM, lstN, lenD, listI, cutN.listOf, wipeR, putBack, fzOf, intOf, iiG, iiB, iiC, List.map_cons, List.map_nil, List.cons_append, List.nil_append, List.append_nil, List.length_cons, List.length_nil, List.length_map, List.replicate_succ, List.replicate_zero, List.getElem?_cons_zero, List.getElem?_cons_succ, List.set_cons_zero, List.set_cons_succ, Option.bind_some, Option.bind_none, Option.map_some, Option.map_none, Bool.not_true, Bool.not_false, Bool.true_and, Bool.and_true, Bool.false_and, Bool.and_false, Bool.or_true, Bool.true_or, Bool.or_false, Bool.false_or, decide_true, decide_false, Nat.reduceSub, Nat.reduceAdd, Nat.reduceLeDiff, Nat.reduceEqDiff, Nat.zero_add, if_true, if_false, reduceIte, reduceCtorEq, Bool.false_eq_true, placeable n fs hn hl front, e, e0, olAt, olSet, h1, shl_1 r (by omega)]
  rw [or_nn]
  simp only [init, retOf, seqG, setG, newG, iffG, rtG, drG, asgG, nxG, noG, liftP, liftT, nwM, tb, tbM, op1, op1M, op2, op2M, vG, rG, fG, cG, callG, aNil, aCons, aStar, tAndG, tOrG, tNotG, tAndM, tOrM, tNotM, andG, orG, Dn.andM, Dn.orM, ifG, ifM, boolOf, nmT, nilT, consT, tupT, setVG, fzV, olV, odV, parG, par3G', notD, negD, tupM, lstN, lenD, listI, cutN.listOf, wipeR, putBack, fzOf, intOf, iiG, iiB, iiC, List.map_cons, List.map_nil, List.cons_append, List.nil_append, List.append_nil, List.length_cons, List.length_nil, List.length_map, List.replicate_succ, List.replicate_zero, List.getElem?_cons_zero, List.getElem?_cons_succ, List.set_cons_zero, List.set_cons_succ, Option.bind_some, Option.bind_none, Option.map_some, Option.map_none, Bool.not_true, Bool.not_false, Bool.true_and, Bool.and_true, Bool.false_and, Bool.and_false, Bool.or_true, Bool.true_or, Bool.or_false, Bool.false_or, decide_true, decide_false, Nat.reduceSub, Nat.reduceAdd, Nat.reduceLeDiff, Nat.reduceEqDiff, Nat.zero_add, if_true, if_false, reduceIte, reduceCtorEq, Bool.false_eq_true]
theorem least_order (n : Nat) (hn : n ≤ 60) (fs : List Fact) (hf : Fits n fs) (hl : fs.length < 64) (c : Con n fs) : ∃ ds, runG 7 g_least_order [nD n, fsD fs] = some (.list ds) := by
  obtain ⟨ρ', e1, front, acc, x2, x6, rfl, _⟩ := for_all (td := nmT 2) (b := b_least_order_1) nD
    (fun j ρ => ∃ front acc x2 x6, ρ = [some (.fz (nD n)), some (.fz (fsD fs)), x2, some (.fz (msD n fs)), some (.fz (nD front)), some (.ol acc), x6] ∧ cnt n front = j ∧ acc.length = j) (List.range n)
    [some (.fz (nD n)), some (.fz (fsD fs)), none, some (.fz (msD n fs)), some (.fz (nD 0)), some (.ol []), none] (by
      rintro j x ρ hj ⟨front, acc, x2, x6, rfl, q1, q2⟩
      obtain ⟨rfl, hj'⟩ := rng_get hj
      obtain ⟨r, r1, r2, r3⟩ := order_turn n hn fs hf hl c front (by omega) acc (by omega) (some (.fz (nD x))) x6
      exact ⟨_, _, rfl, r3, _, _, _, _, rfl, by rw [cnt_add r1 r2, q1], by simp [q2]⟩) ⟨0, [], none, none, rfl, by unfold cnt; simp, rfl⟩
  rw [run_eq]
  unfold g_least_order
  simp only [init, retOf, seqG, setG, newG, iffG, rtG, drG, asgG, nxG, noG, liftP, liftT, nwM, tb, tbM, op1, op1M, op2, op2M, vG, rG, fG, cG, callG, aNil, aCons, aStar, tAndG, tOrG, tNotG, tAndM, tOrM, tNotM, andG, orG, Dn.andM, Dn.orM, ifG, ifM, boolOf, nmT, nilT, consT, tupT, setVG, fzV, olV, odV, parG, par3G', notD, negD, tupM, lstN, lenD, listI, cutN.listOf, wipeR, putBack, fzOf, intOf, iiG, iiB, iiC, List.map_cons, List.map_nil, List.cons_append, List.nil_append, List.append_nil, List.length_cons, List.length_nil, List.length_map, List.replicate_succ, List.replicate_zero, List.getElem?_cons_zero, List.getElem?_cons_succ, List.set_cons_zero, List.set_cons_succ, Option.bind_some, Option.bind_none, Option.map_some, Option.map_none, Bool.not_true, Bool.not_false, Bool.true_and, Bool.and_true, Bool.false_and, Bool.and_false, Bool.or_true, Bool.true_or, Bool.or_false, Bool.false_or, decide_true, decide_false, Nat.reduceSub, Nat.reduceAdd, Nat.reduceLeDiff, Nat.reduceEqDiff, Nat.zero_add, if_true, if_false, reduceIte, reduceCtorEq, Bool.false_eq_true, masks_of n fs hf hn hl, int_0, Nat.zero_le]
  rw [forG_eq (rng_n (n := n) rfl (by omega)), e1]
  simp only [init, retOf, seqG, setG, newG, iffG, rtG, drG, asgG, nxG, noG, liftP, liftT, nwM, tb, tbM, op1, op1M, op2, op2M, vG, rG, fG, cG, callG, aNil, aCons, aStar, tAndG, tOrG, tNotG, tAndM, tOrM, tNotM, andG, orG, Dn.andM, Dn.orM, ifG, ifM, boolOf, nmT, nilT, consT, tupT, setVG, fzV, olV, odV, parG, par3G', notD, negD, tupM, lstN, lenD, listI, cutN.listOf, wipeR, putBack, fzOf, intOf, iiG, iiB, iiC, List.map_cons, List.map_nil, List.cons_append, List.nil_append, List.append_nil, List.length_cons, List.length_nil, List.length_map, List.replicate_succ, List.replicate_zero, List.getElem?_cons_zero, List.getElem?_cons_succ, List.set_cons_zero, List.set_cons_succ, Option.bind_some, Option.bind_none, Option.map_some, Option.map_none, Bool.not_true, Bool.not_false, Bool.true_and, Bool.and_true, Bool.false_and, Bool.and_false, Bool.or_true, Bool.true_or, Bool.or_false, Bool.false_or, decide_true, decide_false, Nat.reduceSub, Nat.reduceAdd, Nat.reduceLeDiff, Nat.reduceEqDiff, Nat.zero_add, if_true, if_false, reduceIte, reduceCtorEq, Bool.false_eq_true]
  exact ⟨_, rfl⟩
theorem failing_turn (n : Nat) (hn : n ≤ 60) (fs : List Fact) (hf : Fits n fs) (hl : fs.length < 60) (r : Nat) (A : List Nat) (x2 x5 : Option Sl) :
    (∃ y5, b_order_failing_1 [some (.fz (nD n)), some (.fz (fsD fs)), x2, some (.fz (nsD A)), some (.fz (nD r)), x5] = some (.nx, [some (.fz (nD n)), some (.fz (fsD fs)), x2, some (.fz (nsD A)), some (.fz (nD r)), y5]) ∧ ¬ Con n (fs ++ [opp n r A])) ∨
    (∃ ds ρ, b_order_failing_1 [some (.fz (nD n)), some (.fz (fsD fs)), x2, some (.fz (nsD A)), some (.fz (nD r)), x5] = some (.rt (.list ds), ρ) ∧ Con n (fs ++ [opp n r A])) := by
  have hf2 : Fits n (fs ++ [opp n r A]) := fits_app hf (fw_len _ _ _)
  have hl2 : (fs ++ [opp n r A]).length < 64 := by simp; omega
  obtain ⟨b, b1, b2⟩ := is_barred n hn (fs ++ [opp n r A]) hf2 (by omega)
  have hz : fs.length + 1 ≤ 1000000 := by omega
  have o := opposite n r A hn
  have hL : PyData.list (fs.map fD) = fsD fs := rfl
  unfold b_order_failing_1
  simp only [init, retOf, seqG, setG, newG, iffG, rtG, drG, asgG, nxG, noG, liftP, liftT, nwM, tb, tbM, op1, op1M, op2, op2M, vG, rG, fG, cG, callG, aNil, aCons, aStar, tAndG, tOrG, tNotG, tAndM, tOrM, tNotM, andG, orG, Dn.andM, Dn.orM, ifG, ifM, boolOf, nmT, nilT, consT, tupT, setVG, fzV, olV, odV, parG, par3G', notD, negD, tupM, lstN, lenD, listI, cutN.listOf, wipeR, putBack, fzOf, intOf, iiG, iiB, iiC, List.map_cons, List.map_nil, List.cons_append, List.nil_append, List.append_nil, List.length_cons, List.length_nil, List.length_map, List.replicate_succ, List.replicate_zero, List.getElem?_cons_zero, List.getElem?_cons_succ, List.set_cons_zero, List.set_cons_succ, Option.bind_some, Option.bind_none, Option.map_some, Option.map_none, Bool.not_true, Bool.not_false, Bool.true_and, Bool.and_true, Bool.false_and, Bool.and_false, Bool.or_true, Bool.true_or, Bool.or_false, Bool.false_or, decide_true, decide_false, Nat.reduceSub, Nat.reduceAdd, Nat.reduceLeDiff, Nat.reduceEqDiff, Nat.zero_add, if_true, if_false, reduceIte, reduceCtorEq, Bool.false_eq_true, o]
  rw [show fsD fs = .list (fs.map fD) from rfl]
  simp only [init, retOf, seqG, setG, newG, iffG, rtG, drG, asgG, nxG, noG, liftP, liftT, nwM, tb, tbM, op1, op1M, op2, op2M, vG, rG, fG, cG, callG, aNil, aCons, aStar, tAndG, tOrG, tNotG, tAndM, tOrM, tNotM, andG, orG, Dn.andM, Dn.orM, ifG, ifM, boolOf, nmT, nilT, consT, tupT, setVG, fzV, olV, odV, parG, par3G', notD, negD, tupM, lstN, lenD, listI, cutN.listOf, wipeR, putBack, fzOf, intOf, iiG, iiB, iiC, List.map_cons, List.map_nil, List.cons_append, List.nil_append, List.append_nil, List.length_cons, List.length_nil, List.length_map, List.replicate_succ, List.replicate_zero, List.getElem?_cons_zero, List.getElem?_cons_succ, List.set_cons_zero, List.set_cons_succ, Option.bind_some, Option.bind_none, Option.map_some, Option.map_none, Bool.not_true, Bool.not_false, Bool.true_and, Bool.and_true, Bool.false_and, Bool.and_false, Bool.or_true, Bool.true_or, Bool.or_false, Bool.false_or, decide_true, decide_false, Nat.reduceSub, Nat.reduceAdd, Nat.reduceLeDiff, Nat.reduceEqDiff, Nat.zero_add, if_true, if_false, reduceIte, reduceCtorEq, Bool.false_eq_true, List.length_append, hz, list_app]
  rw [b1]
  cases b with
  | true =>
    simp only [init, retOf, seqG, setG, newG, iffG, rtG, drG, asgG, nxG, noG, liftP, liftT, nwM, tb, tbM, op1, op1M, op2, op2M, vG, rG, fG, cG, callG, aNil, aCons, aStar, tAndG, tOrG, tNotG, tAndM, tOrM, tNotM, andG, orG, Dn.andM, Dn.orM, ifG, ifM, boolOf, nmT, nilT, consT, tupT, setVG, fzV, olV, odV, parG, par3G', notD, negD, tupM, lstN, lenD, listI, cutN.listOf, wipeR, putBack, fzOf, intOf, iiG, iiB, iiC, List.map_cons, List.map_nil, List.cons_append, List.nil_append, List.append_nil, List.length_cons, List.length_nil, List.length_map, List.replicate_succ, List.replicate_zero, List.getElem?_cons_zero, List.getElem?_cons_succ, List.set_cons_zero, List.set_cons_succ, Option.bind_some, Option.bind_none, Option.map_some, Option.map_none, Bool.not_true, Bool.not_false, Bool.true_and, Bool.and_true, Bool.false_and, Bool.and_false, Bool.or_true, Bool.true_or, Bool.or_false, Bool.false_or, decide_true, decide_false, Nat.reduceSub, Nat.reduceAdd, Nat.reduceLeDiff, Nat.reduceEqDiff, Nat.zero_add, if_true, if_false, reduceIte, reduceCtorEq, Bool.false_eq_true]
    exact .inl ⟨_, rfl, fun h => by have := b2.mpr h; cases this⟩
  | false =>
    obtain ⟨ds, e⟩ := least_order n hn _ hf2 hl2 (b2.mp rfl)
    simp only [init, retOf, seqG, setG, newG, iffG, rtG, drG, asgG, nxG, noG, liftP, liftT, nwM, tb, tbM, op1, op1M, op2, op2M, vG, rG, fG, cG, callG, aNil, aCons, aStar, tAndG, tOrG, tNotG, tAndM, tOrM, tNotM, andG, orG, Dn.andM, Dn.orM, ifG, ifM, boolOf, nmT, nilT, consT, tupT, setVG, fzV, olV, odV, parG, par3G', notD, negD, tupM, lstN, lenD, listI, cutN.listOf, wipeR, putBack, fzOf, intOf, iiG, iiB, iiC, List.map_cons, List.map_nil, List.cons_append, List.nil_append, List.append_nil, List.length_cons, List.length_nil, List.length_map, List.replicate_succ, List.replicate_zero, List.getElem?_cons_zero, List.getElem?_cons_succ, List.set_cons_zero, List.set_cons_succ, Option.bind_some, Option.bind_none, Option.map_some, Option.map_none, Bool.not_true, Bool.not_false, Bool.true_and, Bool.and_true, Bool.false_and, Bool.and_false, Bool.or_true, Bool.true_or, Bool.or_false, Bool.false_or, decide_true, decide_false, Nat.reduceSub, Nat.reduceAdd, Nat.reduceLeDiff, Nat.reduceEqDiff, Nat.zero_add, if_true, if_false, reduceIte, reduceCtorEq, Bool.false_eq_true, e]
    exact .inr ⟨ds, _, rfl, b2.mp rfl⟩
theorem order_against (n : Nat) (h1 : 1 ≤ n) (hn : n ≤ 60) (fs : List Fact) (hf : Fits n fs) (hl : fs.length < 60) (f : Fact) (hff : f.length = n) :
    (runG 3 g_order_against [nD n, fsD fs, fD f] = some .none ∧ Fol n fs f) ∨ (∃ ds, runG 3 g_order_against [nD n, fsD fs, fD f] = some (.list ds) ∧ ¬ Fol n fs f) := by
  have w1 := rules_with f .W (by omega)
  have w2 := rules_with f .L (by omega)
  obtain ⟨o, ρ', e1, e2⟩ := for_typed (td := nmT 4) (b := b_order_failing_1) nD
    (fun j ρ => (∃ x4 x5, ρ = [some (.fz (nD n)), some (.fz (fsD fs)), some (.fz (fD f)), some (.fz (nsD (rw_ f .W))), x4, x5]) ∧ ∀ r ∈ (rw_ f .L).take j, ¬ Con n (fs ++ [opp n r (rw_ f .W)]))
    (fun o ρ => (o = .nx ∧ Fol n fs f) ∨ ∃ ds, o = .rt (.list ds) ∧ ¬ Fol n fs f) (rw_ f .L) 0
    [some (.fz (nD n)), some (.fz (fsD fs)), some (.fz (fD f)), some (.fz (nsD (rw_ f .W))), none, none] (by
      rintro j r ρ hj ⟨⟨x4, x5, rfl⟩, hno⟩
      obtain ⟨q1, q2⟩ := rw_mem.mp (List.mem_of_getElem? hj)
      rw [Nat.zero_add] at hno ⊢
      rcases failing_turn n hn fs hf hl r (rw_ f .W) (some (.fz (fD f))) x5 with ⟨y5, a1, a2⟩ | ⟨ds, ρ2, a1, a2⟩
      · refine ⟨_, _, _, rfl, a1, ⟨_, _, rfl⟩, fun r' hr' => ?_⟩
        rw [List.take_add_one, hj] at hr'
        rcases List.mem_append.mp hr' with hr' | hr'
        · exact hno r' hr'
        · simp at hr'; subst hr'; exact a2
      · exact ⟨_, _, _, rfl, a1, .inr ⟨ds, rfl, fun h => h.barOpp (by omega) q2 hff a2⟩⟩) (by
      rintro ρ ⟨_, hno⟩
      rw [Nat.zero_add, List.take_length] at hno
      refine .inl ⟨rfl, Classical.byContradiction fun z => ?_⟩
      obtain ⟨r, r1, r2, r3⟩ := Fol.goOpp hff z
      exact hno r (rw_mem.mpr ⟨by omega, r2⟩) r3) ⟨⟨none, none, rfl⟩, fun r hr => by simp at hr⟩
  have key : runG 6 g_order_failing [nD n, fsD fs, fD f] = retOf o := by
    rw [run_eq]
    unfold g_order_failing
    simp only [init, retOf, seqG, setG, newG, iffG, rtG, drG, asgG, nxG, noG, liftP, liftT, nwM, tb, tbM, op1, op1M, op2, op2M, vG, rG, fG, cG, callG, aNil, aCons, aStar, tAndG, tOrG, tNotG, tAndM, tOrM, tNotM, andG, orG, Dn.andM, Dn.orM, ifG, ifM, boolOf, nmT, nilT, consT, tupT, setVG, fzV, olV, odV, parG, par3G', notD, negD, tupM, lstN, lenD, listI, cutN.listOf, wipeR, putBack, fzOf, intOf, iiG, iiB, iiC, List.map_cons, List.map_nil, List.cons_append, List.nil_append, List.append_nil, List.length_cons, List.length_nil, List.length_map, List.replicate_succ, List.replicate_zero, List.getElem?_cons_zero, List.getElem?_cons_succ, List.set_cons_zero, List.set_cons_succ, Option.bind_some, Option.bind_none, Option.map_some, Option.map_none, Bool.not_true, Bool.not_false, Bool.true_and, Bool.and_true, Bool.false_and, Bool.and_false, Bool.or_true, Bool.true_or, Bool.or_false, Bool.false_or, decide_true, decide_false, Nat.reduceSub, Nat.reduceAdd, Nat.reduceLeDiff, Nat.reduceEqDiff, Nat.zero_add, if_true, if_false, reduceIte, reduceCtorEq, Bool.false_eq_true, str_W, str_L, lit_W, lit_L, w1, w2]
    rw [forG_eq (ds := (rw_ f .L).map nD) (ρ1 := [some (.fz (nD n)), some (.fz (fsD fs)), some (.fz (fD f)), some (.fz (nsD (rw_ f .W))), none, none]) (by simp only [init, retOf, seqG, setG, newG, iffG, rtG, drG, asgG, nxG, noG, liftP, liftT, nwM, tb, tbM, op1, op1M, op2, op2M, vG, rG, fG, cG, callG, aNil, aCons, aStar, tAndG, tOrG, tNotG, tAndM, tOrM, tNotM, andG, orG, Dn.andM, Dn.orM, ifG, ifM, boolOf, nmT, nilT, consT, tupT, setVG, fzV, olV, odV, parG, par3G', notD, negD, tupM, lstN, lenD, listI, cutN.listOf, wipeR, putBack, fzOf, intOf, iiG, iiB, iiC, List.map_cons, List.map_nil, List.cons_append, List.nil_append, List.append_nil, List.length_cons, List.length_nil, List.length_map, List.replicate_succ, List.replicate_zero, List.getElem?_cons_zero, List.getElem?_cons_succ, List.set_cons_zero, List.set_cons_succ, Option.bind_some, Option.bind_none, Option.map_some, Option.map_none, Bool.not_true, Bool.not_false, Bool.true_and, Bool.and_true, Bool.false_and, Bool.and_false, Bool.or_true, Bool.true_or, Bool.or_false, Bool.false_or, decide_true, decide_false, Nat.reduceSub, Nat.reduceAdd, Nat.reduceLeDiff, Nat.reduceEqDiff, Nat.zero_add, if_true, if_false, reduceIte, reduceCtorEq, Bool.false_eq_true, w2, nsD]), e1]
    rcases e2 with ⟨rfl, _⟩ | ⟨ds, rfl, _⟩ <;> simp only [init, retOf, seqG, setG, newG, iffG, rtG, drG, asgG, nxG, noG, liftP, liftT, nwM, tb, tbM, op1, op1M, op2, op2M, vG, rG, fG, cG, callG, aNil, aCons, aStar, tAndG, tOrG, tNotG, tAndM, tOrM, tNotM, andG, orG, Dn.andM, Dn.orM, ifG, ifM, boolOf, nmT, nilT, consT, tupT, setVG, fzV, olV, odV, parG, par3G', notD, negD, tupM, lstN, lenD, listI, cutN.listOf, wipeR, putBack, fzOf, intOf, iiG, iiB, iiC, List.map_cons, List.map_nil, List.cons_append, List.nil_append, List.append_nil, List.length_cons, List.length_nil, List.length_map, List.replicate_succ, List.replicate_zero, List.getElem?_cons_zero, List.getElem?_cons_succ, List.set_cons_zero, List.set_cons_succ, Option.bind_some, Option.bind_none, Option.map_some, Option.map_none, Bool.not_true, Bool.not_false, Bool.true_and, Bool.and_true, Bool.false_and, Bool.and_false, Bool.or_true, Bool.true_or, Bool.or_false, Bool.false_or, decide_true, decide_false, Nat.reduceSub, Nat.reduceAdd, Nat.reduceLeDiff, Nat.reduceEqDiff, Nat.zero_add, if_true, if_false, reduceIte, reduceCtorEq, Bool.false_eq_true]
  rw [run_eq]
  unfold g_order_against
  rcases e2 with ⟨rfl, h⟩ | ⟨ds, rfl, h⟩
  · simp only [init, retOf, seqG, setG, newG, iffG, rtG, drG, asgG, nxG, noG, liftP, liftT, nwM, tb, tbM, op1, op1M, op2, op2M, vG, rG, fG, cG, callG, aNil, aCons, aStar, tAndG, tOrG, tNotG, tAndM, tOrM, tNotM, andG, orG, Dn.andM, Dn.orM, ifG, ifM, boolOf, nmT, nilT, consT, tupT, setVG, fzV, olV, odV, parG, par3G', notD, negD, tupM, lstN, lenD, listI, cutN.listOf, wipeR, putBack, fzOf, intOf, iiG, iiB, iiC, List.map_cons, List.map_nil, List.cons_append, List.nil_append, List.append_nil, List.length_cons, List.length_nil, List.length_map, List.replicate_succ, List.replicate_zero, List.getElem?_cons_zero, List.getElem?_cons_succ, List.set_cons_zero, List.set_cons_succ, Option.bind_some, Option.bind_none, Option.map_some, Option.map_none, Bool.not_true, Bool.not_false, Bool.true_and, Bool.and_true, Bool.false_and, Bool.and_false, Bool.or_true, Bool.true_or, Bool.or_false, Bool.false_or, decide_true, decide_false, Nat.reduceSub, Nat.reduceAdd, Nat.reduceLeDiff, Nat.reduceEqDiff, Nat.zero_add, if_true, if_false, reduceIte, reduceCtorEq, Bool.false_eq_true, need_both n fs hf h1 hn (by omega), need_fact n f hff hn, key]
    exact .inl ⟨trivial, h⟩
  · simp only [init, retOf, seqG, setG, newG, iffG, rtG, drG, asgG, nxG, noG, liftP, liftT, nwM, tb, tbM, op1, op1M, op2, op2M, vG, rG, fG, cG, callG, aNil, aCons, aStar, tAndG, tOrG, tNotG, tAndM, tOrM, tNotM, andG, orG, Dn.andM, Dn.orM, ifG, ifM, boolOf, nmT, nilT, consT, tupT, setVG, fzV, olV, odV, parG, par3G', notD, negD, tupM, lstN, lenD, listI, cutN.listOf, wipeR, putBack, fzOf, intOf, iiG, iiB, iiC, List.map_cons, List.map_nil, List.cons_append, List.nil_append, List.append_nil, List.length_cons, List.length_nil, List.length_map, List.replicate_succ, List.replicate_zero, List.getElem?_cons_zero, List.getElem?_cons_succ, List.set_cons_zero, List.set_cons_succ, Option.bind_some, Option.bind_none, Option.map_some, Option.map_none, Bool.not_true, Bool.not_false, Bool.true_and, Bool.and_true, Bool.false_and, Bool.and_false, Bool.or_true, Bool.true_or, Bool.or_false, Bool.false_or, decide_true, decide_false, Nat.reduceSub, Nat.reduceAdd, Nat.reduceLeDiff, Nat.reduceEqDiff, Nat.zero_add, if_true, if_false, reduceIte, reduceCtorEq, Bool.false_eq_true, need_both n fs hf h1 hn (by omega), need_fact n f hff hn, key]
    exact .inr ⟨ds, rfl, h⟩
end K85
end
section
set_option Elab.async false
set_option linter.all false
set_option maxRecDepth 100000
set_option maxHeartbeats 4000000
namespace K85
open PySem L2 Dn Rk
theorem fits_part (n : Nat) (hn : n ≤ 60) (r : Nat) (hr : r < n) (A : List Nat) (hA : A.Pairwise (· < ·)) (hlt : ∀ k ∈ A, k < n ∧ k ≠ r) : runG 6 g_fits_part [nD n, .tuple [nD r, nsD A]] = some (.bool true) := by
  have hAl := asc_len hA fun k hk => (hlt k hk).1
  have sb : subI (nD n) (.int 1) = some (.int ((n : Int) - 1)) := rfl
  have l2 : lenD (.tuple [nD r, nsD A]) = some (.int 2) := rfl
  have n2 : neA (.int 2) (.int 2) = some (.bool false) := by rw [ne_i]; rfl
  have i0 : ixD (.tuple [nD r, nsD A]) (.int 0) = some (nD r) := rfl
  have hc := lc_all (vs := [4]) (td := nmT 4) (ge := e_fits_part_2) (ρ := [some (.fz (nD n)), some (.fz (.tuple [nD r, nsD A])), some (.fz (nD r)), some (.fz (nsD A)), none, none]) nD (fun _ => .bool true) A fun k hk => ⟨_, rfl, by
    unfold e_fits_part_2
    have h2 : decide (k = r) = false := decide_eq_false (hlt k hk).2
    simp only [init, retOf, seqG, setG, newG, iffG, rtG, drG, asgG, nxG, noG, liftP, liftT, nwM, tb, tbM, op1, op1M, op2, op2M, vG, rG, fG, cG, callG, aNil, aCons, aStar, tAndG, tOrG, tNotG, tAndM, tOrM, tNotM, andG, orG, Dn.andM, Dn.orM, ifG, ifM, boolOf, nmT, nilT, consT, tupT, setVG, fzV, olV, odV, parG, par3G', notD, negD, tupM, lstN, lenD, listI, cutN.listOf, wipeR, putBack, fzOf, intOf, iiG, iiB, iiC, List.map_cons, List.map_nil, List.cons_append, List.nil_append, List.append_nil, List.length_cons, List.length_nil, List.length_map, List.replicate_succ, List.replicate_zero, List.getElem?_cons_zero, List.getElem?_cons_succ, List.set_cons_zero, List.set_cons_succ, Option.bind_some, Option.bind_none, Option.map_some, Option.map_none, Bool.not_true, Bool.not_false, Bool.true_and, Bool.and_true, Bool.false_and, Bool.and_false, Bool.or_true, Bool.true_or, Bool.or_false, Bool.false_or, decide_true, decide_false, Nat.reduceSub, Nat.reduceAdd, Nat.reduceLeDiff, Nat.reduceEqDiff, Nat.zero_add, if_true, if_false, reduceIte, reduceCtorEq, Bool.false_eq_true, sb, ints_ok k n (hlt k hk).1, ne_n, h2], rfl⟩
  have hd := lc_all (vs := [4, 5]) (td := tupT 2 (consT (nmT 4) (consT (nmT 5) nilT))) (ge := e_fits_part_1) (ρ := [some (.fz (nD n)), some (.fz (.tuple [nD r, nsD A])), some (.fz (nD r)), some (.fz (nsD A)), none, none]) (fun p : Nat × Nat => .tuple [nD p.1, nD p.2]) (fun _ => .bool true) (A.zip (A.drop 1)) fun p hp => ⟨_, rfl, by
    unfold e_fits_part_1
    have h := asc_zip hA p hp
    have h' : (p.1 : Int) < p.2 := by omega
    simp only [init, retOf, seqG, setG, newG, iffG, rtG, drG, asgG, nxG, noG, liftP, liftT, nwM, tb, tbM, op1, op1M, op2, op2M, vG, rG, fG, cG, callG, aNil, aCons, aStar, tAndG, tOrG, tNotG, tAndM, tOrM, tNotM, andG, orG, Dn.andM, Dn.orM, ifG, ifM, boolOf, nmT, nilT, consT, tupT, setVG, fzV, olV, odV, parG, par3G', notD, negD, tupM, lstN, lenD, listI, cutN.listOf, wipeR, putBack, fzOf, intOf, iiG, iiB, iiC, List.map_cons, List.map_nil, List.cons_append, List.nil_append, List.append_nil, List.length_cons, List.length_nil, List.length_map, List.replicate_succ, List.replicate_zero, List.getElem?_cons_zero, List.getElem?_cons_succ, List.set_cons_zero, List.set_cons_succ, Option.bind_some, Option.bind_none, Option.map_some, Option.map_none, Bool.not_true, Bool.not_false, Bool.true_and, Bool.and_true, Bool.false_and, Bool.and_false, Bool.or_true, Bool.true_or, Bool.or_false, Bool.false_or, decide_true, decide_false, Nat.reduceSub, Nat.reduceAdd, Nat.reduceLeDiff, Nat.reduceEqDiff, Nat.zero_add, if_true, if_false, reduceIte, reduceCtorEq, Bool.false_eq_true, nD, h'], rfl⟩
  rw [run_eq]
  unfold g_fits_part
  simp only [tbM, tNotM, tOrM, iffG, liftT, tOrG, tNotG, tb, op1, op2, liftP, vG, cG, callG, aCons, aNil, rtG, seqG, nxG, asgG, tupT, consT, nilT, nmT, init, List.map_cons, List.map_nil, List.cons_append, List.nil_append, List.append_nil, List.length_cons, List.length_nil, List.replicate_succ, List.replicate_zero, Nat.reduceSub, Nat.reduceAdd, List.getElem?_cons_zero, List.getElem?_cons_succ, List.set_cons_zero, List.set_cons_succ, Option.bind_some, Option.map_some, isi_tt, boolOf, l2, n2, i0, sb, ints_ok r n hr, Bool.not_true, Bool.not_false, Bool.false_eq_true, if_false, if_true]
  rw [show isiD "list" (nsD A) = some (.bool true) from isi_ll _]
  simp only [init, retOf, seqG, setG, newG, iffG, rtG, drG, asgG, nxG, noG, liftP, liftT, nwM, tb, tbM, op1, op1M, op2, op2M, vG, rG, fG, cG, callG, aNil, aCons, aStar, tAndG, tOrG, tNotG, tAndM, tOrM, tNotM, andG, orG, Dn.andM, Dn.orM, ifG, ifM, boolOf, nmT, nilT, consT, tupT, setVG, fzV, olV, odV, parG, par3G', notD, negD, tupM, lstN, lenD, listI, cutN.listOf, wipeR, putBack, fzOf, intOf, iiG, iiB, iiC, List.map_cons, List.map_nil, List.cons_append, List.nil_append, List.append_nil, List.length_cons, List.length_nil, List.length_map, List.replicate_succ, List.replicate_zero, List.getElem?_cons_zero, List.getElem?_cons_succ, List.set_cons_zero, List.set_cons_succ, Option.bind_some, Option.bind_none, Option.map_some, Option.map_none, Bool.not_true, Bool.not_false, Bool.true_and, Bool.and_true, Bool.false_and, Bool.and_false, Bool.or_true, Bool.true_or, Bool.or_false, Bool.false_or, decide_true, decide_false, Nat.reduceSub, Nat.reduceAdd, Nat.reduceLeDiff, Nat.reduceEqDiff, Nat.zero_add, if_true, if_false, reduceIte, reduceCtorEq, Bool.false_eq_true]
  rw [lcN_eq (ds := A.map nD) (ρ1 := [some (.fz (nD n)), some (.fz (.tuple [nD r, nsD A])), some (.fz (nD r)), some (.fz (nsD A)), none, none]) (by simp only [init, retOf, seqG, setG, newG, iffG, rtG, drG, asgG, nxG, noG, liftP, liftT, nwM, tb, tbM, op1, op1M, op2, op2M, vG, rG, fG, cG, callG, aNil, aCons, aStar, tAndG, tOrG, tNotG, tAndM, tOrM, tNotM, andG, orG, Dn.andM, Dn.orM, ifG, ifM, boolOf, nmT, nilT, consT, tupT, setVG, fzV, olV, odV, parG, par3G', notD, negD, tupM, lstN, lenD, listI, cutN.listOf, wipeR, putBack, fzOf, intOf, iiG, iiB, iiC, List.map_cons, List.map_nil, List.cons_append, List.nil_append, List.append_nil, List.length_cons, List.length_nil, List.length_map, List.replicate_succ, List.replicate_zero, List.getElem?_cons_zero, List.getElem?_cons_succ, List.set_cons_zero, List.set_cons_succ, Option.bind_some, Option.bind_none, Option.map_some, Option.map_none, Bool.not_true, Bool.not_false, Bool.true_and, Bool.and_true, Bool.false_and, Bool.and_false, Bool.or_true, Bool.true_or, Bool.or_false, Bool.false_or, decide_true, decide_false, Nat.reduceSub, Nat.reduceAdd, Nat.reduceLeDiff, Nat.reduceEqDiff, Nat.zero_add, if_true, if_false, reduceIte, reduceCtorEq, Bool.false_eq_true, nsD]) (by rw [List.length_map]; omega)]
  simp only [wipeR, List.set_cons_zero, List.set_cons_succ]
  rw [hc]
  simp only [init, retOf, seqG, setG, newG, iffG, rtG, drG, asgG, nxG, noG, liftP, liftT, nwM, tb, tbM, op1, op1M, op2, op2M, vG, rG, fG, cG, callG, aNil, aCons, aStar, tAndG, tOrG, tNotG, tAndM, tOrM, tNotM, andG, orG, Dn.andM, Dn.orM, ifG, ifM, boolOf, nmT, nilT, consT, tupT, setVG, fzV, olV, odV, parG, par3G', notD, negD, tupM, lstN, lenD, listI, cutN.listOf, wipeR, putBack, fzOf, intOf, iiG, iiB, iiC, List.map_cons, List.map_nil, List.cons_append, List.nil_append, List.append_nil, List.length_cons, List.length_nil, List.length_map, List.replicate_succ, List.replicate_zero, List.getElem?_cons_zero, List.getElem?_cons_succ, List.set_cons_zero, List.set_cons_succ, Option.bind_some, Option.bind_none, Option.map_some, Option.map_none, Bool.not_true, Bool.not_false, Bool.true_and, Bool.and_true, Bool.false_and, Bool.and_false, Bool.or_true, Bool.true_or, Bool.or_false, Bool.false_or, decide_true, decide_false, Nat.reduceSub, Nat.reduceAdd, Nat.reduceLeDiff, Nat.reduceEqDiff, Nat.zero_add, if_true, if_false, reduceIte, reduceCtorEq, Bool.false_eq_true, all_t]
  have z : zipI (aCons (liftP (vG 3)) (aCons (nwM (cutN (vG 3) (oSome (cG (.int 1))) oNone)) aNil)) [some (.fz (nD n)), some (.fz (.tuple [nD r, nsD A])), some (.fz (nD r)), some (.fz (nsD A)), none, none] =
      some ((A.zip (A.drop 1)).map fun p => .tuple [nD p.1, nD p.2], [some (.fz (nD n)), some (.fz (.tuple [nD r, nsD A])), some (.fz (nD r)), some (.fz (nsD A)), none, none]) := by
    simp only [init, retOf, seqG, setG, newG, iffG, rtG, drG, asgG, nxG, noG, liftP, liftT, nwM, tb, tbM, op1, op1M, op2, op2M, vG, rG, fG, cG, callG, aNil, aCons, aStar, tAndG, tOrG, tNotG, tAndM, tOrM, tNotM, andG, orG, Dn.andM, Dn.orM, ifG, ifM, boolOf, nmT, nilT, consT, tupT, setVG, fzV, olV, odV, parG, par3G', notD, negD, tupM, lstN, lenD, listI, cutN.listOf, wipeR, putBack, fzOf, intOf, iiG, iiB, iiC, List.map_cons, List.map_nil, List.cons_append, List.nil_append, List.append_nil, List.length_cons, List.length_nil, List.length_map, List.replicate_succ, List.replicate_zero, List.getElem?_cons_zero, List.getElem?_cons_succ, List.set_cons_zero, List.set_cons_succ, Option.bind_some, Option.bind_none, Option.map_some, Option.map_none, Bool.not_true, Bool.not_false, Bool.true_and, Bool.and_true, Bool.false_and, Bool.and_false, Bool.or_true, Bool.true_or, Bool.or_false, Bool.false_or, decide_true, decide_false, Nat.reduceSub, Nat.reduceAdd, Nat.reduceLeDiff, Nat.reduceEqDiff, Nat.zero_add, if_true, if_false, reduceIte, reduceCtorEq, Bool.false_eq_true, zipI, cutN, oSome, oNone, nsD, cut1]
    rw [← List.map_drop, zip_n]
  rw [lcN_eq z (by simp; omega)]
  simp only [wipeR, List.set_cons_zero, List.set_cons_succ]
  rw [hd]
  simp only [init, retOf, seqG, setG, newG, iffG, rtG, drG, asgG, nxG, noG, liftP, liftT, nwM, tb, tbM, op1, op1M, op2, op2M, vG, rG, fG, cG, callG, aNil, aCons, aStar, tAndG, tOrG, tNotG, tAndM, tOrM, tNotM, andG, orG, Dn.andM, Dn.orM, ifG, ifM, boolOf, nmT, nilT, consT, tupT, setVG, fzV, olV, odV, parG, par3G', notD, negD, tupM, lstN, lenD, listI, cutN.listOf, wipeR, putBack, fzOf, intOf, iiG, iiB, iiC, List.map_cons, List.map_nil, List.cons_append, List.nil_append, List.append_nil, List.length_cons, List.length_nil, List.length_map, List.replicate_succ, List.replicate_zero, List.getElem?_cons_zero, List.getElem?_cons_succ, List.set_cons_zero, List.set_cons_succ, Option.bind_some, Option.bind_none, Option.map_some, Option.map_none, Bool.not_true, Bool.not_false, Bool.true_and, Bool.and_true, Bool.false_and, Bool.and_false, Bool.or_true, Bool.true_or, Bool.or_false, Bool.false_or, decide_true, decide_false, Nat.reduceSub, Nat.reduceAdd, Nat.reduceLeDiff, Nat.reduceEqDiff, Nat.zero_add, if_true, if_false, reduceIte, reduceCtorEq, Bool.false_eq_true, all_t]
theorem fact_of (n : Nat) (h1 : 1 ≤ n) (hn : n ≤ 60) (r : Nat) (hr : r < n) (A : List Nat) (hA : A.Pairwise (· < ·)) (hlt : ∀ k ∈ A, k < n ∧ k ≠ r) : runG 2 g_fact_of [nD n, .tuple [nD r, nsD A]] = some (fD (fw n A [r])) := by
  have fp := fits_part n hn r hr A hA hlt
  have np : runG 2 g_need_part [nD n, .tuple [nD r, nsD A]] = some .none := by
    rw [run_eq]
    unfold g_need_part
    simp only [init, retOf, seqG, setG, newG, iffG, rtG, drG, asgG, nxG, noG, liftP, liftT, nwM, tb, tbM, op1, op1M, op2, op2M, vG, rG, fG, cG, callG, aNil, aCons, aStar, tAndG, tOrG, tNotG, tAndM, tOrM, tNotM, andG, orG, Dn.andM, Dn.orM, ifG, ifM, boolOf, nmT, nilT, consT, tupT, setVG, fzV, olV, odV, parG, par3G', notD, negD, tupM, lstN, lenD, listI, cutN.listOf, wipeR, putBack, fzOf, intOf, iiG, iiB, iiC, List.map_cons, List.map_nil, List.cons_append, List.nil_append, List.append_nil, List.length_cons, List.length_nil, List.length_map, List.replicate_succ, List.replicate_zero, List.getElem?_cons_zero, List.getElem?_cons_succ, List.set_cons_zero, List.set_cons_succ, Option.bind_some, Option.bind_none, Option.map_some, Option.map_none, Bool.not_true, Bool.not_false, Bool.true_and, Bool.and_true, Bool.false_and, Bool.and_false, Bool.or_true, Bool.true_or, Bool.or_false, Bool.false_or, decide_true, decide_false, Nat.reduceSub, Nat.reduceAdd, Nat.reduceLeDiff, Nat.reduceEqDiff, Nat.zero_add, if_true, if_false, reduceIte, reduceCtorEq, Bool.false_eq_true, fp]
  have i0 : ixD (.tuple [nD r, nsD A]) (.int 0) = some (nD r) := rfl
  have i1 : ixD (.tuple [nD r, nsD A]) (.int 1) = some (nsD A) := rfl
  have fw := fact_with n A [r] hn
  rw [show nsD [r] = .list [nD r] from rfl] at fw
  rw [run_eq]
  unfold g_fact_of
  simp only [init, retOf, seqG, setG, newG, iffG, rtG, drG, asgG, nxG, noG, liftP, liftT, nwM, tb, tbM, op1, op1M, op2, op2M, vG, rG, fG, cG, callG, aNil, aCons, aStar, tAndG, tOrG, tNotG, tAndM, tOrM, tNotM, andG, orG, Dn.andM, Dn.orM, ifG, ifM, boolOf, nmT, nilT, consT, tupT, setVG, fzV, olV, odV, parG, par3G', notD, negD, tupM, lstN, lenD, listI, cutN.listOf, wipeR, putBack, fzOf, intOf, iiG, iiB, iiC, List.map_cons, List.map_nil, List.cons_append, List.nil_append, List.append_nil, List.length_cons, List.length_nil, List.length_map, List.replicate_succ, List.replicate_zero, List.getElem?_cons_zero, List.getElem?_cons_succ, List.set_cons_zero, List.set_cons_succ, Option.bind_some, Option.bind_none, Option.map_some, Option.map_none, Bool.not_true, Bool.not_false, Bool.true_and, Bool.and_true, Bool.false_and, Bool.and_false, Bool.or_true, Bool.true_or, Bool.or_false, Bool.false_or, decide_true, decide_false, Nat.reduceSub, Nat.reduceAdd, Nat.reduceLeDiff, Nat.reduceEqDiff, Nat.zero_add, if_true, if_false, reduceIte, reduceCtorEq, Bool.false_eq_true, need_count n h1 hn, np, i0, i1, fw]
/-! ### two papers as one -/
theorem joined (P Q : List Nat) (hl : P.length + Q.length < 64) : ∃ J, runG 2 g__law_joined [nsD P, nsD Q] = some (nsD J) ∧ J.Pairwise (· < ·) ∧ ∀ x, x ∈ J ↔ x ∈ P ∨ x ∈ Q := by
  have e : P.map nD ++ Q.map nD = ((P ++ Q).map Int.ofNat).map PyData.int := by rw [List.map_map, ← List.map_append]; rfl
  have mem : ∀ i, i ∈ setI ((P ++ Q).map Int.ofNat) ↔ ∃ x : Nat, (x ∈ P ∨ x ∈ Q) ∧ (x : Int) = i := fun i => by
    rw [setI_mem, List.mem_map]
    constructor
    · rintro ⟨x, hx, rfl⟩; exact ⟨x, List.mem_append.mp hx, rfl⟩
    · rintro ⟨x, hx, rfl⟩; exact ⟨x, List.mem_append.mpr hx, rfl⟩
  refine ⟨(setI ((P ++ Q).map Int.ofNat)).map Int.toNat, ?_, ?_, fun x => ?_⟩
  · have d : (setI ((P ++ Q).map Int.ofNat)).map PyData.int = ((setI ((P ++ Q).map Int.ofNat)).map Int.toNat).map nD := by
      rw [List.map_map]
      refine List.map_congr_left fun i hi => ?_
      obtain ⟨x, _, rfl⟩ := (mem i).mp hi
      rfl
    have h1 : P.length + Q.length ≤ 1000000 := by omega
    rw [run_eq]
    unfold g__law_joined ssetN catN
    simp only [init, retOf, seqG, setG, newG, iffG, rtG, drG, asgG, nxG, noG, liftP, liftT, nwM, tb, tbM, op1, op1M, op2, op2M, vG, rG, fG, cG, callG, aNil, aCons, aStar, tAndG, tOrG, tNotG, tAndM, tOrM, tNotM, andG, orG, Dn.andM, Dn.orM, ifG, ifM, boolOf, nmT, nilT, consT, tupT, setVG, fzV, olV, odV, parG, par3G', notD, negD, tupM, lstN, lenD, listI, cutN.listOf, wipeR, putBack, fzOf, intOf, iiG, iiB, iiC, List.map_cons, List.map_nil, List.cons_append, List.nil_append, List.append_nil, List.length_cons, List.length_nil, List.length_map, List.replicate_succ, List.replicate_zero, List.getElem?_cons_zero, List.getElem?_cons_succ, List.set_cons_zero, List.set_cons_succ, Option.bind_some, Option.bind_none, Option.map_some, Option.map_none, Bool.not_true, Bool.not_false, Bool.true_and, Bool.and_true, Bool.false_and, Bool.and_false, Bool.or_true, Bool.true_or, Bool.or_false, Bool.false_or, decide_true, decide_false, Nat.reduceSub, Nat.reduceAdd, Nat.reduceLeDiff, Nat.reduceEqDiff, Nat.zero_add, if_true, if_false, reduceIte, reduceCtorEq, Bool.false_eq_true, nsD, h1, e, intsOf_map]
    rw [if_pos (by rw [List.length_append]; omega)]
    simp only [init, retOf, seqG, setG, newG, iffG, rtG, drG, asgG, nxG, noG, liftP, liftT, nwM, tb, tbM, op1, op1M, op2, op2M, vG, rG, fG, cG, callG, aNil, aCons, aStar, tAndG, tOrG, tNotG, tAndM, tOrM, tNotM, andG, orG, Dn.andM, Dn.orM, ifG, ifM, boolOf, nmT, nilT, consT, tupT, setVG, fzV, olV, odV, parG, par3G', notD, negD, tupM, lstN, lenD, listI, cutN.listOf, wipeR, putBack, fzOf, intOf, iiG, iiB, iiC, List.map_cons, List.map_nil, List.cons_append, List.nil_append, List.append_nil, List.length_cons, List.length_nil, List.length_map, List.replicate_succ, List.replicate_zero, List.getElem?_cons_zero, List.getElem?_cons_succ, List.set_cons_zero, List.set_cons_succ, Option.bind_some, Option.bind_none, Option.map_some, Option.map_none, Bool.not_true, Bool.not_false, Bool.true_and, Bool.and_true, Bool.false_and, Bool.and_false, Bool.or_true, Bool.true_or, Bool.or_false, Bool.false_or, decide_true, decide_false, Nat.reduceSub, Nat.reduceAdd, Nat.reduceLeDiff, Nat.reduceEqDiff, Nat.zero_add, if_true, if_false, reduceIte, reduceCtorEq, Bool.false_eq_true, d]
  · rw [List.pairwise_map]
    exact (List.Pairwise.and_mem.mp (setI_strict _)).imp fun {a b} h => by
      obtain ⟨x, _, rfl⟩ := (mem a).mp h.1
      obtain ⟨y, _, rfl⟩ := (mem b).mp h.2.1
      have := h.2.2
      show x < y
      omega
  · rw [List.mem_map]
    constructor
    · rintro ⟨i, hi, rfl⟩
      obtain ⟨y, hy, rfl⟩ := (mem i).mp hi
      exact hy
    · intro h
      exact ⟨(x : Int), (mem _).mpr ⟨x, h, rfl⟩, rfl⟩
/-! ### the list turned about -/
theorem fa_rev {fs : List Fact} {i : Nat} (h : i < fs.length) : fa_ fs.reverse i = fa_ fs (fs.length - 1 - i) := by
  unfold fa_
  rw [List.getD_eq_getElem?_getD, List.getD_eq_getElem?_getD, List.getElem?_reverse h]
theorem turned (fs : List Fact) (P : List Nat) (hP : P.Pairwise (· < ·)) (hlt : ∀ i ∈ P, i < fs.length) : ∃ Q : List Nat, sortDI (.list (P.map fun i => nD (fs.length - 1 - i))) = some (Q.map nD) ∧ Q.Pairwise (· < ·) ∧ (∀ i ∈ Q, i < fs.length) ∧ ∀ j, j ∈ Q ↔ ∃ i ∈ P, j = fs.length - 1 - i := by
  obtain ⟨Q, q0, q1, q2⟩ := sort_n (P.map fun i => fs.length - 1 - i)
  have nd : (P.map fun i => fs.length - 1 - i).Nodup := by
    unfold List.Nodup
    rw [List.pairwise_map]
    exact (List.Pairwise.and_mem.mp hP).imp fun {a b} h => by
      have := hlt a h.1
      have := hlt b h.2.1
      have := h.2.2
      omega
  have mem : ∀ j, j ∈ Q ↔ ∃ i ∈ P, j = fs.length - 1 - i := fun j => by
    rw [q1.mem_iff, List.mem_map]
    constructor <;> rintro ⟨i, hi, e⟩ <;> exact ⟨i, hi, e.symm⟩
  refine ⟨Q, ?_, asc_of q1 q2 nd, fun j hj => ?_, mem⟩
  · unfold nsD at q0
    rw [List.map_map] at q0
    exact q0
  · obtain ⟨i, hi, rfl⟩ := (mem j).mp hj
    have := hlt i hi
    omega
theorem has_turned {fs : List Fact} {P Q : List Nat} (hlt : ∀ i ∈ P, i < fs.length) (hQ : ∀ j, j ∈ Q ↔ ∃ i ∈ P, j = fs.length - 1 - i) (s : Sg) (k : Nat) : hasS fs Q s k ↔ hasS fs.reverse P s k := by
  constructor
  · rintro ⟨j, hj, e⟩
    obtain ⟨i, hi, rfl⟩ := (hQ j).mp hj
    exact ⟨i, hi, by rw [fa_rev (hlt i hi)]; exact e⟩
  · rintro ⟨i, hi, e⟩
    rw [fa_rev (hlt i hi)] at e
    exact ⟨_, (hQ _).mpr ⟨i, hi, rfl⟩, e⟩
theorem Paper.turned {n : Nat} {fs : List Fact} {f : Fact} {P Q : List Nat} (hlt : ∀ i ∈ P, i < fs.length) (hQ : ∀ j, j ∈ Q ↔ ∃ i ∈ P, j = fs.length - 1 - i) (h : Paper n fs.reverse f P) : Paper n fs f Q := by
  have hs := has_turned hlt hQ
  rcases h with h | ⟨h1, h2, h3⟩
  · exact .inl h
  · refine .inr ⟨fun e => h1 ?_, fun k hk a b => h2 k hk ((hs _ _).mp a) (fun z => b ((hs _ _).mpr z)), h3.imp (fun g k hk e => (hs _ _).mpr (g k hk e)) fun ⟨⟨k, hk, a⟩, g⟩ => ⟨⟨k, hk, (hs _ _).mpr a⟩, fun k hk b => (hs _ _).mpr (g k hk ((hs _ _).mp b))⟩⟩
    cases P with
    | nil => rfl
    | cons i P =>
      have : fs.length - 1 - i ∈ Q := (hQ _).mpr ⟨i, by simp, rfl⟩
      rw [e] at this; cases this
theorem Fol.rev {n : Nat} {fs : List Fact} {f : Fact} : Fol n fs.reverse f ↔ Fol n fs f := by
  unfold Fol
  constructor <;> intro h s hs <;> exact h s fun g hg => hs g (by simpa using hg)
theorem Fits.rev {n : Nat} {fs : List Fact} (h : Fits n fs) : Fits n fs.reverse := fun f hf => h f (by simpa using hf)
/-- a told paper -/
def Told (n : Nat) (fs : List Fact) (f : Fact) (P : List Nat) : Prop := P.Pairwise (· < ·) ∧ (∀ i ∈ P, i < fs.length) ∧ Paper n fs f P ∧ (rw_ f .L = [] → P = [])
theorem told (n : Nat) (h1 : 1 ≤ n) (hn : n ≤ 60) (fs : List Fact) (hf : Fits n fs) (hl : fs.length < 60) (f : Fact) (hff : f.length = n) (hfol : Fol n fs f) :
    ∃ P Q, runG 6 g__law_told [nD n, fsD fs, fD f] = some (.list [nsD P, nsD Q]) ∧ Told n fs f P ∧ Told n fs f Q := by
  rcases paper_for n h1 hn fs hf hl f hff with ⟨_, h⟩ | ⟨_, P, p0, p1, p2, p3, p4⟩
  · exact absurd hfol h
  rcases paper_for n h1 hn fs.reverse hf.rev (by simpa using hl) f hff with ⟨_, h⟩ | ⟨_, R, r0, r1, r2, r3, r4⟩
  · exact absurd (Fol.rev.mpr hfol) h
  have r2' : ∀ i ∈ R, i < fs.length := fun i hi => by simpa using r2 i hi
  obtain ⟨Q, q0, q1, q2, q3⟩ := turned fs R r1 r2'
  have qp := r3.turned r2' q3
  have ip := is_paper n fs f P hf hff h1 hn (by omega) p1 p2
  rw [paperB_iff hff |>.mpr p3] at ip
  have iq := is_paper n fs f Q hf hff h1 hn (by omega) q1 q2
  rw [paperB_iff hff |>.mpr qp] at iq
  refine ⟨P, Q, ?_, ⟨p1, p2, p3, p4⟩, q1, q2, qp, fun e => ?_⟩
  · have rl : (fs.map fD).reverse = fs.reverse.map fD := (List.map_reverse).symm
    have isP : isN (nsD P) .none = some (.bool false) := rfl
    have isR : isN (nsD R) .none = some (.bool false) := rfl
    have hRl := asc_len r1 r2'
    have lf : lenD (fsD fs) = some (nD fs.length) := by show some (PyData.int ((fs.map fD).length : Nat)) = _; rw [List.length_map]; rfl
    have hc := fun (x4 : Option Sl) => lc_all (vs := [5]) (td := nmT 5) (ge := e__law_told_1) (ρ := [some (.fz (nD n)), some (.fz (fsD fs)), some (.fz (fD f)), some (.fz (nsD R)), x4, none]) nD (fun i => nD (fs.length - 1 - i)) R fun i hi => ⟨_, rfl, by
      have := r2' i hi
      have e1 : subI (nD fs.length) (.int 1) = some (nD (fs.length - 1)) := by
        show some (PyData.int ((fs.length : Int) - 1)) = _
        unfold nD; congr 2; omega
      have e2 : subI (nD (fs.length - 1)) (nD i) = some (nD (fs.length - 1 - i)) := by
        show some (PyData.int (((fs.length - 1 : Nat) : Int) - i)) = _
        unfold nD; congr 2; omega
      unfold e__law_told_1
      simp only [liftP, op2, op1, vG, cG, nmT, List.set_cons_zero, List.set_cons_succ, List.getElem?_cons_zero, List.getElem?_cons_succ, Option.bind_some, Option.map_some, lf, e1, e2], rfl⟩
    have rev : revN (vG 1) [some (.fz (nD n)), some (.fz (fsD fs)), some (.fz (fD f)), none, none, none] = some (fs.reverse.map fD, [some (.fz (nD n)), some (.fz (fsD fs)), some (.fz (fD f)), none, none, none]) := by
      unfold revN
      simp only [init, retOf, seqG, setG, newG, iffG, rtG, drG, asgG, nxG, noG, liftP, liftT, nwM, tb, tbM, op1, op1M, op2, op2M, vG, rG, fG, cG, callG, aNil, aCons, aStar, tAndG, tOrG, tNotG, tAndM, tOrM, tNotM, andG, orG, Dn.andM, Dn.orM, ifG, ifM, boolOf, nmT, nilT, consT, tupT, setVG, fzV, olV, odV, parG, par3G', notD, negD, tupM, lstN, lenD, listI, cutN.listOf, wipeR, putBack, fzOf, intOf, iiG, iiB, iiC, List.map_cons, List.map_nil, List.cons_append, List.nil_append, List.append_nil, List.length_cons, List.length_nil, List.length_map, List.replicate_succ, List.replicate_zero, List.getElem?_cons_zero, List.getElem?_cons_succ, List.set_cons_zero, List.set_cons_succ, Option.bind_some, Option.bind_none, Option.map_some, Option.map_none, Bool.not_true, Bool.not_false, Bool.true_and, Bool.and_true, Bool.false_and, Bool.and_false, Bool.or_true, Bool.true_or, Bool.or_false, Bool.false_or, decide_true, decide_false, Nat.reduceSub, Nat.reduceAdd, Nat.reduceLeDiff, Nat.reduceEqDiff, Nat.zero_add, if_true, if_false, reduceIte, reduceCtorEq, Bool.false_eq_true, fsD, rl]
    have rn : PyData.list (fs.reverse.map fD) = fsD fs.reverse := rfl
    have tt : isnB (.bool true) (.bool true) = some (.bool false) := rfl
    rw [run_eq]
    unfold g__law_told
    simp only [init, retOf, seqG, setG, newG, iffG, rtG, drG, asgG, nxG, noG, liftP, liftT, nwM, tb, tbM, op1, op1M, op2, op2M, vG, rG, fG, cG, callG, aNil, aCons, aStar, tAndG, tOrG, tNotG, tAndM, tOrM, tNotM, andG, orG, Dn.andM, Dn.orM, ifG, ifM, boolOf, nmT, nilT, consT, tupT, setVG, fzV, olV, odV, parG, par3G', notD, negD, tupM, lstN, lenD, listI, cutN.listOf, wipeR, putBack, fzOf, intOf, iiG, iiB, iiC, List.map_cons, List.map_nil, List.cons_append, List.nil_append, List.append_nil, List.length_cons, List.length_nil, List.length_map, List.replicate_succ, List.replicate_zero, List.getElem?_cons_zero, List.getElem?_cons_succ, List.set_cons_zero, List.set_cons_succ, Option.bind_some, Option.bind_none, Option.map_some, Option.map_none, Bool.not_true, Bool.not_false, Bool.true_and, Bool.and_true, Bool.false_and, Bool.and_false, Bool.or_true, Bool.true_or, Bool.or_false, Bool.false_or, decide_true, decide_false, Nat.reduceSub, Nat.reduceAdd, Nat.reduceLeDiff, Nat.reduceEqDiff, Nat.zero_add, if_true, if_false, reduceIte, reduceCtorEq, Bool.false_eq_true, nw1M, p0, rev, rn, r0, isP, isR]
    rw [lcN_eq (ds := R.map nD) rfl (by rw [List.length_map]; omega)]
    simp only [wipeR, List.set_cons_zero, List.set_cons_succ]
    rw [hc]
    simp only [init, retOf, seqG, setG, newG, iffG, rtG, drG, asgG, nxG, noG, liftP, liftT, nwM, tb, tbM, op1, op1M, op2, op2M, vG, rG, fG, cG, callG, aNil, aCons, aStar, tAndG, tOrG, tNotG, tAndM, tOrM, tNotM, andG, orG, Dn.andM, Dn.orM, ifG, ifM, boolOf, nmT, nilT, consT, tupT, setVG, fzV, olV, odV, parG, par3G', notD, negD, tupM, lstN, lenD, listI, cutN.listOf, wipeR, putBack, fzOf, intOf, iiG, iiB, iiC, List.map_cons, List.map_nil, List.cons_append, List.nil_append, List.append_nil, List.length_cons, List.length_nil, List.length_map, List.replicate_succ, List.replicate_zero, List.getElem?_cons_zero, List.getElem?_cons_succ, List.set_cons_zero, List.set_cons_succ, Option.bind_some, Option.bind_none, Option.map_some, Option.map_none, Bool.not_true, Bool.not_false, Bool.true_and, Bool.and_true, Bool.false_and, Bool.and_false, Bool.or_true, Bool.true_or, Bool.or_false, Bool.false_or, decide_true, decide_false, Nat.reduceSub, Nat.reduceAdd, Nat.reduceLeDiff, Nat.reduceEqDiff, Nat.zero_add, if_true, if_false, reduceIte, reduceCtorEq, Bool.false_eq_true, nw1M, q0, Nat.reduceLeDiff, nsD]
    simp only [nsD] at ip iq
    simp only [init, retOf, seqG, setG, newG, iffG, rtG, drG, asgG, nxG, noG, liftP, liftT, nwM, tb, tbM, op1, op1M, op2, op2M, vG, rG, fG, cG, callG, aNil, aCons, aStar, tAndG, tOrG, tNotG, tAndM, tOrM, tNotM, andG, orG, Dn.andM, Dn.orM, ifG, ifM, boolOf, nmT, nilT, consT, tupT, setVG, fzV, olV, odV, parG, par3G', notD, negD, tupM, lstN, lenD, listI, cutN.listOf, wipeR, putBack, fzOf, intOf, iiG, iiB, iiC, List.map_cons, List.map_nil, List.cons_append, List.nil_append, List.append_nil, List.length_cons, List.length_nil, List.length_map, List.replicate_succ, List.replicate_zero, List.getElem?_cons_zero, List.getElem?_cons_succ, List.set_cons_zero, List.set_cons_succ, Option.bind_some, Option.bind_none, Option.map_some, Option.map_none, Bool.not_true, Bool.not_false, Bool.true_and, Bool.and_true, Bool.false_and, Bool.and_false, Bool.or_true, Bool.true_or, Bool.or_false, Bool.false_or, decide_true, decide_false, Nat.reduceSub, Nat.reduceAdd, Nat.reduceLeDiff, Nat.reduceEqDiff, Nat.zero_add, if_true, if_false, reduceIte, reduceCtorEq, Bool.false_eq_true, ip, iq, tt]
  · have hR := r4 e
    cases Q with
    | nil => rfl
    | cons j Q =>
      obtain ⟨i, hi, _⟩ := (q3 j).mp (by simp)
      rw [hR] at hi; cases hi
end K85
end
section
set_option Elab.async false
set_option linter.all false
set_option maxRecDepth 100000
set_option maxHeartbeats 4000000
namespace K85
open PySem L2 Dn Rk
theorem bits_le {x : Int} {k : Nat} (h : x.natAbs < 2 ^ k) : Builtin.Int.intBits x ≤ k := by
  unfold Builtin.Int.intBits
  split
  · omega
  · rename_i h0
    have hx : x.natAbs ≠ 0 := by
      intro z
      have : x = 0 := by omega
      exact h0 (by rw [this]; rfl)
    have := (Nat.log2_lt hx).mpr h
    omega
theorem pow_i {i : Int} {j : Nat} {k : Nat} (h : i.natAbs < 2 ^ k) (hk : k * j ≤ 2 ^ 27) : powI (.int i) (.int (j : Int)) = some (.int (i ^ j)) := by
  have hb := bits_le h
  show (if _ then some (PyData.int (i ^ ((j : Int)).toNat)) else none) = _
  rw [Int.toNat_natCast]
  refine if_pos ?_
  rw [decide_eq_true_eq]
  refine ⟨by omega, ?_⟩
  have : Builtin.Int.intBits i * j ≤ k * j := Nat.mul_le_mul_right j hb
  have h2 : ((Builtin.Int.intBits i * j : Nat) : Int) ≤ ((2 ^ 27 : Nat) : Int) := by omega
  rw [Int.natCast_mul] at h2
  exact h2
theorem mul_i {i j : Int} {k l : Nat} (h : i.natAbs < 2 ^ k) (h2 : j.natAbs < 2 ^ l) (hk : k + l ≤ 1000000) : mulI (.int i) (.int j) = some (.int (i * j)) := by
  have := bits_le h
  have := bits_le h2
  show (if _ then _ else _) = _
  refine if_pos ?_
  rw [decide_eq_true_eq]
  omega
theorem mod_i {i j : Int} (h : 0 < j) : modI (.int i) (.int j) = some (.int (i % j)) := by
  show (if _ then _ else _) = _
  exact if_pos (by simpa using h)
theorem fdiv_i {i j : Int} (h : j ≠ 0) (h2 : j.natAbs < 1073741824) : fdivI (.int i) (.int j) = some (.int (i.fdiv j)) := by
  show (if _ then _ else _) = _
  exact if_pos (by rw [decide_eq_true_eq]; exact ⟨h, h2⟩)
/-- a well that is good for draws: at most m mixed ones were made -/
def Wl (m : Nat) (ps : List PyData) : Prop := ∃ a b c : Int, ps = [.int a, .int b, .int c] ∧ 0 ≤ b ∧ b < 10 ^ 18 ∧ 0 ≤ c ∧ c ≤ m
theorem Wl.mono {m m' : Nat} {ps : List PyData} (h : Wl m ps) (hm : m ≤ m') : Wl m' ps := by
  obtain ⟨a, b, c, e, h1, h2, h3, h4⟩ := h
  exact ⟨a, b, c, e, h1, h2, h3, by omega⟩
theorem runP_eq (m : Nat) (g : SG) (ps ds : List PyData) : runP m g ps ds = (g (init m (.pu ps :: ds.map .fz))).bind fun p => (retOf p.1).bind fun d => (puAt p.2).map fun ps' => (d, ps') := rfl
theorem draw {m k : Nat} {ps : List PyData} (h : Wl m ps) (hm : m < 10 ^ 9) (h1 : 1 ≤ k) (hk : k ≤ 1000) : ∃ d ps', runP 5 g__law_draw ps [nD k] = some (nD d, ps') ∧ d < k ∧ Wl (m + 1) ps' := by
  obtain ⟨a, b, c, rfl, hb0, hb1, hc0, hc1⟩ := h
  have p24 : powI (.int 10) (.int 24) = some (.int (10 ^ 24)) := pow_i (i := 10) (j := 24) (k := 4) (by decide) (by decide)
  have big : gtI (nD k) (.int (10 ^ 24)) = some (.bool false) := by
    show some (PyData.bool (decide ((10 : Int) ^ 24 < (k : Int)))) = _
    rw [decide_eq_false (by omega)]
  have i0 : ixD (.list [.int a, .int b, .int c]) (.int 0) = some (.int a) := rfl
  have g0 : gtI (.int a) (.int 0) = some (.bool (decide (0 < a))) := rfl
  have kpos : (0 : Int) < k := by omega
  have md : ∀ z : Int, modI (.int z) (nD k) = some (nD (z % k).toNat) := fun z => by
    unfold nD
    rw [mod_i kpos]
    congr 2
    have := Int.emod_nonneg z (show (k : Int) ≠ 0 by omega)
    omega
  have mdl : ∀ z : Int, (z % k).toNat < k := fun z => by
    have := Int.emod_nonneg z (show (k : Int) ≠ 0 by omega)
    have := Int.emod_lt_of_pos z kpos
    omega
  rw [runP_eq]
  unfold g__law_draw
  simp only [init, retOf, seqG, setG, newG, iffG, rtG, drG, asgG, nxG, noG, liftP, liftT, nwM, tb, tbM, op1, op1M, op2, op2M, vG, rG, fG, cG, callG, aNil, aCons, aStar, tAndG, tOrG, tNotG, tAndM, tOrM, tNotM, andG, orG, Dn.andM, Dn.orM, ifG, ifM, boolOf, nmT, nilT, consT, tupT, setVG, fzV, olV, odV, parG, par3G', notD, negD, tupM, lstN, lenD, listI, cutN.listOf, wipeR, putBack, fzOf, intOf, iiG, iiB, iiC, List.map_cons, List.map_nil, List.cons_append, List.nil_append, List.append_nil, List.length_cons, List.length_nil, List.length_map, List.replicate_succ, List.replicate_zero, List.getElem?_cons_zero, List.getElem?_cons_succ, List.set_cons_zero, List.set_cons_succ, Option.bind_some, Option.bind_none, Option.map_some, Option.map_none, Bool.not_true, Bool.not_false, Bool.true_and, Bool.and_true, Bool.false_and, Bool.and_false, Bool.or_true, Bool.true_or, Bool.or_false, Bool.false_or, decide_true, decide_false, Nat.reduceSub, Nat.reduceAdd, Nat.reduceLeDiff, Nat.reduceEqDiff, Nat.zero_add, if_true, if_false, reduceIte, reduceCtorEq, Bool.false_eq_true, p24, big, i0, g0]
  by_cases ha : 0 < a
  · have fd : fdivI (.int a) (nD k) = some (.int (a.fdiv k)) := fdiv_i (by omega) (by omega)
    simp only [init, retOf, seqG, setG, newG, iffG, rtG, drG, asgG, nxG, noG, liftP, liftT, nwM, tb, tbM, op1, op1M, op2, op2M, vG, rG, fG, cG, callG, aNil, aCons, aStar, tAndG, tOrG, tNotG, tAndM, tOrM, tNotM, andG, orG, Dn.andM, Dn.orM, ifG, ifM, boolOf, nmT, nilT, consT, tupT, setVG, fzV, olV, odV, parG, par3G', notD, negD, tupM, lstN, lenD, listI, cutN.listOf, wipeR, putBack, fzOf, intOf, iiG, iiB, iiC, List.map_cons, List.map_nil, List.cons_append, List.nil_append, List.append_nil, List.length_cons, List.length_nil, List.length_map, List.replicate_succ, List.replicate_zero, List.getElem?_cons_zero, List.getElem?_cons_succ, List.set_cons_zero, List.set_cons_succ, Option.bind_some, Option.bind_none, Option.map_some, Option.map_none, Bool.not_true, Bool.not_false, Bool.true_and, Bool.and_true, Bool.false_and, Bool.and_false, Bool.or_true, Bool.true_or, Bool.or_false, Bool.false_or, decide_true, decide_false, Nat.reduceSub, Nat.reduceAdd, Nat.reduceLeDiff, Nat.reduceEqDiff, Nat.zero_add, if_true, if_false, reduceIte, reduceCtorEq, Bool.false_eq_true, ha, i0, intD, md, fd, stG, olAt, olSet, puAt]
    exact ⟨_, _, rfl, mdl a, _, _, _, rfl, hb0, hb1, hc0, by omega⟩
  · have i2 : ixD (.list [.int a, .int b, .int c]) (.int 2) = some (.int c) := rfl
    have j1 : ixD (.list [.int a, .int b, .int (c + 1)]) (.int 1) = some (.int b) := rfl
    have j2 : ixD (.list [.int a, .int b, .int (c + 1)]) (.int 2) = some (.int (c + 1)) := rfl
    have m1 : mulI (.int 715827883) (.int (c + 1)) = some (.int (715827883 * (c + 1))) := mul_i (k := 30) (l := 31) (by decide) (by omega) (by omega)
    have s1 : ∀ x y : Int, addI (.int x) (.int y) = some (.int (x + y)) := fun _ _ => rfl
    have p1 : powI (.int (b + 715827883 * (c + 1))) (.int 3) = some (.int ((b + 715827883 * (c + 1)) ^ 3)) := pow_i (j := 3) (k := 64) (by omega) (by decide)
    have n1 : ∀ z : Int, modI (.int z) (.int 170141183460469231731687303715884105727) = some (.int (z % 170141183460469231731687303715884105727)) := fun z => mod_i (by decide)
    have n2 : ∀ z : Int, modI (.int z) (.int 1361129467683753853853498429727072845819) = some (.int (z % 1361129467683753853853498429727072845819)) := fun z => mod_i (by decide)
    have m2 : mulI (.int 87178291199) (.int (c + 1)) = some (.int (87178291199 * (c + 1))) := mul_i (k := 37) (l := 31) (by decide) (by omega) (by omega)
    generalize hx : (b + 715827883 * (c + 1)) ^ 3 = x at p1
    have hy := Int.emod_nonneg x (show (170141183460469231731687303715884105727 : Int) ≠ 0 by decide)
    have hy2 := Int.emod_lt_of_pos x (show (0 : Int) < 170141183460469231731687303715884105727 by decide)
    have n1x := n1 x
    generalize x % 170141183460469231731687303715884105727 = y at hy hy2 n1x
    have p2 : powI (.int (y + 87178291199 * (c + 1))) (.int 3) = some (.int ((y + 87178291199 * (c + 1)) ^ 3)) := pow_i (j := 3) (k := 130) (by omega) (by decide)
    have fd : ∀ z : Int, fdivI (.int z) (.int 3000017) = some (.int (z.fdiv 3000017)) := fun z => fdiv_i (by decide) (by decide)
    have cc : addI (.int c) (.int 1) = some (.int (c + 1)) := rfl
    simp only [init, retOf, seqG, setG, newG, iffG, rtG, drG, asgG, nxG, noG, liftP, liftT, nwM, tb, tbM, op1, op1M, op2, op2M, vG, rG, fG, cG, callG, aNil, aCons, aStar, tAndG, tOrG, tNotG, tAndM, tOrM, tNotM, andG, orG, Dn.andM, Dn.orM, ifG, ifM, boolOf, nmT, nilT, consT, tupT, setVG, fzV, olV, odV, parG, par3G', notD, negD, tupM, lstN, lenD, listI, cutN.listOf, wipeR, putBack, fzOf, intOf, iiG, iiB, iiC, List.map_cons, List.map_nil, List.cons_append, List.nil_append, List.append_nil, List.length_cons, List.length_nil, List.length_map, List.replicate_succ, List.replicate_zero, List.getElem?_cons_zero, List.getElem?_cons_succ, List.set_cons_zero, List.set_cons_succ, Option.bind_some, Option.bind_none, Option.map_some, Option.map_none, Bool.not_true, Bool.not_false, Bool.true_and, Bool.and_true, Bool.false_and, Bool.and_false, Bool.or_true, Bool.true_or, Bool.or_false, Bool.false_or, decide_true, decide_false, Nat.reduceSub, Nat.reduceAdd, Nat.reduceLeDiff, Nat.reduceEqDiff, Nat.zero_add, if_true, if_false, reduceIte, reduceCtorEq, Bool.false_eq_true, ha, stG, olAt, olSet]
    simp only [i2, cc, init, retOf, seqG, setG, newG, iffG, rtG, drG, asgG, nxG, noG, liftP, liftT, nwM, tb, tbM, op1, op1M, op2, op2M, vG, rG, fG, cG, callG, aNil, aCons, aStar, tAndG, tOrG, tNotG, tAndM, tOrM, tNotM, andG, orG, Dn.andM, Dn.orM, ifG, ifM, boolOf, nmT, nilT, consT, tupT, setVG, fzV, olV, odV, parG, par3G', notD, negD, tupM, lstN, lenD, listI, cutN.listOf, wipeR, putBack, fzOf, intOf, iiG, iiB, iiC, List.map_cons, List.map_nil, List.cons_append, List.nil_append, List.append_nil, List.length_cons, List.length_nil, List.length_map, List.replicate_succ, List.replicate_zero, List.getElem?_cons_zero, List.getElem?_cons_succ, List.set_cons_zero, List.set_cons_succ, Option.bind_some, Option.bind_none, Option.map_some, Option.map_none, Bool.not_true, Bool.not_false, Bool.true_and, Bool.and_true, Bool.false_and, Bool.and_false, Bool.or_true, Bool.true_or, Bool.or_false, Bool.false_or, decide_true, decide_false, Nat.reduceSub, Nat.reduceAdd, Nat.reduceLeDiff, Nat.reduceEqDiff, Nat.zero_add, if_true, if_false, reduceIte, reduceCtorEq, Bool.false_eq_true, show L2.ixN 3 2 = some 2 from rfl, j1, j2, m1, s1, p1, intD, n1x, m2, p2, n2, fd, md, puAt]
    exact ⟨_, _, rfl, mdl _, a, b, c + 1, rfl, hb0, hb1, by omega, by omega⟩
end K85
end
section
set_option Elab.async false
set_option linter.all false
set_option maxRecDepth 100000
set_option maxHeartbeats 4000000
namespace K85
open PySem L2 Dn Rk
theorem pick (d : Nat) (h : d < 5) : ∃ s : Sg, ixD (.list [sD .W, sD .L, sD .S, sD .S, sD .L]) (nD d) = some (sD s) := by
  match d, h with
  | 0, _ => exact ⟨.W, rfl⟩
  | 1, _ => exact ⟨.L, rfl⟩
  | 2, _ => exact ⟨.S, rfl⟩
  | 3, _ => exact ⟨.S, rfl⟩
  | 4, _ => exact ⟨.L, rfl⟩
theorem ixN_nat {n k : Nat} (h : k < n) : L2.ixN n (k : Int) = some k := by
  unfold L2.ixN
  rw [if_pos (by omega), if_pos (by omega), Int.toNat_natCast]
theorem ix_ss (ss : List Sg) (k : Nat) (h : k < ss.length) : ixD (.list (ss.map sD)) (nD k) = some (sD (ss.getD k .S)) := by
  show L2.atI (ss.map sD) (k : Int) = _
  rw [atI_nat _ _ (by rw [List.length_map]; exact h), List.getElem_map, List.getD_eq_getElem?_getD, List.getElem?_eq_getElem h]; rfl
theorem law_fact {m n : Nat} (hn : n ≤ 60) (hm : m + n < 10 ^ 9) {ps : List PyData} (h : Wl m ps) (H : List Nat) (hH : ∀ k ∈ H, k < n) :
    ∃ g ps', runP 5 g__law_fact ps [nD n, nsD H] = some (fD g, ps') ∧ g.length = n ∧ Wl (m + n) ps' := by
  obtain ⟨ys, ρ', e1, ps1, ss, rfl, w1, rfl, l1⟩ := lc_step (vs := [4]) (td := nmT 4) (tt := yesM) (ge := e__law_fact_1) nD
    (fun j acc ρ => ∃ ps1 ss, ρ = [some (.pu ps1), some (.fz (nD n)), some (.fz (nsD H)), none, none] ∧ Wl (m + j) ps1 ∧ acc = List.map sD ss ∧ ss.length = j) (List.range n) 0 []
    [some (.pu ps), some (.fz (nD n)), some (.fz (nsD H)), none, none] (by
      rintro j x acc ρ hj ⟨ps1, ss, rfl, w1, rfl, l1⟩
      obtain ⟨rfl, hj'⟩ := rng_get hj
      rw [Nat.zero_add] at w1 l1 ⊢
      obtain ⟨d, ps2, d1, d2, d3⟩ := draw (k := 5) w1 (by omega) (by omega) (by omega)
      obtain ⟨s, hs⟩ := pick d d2
      have he : e__law_fact_1 [some (.pu ps1), some (.fz (nD n)), some (.fz (nsD H)), none, some (.fz (nD x))] = some (sD s, [some (.pu ps2), some (.fz (nD n)), some (.fz (nsD H)), none, some (.fz (nD x))]) := by
        have d1 : runP 5 g__law_draw ps1 [.int 5] = some (nD d, ps2) := d1
        unfold e__law_fact_1
        simp only [init, retOf, seqG, setG, newG, iffG, rtG, drG, asgG, nxG, noG, liftP, liftT, nwM, tb, tbM, op1, op1M, op2, op2M, vG, rG, fG, cG, callG, aNil, aCons, aStar, tAndG, tOrG, tNotG, tAndM, tOrM, tNotM, andG, orG, Dn.andM, Dn.orM, ifG, ifM, boolOf, nmT, nilT, consT, tupT, setVG, fzV, olV, odV, parG, par3G', notD, negD, tupM, lstN, lenD, listI, cutN.listOf, wipeR, putBack, fzOf, intOf, iiG, iiB, iiC, List.map_cons, List.map_nil, List.cons_append, List.nil_append, List.append_nil, List.length_cons, List.length_nil, List.length_map, List.replicate_succ, List.replicate_zero, List.getElem?_cons_zero, List.getElem?_cons_succ, List.set_cons_zero, List.set_cons_succ, Option.bind_some, Option.bind_none, Option.map_some, Option.map_none, Bool.not_true, Bool.not_false, Bool.true_and, Bool.and_true, Bool.false_and, Bool.and_false, Bool.or_true, Bool.true_or, Bool.or_false, Bool.false_or, decide_true, decide_false, Nat.reduceSub, Nat.reduceAdd, Nat.reduceLeDiff, Nat.reduceEqDiff, Nat.zero_add, if_true, if_false, reduceIte, reduceCtorEq, Bool.false_eq_true, str_W, str_L, str_S, lit_W, lit_L, lit_S, callPG, olAt, olSet, d1, hs]
      refine ⟨_, true, _, rfl, rfl, fun _ => ⟨_, _, he, ps2, ss ++ [s], rfl, by rw [show m + (x + 1) = m + x + 1 by omega]; exact d3, by rw [List.map_append]; rfl, by simp [l1]⟩, fun h => by cases h⟩) ⟨ps, [], rfl, h, rfl, rfl⟩
  rw [Nat.zero_add, List.length_range] at w1 l1
  -- the first hidden rule that speaks is a W
  obtain ⟨o, ρ2, f1, f2, ss2, x4, f3, f4⟩ := for_typed (td := nmT 4) (b := b__law_fact_1) nD
    (fun j ρ => ∃ x4, ρ = [some (.pu ps1), some (.fz (nD n)), some (.fz (nsD H)), some (.ol (ss.map sD)), x4])
    (fun o ρ => o = .nx ∧ ∃ ss2 x4, ρ = [some (.pu ps1), some (.fz (nD n)), some (.fz (nsD H)), some (.ol (List.map sD ss2)), x4] ∧ ss2.length = n) H 0
    [some (.pu ps1), some (.fz (nD n)), some (.fz (nsD H)), some (.ol (ss.map sD)), none] (by
      rintro j r ρ hj ⟨x4, rfl⟩
      have hr := hH r (List.mem_of_getElem? hj)
      have ix := ix_ss ss r (by omega)
      have hixN : L2.ixN ss.length (r : Int) = some r := ixN_nat (by omega)
      by_cases e : ss.getD r .S = .S
      · refine ⟨_, .nx, [some (.pu ps1), some (.fz (nD n)), some (.fz (nsD H)), some (.ol (ss.map sD)), some (.fz (nD r))], rfl, ?_, _, rfl⟩
        unfold b__law_fact_1
        simp only [init, retOf, seqG, setG, newG, iffG, rtG, drG, asgG, nxG, noG, liftP, liftT, nwM, tb, tbM, op1, op1M, op2, op2M, vG, rG, fG, cG, callG, aNil, aCons, aStar, tAndG, tOrG, tNotG, tAndM, tOrM, tNotM, andG, orG, Dn.andM, Dn.orM, ifG, ifM, boolOf, nmT, nilT, consT, tupT, setVG, fzV, olV, odV, parG, par3G', notD, negD, tupM, lstN, lenD, listI, cutN.listOf, wipeR, putBack, fzOf, intOf, iiG, iiB, iiC, List.map_cons, List.map_nil, List.cons_append, List.nil_append, List.append_nil, List.length_cons, List.length_nil, List.length_map, List.replicate_succ, List.replicate_zero, List.getElem?_cons_zero, List.getElem?_cons_succ, List.set_cons_zero, List.set_cons_succ, Option.bind_some, Option.bind_none, Option.map_some, Option.map_none, Bool.not_true, Bool.not_false, Bool.true_and, Bool.and_true, Bool.false_and, Bool.and_false, Bool.or_true, Bool.true_or, Bool.or_false, Bool.false_or, decide_true, decide_false, Nat.reduceSub, Nat.reduceAdd, Nat.reduceLeDiff, Nat.reduceEqDiff, Nat.zero_add, if_true, if_false, reduceIte, reduceCtorEq, Bool.false_eq_true, ix, str_S, lit_S, ne_s, e]
      · refine ⟨_, .bk, [some (.pu ps1), some (.fz (nD n)), some (.fz (nsD H)), some (.ol ((ss.set r .W).map sD)), some (.fz (nD r))], rfl, ?_, rfl, ss.set r .W, _, rfl, by rw [List.length_set]; exact l1⟩
        unfold b__law_fact_1
        simp only [init, retOf, seqG, setG, newG, iffG, rtG, drG, asgG, nxG, noG, liftP, liftT, nwM, tb, tbM, op1, op1M, op2, op2M, vG, rG, fG, cG, callG, aNil, aCons, aStar, tAndG, tOrG, tNotG, tAndM, tOrM, tNotM, andG, orG, Dn.andM, Dn.orM, ifG, ifM, boolOf, nmT, nilT, consT, tupT, setVG, fzV, olV, odV, parG, par3G', notD, negD, tupM, lstN, lenD, listI, cutN.listOf, wipeR, putBack, fzOf, intOf, iiG, iiB, iiC, List.map_cons, List.map_nil, List.cons_append, List.nil_append, List.append_nil, List.length_cons, List.length_nil, List.length_map, List.replicate_succ, List.replicate_zero, List.getElem?_cons_zero, List.getElem?_cons_succ, List.set_cons_zero, List.set_cons_succ, Option.bind_some, Option.bind_none, Option.map_some, Option.map_none, Bool.not_true, Bool.not_false, Bool.true_and, Bool.and_true, Bool.false_and, Bool.and_false, Bool.or_true, Bool.true_or, Bool.or_false, Bool.false_or, decide_true, decide_false, Nat.reduceSub, Nat.reduceAdd, Nat.reduceLeDiff, Nat.reduceEqDiff, Nat.zero_add, if_true, if_false, reduceIte, reduceCtorEq, Bool.false_eq_true, ix, str_S, lit_S, ne_s, e, stG, olAt, olSet, str_W, lit_W]
        simp only [nD, init, retOf, seqG, setG, newG, iffG, rtG, drG, asgG, nxG, noG, liftP, liftT, nwM, tb, tbM, op1, op1M, op2, op2M, vG, rG, fG, cG, callG, aNil, aCons, aStar, tAndG, tOrG, tNotG, tAndM, tOrM, tNotM, andG, orG, Dn.andM, Dn.orM, ifG, ifM, boolOf, nmT, nilT, consT, tupT, setVG, fzV, olV, odV, parG, par3G', notD, negD, tupM, lstN, lenD, listI, cutN.listOf, wipeR, putBack, fzOf, intOf, iiG, iiB, iiC, List.map_cons, List.map_nil, List.cons_append, List.nil_append, List.append_nil, List.length_cons, List.length_nil, List.length_map, List.replicate_succ, List.replicate_zero, List.getElem?_cons_zero, List.getElem?_cons_succ, List.set_cons_zero, List.set_cons_succ, Option.bind_some, Option.bind_none, Option.map_some, Option.map_none, Bool.not_true, Bool.not_false, Bool.true_and, Bool.and_true, Bool.false_and, Bool.and_false, Bool.or_true, Bool.true_or, Bool.or_false, Bool.false_or, decide_true, decide_false, Nat.reduceSub, Nat.reduceAdd, Nat.reduceLeDiff, Nat.reduceEqDiff, Nat.zero_add, if_true, if_false, reduceIte, reduceCtorEq, Bool.false_eq_true, hixN, List.map_set]
        rfl) (by
      rintro ρ ⟨x4, rfl⟩
      exact ⟨rfl, ss, x4, rfl, l1⟩) ⟨none, rfl⟩
  subst f2 f3
  have jn := joinD_s ss2 (by omega)
  refine ⟨ss2, ps1, ?_, f4, w1⟩
  rw [runP_eq]
  unfold g__law_fact
  simp only [init, retOf, seqG, setG, newG, iffG, rtG, drG, asgG, nxG, noG, liftP, liftT, nwM, tb, tbM, op1, op1M, op2, op2M, vG, rG, fG, cG, callG, aNil, aCons, aStar, tAndG, tOrG, tNotG, tAndM, tOrM, tNotM, andG, orG, Dn.andM, Dn.orM, ifG, ifM, boolOf, nmT, nilT, consT, tupT, setVG, fzV, olV, odV, parG, par3G', notD, negD, tupM, lstN, lenD, listI, cutN.listOf, wipeR, putBack, fzOf, intOf, iiG, iiB, iiC, List.map_cons, List.map_nil, List.cons_append, List.nil_append, List.append_nil, List.length_cons, List.length_nil, List.length_map, List.replicate_succ, List.replicate_zero, List.getElem?_cons_zero, List.getElem?_cons_succ, List.set_cons_zero, List.set_cons_succ, Option.bind_some, Option.bind_none, Option.map_some, Option.map_none, Bool.not_true, Bool.not_false, Bool.true_and, Bool.and_true, Bool.false_and, Bool.and_false, Bool.or_true, Bool.true_or, Bool.or_false, Bool.false_or, decide_true, decide_false, Nat.reduceSub, Nat.reduceAdd, Nat.reduceLeDiff, Nat.reduceEqDiff, Nat.zero_add, if_true, if_false, reduceIte, reduceCtorEq, Bool.false_eq_true]
  rw [lcN_eq (rng_n (n := n) (ρ' := [some (.pu ps), some (.fz (nD n)), some (.fz (nsD H)), none, none]) rfl (by omega)) (by simp; omega)]
  simp only [wipeR, List.set_cons_zero, List.set_cons_succ]
  rw [e1]
  simp only [init, retOf, seqG, setG, newG, iffG, rtG, drG, asgG, nxG, noG, liftP, liftT, nwM, tb, tbM, op1, op1M, op2, op2M, vG, rG, fG, cG, callG, aNil, aCons, aStar, tAndG, tOrG, tNotG, tAndM, tOrM, tNotM, andG, orG, Dn.andM, Dn.orM, ifG, ifM, boolOf, nmT, nilT, consT, tupT, setVG, fzV, olV, odV, parG, par3G', notD, negD, tupM, lstN, lenD, listI, cutN.listOf, wipeR, putBack, fzOf, intOf, iiG, iiB, iiC, List.map_cons, List.map_nil, List.cons_append, List.nil_append, List.append_nil, List.length_cons, List.length_nil, List.length_map, List.replicate_succ, List.replicate_zero, List.getElem?_cons_zero, List.getElem?_cons_succ, List.set_cons_zero, List.set_cons_succ, Option.bind_some, Option.bind_none, Option.map_some, Option.map_none, Bool.not_true, Bool.not_false, Bool.true_and, Bool.and_true, Bool.false_and, Bool.and_false, Bool.or_true, Bool.true_or, Bool.or_false, Bool.false_or, decide_true, decide_false, Nat.reduceSub, Nat.reduceAdd, Nat.reduceLeDiff, Nat.reduceEqDiff, Nat.zero_add, if_true, if_false, reduceIte, reduceCtorEq, Bool.false_eq_true]
  rw [forG_eq (ds := H.map nD) (ρ1 := [some (.pu ps1), some (.fz (nD n)), some (.fz (nsD H)), some (.ol (ss.map sD)), none]) (by simp only [init, retOf, seqG, setG, newG, iffG, rtG, drG, asgG, nxG, noG, liftP, liftT, nwM, tb, tbM, op1, op1M, op2, op2M, vG, rG, fG, cG, callG, aNil, aCons, aStar, tAndG, tOrG, tNotG, tAndM, tOrM, tNotM, andG, orG, Dn.andM, Dn.orM, ifG, ifM, boolOf, nmT, nilT, consT, tupT, setVG, fzV, olV, odV, parG, par3G', notD, negD, tupM, lstN, lenD, listI, cutN.listOf, wipeR, putBack, fzOf, intOf, iiG, iiB, iiC, List.map_cons, List.map_nil, List.cons_append, List.nil_append, List.append_nil, List.length_cons, List.length_nil, List.length_map, List.replicate_succ, List.replicate_zero, List.getElem?_cons_zero, List.getElem?_cons_succ, List.set_cons_zero, List.set_cons_succ, Option.bind_some, Option.bind_none, Option.map_some, Option.map_none, Bool.not_true, Bool.not_false, Bool.true_and, Bool.and_true, Bool.false_and, Bool.and_false, Bool.or_true, Bool.true_or, Bool.or_false, Bool.false_or, decide_true, decide_false, Nat.reduceSub, Nat.reduceAdd, Nat.reduceLeDiff, Nat.reduceEqDiff, Nat.zero_add, if_true, if_false, reduceIte, reduceCtorEq, Bool.false_eq_true, nsD]), f1]
  simp only [init, retOf, seqG, setG, newG, iffG, rtG, drG, asgG, nxG, noG, liftP, liftT, nwM, tb, tbM, op1, op1M, op2, op2M, vG, rG, fG, cG, callG, aNil, aCons, aStar, tAndG, tOrG, tNotG, tAndM, tOrM, tNotM, andG, orG, Dn.andM, Dn.orM, ifG, ifM, boolOf, nmT, nilT, consT, tupT, setVG, fzV, olV, odV, parG, par3G', notD, negD, tupM, lstN, lenD, listI, cutN.listOf, wipeR, putBack, fzOf, intOf, iiG, iiB, iiC, List.map_cons, List.map_nil, List.cons_append, List.nil_append, List.append_nil, List.length_cons, List.length_nil, List.length_map, List.replicate_succ, List.replicate_zero, List.getElem?_cons_zero, List.getElem?_cons_succ, List.set_cons_zero, List.set_cons_succ, Option.bind_some, Option.bind_none, Option.map_some, Option.map_none, Bool.not_true, Bool.not_false, Bool.true_and, Bool.and_true, Bool.false_and, Bool.and_false, Bool.or_true, Bool.true_or, Bool.or_false, Bool.false_or, decide_true, decide_false, Nat.reduceSub, Nat.reduceAdd, Nat.reduceLeDiff, Nat.reduceEqDiff, Nat.zero_add, if_true, if_false, reduceIte, reduceCtorEq, Bool.false_eq_true, str_E, jn, puAt]
/-- weaker: a W stays a W, an L was one -/
def Weak (f g : Fact) : Prop := g.length = f.length ∧ (∀ k, f.getD k .S = .W → g.getD k .S = .W) ∧ ∀ k, g.getD k .S = .L → f.getD k .S = .L
theorem Weak.rfl' {f : Fact} : Weak f f := ⟨rfl, fun _ h => h, fun _ h => h⟩
theorem getD_set {ss : List Sg} {r k : Nat} {s : Sg} (hr : r < ss.length) : (ss.set r s).getD k .S = if k = r then s else ss.getD k .S := by
  rw [List.getD_eq_getElem?_getD, List.getD_eq_getElem?_getD]
  by_cases e : k = r
  · subst e; rw [List.getElem?_set_self hr]; simp
  · rw [List.getElem?_set_ne (Ne.symm e), if_neg e]
theorem Weak.set {f g : Fact} (h : Weak f g) {r : Nat} (hr : r < g.length) {s : Sg} (hs : s ≠ .L) (hw : f.getD r .S ≠ .W ∨ s = .W) : Weak f (g.set r s) := by
  obtain ⟨h1, h2, h3⟩ := h
  refine ⟨by rw [List.length_set]; exact h1, fun k hk => ?_, fun k hk => ?_⟩
  · rw [getD_set hr]
    by_cases e : k = r
    · subst e
      rw [if_pos rfl]
      exact hw.resolve_left fun z => z hk
    · rw [if_neg e]; exact h2 k hk
  · rw [getD_set hr] at hk
    by_cases e : k = r
    · rw [if_pos e] at hk; exact absurd hk hs
    · rw [if_neg e] at hk; exact h3 k hk
theorem weaker {m : Nat} {ps : List PyData} (h : Wl m ps) (f : Fact) (hn : f.length ≤ 60) (hm : m + f.length < 10 ^ 9) : ∃ g ps', runP 5 g__law_weaker ps [fD f] = some (fD g, ps') ∧ Weak f g ∧ Wl (m + f.length) ps' := by
  obtain ⟨ρ', e1, ps1, g, x3, x4, rfl, w1, w2⟩ := for_all (td := nmT 3) (b := b__law_weaker_1) nD
    (fun j ρ => ∃ ps1 g x3 x4, ρ = [some (.pu ps1), some (.fz (fD f)), some (.ol (List.map sD g)), x3, x4] ∧ Wl (m + j) ps1 ∧ Weak f g) (List.range f.length)
    [some (.pu ps), some (.fz (fD f)), some (.ol (f.map sD)), none, none] (by
      rintro j r ρ hj ⟨ps1, g, x3, x4, rfl, w1, w2⟩
      obtain ⟨rfl, hr⟩ := rng_get hj
      obtain ⟨d, ps2, d1, d2, d3⟩ := draw (k := 6) w1 (by omega) (by omega) (by omega)
      have d1 : runP 5 g__law_draw ps1 [.int 6] = some (nD d, ps2) := d1
      have hrg : r < g.length := by rw [w2.1]; exact hr
      have hb : ∃ g', b__law_weaker_1 [some (.pu ps1), some (.fz (fD f)), some (.ol (g.map sD)), some (.fz (nD r)), x4] = some (.nx, [some (.pu ps2), some (.fz (fD f)), some (.ol (List.map sD g')), some (.fz (nD r)), some (.fz (nD d))]) ∧ Weak f g' := by
        have ix := ix_ss g r hrg
        have hixN : L2.ixN g.length (r : Int) = some r := ixN_nat hrg
        have lt2 : ltI (nD d) (.int 2) = some (.bool (decide (d < 2))) := by
          show some (PyData.bool (decide ((d : Int) < 2))) = _
          congr 2
          exact decide_eq_decide.mpr ⟨fun h => by omega, fun h => by omega⟩
        have eL : ∀ k, eqA (sD k) (sD .L) = some (.bool (decide (k = .L))) := fun k => eq_s k .L
        have eS : ∀ k, eqA (sD k) (sD .S) = some (.bool (decide (k = .S))) := fun k => eq_s k .S
        -- the sign behind the first test
        have first : ∃ g1, Weak f g1 ∧ g1.length = g.length ∧ (iffG (liftT (tAndG (tb (op2 eqA (vG 4) (cG (.int 0)))) (tb (op2 eqA (op2 ixD (rG 2) (vG 3)) (cG (.str "L")))))) (stG 2 (vG 3) (liftP (cG (.str ".")))) nxG)
            [some (.pu ps2), some (.fz (fD f)), some (.ol (g.map sD)), some (.fz (nD r)), some (.fz (nD d))] = some (.nx, [some (.pu ps2), some (.fz (fD f)), some (.ol (List.map sD g1)), some (.fz (nD r)), some (.fz (nD d))]) := by
          by_cases c : d = 0 ∧ g.getD r .S = .L
          · refine ⟨g.set r .S, w2.set hrg (by decide) (.inl fun z => ?_), by simp, ?_⟩
            · rw [w2.2.1 r z] at c; cases c.2
            · simp only [init, retOf, seqG, setG, newG, iffG, rtG, drG, asgG, nxG, noG, liftP, liftT, nwM, tb, tbM, op1, op1M, op2, op2M, vG, rG, fG, cG, callG, aNil, aCons, aStar, tAndG, tOrG, tNotG, tAndM, tOrM, tNotM, andG, orG, Dn.andM, Dn.orM, ifG, ifM, boolOf, nmT, nilT, consT, tupT, setVG, fzV, olV, odV, parG, par3G', notD, negD, tupM, lstN, lenD, listI, cutN.listOf, wipeR, putBack, fzOf, intOf, iiG, iiB, iiC, List.map_cons, List.map_nil, List.cons_append, List.nil_append, List.append_nil, List.length_cons, List.length_nil, List.length_map, List.replicate_succ, List.replicate_zero, List.getElem?_cons_zero, List.getElem?_cons_succ, List.set_cons_zero, List.set_cons_succ, Option.bind_some, Option.bind_none, Option.map_some, Option.map_none, Bool.not_true, Bool.not_false, Bool.true_and, Bool.and_true, Bool.false_and, Bool.and_false, Bool.or_true, Bool.true_or, Bool.or_false, Bool.false_or, decide_true, decide_false, Nat.reduceSub, Nat.reduceAdd, Nat.reduceLeDiff, Nat.reduceEqDiff, Nat.zero_add, if_true, if_false, reduceIte, reduceCtorEq, Bool.false_eq_true, int_0, eq_n, c.1, ix, str_L, lit_L, eL, c.2, stG, olAt, olSet, str_S, lit_S]
              simp only [nD, init, retOf, seqG, setG, newG, iffG, rtG, drG, asgG, nxG, noG, liftP, liftT, nwM, tb, tbM, op1, op1M, op2, op2M, vG, rG, fG, cG, callG, aNil, aCons, aStar, tAndG, tOrG, tNotG, tAndM, tOrM, tNotM, andG, orG, Dn.andM, Dn.orM, ifG, ifM, boolOf, nmT, nilT, consT, tupT, setVG, fzV, olV, odV, parG, par3G', notD, negD, tupM, lstN, lenD, listI, cutN.listOf, wipeR, putBack, fzOf, intOf, iiG, iiB, iiC, List.map_cons, List.map_nil, List.cons_append, List.nil_append, List.append_nil, List.length_cons, List.length_nil, List.length_map, List.replicate_succ, List.replicate_zero, List.getElem?_cons_zero, List.getElem?_cons_succ, List.set_cons_zero, List.set_cons_succ, Option.bind_some, Option.bind_none, Option.map_some, Option.map_none, Bool.not_true, Bool.not_false, Bool.true_and, Bool.and_true, Bool.false_and, Bool.and_false, Bool.or_true, Bool.true_or, Bool.or_false, Bool.false_or, decide_true, decide_false, Nat.reduceSub, Nat.reduceAdd, Nat.reduceLeDiff, Nat.reduceEqDiff, Nat.zero_add, if_true, if_false, reduceIte, reduceCtorEq, Bool.false_eq_true, hixN, List.map_set]
          · refine ⟨g, w2, rfl, ?_⟩
            simp only [init, retOf, seqG, setG, newG, iffG, rtG, drG, asgG, nxG, noG, liftP, liftT, nwM, tb, tbM, op1, op1M, op2, op2M, vG, rG, fG, cG, callG, aNil, aCons, aStar, tAndG, tOrG, tNotG, tAndM, tOrM, tNotM, andG, orG, Dn.andM, Dn.orM, ifG, ifM, boolOf, nmT, nilT, consT, tupT, setVG, fzV, olV, odV, parG, par3G', notD, negD, tupM, lstN, lenD, listI, cutN.listOf, wipeR, putBack, fzOf, intOf, iiG, iiB, iiC, List.map_cons, List.map_nil, List.cons_append, List.nil_append, List.append_nil, List.length_cons, List.length_nil, List.length_map, List.replicate_succ, List.replicate_zero, List.getElem?_cons_zero, List.getElem?_cons_succ, List.set_cons_zero, List.set_cons_succ, Option.bind_some, Option.bind_none, Option.map_some, Option.map_none, Bool.not_true, Bool.not_false, Bool.true_and, Bool.and_true, Bool.false_and, Bool.and_false, Bool.or_true, Bool.true_or, Bool.or_false, Bool.false_or, decide_true, decide_false, Nat.reduceSub, Nat.reduceAdd, Nat.reduceLeDiff, Nat.reduceEqDiff, Nat.zero_add, if_true, if_false, reduceIte, reduceCtorEq, Bool.false_eq_true, int_0, eq_n, ix, str_L, lit_L, eL]
            by_cases c1 : d = 0
            · have c2 : ¬ g.getD r .S = .L := fun z => c ⟨c1, z⟩
              simp only [c1, c2, init, retOf, seqG, setG, newG, iffG, rtG, drG, asgG, nxG, noG, liftP, liftT, nwM, tb, tbM, op1, op1M, op2, op2M, vG, rG, fG, cG, callG, aNil, aCons, aStar, tAndG, tOrG, tNotG, tAndM, tOrM, tNotM, andG, orG, Dn.andM, Dn.orM, ifG, ifM, boolOf, nmT, nilT, consT, tupT, setVG, fzV, olV, odV, parG, par3G', notD, negD, tupM, lstN, lenD, listI, cutN.listOf, wipeR, putBack, fzOf, intOf, iiG, iiB, iiC, List.map_cons, List.map_nil, List.cons_append, List.nil_append, List.append_nil, List.length_cons, List.length_nil, List.length_map, List.replicate_succ, List.replicate_zero, List.getElem?_cons_zero, List.getElem?_cons_succ, List.set_cons_zero, List.set_cons_succ, Option.bind_some, Option.bind_none, Option.map_some, Option.map_none, Bool.not_true, Bool.not_false, Bool.true_and, Bool.and_true, Bool.false_and, Bool.and_false, Bool.or_true, Bool.true_or, Bool.or_false, Bool.false_or, decide_true, decide_false, Nat.reduceSub, Nat.reduceAdd, Nat.reduceLeDiff, Nat.reduceEqDiff, Nat.zero_add, if_true, if_false, reduceIte, reduceCtorEq, Bool.false_eq_true]
            · simp only [c1, init, retOf, seqG, setG, newG, iffG, rtG, drG, asgG, nxG, noG, liftP, liftT, nwM, tb, tbM, op1, op1M, op2, op2M, vG, rG, fG, cG, callG, aNil, aCons, aStar, tAndG, tOrG, tNotG, tAndM, tOrM, tNotM, andG, orG, Dn.andM, Dn.orM, ifG, ifM, boolOf, nmT, nilT, consT, tupT, setVG, fzV, olV, odV, parG, par3G', notD, negD, tupM, lstN, lenD, listI, cutN.listOf, wipeR, putBack, fzOf, intOf, iiG, iiB, iiC, List.map_cons, List.map_nil, List.cons_append, List.nil_append, List.append_nil, List.length_cons, List.length_nil, List.length_map, List.replicate_succ, List.replicate_zero, List.getElem?_cons_zero, List.getElem?_cons_succ, List.set_cons_zero, List.set_cons_succ, Option.bind_some, Option.bind_none, Option.map_some, Option.map_none, Bool.not_true, Bool.not_false, Bool.true_and, Bool.and_true, Bool.false_and, Bool.and_false, Bool.or_true, Bool.true_or, Bool.or_false, Bool.false_or, decide_true, decide_false, Nat.reduceSub, Nat.reduceAdd, Nat.reduceLeDiff, Nat.reduceEqDiff, Nat.zero_add, if_true, if_false, reduceIte, reduceCtorEq, Bool.false_eq_true]
        obtain ⟨g1, v1, v2, v3⟩ := first
        have hrg1 : r < g1.length := by omega
        have ix1 := ix_ss g1 r hrg1
        have hixN1 : L2.ixN g1.length (r : Int) = some r := ixN_nat hrg1
        by_cases c : d < 2 ∧ g1.getD r .S = .S
        · refine ⟨g1.set r .W, ?_, v1.set hrg1 (by decide) (.inr rfl)⟩
          unfold b__law_weaker_1
          have dd : (setG 4 (callPG 1 (runP 5 g__law_draw) 0 [] (aCons (liftP (cG (.int 6))) aNil))) [some (.pu ps1), some (.fz (fD f)), some (.ol (g.map sD)), some (.fz (nD r)), x4] = some (.nx, [some (.pu ps2), some (.fz (fD f)), some (.ol (g.map sD)), some (.fz (nD r)), some (.fz (nD d))]) := by
            simp only [init, retOf, seqG, setG, newG, iffG, rtG, drG, asgG, nxG, noG, liftP, liftT, nwM, tb, tbM, op1, op1M, op2, op2M, vG, rG, fG, cG, callG, aNil, aCons, aStar, tAndG, tOrG, tNotG, tAndM, tOrM, tNotM, andG, orG, Dn.andM, Dn.orM, ifG, ifM, boolOf, nmT, nilT, consT, tupT, setVG, fzV, olV, odV, parG, par3G', notD, negD, tupM, lstN, lenD, listI, cutN.listOf, wipeR, putBack, fzOf, intOf, iiG, iiB, iiC, List.map_cons, List.map_nil, List.cons_append, List.nil_append, List.append_nil, List.length_cons, List.length_nil, List.length_map, List.replicate_succ, List.replicate_zero, List.getElem?_cons_zero, List.getElem?_cons_succ, List.set_cons_zero, List.set_cons_succ, Option.bind_some, Option.bind_none, Option.map_some, Option.map_none, Bool.not_true, Bool.not_false, Bool.true_and, Bool.and_true, Bool.false_and, Bool.and_false, Bool.or_true, Bool.true_or, Bool.or_false, Bool.false_or, decide_true, decide_false, Nat.reduceSub, Nat.reduceAdd, Nat.reduceLeDiff, Nat.reduceEqDiff, Nat.zero_add, if_true, if_false, reduceIte, reduceCtorEq, Bool.false_eq_true, callPG, olAt, olSet, d1]
          unfold seqG
          rw [dd]
          show (Option.bind (iffG _ _ _ _) _) = _
          rw [v3]
          simp only [init, retOf, seqG, setG, newG, iffG, rtG, drG, asgG, nxG, noG, liftP, liftT, nwM, tb, tbM, op1, op1M, op2, op2M, vG, rG, fG, cG, callG, aNil, aCons, aStar, tAndG, tOrG, tNotG, tAndM, tOrM, tNotM, andG, orG, Dn.andM, Dn.orM, ifG, ifM, boolOf, nmT, nilT, consT, tupT, setVG, fzV, olV, odV, parG, par3G', notD, negD, tupM, lstN, lenD, listI, cutN.listOf, wipeR, putBack, fzOf, intOf, iiG, iiB, iiC, List.map_cons, List.map_nil, List.cons_append, List.nil_append, List.append_nil, List.length_cons, List.length_nil, List.length_map, List.replicate_succ, List.replicate_zero, List.getElem?_cons_zero, List.getElem?_cons_succ, List.set_cons_zero, List.set_cons_succ, Option.bind_some, Option.bind_none, Option.map_some, Option.map_none, Bool.not_true, Bool.not_false, Bool.true_and, Bool.and_true, Bool.false_and, Bool.and_false, Bool.or_true, Bool.true_or, Bool.or_false, Bool.false_or, decide_true, decide_false, Nat.reduceSub, Nat.reduceAdd, Nat.reduceLeDiff, Nat.reduceEqDiff, Nat.zero_add, if_true, if_false, reduceIte, reduceCtorEq, Bool.false_eq_true, lt2, c.1, ix1, str_S, lit_S, eS, c.2, stG, olAt, olSet, str_W, lit_W]
          simp only [nD, init, retOf, seqG, setG, newG, iffG, rtG, drG, asgG, nxG, noG, liftP, liftT, nwM, tb, tbM, op1, op1M, op2, op2M, vG, rG, fG, cG, callG, aNil, aCons, aStar, tAndG, tOrG, tNotG, tAndM, tOrM, tNotM, andG, orG, Dn.andM, Dn.orM, ifG, ifM, boolOf, nmT, nilT, consT, tupT, setVG, fzV, olV, odV, parG, par3G', notD, negD, tupM, lstN, lenD, listI, cutN.listOf, wipeR, putBack, fzOf, intOf, iiG, iiB, iiC, List.map_cons, List.map_nil, List.cons_append, List.nil_append, List.append_nil, List.length_cons, List.length_nil, List.length_map, List.replicate_succ, List.replicate_zero, List.getElem?_cons_zero, List.getElem?_cons_succ, List.set_cons_zero, List.set_cons_succ, Option.bind_some, Option.bind_none, Option.map_some, Option.map_none, Bool.not_true, Bool.not_false, Bool.true_and, Bool.and_true, Bool.false_and, Bool.and_false, Bool.or_true, Bool.true_or, Bool.or_false, Bool.false_or, decide_true, decide_false, Nat.reduceSub, Nat.reduceAdd, Nat.reduceLeDiff, Nat.reduceEqDiff, Nat.zero_add, if_true, if_false, reduceIte, reduceCtorEq, Bool.false_eq_true, hixN1, List.map_set]
        · refine ⟨g1, ?_, v1⟩
          unfold b__law_weaker_1
          have dd : (setG 4 (callPG 1 (runP 5 g__law_draw) 0 [] (aCons (liftP (cG (.int 6))) aNil))) [some (.pu ps1), some (.fz (fD f)), some (.ol (g.map sD)), some (.fz (nD r)), x4] = some (.nx, [some (.pu ps2), some (.fz (fD f)), some (.ol (g.map sD)), some (.fz (nD r)), some (.fz (nD d))]) := by
            simp only [init, retOf, seqG, setG, newG, iffG, rtG, drG, asgG, nxG, noG, liftP, liftT, nwM, tb, tbM, op1, op1M, op2, op2M, vG, rG, fG, cG, callG, aNil, aCons, aStar, tAndG, tOrG, tNotG, tAndM, tOrM, tNotM, andG, orG, Dn.andM, Dn.orM, ifG, ifM, boolOf, nmT, nilT, consT, tupT, setVG, fzV, olV, odV, parG, par3G', notD, negD, tupM, lstN, lenD, listI, cutN.listOf, wipeR, putBack, fzOf, intOf, iiG, iiB, iiC, List.map_cons, List.map_nil, List.cons_append, List.nil_append, List.append_nil, List.length_cons, List.length_nil, List.length_map, List.replicate_succ, List.replicate_zero, List.getElem?_cons_zero, List.getElem?_cons_succ, List.set_cons_zero, List.set_cons_succ, Option.bind_some, Option.bind_none, Option.map_some, Option.map_none, Bool.not_true, Bool.not_false, Bool.true_and, Bool.and_true, Bool.false_and, Bool.and_false, Bool.or_true, Bool.true_or, Bool.or_false, Bool.false_or, decide_true, decide_false, Nat.reduceSub, Nat.reduceAdd, Nat.reduceLeDiff, Nat.reduceEqDiff, Nat.zero_add, if_true, if_false, reduceIte, reduceCtorEq, Bool.false_eq_true, callPG, olAt, olSet, d1]
          unfold seqG
          rw [dd]
          show (Option.bind (iffG _ _ _ _) _) = _
          rw [v3]
          simp only [init, retOf, seqG, setG, newG, iffG, rtG, drG, asgG, nxG, noG, liftP, liftT, nwM, tb, tbM, op1, op1M, op2, op2M, vG, rG, fG, cG, callG, aNil, aCons, aStar, tAndG, tOrG, tNotG, tAndM, tOrM, tNotM, andG, orG, Dn.andM, Dn.orM, ifG, ifM, boolOf, nmT, nilT, consT, tupT, setVG, fzV, olV, odV, parG, par3G', notD, negD, tupM, lstN, lenD, listI, cutN.listOf, wipeR, putBack, fzOf, intOf, iiG, iiB, iiC, List.map_cons, List.map_nil, List.cons_append, List.nil_append, List.append_nil, List.length_cons, List.length_nil, List.length_map, List.replicate_succ, List.replicate_zero, List.getElem?_cons_zero, List.getElem?_cons_succ, List.set_cons_zero, List.set_cons_succ, Option.bind_some, Option.bind_none, Option.map_some, Option.map_none, Bool.not_true, Bool.not_false, Bool.true_and, Bool.and_true, Bool.false_and, Bool.and_false, Bool.or_true, Bool.true_or, Bool.or_false, Bool.false_or, decide_true, decide_false, Nat.reduceSub, Nat.reduceAdd, Nat.reduceLeDiff, Nat.reduceEqDiff, Nat.zero_add, if_true, if_false, reduceIte, reduceCtorEq, Bool.false_eq_true, lt2, ix1, str_S, lit_S, eS]
          by_cases c1 : d < 2
          · have c2 : ¬ g1.getD r .S = .S := fun z => c ⟨c1, z⟩
            simp only [c1, c2, init, retOf, seqG, setG, newG, iffG, rtG, drG, asgG, nxG, noG, liftP, liftT, nwM, tb, tbM, op1, op1M, op2, op2M, vG, rG, fG, cG, callG, aNil, aCons, aStar, tAndG, tOrG, tNotG, tAndM, tOrM, tNotM, andG, orG, Dn.andM, Dn.orM, ifG, ifM, boolOf, nmT, nilT, consT, tupT, setVG, fzV, olV, odV, parG, par3G', notD, negD, tupM, lstN, lenD, listI, cutN.listOf, wipeR, putBack, fzOf, intOf, iiG, iiB, iiC, List.map_cons, List.map_nil, List.cons_append, List.nil_append, List.append_nil, List.length_cons, List.length_nil, List.length_map, List.replicate_succ, List.replicate_zero, List.getElem?_cons_zero, List.getElem?_cons_succ, List.set_cons_zero, List.set_cons_succ, Option.bind_some, Option.bind_none, Option.map_some, Option.map_none, Bool.not_true, Bool.not_false, Bool.true_and, Bool.and_true, Bool.false_and, Bool.and_false, Bool.or_true, Bool.true_or, Bool.or_false, Bool.false_or, decide_true, decide_false, Nat.reduceSub, Nat.reduceAdd, Nat.reduceLeDiff, Nat.reduceEqDiff, Nat.zero_add, if_true, if_false, reduceIte, reduceCtorEq, Bool.false_eq_true]
          · simp only [c1, init, retOf, seqG, setG, newG, iffG, rtG, drG, asgG, nxG, noG, liftP, liftT, nwM, tb, tbM, op1, op1M, op2, op2M, vG, rG, fG, cG, callG, aNil, aCons, aStar, tAndG, tOrG, tNotG, tAndM, tOrM, tNotM, andG, orG, Dn.andM, Dn.orM, ifG, ifM, boolOf, nmT, nilT, consT, tupT, setVG, fzV, olV, odV, parG, par3G', notD, negD, tupM, lstN, lenD, listI, cutN.listOf, wipeR, putBack, fzOf, intOf, iiG, iiB, iiC, List.map_cons, List.map_nil, List.cons_append, List.nil_append, List.append_nil, List.length_cons, List.length_nil, List.length_map, List.replicate_succ, List.replicate_zero, List.getElem?_cons_zero, List.getElem?_cons_succ, List.set_cons_zero, List.set_cons_succ, Option.bind_some, Option.bind_none, Option.map_some, Option.map_none, Bool.not_true, Bool.not_false, Bool.true_and, Bool.and_true, Bool.false_and, Bool.and_false, Bool.or_true, Bool.true_or, Bool.or_false, Bool.false_or, decide_true, decide_false, Nat.reduceSub, Nat.reduceAdd, Nat.reduceLeDiff, Nat.reduceEqDiff, Nat.zero_add, if_true, if_false, reduceIte, reduceCtorEq, Bool.false_eq_true]
      obtain ⟨g', hb1, hb2⟩ := hb
      exact ⟨_, _, rfl, hb1, ps2, g', _, _, rfl, by rw [show m + (r + 1) = m + r + 1 by omega]; exact d3, hb2⟩) ⟨ps, f, none, none, rfl, h, Weak.rfl'⟩
  rw [List.length_range] at w1
  have jn := joinD_s g (by rw [w2.1]; omega)
  have ls : listSD (fD f) = some (f.map sD) := by
    show (if (fT f).length ≤ 1000000 then some (signsD (fT f)) else none) = _
    rw [fT_len, if_pos (by omega), signs_f]
  have lf : lenD (.list (f.map sD)) = some (nD f.length) := by show some (PyData.int ((f.map sD).length : Nat)) = _; rw [List.length_map]; rfl
  refine ⟨g, ps1, ?_, w2, w1⟩
  rw [runP_eq]
  unfold g__law_weaker
  simp only [seqG, newG, nw1, init, List.map_cons, List.map_nil, List.length_cons, List.length_nil, Nat.reduceAdd, Nat.reduceSub, List.replicate_succ, List.replicate_zero, List.cons_append, List.nil_append, vG, List.getElem?_cons_zero, List.getElem?_cons_succ, Option.bind_some, Option.map_some, ls, List.set_cons_zero, List.set_cons_succ]
  rw [forG_eq (rng_n (n := f.length) (ρ' := [some (.pu ps), some (.fz (fD f)), some (.ol (f.map sD)), none, none]) (by simp only [liftP, op1, rG, List.getElem?_cons_zero, List.getElem?_cons_succ, Option.bind_some, Option.map_some, lf]) (by omega)), e1]
  simp only [init, retOf, seqG, setG, newG, iffG, rtG, drG, asgG, nxG, noG, liftP, liftT, nwM, tb, tbM, op1, op1M, op2, op2M, vG, rG, fG, cG, callG, aNil, aCons, aStar, tAndG, tOrG, tNotG, tAndM, tOrM, tNotM, andG, orG, Dn.andM, Dn.orM, ifG, ifM, boolOf, nmT, nilT, consT, tupT, setVG, fzV, olV, odV, parG, par3G', notD, negD, tupM, lstN, lenD, listI, cutN.listOf, wipeR, putBack, fzOf, intOf, iiG, iiB, iiC, List.map_cons, List.map_nil, List.cons_append, List.nil_append, List.append_nil, List.length_cons, List.length_nil, List.length_map, List.replicate_succ, List.replicate_zero, List.getElem?_cons_zero, List.getElem?_cons_succ, List.set_cons_zero, List.set_cons_succ, Option.bind_some, Option.bind_none, Option.map_some, Option.map_none, Bool.not_true, Bool.not_false, Bool.true_and, Bool.and_true, Bool.false_and, Bool.and_false, Bool.or_true, Bool.true_or, Bool.or_false, Bool.false_or, decide_true, decide_false, Nat.reduceSub, Nat.reduceAdd, Nat.reduceLeDiff, Nat.reduceEqDiff, Nat.zero_add, if_true, if_false, reduceIte, reduceCtorEq, Bool.false_eq_true, str_E, jn, puAt]
end K85
end
section
set_option Elab.async false
set_option linter.all false
set_option maxRecDepth 100000
set_option maxHeartbeats 4000000
namespace K85
open PySem L2 Dn Rk
theorem cut_lo (ds : List PyData) (k : Nat) (h : k ≤ ds.length) : cutD ds none (some (k : Int)) = ds.take k := by
  unfold cutD
  rw [HT.sIx_none, HT.sIx_nat, Nat.min_eq_left h]
  simp
theorem cut_hi (ds : List PyData) (k : Nat) (h : k ≤ ds.length) : cutD ds (some (k : Int)) none = ds.drop k := by
  unfold cutD
  rw [HT.sIx_none, HT.sIx_nat, Nat.min_eq_left h]
  rw [List.take_of_length_le (by rw [List.length_drop]; omega)]
theorem mixed {m n : Nat} (hn : n ≤ 60) (hm : m + n < 10 ^ 9) {ps : List PyData} (h : Wl m ps) (I : List Nat) (hI : I.length = n) (hlt : ∀ k ∈ I, k < n) :
    ∃ H ps', runP 6 g__law_mixed ps [nsD I] = some (nsD H, ps') ∧ (∀ k ∈ H, k < n) ∧ Wl (m + n) ps' := by
  obtain ⟨ρ', e1, ps1, L, G, x2, x5, rfl, w1, _, w2, w3, w4⟩ := for_all (td := nmT 2) (b := b__law_mixed_1) nD
    (fun j ρ => ∃ ps1 L G x2 x5, ρ = [some (.pu ps1), some (.fz (nsD I)), x2, some (.fz (nsD L)), some (.ol (List.map nD G)), x5] ∧ Wl (m + j) ps1 ∧ L.length + j = n ∧ (∀ k ∈ L, k < n) ∧ (∀ k ∈ G, k < n) ∧ G.length = j) (List.range n)
    [some (.pu ps), some (.fz (nsD I)), none, some (.fz (nsD I)), some (.ol []), none] (by
      rintro j x ρ hj ⟨ps1, L, G, x2, x5, rfl, w1, w2, w3, w4, w5⟩
      obtain ⟨rfl, hj'⟩ := rng_get hj
      obtain ⟨d, ps2, d1, d2, d3⟩ := draw (k := L.length) w1 (by omega) (by omega) (by omega)
      have lf : lenD (nsD L) = some (nD L.length) := by show some (PyData.int ((L.map nD).length : Nat)) = _; rw [List.length_map]; rfl
      have ix := ix_n L d d2
      have ad : addI (nD d) (.int 1) = some (nD (d + 1)) := rfl
      have io : ∀ k, intOf (nD k) = some (k : Int) := fun _ => rfl
      have c1 : cutD (L.map nD) none (some (d : Int)) = (L.take d).map nD := by rw [cut_lo _ _ (by rw [List.length_map]; omega), List.map_take]
      have c2 : cutD (L.map nD) (some ((d + 1 : Nat) : Int)) none = (L.drop (d + 1)).map nD := by rw [cut_hi _ _ (by rw [List.length_map]; omega), List.map_drop]
      have hz : G.length ≤ 1000000 := by omega
      have hq : (L.take d).length + (L.drop (d + 1)).length ≤ 1000000 := by simp; omega
      have hb : b__law_mixed_1 [some (.pu ps1), some (.fz (nsD I)), some (.fz (nD x)), some (.fz (nsD L)), some (.ol (G.map nD)), x5] =
          some (.nx, [some (.pu ps2), some (.fz (nsD I)), some (.fz (nD x)), some (.fz (nsD (L.take d ++ L.drop (d + 1)))), some (.ol ((G ++ [L[d]]).map nD)), some (.fz (nD d))]) := by
        unfold b__law_mixed_1 appG
        simp only [seqG, setG, callPG, olAt, olSet, aCons, aNil, liftP, vG, op1, op2, lf, Option.map_some, Option.bind_some, List.append_nil, List.getElem?_cons_zero, List.getElem?_cons_succ, List.length_cons, List.length_nil, List.length_map, Nat.reduceAdd, if_true, d1, ix, hz, List.set_cons_zero, List.set_cons_succ]
        unfold catN
        simp only [nwM, cutN, oNone, oSome, vG, op2, cG, Option.map_some, Option.bind_some, List.getElem?_cons_zero, List.getElem?_cons_succ, io, ad, nsD, cutN.listOf, c1, c2, List.length_map, hq, if_true, List.set_cons_zero, List.set_cons_succ]
        rw [List.map_append, List.map_append]
        rfl
      have mem : ∀ k ∈ L.take d ++ L.drop (d + 1), k < n := fun k hk => by
        rcases List.mem_append.mp hk with hk | hk
        · exact w3 k (List.mem_of_mem_take hk)
        · exact w3 k (List.mem_of_mem_drop hk)
      refine ⟨_, _, rfl, hb, ps2, _, _, _, _, rfl, by rw [show m + (x + 1) = m + x + 1 by omega]; exact d3, by rw [List.length_append, List.length_take, List.length_drop]; omega, mem, fun k hk => ?_, by rw [List.length_append]; simp [w5]⟩
      rcases List.mem_append.mp hk with hk | hk
      · exact w4 k hk
      · simp at hk; subst hk; exact w3 _ (List.getElem_mem _)) ⟨ps, I, [], none, none, rfl, h, by omega, hlt, fun k hk => (by cases hk), rfl⟩
  rw [List.length_range] at w1
  have lf : lenD (nsD I) = some (nD n) := by show some (PyData.int ((I.map nD).length : Nat)) = _; rw [List.length_map, hI]; rfl
  refine ⟨G, ps1, ?_, w3, w1⟩
  rw [runP_eq]
  unfold g__law_mixed
  have ld : listD (nsD I) = some (I.map nD) := rfl
  simp only [seqG, parG, fzV, nwM, nw1, olV, lstN, aNil, init, List.map_cons, List.map_nil, List.length_cons, List.length_nil, Nat.reduceAdd, Nat.reduceSub, List.replicate_succ, List.replicate_zero, List.cons_append, List.nil_append, vG, List.getElem?_cons_zero, List.getElem?_cons_succ, Option.bind_some, Option.map_some, ld, List.set_cons_zero, List.set_cons_succ, Nat.zero_le, if_true]
  rw [show PyData.list (I.map nD) = nsD I from rfl, forG_eq (rng_n (n := n) (ρ' := [some (.pu ps), some (.fz (nsD I)), none, some (.fz (nsD I)), some (.ol []), none]) (by simp only [liftP, op1, vG, List.getElem?_cons_zero, List.getElem?_cons_succ, Option.bind_some, Option.map_some, lf]) (by omega)), e1]
  simp only [init, retOf, seqG, setG, newG, iffG, rtG, drG, asgG, nxG, noG, liftP, liftT, nwM, tb, tbM, op1, op1M, op2, op2M, vG, rG, fG, cG, callG, aNil, aCons, aStar, tAndG, tOrG, tNotG, tAndM, tOrM, tNotM, andG, orG, Dn.andM, Dn.orM, ifG, ifM, boolOf, nmT, nilT, consT, tupT, setVG, fzV, olV, odV, parG, par3G', notD, negD, tupM, lstN, lenD, listI, cutN.listOf, wipeR, putBack, fzOf, intOf, iiG, iiB, iiC, List.map_cons, List.map_nil, List.cons_append, List.nil_append, List.append_nil, List.length_cons, List.length_nil, List.length_map, List.replicate_succ, List.replicate_zero, List.getElem?_cons_zero, List.getElem?_cons_succ, List.set_cons_zero, List.set_cons_succ, Option.bind_some, Option.bind_none, Option.map_some, Option.map_none, Bool.not_true, Bool.not_false, Bool.true_and, Bool.and_true, Bool.false_and, Bool.and_false, Bool.or_true, Bool.true_or, Bool.or_false, Bool.false_or, decide_true, decide_false, Nat.reduceSub, Nat.reduceAdd, Nat.reduceLeDiff, Nat.reduceEqDiff, Nat.zero_add, if_true, if_false, reduceIte, reduceCtorEq, Bool.false_eq_true, puAt, nsD]
theorem law_facts {m n many odd : Nat} (h1 : 1 ≤ n) (hn : n ≤ 60) (hmany : many ≤ 50) (hm : m + 10000 < 10 ^ 9) {ps : List PyData} (h : Wl m ps) :
    ∃ fs ps', runP 7 g__law_facts ps [nD n, nD many, nD odd] = some (fsD fs, ps') ∧ Fits n fs ∧ fs.length ≤ many + 1 ∧ Wl (m + 10000) ps' := by
  obtain ⟨H, ps1, a1, a2, a3⟩ := mixed hn (by omega) h (List.range n) (by simp) fun k hk => by simpa using hk
  obtain ⟨d, ps2, b1, b2, b3⟩ := draw (k := many + 1) a3 (by omega) (by omega) (by omega)
  obtain ⟨ys, ρ', e1, ps3, fs, rfl, w1, rfl, l1, l2⟩ := lc_step (vs := [6]) (td := nmT 6) (tt := yesM) (ge := e__law_facts_1) nD
    (fun j acc ρ => ∃ ps3 fs, ρ = [some (.pu ps3), some (.fz (nD n)), some (.fz (nD many)), some (.fz (nD odd)), some (.fz (nsD H)), none, none] ∧ Wl (m + n + 1 + 60 * j) ps3 ∧ acc = List.map fD fs ∧ fs.length = j ∧ Fits n fs) (List.range d) 0 []
    [some (.pu ps2), some (.fz (nD n)), some (.fz (nD many)), some (.fz (nD odd)), some (.fz (nsD H)), none, none] (by
      rintro j x acc ρ hj ⟨ps3, fs, rfl, w1, rfl, l1, l2⟩
      obtain ⟨rfl, hj'⟩ := rng_get hj
      rw [Nat.zero_add] at w1 l1 ⊢
      obtain ⟨g, ps4, c1, c2, c3⟩ := law_fact hn (by omega) w1 H a2
      have he : e__law_facts_1 [some (.pu ps3), some (.fz (nD n)), some (.fz (nD many)), some (.fz (nD odd)), some (.fz (nsD H)), none, some (.fz (nD x))] = some (fD g, [some (.pu ps4), some (.fz (nD n)), some (.fz (nD many)), some (.fz (nD odd)), some (.fz (nsD H)), none, some (.fz (nD x))]) := by
        unfold e__law_facts_1
        simp only [init, retOf, seqG, setG, newG, iffG, rtG, drG, asgG, nxG, noG, liftP, liftT, nwM, tb, tbM, op1, op1M, op2, op2M, vG, rG, fG, cG, callG, aNil, aCons, aStar, tAndG, tOrG, tNotG, tAndM, tOrM, tNotM, andG, orG, Dn.andM, Dn.orM, ifG, ifM, boolOf, nmT, nilT, consT, tupT, setVG, fzV, olV, odV, parG, par3G', notD, negD, tupM, lstN, lenD, listI, cutN.listOf, wipeR, putBack, fzOf, intOf, iiG, iiB, iiC, List.map_cons, List.map_nil, List.cons_append, List.nil_append, List.append_nil, List.length_cons, List.length_nil, List.length_map, List.replicate_succ, List.replicate_zero, List.getElem?_cons_zero, List.getElem?_cons_succ, List.set_cons_zero, List.set_cons_succ, Option.bind_some, Option.bind_none, Option.map_some, Option.map_none, Bool.not_true, Bool.not_false, Bool.true_and, Bool.and_true, Bool.false_and, Bool.and_false, Bool.or_true, Bool.true_or, Bool.or_false, Bool.false_or, decide_true, decide_false, Nat.reduceSub, Nat.reduceAdd, Nat.reduceLeDiff, Nat.reduceEqDiff, Nat.zero_add, if_true, if_false, reduceIte, reduceCtorEq, Bool.false_eq_true, callPG, olAt, olSet, c1]
      exact ⟨_, true, _, rfl, rfl, fun _ => ⟨_, _, he, ps4, fs ++ [g], rfl, c3.mono (by omega), by rw [List.map_append]; rfl, by simp [l1], fits_app l2 c2⟩, fun h => (by cases h)⟩) ⟨ps2, [], rfl, by rw [Nat.mul_zero, Nat.add_zero]; exact b3, rfl, rfl, fun f hf => (by cases hf)⟩
  rw [Nat.zero_add, List.length_range] at w1 l1
  obtain ⟨q, ps5, c1, c2, c3⟩ := draw (k := 4) w1 (by omega) (by omega) (by omega)
  have c1 : runP 5 g__law_draw ps3 [.int 4] = some (nD q, ps5) := c1
  obtain ⟨g, ps6, f1, f2, f3⟩ := law_fact hn (by omega) c3 [] fun k hk => (by cases hk)
  have f1 : runP 5 g__law_fact ps5 [nD n, .list []] = some (fD g, ps6) := f1
  have ad : addI (nD many) (.int 1) = some (nD (many + 1)) := rfl
  have lr : lrgN (liftP (vG 1)) [some (.pu ps), some (.fz (nD n)), some (.fz (nD many)), some (.fz (nD odd)), none, none, none] = some ((List.range n).map nD, [some (.pu ps), some (.fz (nD n)), some (.fz (nD many)), some (.fz (nD odd)), none, none, none]) := rng_n (g := liftP (vG 1)) rfl (by omega)
  have lt : ltI (nD q) (nD odd) = some (.bool (decide (q < odd))) := by
    show some (PyData.bool (decide ((q : Int) < (odd : Int)))) = _
    congr 2
    exact decide_eq_decide.mpr ⟨fun h => by omega, fun h => by omega⟩
  have hz : fs.length ≤ 1000000 := by omega
  simp only [nsD] at a1
  rw [runP_eq]
  unfold g__law_facts
  simp only [seqG, setG, nwM, newG, callPG, olAt, olSet, aCons, aNil, init, List.map_cons, List.map_nil, List.length_cons, List.length_nil, Nat.reduceAdd, Nat.reduceSub, List.replicate_succ, List.replicate_zero, List.cons_append, List.nil_append, List.append_nil, List.getElem?_cons_zero, List.getElem?_cons_succ, Option.bind_some, Option.map_some, lr, a1, List.set_cons_zero, List.set_cons_succ, if_true]
  rw [lcN_eq (rng_n (n := d) (ρ' := [some (.pu ps2), some (.fz (nD n)), some (.fz (nD many)), some (.fz (nD odd)), some (.fz (nsD H)), none, none]) (by
    simp only [nsD, callPG, olAt, olSet, aCons, aNil, liftP, op2, vG, cG, List.length_cons, List.length_nil, Nat.reduceAdd, List.append_nil, List.getElem?_cons_zero, List.getElem?_cons_succ, Option.bind_some, Option.map_some, ad, b1, if_true, List.set_cons_zero, List.set_cons_succ]) (by omega)) (by simp; omega)]
  simp only [wipeR, List.set_cons_zero, List.set_cons_succ]
  rw [e1]
  simp only [putBack, fzOf, iffG, tbM, op2M, callPG, olAt, olSet, aCons, aNil, liftP, vG, cG, List.length_cons, List.length_nil, Nat.reduceAdd, List.append_nil, List.getElem?_cons_zero, List.getElem?_cons_succ, Option.bind_some, Option.map_some, c1, lt, boolOf, if_true, List.set_cons_zero, List.set_cons_succ]
  by_cases hq : q < odd
  · unfold appG
    simp only [hq, decide_true, if_true, nwM, lstN, callPG, olAt, olSet, aCons, aNil, liftP, vG, cG, List.length_cons, List.length_nil, List.length_map, Nat.zero_le, Nat.reduceAdd, List.append_nil, List.getElem?_cons_zero, List.getElem?_cons_succ, Option.bind_some, Option.map_some, f1, hz, List.set_cons_zero, List.set_cons_succ, rtG, fG, retOf, puAt]
    exact ⟨fs ++ [g], ps6, by rw [← list_app], fits_app l2 f2, by simp; omega, f3.mono (by omega)⟩
  · simp only [hq, decide_false, Bool.false_eq_true, if_false, nxG, Option.bind_some, Option.map_some, List.getElem?_cons_zero, List.getElem?_cons_succ, List.set_cons_zero, List.set_cons_succ, rtG, fG, retOf, puAt]
    exact ⟨fs, ps5, rfl, l2, by omega, c3.mono (by omega)⟩
end K85
end
section
set_option Elab.async false
set_option linter.all false
set_option maxRecDepth 100000
set_option maxHeartbeats 4000000
namespace K85
open PySem L2 Dn Rk
theorem lenF (fs : List Fact) : lenD (fsD fs) = some (nD fs.length) := by show some (PyData.int ((fs.map fD).length : Nat)) = _; rw [List.length_map]; rfl
theorem BarI.turned {n : Nat} {fs : List Fact} {R Q : List Nat} (h : BarI n fs.reverse R) (q1 : Q.Pairwise (· < ·)) (q2 : ∀ i ∈ Q, i < fs.length) (q3 : ∀ j, j ∈ Q ↔ ∃ i ∈ R, j = fs.length - 1 - i) : BarI n fs Q := by
  obtain ⟨r1, r2, r3⟩ := h
  have lt : ∀ i ∈ R, i < fs.length := fun i hi => by simpa using r2 i hi
  have hs := has_turned lt q3
  obtain ⟨b1, b2, b3⟩ := r3.to
  refine ⟨q1, q2, Bar.of (fun e => b1 ?_) (fun j hj => ?_) fun k hk hw => ?_⟩
  · cases R with
    | nil => rfl
    | cons i R =>
      have : fs.length - 1 - i ∈ Q := (q3 _).mpr ⟨i, by simp, rfl⟩
      rw [e] at this; cases this
  · obtain ⟨i, hi, rfl⟩ := (q3 j).mp hj
    rw [← fa_rev (lt i hi)]
    exact b2 i hi
  · exact (hs .L k).mpr (b3 k hk ((hs .W k).mp hw))
theorem BarI.join {n : Nat} {fs : List Fact} {K Q J : List Nat} (hK : BarI n fs K) (hQ : BarI n fs Q) (j1 : J.Pairwise (· < ·)) (j2 : ∀ x, x ∈ J ↔ x ∈ K ∨ x ∈ Q) : BarI n fs J := by
  obtain ⟨_, k2, k3⟩ := hK
  obtain ⟨_, q2, q3⟩ := hQ
  obtain ⟨b1, b2, b3⟩ := k3.to
  obtain ⟨c1, c2, c3⟩ := q3.to
  refine ⟨j1, fun i hi => ((j2 i).mp hi).elim (k2 i) (q2 i), Bar.of (fun e => ?_) (fun i hi => ((j2 i).mp hi).elim (b2 i) (c2 i)) fun k hk ⟨i, hi, e⟩ => ?_⟩
  · cases K with
    | nil => exact b1 rfl
    | cons i K =>
      have : i ∈ J := (j2 i).mpr (.inl (by simp))
      rw [e] at this; cases this
  · rcases (j2 i).mp hi with h | h
    · obtain ⟨j, hj, e2⟩ := b3 k hk ⟨i, h, e⟩
      exact ⟨j, (j2 j).mpr (.inl hj), e2⟩
    · obtain ⟨j, hj, e2⟩ := c3 k hk ⟨i, h, e⟩
      exact ⟨j, (j2 j).mpr (.inr hj), e2⟩
theorem con_rev {n : Nat} {fs : List Fact} : Con n fs.reverse ↔ Con n fs := by
  unfold Con
  constructor <;> rintro ⟨s, h⟩ <;> exact ⟨s, fun f hf => h f (by simpa using hf)⟩
theorem isnB_t : isnB (.bool true) (.bool true) = some (.bool false) := rfl
theorem barred_inner {m n : Nat} (h1 : 1 ≤ n) (hn : n ≤ 60) (fs : List Fact) (hf : Fits n fs) (hl : fs.length < 30) (hno : ¬ Con n fs) (K : List Nat) (hK : BarI n fs K) (hm : m + n < 10 ^ 9) {ps : List PyData} (h : Wl m ps) (x3 x5 x6 x7 x8 : Option Sl) :
    ∃ ps' y7, b__law_barred_right_1 [some (.pu ps), some (.fz (nD n)), some (.fz (fsD fs)), x3, some (.fz (nsD K)), x5, x6, x7, x8] = some (.nx, [some (.pu ps'), some (.fz (nD n)), some (.fz (fsD fs)), x3, some (.fz (nsD K)), x5, x6, y7, x8]) ∧ Wl (m + n) ps' := by
  obtain ⟨g, ps', f1, f2, f3⟩ := law_fact hn hm h [] fun k hk => (by cases hk)
  have f1 : runP 5 g__law_fact ps [nD n, .list []] = some (fD g, ps') := f1
  have ip := is_paper n fs g K hf f2 h1 hn (by omega) hK.1 hK.2.1
  rw [(paperB_iff f2).mpr (hK.paper hf g)] at ip
  obtain ⟨b, fo1, fo2⟩ := follows n h1 hn fs hf (by omega) g f2
  rw [fo2.mpr fun s hs => absurd ⟨s, hs⟩ hno] at fo1
  refine ⟨ps', some (.fz (fD g)), ?_, f3⟩
  unfold b__law_barred_right_1
  simp only [init, retOf, seqG, setG, newG, iffG, rtG, drG, asgG, nxG, noG, liftP, liftT, nwM, tb, tbM, op1, op1M, op2, op2M, vG, rG, fG, cG, callG, aNil, aCons, aStar, tAndG, tOrG, tNotG, tAndM, tOrM, tNotM, andG, orG, Dn.andM, Dn.orM, ifG, ifM, boolOf, nmT, nilT, consT, tupT, setVG, fzV, olV, odV, parG, par3G', notD, negD, tupM, lstN, lenD, listI, cutN.listOf, wipeR, putBack, fzOf, intOf, iiG, iiB, iiC, List.map_cons, List.map_nil, List.cons_append, List.nil_append, List.append_nil, List.length_cons, List.length_nil, List.length_map, List.replicate_succ, List.replicate_zero, List.getElem?_cons_zero, List.getElem?_cons_succ, List.set_cons_zero, List.set_cons_succ, Option.bind_some, Option.bind_none, Option.map_some, Option.map_none, Bool.not_true, Bool.not_false, Bool.true_and, Bool.and_true, Bool.false_and, Bool.and_false, Bool.or_true, Bool.true_or, Bool.or_false, Bool.false_or, decide_true, decide_false, Nat.reduceSub, Nat.reduceAdd, Nat.reduceLeDiff, Nat.reduceEqDiff, Nat.zero_add, if_true, if_false, reduceIte, reduceCtorEq, Bool.false_eq_true, callPG, olAt, olSet, Nat.zero_le, f1, ip, fo1, isnB_t]
theorem barred_outer {m n : Nat} (h1 : 1 ≤ n) (hn : n ≤ 60) (fs : List Fact) (hf : Fits n fs) (hl : fs.length < 30) (hno : ¬ Con n fs) (K : List Nat) (hK : BarI n fs K) (hm : m + 2 * n < 10 ^ 9) {ps : List PyData} (h : Wl m ps) (x3 x5 x6 x7 x8 : Option Sl) :
    ∃ ps' y6 y7, b__law_barred_right_2 [some (.pu ps), some (.fz (nD n)), some (.fz (fsD fs)), x3, some (.fz (nsD K)), x5, x6, x7, x8] = some (.nx, [some (.pu ps'), some (.fz (nD n)), some (.fz (fsD fs)), x3, some (.fz (nsD K)), x5, y6, y7, x8]) ∧ Wl (m + 2 * n) ps' := by
  obtain ⟨ρ', e1, ps', y6, y7, rfl, w⟩ := for_all (td := nmT 6) (b := b__law_barred_right_1) nD
    (fun j ρ => ∃ ps' y6 y7, ρ = [some (.pu ps'), some (.fz (nD n)), some (.fz (fsD fs)), x3, some (.fz (nsD K)), x5, y6, y7, x8] ∧ Wl (m + j * n) ps') (List.range 2)
    [some (.pu ps), some (.fz (nD n)), some (.fz (fsD fs)), x3, some (.fz (nsD K)), x5, x6, x7, x8] (by
      rintro j x ρ hj ⟨ps1, y6, y7, rfl, w⟩
      obtain ⟨rfl, hj'⟩ := rng_get hj
      have hxn : x * n ≤ 1 * n := Nat.mul_le_mul_right n (by omega)
      obtain ⟨ps2, z7, a1, a2⟩ := barred_inner h1 hn fs hf hl hno K hK (by omega) w x3 x5 (some (.fz (nD x))) y7 x8
      exact ⟨_, _, rfl, a1, ps2, _, z7, rfl, by rw [Nat.succ_mul, ← Nat.add_assoc]; exact a2⟩) ⟨ps, x6, x7, rfl, by simpa using h⟩
  have ib := is_barring_set n fs K hf h1 hn (by omega) hK.1 hK.2.1
  rw [barB_iff.mpr hK.2.2] at ib
  refine ⟨ps', y6, y7, ?_, w⟩
  unfold b__law_barred_right_2
  simp only [init, retOf, seqG, setG, newG, iffG, rtG, drG, asgG, nxG, noG, liftP, liftT, nwM, tb, tbM, op1, op1M, op2, op2M, vG, rG, fG, cG, callG, aNil, aCons, aStar, tAndG, tOrG, tNotG, tAndM, tOrM, tNotM, andG, orG, Dn.andM, Dn.orM, ifG, ifM, boolOf, nmT, nilT, consT, tupT, setVG, fzV, olV, odV, parG, par3G', notD, negD, tupM, lstN, lenD, listI, cutN.listOf, wipeR, putBack, fzOf, intOf, iiG, iiB, iiC, List.map_cons, List.map_nil, List.cons_append, List.nil_append, List.append_nil, List.length_cons, List.length_nil, List.length_map, List.replicate_succ, List.replicate_zero, List.getElem?_cons_zero, List.getElem?_cons_succ, List.set_cons_zero, List.set_cons_succ, Option.bind_some, Option.bind_none, Option.map_some, Option.map_none, Bool.not_true, Bool.not_false, Bool.true_and, Bool.and_true, Bool.false_and, Bool.and_false, Bool.or_true, Bool.true_or, Bool.or_false, Bool.false_or, decide_true, decide_false, Nat.reduceSub, Nat.reduceAdd, Nat.reduceLeDiff, Nat.reduceEqDiff, Nat.zero_add, if_true, if_false, reduceIte, reduceCtorEq, Bool.false_eq_true, ib, isnB_t]
  rw [forG_eq (rng_n (n := 2) rfl (by omega)), e1]
theorem barred_right {m n : Nat} (h1 : 1 ≤ n) (hn : n ≤ 60) (fs : List Fact) (hf : Fits n fs) (hl : fs.length < 30) (hno : ¬ Con n fs) (hm : m + 1000 < 10 ^ 9) {ps : List PyData} (h : Wl m ps) :
    ∃ ps', runP 9 g__law_barred_right ps [nD n, fsD fs] = some (.bool true, ps') ∧ Wl (m + 1000) ps' := by
  obtain ⟨K, k0, hK⟩ := (barring_set n h1 hn fs hf (by omega)).resolve_left fun z => hno z.2
  obtain ⟨R, r0, hR⟩ := (barring_set n h1 hn fs.reverse hf.rev (by simp; omega)).resolve_left fun z => hno (con_rev.mp z.2)
  have rlt : ∀ i ∈ R, i < fs.length := fun i hi => by simpa using hR.2.1 i hi
  obtain ⟨Q, q0, q1, q2, q3⟩ := turned fs R hR.1 rlt
  have hQ := hR.turned q1 q2 q3
  have hKl := asc_len hK.1 hK.2.1
  have hQl := asc_len q1 q2
  have hRl := asc_len hR.1 rlt
  obtain ⟨J, j0, j1, j2⟩ := joined K Q (by omega)
  have hJ := hK.join hQ j1 j2
  have rl : (fs.map fD).reverse = fs.reverse.map fD := (List.map_reverse).symm
  have isK : isN (nsD K) .none = some (.bool false) := rfl
  have isR : isN (nsD R) .none = some (.bool false) := rfl
  have hc := fun (x4 x5 x6 x7 : Option Sl) => lc_all (vs := [8]) (td := nmT 8) (ge := e__law_barred_right_1) (ρ := [some (.pu ps), some (.fz (nD n)), some (.fz (fsD fs)), some (.fz (nsD R)), x4, x5, x6, x7, none]) nD (fun i => nD (fs.length - 1 - i)) R fun i hi => ⟨_, rfl, by
    have := rlt i hi
    have e1 : subI (nD fs.length) (.int 1) = some (nD (fs.length - 1)) := by
      show some (PyData.int ((fs.length : Int) - 1)) = _
      unfold nD; congr 2; omega
    have e2 : subI (nD (fs.length - 1)) (nD i) = some (nD (fs.length - 1 - i)) := by
      show some (PyData.int (((fs.length - 1 : Nat) : Int) - i)) = _
      unfold nD; congr 2; omega
    unfold e__law_barred_right_1
    simp only [liftP, op2, op1, vG, cG, nmT, List.set_cons_zero, List.set_cons_succ, List.getElem?_cons_zero, List.getElem?_cons_succ, Option.bind_some, Option.map_some, lenF, e1, e2], rfl⟩
  have rev : revN (vG 2) [some (.pu ps), some (.fz (nD n)), some (.fz (fsD fs)), none, none, none, none, none, none] = some (fs.reverse.map fD, [some (.pu ps), some (.fz (nD n)), some (.fz (fsD fs)), none, none, none, none, none, none]) := by
    unfold revN
    simp only [init, retOf, seqG, setG, newG, iffG, rtG, drG, asgG, nxG, noG, liftP, liftT, nwM, tb, tbM, op1, op1M, op2, op2M, vG, rG, fG, cG, callG, aNil, aCons, aStar, tAndG, tOrG, tNotG, tAndM, tOrM, tNotM, andG, orG, Dn.andM, Dn.orM, ifG, ifM, boolOf, nmT, nilT, consT, tupT, setVG, fzV, olV, odV, parG, par3G', notD, negD, tupM, lstN, lenD, listI, cutN.listOf, wipeR, putBack, fzOf, intOf, iiG, iiB, iiC, List.map_cons, List.map_nil, List.cons_append, List.nil_append, List.append_nil, List.length_cons, List.length_nil, List.length_map, List.replicate_succ, List.replicate_zero, List.getElem?_cons_zero, List.getElem?_cons_succ, List.set_cons_zero, List.set_cons_succ, Option.bind_some, Option.bind_none, Option.map_some, Option.map_none, Bool.not_true, Bool.not_false, Bool.true_and, Bool.and_true, Bool.false_and, Bool.and_false, Bool.or_true, Bool.true_or, Bool.or_false, Bool.false_or, decide_true, decide_false, Nat.reduceSub, Nat.reduceAdd, Nat.reduceLeDiff, Nat.reduceEqDiff, Nat.zero_add, if_true, if_false, reduceIte, reduceCtorEq, Bool.false_eq_true, fsD, rl]
  have rn : PyData.list (fs.reverse.map fD) = fsD fs.reverse := rfl
  have hall : ∀ Z ∈ [K, Q, J], BarI n fs Z := fun Z hZ => by
    simp at hZ
    rcases hZ with rfl | rfl | rfl
    · exact hK
    · exact hQ
    · exact hJ
  obtain ⟨ρ', e1, ps', x4, x6, x7, rfl, w⟩ := for_all (td := nmT 4) (b := b__law_barred_right_2) nsD
    (fun j ρ => ∃ ps' x4 x6 x7, ρ = [some (.pu ps'), some (.fz (nD n)), some (.fz (fsD fs)), some (.fz (nsD Q)), x4, some (.fz (nsD K)), x6, x7, none] ∧ Wl (m + j * 120) ps') [K, Q, J]
    [some (.pu ps), some (.fz (nD n)), some (.fz (fsD fs)), some (.fz (nsD Q)), none, some (.fz (nsD K)), none, none, none] (by
      rintro j Z ρ hj ⟨ps1, x4, x6, x7, rfl, w⟩
      have hj3 : j < 3 := (List.getElem?_eq_some_iff.mp hj).1
      obtain ⟨ps2, y6, y7, a1, a2⟩ := barred_outer h1 hn fs hf hl hno Z (hall Z (List.mem_of_getElem? hj)) (by omega) w (some (.fz (nsD Q))) (some (.fz (nsD K))) x6 x7 none
      exact ⟨_, _, rfl, a1, ps2, _, y6, y7, rfl, a2.mono (by omega)⟩) ⟨ps, none, none, none, rfl, by simpa using h⟩
  refine ⟨ps', ?_, w.mono (by simp)⟩
  rw [runP_eq]
  unfold g__law_barred_right
  simp only [init, retOf, seqG, setG, newG, iffG, rtG, drG, asgG, nxG, noG, liftP, liftT, nwM, tb, tbM, op1, op1M, op2, op2M, vG, rG, fG, cG, callG, aNil, aCons, aStar, tAndG, tOrG, tNotG, tAndM, tOrM, tNotM, andG, orG, Dn.andM, Dn.orM, ifG, ifM, boolOf, nmT, nilT, consT, tupT, setVG, fzV, olV, odV, parG, par3G', notD, negD, tupM, lstN, lenD, listI, cutN.listOf, wipeR, putBack, fzOf, intOf, iiG, iiB, iiC, List.map_cons, List.map_nil, List.cons_append, List.nil_append, List.append_nil, List.length_cons, List.length_nil, List.length_map, List.replicate_succ, List.replicate_zero, List.getElem?_cons_zero, List.getElem?_cons_succ, List.set_cons_zero, List.set_cons_succ, Option.bind_some, Option.bind_none, Option.map_some, Option.map_none, Bool.not_true, Bool.not_false, Bool.true_and, Bool.and_true, Bool.false_and, Bool.and_false, Bool.or_true, Bool.true_or, Bool.or_false, Bool.false_or, decide_true, decide_false, Nat.reduceSub, Nat.reduceAdd, Nat.reduceLeDiff, Nat.reduceEqDiff, Nat.zero_add, if_true, if_false, reduceIte, reduceCtorEq, Bool.false_eq_true, nw1M, k0, rev, rn, r0, isK, isR]
  rw [lcN_eq (ds := R.map nD) rfl (by rw [List.length_map]; omega)]
  simp only [wipeR, List.set_cons_zero, List.set_cons_succ]
  rw [hc]
  have qn : PyData.list (Q.map nD) = nsD Q := rfl
  simp only [init, retOf, seqG, setG, newG, iffG, rtG, drG, asgG, nxG, noG, liftP, liftT, nwM, tb, tbM, op1, op1M, op2, op2M, vG, rG, fG, cG, callG, aNil, aCons, aStar, tAndG, tOrG, tNotG, tAndM, tOrM, tNotM, andG, orG, Dn.andM, Dn.orM, ifG, ifM, boolOf, nmT, nilT, consT, tupT, setVG, fzV, olV, odV, parG, par3G', notD, negD, tupM, lstN, lenD, listI, cutN.listOf, wipeR, putBack, fzOf, intOf, iiG, iiB, iiC, List.map_cons, List.map_nil, List.cons_append, List.nil_append, List.append_nil, List.length_cons, List.length_nil, List.length_map, List.replicate_succ, List.replicate_zero, List.getElem?_cons_zero, List.getElem?_cons_succ, List.set_cons_zero, List.set_cons_succ, Option.bind_some, Option.bind_none, Option.map_some, Option.map_none, Bool.not_true, Bool.not_false, Bool.true_and, Bool.and_true, Bool.false_and, Bool.and_false, Bool.or_true, Bool.true_or, Bool.or_false, Bool.false_or, decide_true, decide_false, Nat.reduceSub, Nat.reduceAdd, Nat.reduceLeDiff, Nat.reduceEqDiff, Nat.zero_add, if_true, if_false, reduceIte, reduceCtorEq, Bool.false_eq_true, q0, qn]
  rw [forG_eq (ds := [K, Q, J].map nsD) (ρ1 := [some (.pu ps), some (.fz (nD n)), some (.fz (fsD fs)), some (.fz (nsD Q)), none, some (.fz (nsD K)), none, none, none]) (by simp only [init, retOf, seqG, setG, newG, iffG, rtG, drG, asgG, nxG, noG, liftP, liftT, nwM, tb, tbM, op1, op1M, op2, op2M, vG, rG, fG, cG, callG, aNil, aCons, aStar, tAndG, tOrG, tNotG, tAndM, tOrM, tNotM, andG, orG, Dn.andM, Dn.orM, ifG, ifM, boolOf, nmT, nilT, consT, tupT, setVG, fzV, olV, odV, parG, par3G', notD, negD, tupM, lstN, lenD, listI, cutN.listOf, wipeR, putBack, fzOf, intOf, iiG, iiB, iiC, List.map_cons, List.map_nil, List.cons_append, List.nil_append, List.append_nil, List.length_cons, List.length_nil, List.length_map, List.replicate_succ, List.replicate_zero, List.getElem?_cons_zero, List.getElem?_cons_succ, List.set_cons_zero, List.set_cons_succ, Option.bind_some, Option.bind_none, Option.map_some, Option.map_none, Bool.not_true, Bool.not_false, Bool.true_and, Bool.and_true, Bool.false_and, Bool.and_false, Bool.or_true, Bool.true_or, Bool.or_false, Bool.false_or, decide_true, decide_false, Nat.reduceSub, Nat.reduceAdd, Nat.reduceLeDiff, Nat.reduceEqDiff, Nat.zero_add, if_true, if_false, reduceIte, reduceCtorEq, Bool.false_eq_true, j0]), e1]
  simp only [init, retOf, seqG, setG, newG, iffG, rtG, drG, asgG, nxG, noG, liftP, liftT, nwM, tb, tbM, op1, op1M, op2, op2M, vG, rG, fG, cG, callG, aNil, aCons, aStar, tAndG, tOrG, tNotG, tAndM, tOrM, tNotM, andG, orG, Dn.andM, Dn.orM, ifG, ifM, boolOf, nmT, nilT, consT, tupT, setVG, fzV, olV, odV, parG, par3G', notD, negD, tupM, lstN, lenD, listI, cutN.listOf, wipeR, putBack, fzOf, intOf, iiG, iiB, iiC, List.map_cons, List.map_nil, List.cons_append, List.nil_append, List.append_nil, List.length_cons, List.length_nil, List.length_map, List.replicate_succ, List.replicate_zero, List.getElem?_cons_zero, List.getElem?_cons_succ, List.set_cons_zero, List.set_cons_succ, Option.bind_some, Option.bind_none, Option.map_some, Option.map_none, Bool.not_true, Bool.not_false, Bool.true_and, Bool.and_true, Bool.false_and, Bool.and_false, Bool.or_true, Bool.true_or, Bool.or_false, Bool.false_or, decide_true, decide_false, Nat.reduceSub, Nat.reduceAdd, Nat.reduceLeDiff, Nat.reduceEqDiff, Nat.zero_add, if_true, if_false, reduceIte, reduceCtorEq, Bool.false_eq_true, puAt]
end K85
end
section
set_option Elab.async false
set_option linter.all false
set_option maxRecDepth 100000
set_option maxHeartbeats 4000000
namespace K85
open PySem L2 Dn Rk
theorem fw_congr {n : Nat} {ws A B : List Nat} (h : ∀ k, k ∈ A ↔ k ∈ B) : fw n ws A = fw n ws B := by
  unfold fw
  refine List.map_congr_left fun k _ => ?_
  by_cases h1 : k ∈ ws
  · simp [h1]
  · by_cases h2 : k ∈ A
    · simp [h1, h2, (h k).mp h2]
    · have h3 : k ∉ B := fun z => h2 ((h k).mpr z)
      simp [h1, h2, h3]
theorem loud_of {n : Nat} {f : Fact} {k : Nat} {s : Sg} (h : f.getD k .S = s) (hs : s ≠ .S) : f ≠ dots n := fun e => by
  rw [e] at h
  unfold dots at h
  rw [List.getD_eq_getElem?_getD, List.getElem?_replicate] at h
  split at h
  · exact hs h.symm
  · exact hs h.symm
/-- under facts that go together a paper is one of the first kind -/
theorem Paper.first {n : Nat} {fs : List Fact} {f : Fact} (hf : Fits n fs) (c : Con n fs) {P : List Nat} (hlt : ∀ i ∈ P, i < fs.length) (h : Paper n fs f P) (hL : ∃ k, k < n ∧ f.getD k .S = .L) :
    P ≠ [] ∧ (∀ k, k < n → hasS fs P .W k → ¬ hasS fs P .L k → f.getD k .S = .W) ∧ ∀ k, k < n → f.getD k .S = .L → hasS fs P .L k := by
  obtain ⟨k0, hk0, e0⟩ := hL
  rcases h with h | ⟨h1, h2, h3⟩
  · exact absurd e0 (h k0 hk0)
  · refine ⟨h1, h2, h3.elim id fun ⟨⟨k, hk, i, hi, e⟩, g⟩ => absurd c ?_⟩
    have hm : ∀ j, j ∈ P.filter (fun j => !decide (fa_ fs j = dots n)) ↔ j ∈ P ∧ fa_ fs j ≠ dots n := fun j => by simp [List.mem_filter]
    have b : Bar n (sel fs (P.filter fun j => !decide (fa_ fs j = dots n))) := by
      refine Bar.of (fun z => ?_) (fun j hj => ((hm j).mp hj).2) fun k' hk' ⟨j, hj, e'⟩ => ?_
      · have : i ∈ P.filter (fun j => !decide (fa_ fs j = dots n)) := (hm i).mpr ⟨hi, loud_of e (by decide)⟩
        rw [z] at this; cases this
      · obtain ⟨j2, hj2, e2⟩ := g k' hk' ⟨j, ((hm j).mp hj).1, e'⟩
        exact ⟨j2, (hm j2).mpr ⟨hj2, loud_of e2 (by decide)⟩, e2⟩
    exact b.no (sel_fits hf fun j hj => hlt j ((hm j).mp hj).1) |> fun no c => no (let ⟨s, hs⟩ := c; ⟨s, fun g hg => hs g (sel_mem (fun j hj => hlt j ((hm j).mp hj).1) hg)⟩)
/-- the fact of a part: W ahead, L at r -/
theorem part_at {n r k : Nat} {A : List Nat} (hA : ∀ k ∈ A, k < n ∧ k ≠ r) (hk : k < n) : (fw n A [r]).getD k .S = if k ∈ A then .W else if k = r then .L else .S := by
  rw [fw_at _ _ hk]; simp
theorem part_W {n r k : Nat} {A : List Nat} (hA : ∀ k ∈ A, k < n ∧ k ≠ r) : k ∈ rw_ (fw n A [r]) .W ↔ k ∈ A := by
  rw [rw_mem, fw_len]
  constructor
  · rintro ⟨h1, h2⟩
    rw [part_at hA h1] at h2
    by_cases e : k ∈ A
    · exact e
    · rw [if_neg e] at h2; split at h2 <;> cases h2
  · intro h
    exact ⟨(hA k h).1, by rw [part_at hA (hA k h).1, if_pos h]⟩
theorem part_L {n r k : Nat} {A : List Nat} (hr : r < n) (hA : ∀ k ∈ A, k < n ∧ k ≠ r) : k ∈ rw_ (fw n A [r]) .L ↔ k = r := by
  rw [rw_mem, fw_len]
  constructor
  · rintro ⟨h1, h2⟩
    rw [part_at hA h1] at h2
    by_cases e : k ∈ A
    · rw [if_pos e] at h2; cases h2
    · rw [if_neg e] at h2
      by_cases e2 : k = r
      · exact e2
      · rw [if_neg e2] at h2; cases h2
  · rintro rfl
    refine ⟨hr, ?_⟩
    rw [part_at hA hr, if_neg fun z => (hA k z).2 rfl, if_pos rfl]
theorem part_opp {n r : Nat} {A : List Nat} (hA : ∀ k ∈ A, k < n ∧ k ≠ r) : opp n r (rw_ (fw n A [r]) .W) = opp n r A := fw_congr fun _ => part_W hA
/-- a part follows exactly if the opposite bars -/
theorem part_fol {n r : Nat} {A : List Nat} (hr : r < n) (hA : ∀ k ∈ A, k < n ∧ k ≠ r) {fs : List Fact} : Fol n fs (fw n A [r]) ↔ ¬ Con n (fs ++ [opp n r A]) := by
  have hL : (fw n A [r]).getD r .S = .L := (rw_mem.mp ((part_L hr hA).mpr rfl)).2
  constructor
  · intro h
    have := h.barOpp hr hL (fw_len _ _ _)
    rw [part_opp hA] at this
    exact this
  · intro h
    refine Classical.byContradiction fun z => ?_
    obtain ⟨r', r1, r2, r3⟩ := Fol.goOpp (fw_len _ _ _) z
    have : r' = r := (part_L hr hA).mp (rw_mem.mpr ⟨by rw [fw_len]; exact r1, r2⟩)
    subst this
    rw [part_opp hA] at r3
    exact h r3
/-- the barring list ends by the opposite -/
theorem bar_split {n : Nat} {fs : List Fact} {g : Fact} (hf : Fits n fs) (c : Con n fs) {K : List Nat} (h : BarI n (fs ++ [g]) K) : ∃ K', K = K' ++ [fs.length] ∧ K'.Pairwise (· < ·) ∧ ∀ i ∈ K', i < fs.length := by
  have hl := BarI.last hf c h
  obtain ⟨h1, h2, _⟩ := h
  have hne : K ≠ [] := fun e => by rw [e] at hl; cases hl
  obtain ⟨K', x, e⟩ : ∃ K' x, K = K' ++ [x] := ⟨K.dropLast, K.getLast hne, (List.dropLast_concat_getLast hne).symm⟩
  subst e
  rw [List.pairwise_append] at h1
  obtain ⟨a1, _, a3⟩ := h1
  have hx := h2 x (by simp)
  rw [List.length_append, List.length_singleton] at hx
  have e : x = fs.length := by
    rcases List.mem_append.mp hl with z | z
    · have := a3 _ z x (by simp); omega
    · simp at z; exact z.symm
  subst e
  exact ⟨K', rfl, a1, fun i hi => a3 i hi _ (by simp)⟩
theorem bar_part {n r : Nat} {A : List Nat} (hr : r < n) (hA : ∀ k ∈ A, k < n ∧ k ≠ r) {fs : List Fact} (hf : Fits n fs) (c : Con n fs) {K' : List Nat} (h : BarI n (fs ++ [opp n r A]) (K' ++ [fs.length])) (hlt : ∀ i ∈ K', i < fs.length) (asc : K'.Pairwise (· < ·)) : Paper n fs (fw n A [r]) K' := by
  have hin : ∀ i ∈ K' ++ [fs.length], i < fs.length → i ∈ K' := fun i hi lt => by
    rcases List.mem_append.mp hi with z | z
    · exact z
    · simp at z; omega
  have hL : (fw n A [r]).getD r .S = .L := (rw_mem.mp ((part_L hr hA).mpr rfl)).2
  refine Known.paper (F := K') hf (fw_len _ _ _) c ⟨asc.imp fun h => Nat.ne_of_lt h, fun r' hr' => ?_, fun x hx => ⟨hlt x hx, r, hr, hL, K' ++ [fs.length], by rw [part_opp hA]; exact h, by simp [hx], hin⟩⟩ (fun e => ?_) fun i => Iff.rfl
  · rw [part_L hr hA] at hr'
    subst hr'
    exact ⟨K' ++ [fs.length], by rw [part_opp hA]; exact h, hin⟩
  · have : r ∈ rw_ (fw n A [r]) .L := (part_L hr hA).mpr rfl
    rw [e] at this; cases this
theorem part_bar {n r : Nat} {A : List Nat} (hr : r < n) (hA : ∀ k ∈ A, k < n ∧ k ≠ r) {fs : List Fact} (hf : Fits n fs) (c : Con n fs) {P : List Nat} (asc : P.Pairwise (· < ·)) (hlt : ∀ i ∈ P, i < fs.length) (h : Paper n fs (fw n A [r]) P) :
    BarI n (fs ++ [opp n r A]) (P.filter (fun i => !decide (fa_ fs i = dots n)) ++ [fs.length]) := by
  have hL : (fw n A [r]).getD r .S = .L := (rw_mem.mp ((part_L hr hA).mpr rfl)).2
  obtain ⟨_, p2, p3⟩ := h.first hf c hlt ⟨r, hr, hL⟩
  have hm : ∀ j, j ∈ P.filter (fun j => !decide (fa_ fs j = dots n)) ↔ j ∈ P ∧ fa_ fs j ≠ dots n := fun j => by simp [List.mem_filter]
  have loudL : ∀ k, hasS fs P .L k → ∃ j ∈ P.filter (fun j => !decide (fa_ fs j = dots n)) ++ [fs.length], (fa_ (fs ++ [opp n r A]) j).getD k .S = .L := fun k ⟨j, hj, e⟩ =>
    ⟨j, List.mem_append_left _ ((hm j).mpr ⟨hj, loud_of e (by decide)⟩), by rw [fa_app (hlt j hj)]; exact e⟩
  refine ⟨?_, fun i hi => ?_, Bar.of (by simp) (fun i hi => ?_) fun k hk ⟨i, hi, e⟩ => ?_⟩
  · rw [List.pairwise_append]
    exact ⟨asc.filter _, by simp, fun a ha b hb => by simp at hb; subst hb; exact hlt a ((hm a).mp ha).1⟩
  · rw [List.length_append, List.length_singleton]
    rcases List.mem_append.mp hi with z | z
    · have := hlt i ((hm i).mp z).1; omega
    · simp at z; omega
  · rcases List.mem_append.mp hi with z | z
    · rw [fa_app (hlt i ((hm i).mp z).1)]; exact ((hm i).mp z).2
    · simp at z; subst z
      rw [fa_last]
      exact loud_of (k := r) (s := .W) (by rw [opp_at hr, if_pos rfl]) (by decide)
  · rcases List.mem_append.mp hi with z | z
    · obtain ⟨zP, _⟩ := (hm i).mp z
      rw [fa_app (hlt i zP)] at e
      by_cases hl : hasS fs P .L k
      · exact loudL k hl
      · have hW := p2 k hk ⟨i, zP, e⟩ hl
        have hkA : k ∈ A := (part_W hA).mp (rw_mem.mpr ⟨by rw [fw_len]; exact hk, hW⟩)
        exact ⟨fs.length, by simp, by rw [fa_last, opp_at hk, if_neg (hA k hkA).2, if_pos hkA]⟩
    · simp at z; subst z
      rw [fa_last, opp_at hk] at e
      by_cases e2 : k = r
      · subst e2; exact loudL k (p3 k hk hL)
      · rw [if_neg e2] at e; split at e <;> cases e
end K85
end
section
set_option Elab.async false
set_option linter.all false
set_option maxRecDepth 100000
set_option maxHeartbeats 8000000
namespace K85
open PySem L2 Dn Rk
/-- rules drawn to stand ahead of r -/
theorem ahead {m n r : Nat} (hn : n ≤ 60) (hm : m + n < 10 ^ 9) {ps : List PyData} (h : Wl m ps) (x2 x4 x6 x7 x8 x9 x10 x11 x12 : Option Sl) :
    ∃ (A : List Nat) (ps' : List PyData), lcN (rng1I (liftP (vG 1))) [5] (nmT 5) q__law_parts_right_2 e__law_parts_right_2 [some (.pu ps), some (.fz (nD n)), x2, some (.fz (nD r)), x4, none, x6, x7, x8, x9, x10, x11, x12] =
      some (A.map nD, [some (.pu ps'), some (.fz (nD n)), x2, some (.fz (nD r)), x4, none, x6, x7, x8, x9, x10, x11, x12]) ∧ A.Pairwise (· < ·) ∧ (∀ k ∈ A, k < n ∧ k ≠ r) ∧ Wl (m + n) ps' := by
  obtain ⟨ys, ρ', e1, ps1, A, rfl, w1, rfl, a1, a2⟩ := lc_step (vs := [5]) (td := nmT 5) (tt := q__law_parts_right_2) (ge := e__law_parts_right_2) nD
    (fun j acc ρ => ∃ ps1 A, ρ = [some (.pu ps1), some (.fz (nD n)), x2, some (.fz (nD r)), x4, none, x6, x7, x8, x9, x10, x11, x12] ∧ Wl (m + j) ps1 ∧ acc = List.map nD A ∧ A.Pairwise (· < ·) ∧ ∀ k ∈ A, k < j ∧ k ≠ r) (List.range n) 0 []
    [some (.pu ps), some (.fz (nD n)), x2, some (.fz (nD r)), x4, none, x6, x7, x8, x9, x10, x11, x12] (by
      rintro j x acc ρ hj ⟨ps1, A, rfl, w1, rfl, a1, a2⟩
      obtain ⟨rfl, hj'⟩ := rng_get hj
      rw [Nat.zero_add] at w1 a2 ⊢
      by_cases hr : x = r
      · have hq : q__law_parts_right_2 [some (.pu ps1), some (.fz (nD n)), x2, some (.fz (nD r)), x4, some (.fz (nD x)), x6, x7, x8, x9, x10, x11, x12] = some (false, [some (.pu ps1), some (.fz (nD n)), x2, some (.fz (nD r)), x4, some (.fz (nD x)), x6, x7, x8, x9, x10, x11, x12]) := by
          unfold q__law_parts_right_2
          simp only [init, retOf, seqG, setG, newG, iffG, rtG, drG, asgG, nxG, noG, liftP, liftT, nwM, tb, tbM, op1, op1M, op2, op2M, vG, rG, fG, cG, callG, aNil, aCons, aStar, tAndG, tOrG, tNotG, tAndM, tOrM, tNotM, andG, orG, Dn.andM, Dn.orM, ifG, ifM, boolOf, nmT, nilT, consT, tupT, setVG, fzV, olV, odV, parG, par3G', notD, negD, tupM, lstN, lenD, listI, cutN.listOf, wipeR, putBack, fzOf, intOf, iiG, iiB, iiC, List.map_cons, List.map_nil, List.cons_append, List.nil_append, List.append_nil, List.length_cons, List.length_nil, List.length_map, List.replicate_succ, List.replicate_zero, List.getElem?_cons_zero, List.getElem?_cons_succ, List.set_cons_zero, List.set_cons_succ, Option.bind_some, Option.bind_none, Option.map_some, Option.map_none, Bool.not_true, Bool.not_false, Bool.true_and, Bool.and_true, Bool.false_and, Bool.and_false, Bool.or_true, Bool.true_or, Bool.or_false, Bool.false_or, decide_true, decide_false, Nat.reduceSub, Nat.reduceAdd, Nat.reduceLeDiff, Nat.reduceEqDiff, Nat.zero_add, if_true, if_false, reduceIte, reduceCtorEq, Bool.false_eq_true, ne_n, hr]
        exact ⟨_, false, _, rfl, hq, fun h => (by cases h), fun _ => ⟨ps1, A, rfl, w1.mono (by omega), rfl, a1, fun k hk => ⟨by have := (a2 k hk).1; omega, (a2 k hk).2⟩⟩⟩
      · obtain ⟨d, ps2, d1, d2, d3⟩ := draw (k := 2) w1 (by omega) (by omega) (by omega)
        have d1 : runP 5 g__law_draw ps1 [.int 2] = some (nD d, ps2) := d1
        have hq : q__law_parts_right_2 [some (.pu ps1), some (.fz (nD n)), x2, some (.fz (nD r)), x4, some (.fz (nD x)), x6, x7, x8, x9, x10, x11, x12] = some (decide (d = 0), [some (.pu ps2), some (.fz (nD n)), x2, some (.fz (nD r)), x4, some (.fz (nD x)), x6, x7, x8, x9, x10, x11, x12]) := by
          unfold q__law_parts_right_2
          simp only [init, retOf, seqG, setG, newG, iffG, rtG, drG, asgG, nxG, noG, liftP, liftT, nwM, tb, tbM, op1, op1M, op2, op2M, vG, rG, fG, cG, callG, aNil, aCons, aStar, tAndG, tOrG, tNotG, tAndM, tOrM, tNotM, andG, orG, Dn.andM, Dn.orM, ifG, ifM, boolOf, nmT, nilT, consT, tupT, setVG, fzV, olV, odV, parG, par3G', notD, negD, tupM, lstN, lenD, listI, cutN.listOf, wipeR, putBack, fzOf, intOf, iiG, iiB, iiC, List.map_cons, List.map_nil, List.cons_append, List.nil_append, List.append_nil, List.length_cons, List.length_nil, List.length_map, List.replicate_succ, List.replicate_zero, List.getElem?_cons_zero, List.getElem?_cons_succ, List.set_cons_zero, List.set_cons_succ, Option.bind_some, Option.bind_none, Option.map_some, Option.map_none, Bool.not_true, Bool.not_false, Bool.true_and, Bool.and_true, Bool.false_and, Bool.and_false, Bool.or_true, Bool.true_or, Bool.or_false, Bool.false_or, decide_true, decide_false, Nat.reduceSub, Nat.reduceAdd, Nat.reduceLeDiff, Nat.reduceEqDiff, Nat.zero_add, if_true, if_false, reduceIte, reduceCtorEq, Bool.false_eq_true, ne_n, hr, callPG, olAt, olSet, d1, int_0, eq_n]
        have he : e__law_parts_right_2 [some (.pu ps2), some (.fz (nD n)), x2, some (.fz (nD r)), x4, some (.fz (nD x)), x6, x7, x8, x9, x10, x11, x12] = some (nD x, [some (.pu ps2), some (.fz (nD n)), x2, some (.fz (nD r)), x4, some (.fz (nD x)), x6, x7, x8, x9, x10, x11, x12]) := by
          unfold e__law_parts_right_2
          simp only [init, retOf, seqG, setG, newG, iffG, rtG, drG, asgG, nxG, noG, liftP, liftT, nwM, tb, tbM, op1, op1M, op2, op2M, vG, rG, fG, cG, callG, aNil, aCons, aStar, tAndG, tOrG, tNotG, tAndM, tOrM, tNotM, andG, orG, Dn.andM, Dn.orM, ifG, ifM, boolOf, nmT, nilT, consT, tupT, setVG, fzV, olV, odV, parG, par3G', notD, negD, tupM, lstN, lenD, listI, cutN.listOf, wipeR, putBack, fzOf, intOf, iiG, iiB, iiC, List.map_cons, List.map_nil, List.cons_append, List.nil_append, List.append_nil, List.length_cons, List.length_nil, List.length_map, List.replicate_succ, List.replicate_zero, List.getElem?_cons_zero, List.getElem?_cons_succ, List.set_cons_zero, List.set_cons_succ, Option.bind_some, Option.bind_none, Option.map_some, Option.map_none, Bool.not_true, Bool.not_false, Bool.true_and, Bool.and_true, Bool.false_and, Bool.and_false, Bool.or_true, Bool.true_or, Bool.or_false, Bool.false_or, decide_true, decide_false, Nat.reduceSub, Nat.reduceAdd, Nat.reduceLeDiff, Nat.reduceEqDiff, Nat.zero_add, if_true, if_false, reduceIte, reduceCtorEq, Bool.false_eq_true]
        refine ⟨_, _, _, rfl, hq, fun _ => ⟨_, _, he, ps2, A ++ [x], rfl, by rw [show m + (x + 1) = m + x + 1 by omega]; exact d3, by rw [List.map_append]; rfl, ?_, fun k hk => ?_⟩, fun _ => ⟨ps2, A, rfl, by rw [show m + (x + 1) = m + x + 1 by omega]; exact d3, rfl, a1, fun k hk => ⟨by have := (a2 k hk).1; omega, (a2 k hk).2⟩⟩⟩
        · rw [List.pairwise_append]
          exact ⟨a1, by simp, fun a ha b hb => by simp at hb; subst hb; exact (a2 a ha).1⟩
        · rcases List.mem_append.mp hk with z | z
          · exact ⟨by have := (a2 k z).1; omega, (a2 k z).2⟩
          · simp at z; subst z; exact ⟨by omega, hr⟩) ⟨ps, [], rfl, by simpa using h, rfl, List.Pairwise.nil, fun k hk => (by cases hk)⟩
  rw [Nat.zero_add, List.length_range] at w1 a2
  refine ⟨A, ps1, ?_, a1, a2, w1⟩
  rw [lcN_eq (rng_n (n := n) (ρ' := [some (.pu ps), some (.fz (nD n)), x2, some (.fz (nD r)), x4, none, x6, x7, x8, x9, x10, x11, x12]) rfl (by omega)) (by simp; omega)]
  simp only [wipeR, List.set_cons_zero, List.set_cons_succ]
  rw [e1]
  simp only [putBack, fzOf, Option.map_some, List.getElem?_cons_zero, List.getElem?_cons_succ, List.set_cons_zero, List.set_cons_succ]
/-- the silent signs, an L at each rule of A -/
theorem marks (n : Nat) (A : List Nat) (hA : ∀ k ∈ A, k < n) (x0 x1 x2 x3 x4 x5 x6 x7 x8 x10 x11 x12 : Option Sl) :
    ∃ (ss : List Sg) (y5 : Option Sl), forL (nmT 5) b__law_parts_right_1 (A.map nD) [x0, x1, x2, x3, x4, x5, x6, x7, x8, some (.ol ((dots n).map sD)), x10, x11, x12] = some (.nx, [x0, x1, x2, x3, x4, y5, x6, x7, x8, some (.ol (List.map sD ss)), x10, x11, x12]) ∧ ss.length = n ∧ ∀ k, ss.getD k .S = if k ∈ A then .L else .S := by
  obtain ⟨ρ', e1, ss, y5, rfl, s1, s2⟩ := for_all (td := nmT 5) (b := b__law_parts_right_1) nD
    (fun j ρ => ∃ ss y5, ρ = [x0, x1, x2, x3, x4, y5, x6, x7, x8, some (.ol (List.map sD ss)), x10, x11, x12] ∧ ss.length = n ∧ ∀ k, ss.getD k .S = if k ∈ A.take j then .L else .S) A
    [x0, x1, x2, x3, x4, x5, x6, x7, x8, some (.ol ((dots n).map sD)), x10, x11, x12] (by
      rintro j r ρ hj ⟨ss, y5, rfl, s1, s2⟩
      have hr := hA r (List.mem_of_getElem? hj)
      have hixN : L2.ixN ss.length (r : Int) = some r := ixN_nat (by omega)
      have hb : b__law_parts_right_1 [x0, x1, x2, x3, x4, some (.fz (nD r)), x6, x7, x8, some (.ol (ss.map sD)), x10, x11, x12] = some (.nx, [x0, x1, x2, x3, x4, some (.fz (nD r)), x6, x7, x8, some (.ol ((ss.set r .L).map sD)), x10, x11, x12]) := by
        unfold b__law_parts_right_1 stG
        simp only [liftP, cG, vG, olAt, olSet, Option.map_some, Option.bind_some, List.getElem?_cons_zero, List.getElem?_cons_succ, List.set_cons_zero, List.set_cons_succ, str_L, lit_L, List.length_map]
        simp only [nD, intOf, Option.bind_some, hixN, Option.map_some, List.map_set]
      refine ⟨_, _, rfl, hb, ss.set r .L, _, rfl, by rw [List.length_set]; exact s1, fun k => ?_⟩
      rw [getD_set (by omega), s2, List.take_add_one, hj]
      simp only [Option.toList_some, List.mem_append, List.mem_singleton]
      by_cases e : k = r
      · simp [e]
      · simp [e]) ⟨dots n, x5, rfl, by unfold dots; simp, fun k => by
        unfold dots
        rw [List.getD_eq_getElem?_getD, List.getElem?_replicate]
        simp only [List.take_zero, List.not_mem_nil, if_false]
        split <;> rfl⟩
  rw [List.take_length] at s2
  exact ⟨ss, y5, e1, s1, s2⟩
theorem marks_opp {n r : Nat} {A : List Nat} (hr : r < n) (hA : ∀ k ∈ A, k < n ∧ k ≠ r) {ss : List Sg} (h1 : ss.length = n) (h2 : ∀ k, ss.getD k .S = if k ∈ A then .L else .S) : ss.set r .W = opp n r A := by
  apply List.ext_getElem
  · rw [List.length_set, h1, fw_len]
  · intro k k1 k2
    have hk : k < n := by rw [List.length_set] at k1; omega
    rw [← getD_f k1, ← getD_f k2, getD_set (by omega), opp_at hk, h2]
end K85
end
section
set_option Elab.async false
set_option linter.all false
set_option maxRecDepth 100000
set_option maxHeartbeats 8000000
namespace K85
open PySem L2 Dn Rk
theorem ix_neg (K : List Nat) (x : Nat) : ixD (nsD (K ++ [x])) (.int (-1)) = some (nD x) := by
  show L2.atI ((K ++ [x]).map nD) (-1) = _
  unfold L2.atI L2.ixN
  rw [if_neg (by omega), if_pos (by simp; omega)]
  show ((K ++ [x]).map nD)[((-1 : Int) + ((K ++ [x]).map nD).length).toNat]? = _
  have e : ((-1 : Int) + ((K ++ [x]).map nD).length).toNat = K.length := by simp; omega
  rw [e, List.getElem?_map, List.getElem?_append_right (Nat.le_refl _)]
  simp
theorem cut_neg (K : List Nat) (x : Nat) : cutD ((K ++ [x]).map nD) none (some (-1)) = K.map nD := by
  unfold cutD
  have e : HT.sIx ((K ++ [x]).map nD).length ((K ++ [x]).map nD).length (some (-1)) = K.length := by
    unfold HT.sIx
    simp
    omega
  rw [HT.sIx_none, e, List.drop_zero, Nat.sub_zero, List.map_append, List.take_append_of_le_length (by simp), List.take_of_length_le (by simp)]
theorem rep_one {α : Type} (x : α) : ∀ k : Nat, (List.replicate k [x]).flatten = List.replicate k x
  | 0 => rfl
  | k + 1 => by rw [List.replicate_succ, List.flatten_cons, rep_one x k, List.replicate_succ]; rfl
theorem parts_right {m n : Nat} (h1 : 1 ≤ n) (hn : n ≤ 60) (fs : List Fact) (hf : Fits n fs) (hl : fs.length < 30) (c : Con n fs) (hm : m + 1000 < 10 ^ 9) {ps : List PyData} (h : Wl m ps) :
    ∃ ps', runP 13 g__law_parts_right ps [nD n, fsD fs] = some (.bool true, ps') ∧ Wl (m + 1000) ps' := by
  obtain ⟨r, ps1, d1, hr, w1⟩ := draw (k := n) h (by omega) h1 (by omega)
  obtain ⟨A, ps2, a1, a2, a3, w2⟩ := ahead (r := r) hn (by omega) w1 (some (.fz (fsD fs))) none none none none none none none none
  have fo := fact_of n h1 hn r hr A a2 a3
  have fo : runG 2 g_fact_of [nD n, .tuple [nD r, .list (A.map nD)]] = some (fD (fw n A [r])) := fo
  obtain ⟨ss, y5, m1, m2, m3⟩ := marks n A (fun k hk => (a3 k hk).1) (some (.pu ps2)) (some (.fz (nD n))) (some (.fz (fsD fs))) (some (.fz (nD r))) (some (.fz (.list (A.map nD)))) none none none (some (.fz (fD (fw n A [r])))) none none none
  have mo := marks_opp hr a3 m2 m3
  have jn := joinD_s (ss.set r .W) (by rw [List.length_set]; omega)
  rw [mo] at jn
  have hixN : L2.ixN ss.length (r : Int) = some r := ixN_nat (by omega)
  have rep : repN (nwM (lstN (aCons (liftP (cG (.str "."))) aNil))) (vG 1) [some (.pu ps2), some (.fz (nD n)), some (.fz (fsD fs)), some (.fz (nD r)), some (.fz (.list (A.map nD))), none, none, none, none, none, none, none, none] =
      some ((dots n).map sD, [some (.pu ps2), some (.fz (nD n)), some (.fz (fsD fs)), some (.fz (nD r)), some (.fz (.list (A.map nD))), none, none, none, none, none, none, none, none]) := by
    unfold repN
    have hz : (1 : Nat) ≤ 1000000 := by omega
    have io : intOf (nD n) = some (n : Int) := rfl
    simp only [nwM, lstN, aCons, aNil, liftP, cG, vG, str_S, lit_S, hz, Option.map_some, Option.bind_some, List.getElem?_cons_zero, List.getElem?_cons_succ, List.length_cons, List.length_nil, Nat.zero_add, if_true, cutN.listOf, io, Int.toNat_natCast]
    rw [if_pos ⟨by omega, by omega, by omega⟩]
    unfold dots
    rw [List.map_replicate, rep_one]
  have hff : (fw n A [r]).length = n := fw_len _ _ _
  have hfw : Fits n (fs ++ [opp n r A]) := fits_app hf (fw_len _ _ _)
  have bs := barring_set n h1 hn (fs ++ [opp n r A]) hfw (by simp; omega)
  have pf := paper_for n h1 hn fs hf (by omega) (fw n A [r]) hff
  obtain ⟨b, fl1, fl2⟩ := follows n h1 hn fs hf (by omega) (fw n A [r]) hff
  have oa := order_against n h1 hn fs hf (by omega) (fw n A [r]) hff
  have pfol := part_fol hr a3 (fs := fs)
  refine ⟨ps2, ?_, w2.mono (by omega)⟩
  have hz2 : fs.length + 1 ≤ 1000000 := by omega
  have inr : intOf (nD r) = some (r : Int) := rfl
  rw [runP_eq]
  unfold g__law_parts_right
  simp only [seqG, setG, nwM, callPG, olAt, olSet, aCons, aNil, liftP, vG, init, List.map_cons, List.map_nil, List.length_cons, List.length_nil, Nat.reduceAdd, Nat.reduceSub, List.replicate_succ, List.replicate_zero, List.cons_append, List.nil_append, List.append_nil, List.getElem?_cons_zero, List.getElem?_cons_succ, Option.bind_some, Option.map_some, if_true, d1, List.set_cons_zero, List.set_cons_succ]
  rw [a1]
  simp only [parG, fzV, olV, callG, tupM, aCons, aNil, liftP, vG, List.length_cons, List.length_nil, Nat.reduceAdd, Nat.reduceLeDiff, List.append_nil, List.getElem?_cons_zero, List.getElem?_cons_succ, Option.bind_some, Option.map_some, if_true, fo, rep, List.set_cons_zero, List.set_cons_succ]
  rw [forG_eq (ds := A.map nD) (ρ1 := [some (.pu ps2), some (.fz (nD n)), some (.fz (fsD fs)), some (.fz (nD r)), some (.fz (.list (A.map nD))), none, none, none, some (.fz (fD (fw n A [r]))), some (.ol ((dots n).map sD)), none, none, none]) (by simp only [init, retOf, seqG, setG, newG, iffG, rtG, drG, asgG, nxG, noG, liftP, liftT, nwM, tb, tbM, op1, op1M, op2, op2M, vG, rG, fG, cG, callG, aNil, aCons, aStar, tAndG, tOrG, tNotG, tAndM, tOrM, tNotM, andG, orG, Dn.andM, Dn.orM, ifG, ifM, boolOf, nmT, nilT, consT, tupT, setVG, fzV, olV, odV, parG, par3G', notD, negD, tupM, lstN, lenD, listI, cutN.listOf, wipeR, putBack, fzOf, intOf, iiG, iiB, iiC, List.map_cons, List.map_nil, List.cons_append, List.nil_append, List.append_nil, List.length_cons, List.length_nil, List.length_map, List.replicate_succ, List.replicate_zero, List.getElem?_cons_zero, List.getElem?_cons_succ, List.set_cons_zero, List.set_cons_succ, Option.bind_some, Option.bind_none, Option.map_some, Option.map_none, Bool.not_true, Bool.not_false, Bool.true_and, Bool.and_true, Bool.false_and, Bool.and_false, Bool.or_true, Bool.true_or, Bool.or_false, Bool.false_or, decide_true, decide_false, Nat.reduceSub, Nat.reduceAdd, Nat.reduceLeDiff, Nat.reduceEqDiff, Nat.zero_add, if_true, if_false, reduceIte, reduceCtorEq, Bool.false_eq_true]), m1]
  simp only [stG, olAt, olSet, liftP, vG, cG, str_W, lit_W, List.length_map, inr, hixN, Option.bind_some, Option.map_some, List.getElem?_cons_zero, List.getElem?_cons_succ, List.set_cons_zero, List.set_cons_succ]
  rw [show (ss.map sD).set r (sD .W) = (ss.set r .W).map sD from by rw [List.map_set], mo]
  have jn2 : op2 joinD (cG (.str "")) (rG 9) [some (.pu ps2), some (.fz (nD n)), some (.fz (fsD fs)), some (.fz (nD r)), some (.fz (.list (A.map nD))), y5, none, none, some (.fz (fD (fw n A [r]))), some (.ol ((opp n r A).map sD)), none, none, none] = some (fD (opp n r A)) := by
    simp only [op2, cG, rG, List.getElem?_cons_zero, List.getElem?_cons_succ, Option.bind_some, str_E, jn]
  have hz1 : (1 : Nat) ≤ 1000000 := by omega
  have ct : catN (liftP (vG 2)) (nwM (lstN (aCons (liftP (op2 joinD (cG (.str "")) (rG 9))) aNil))) [some (.pu ps2), some (.fz (nD n)), some (.fz (fsD fs)), some (.fz (nD r)), some (.fz (.list (A.map nD))), y5, none, none, some (.fz (fD (fw n A [r]))), some (.ol ((opp n r A).map sD)), none, none, none] =
      some ((fs ++ [opp n r A]).map fD, [some (.pu ps2), some (.fz (nD n)), some (.fz (fsD fs)), some (.fz (nD r)), some (.fz (.list (A.map nD))), y5, none, none, some (.fz (fD (fw n A [r]))), some (.ol ((opp n r A).map sD)), none, none, none]) := by
    have lof : cutN.listOf (fsD fs) = some (fs.map fD) := rfl
    unfold catN
    simp only [nwM, lstN, aCons, aNil, liftP, vG, jn2, List.getElem?_cons_zero, List.getElem?_cons_succ, Option.bind_some, Option.map_some, lof, cutN.listOf, List.length_cons, List.length_nil, List.length_map, Nat.zero_add, hz1, hz2, if_true, List.map_append, List.map_cons, List.map_nil, Nat.reduceLeDiff]
    exact if_pos (by first | (rw [List.length_map]; omega) | (simp; omega))
  rw [ct]
  have wl : PyData.list ((fs ++ [opp n r A]).map fD) = fsD (fs ++ [opp n r A]) := rfl
  simp only [Option.map_some, Option.bind_some, wl, List.set_cons_zero, List.set_cons_succ]
  rcases bs with ⟨bs, bc⟩ | ⟨K, bs, bK⟩
  · have nf : ¬ Fol n fs (fw n A [r]) := fun z => pfol.mp z bc
    have pf1 := (pf.resolve_right fun z => nf z.1).1
    obtain ⟨ds, oa1, _⟩ := oa.resolve_left fun z => nf z.2
    have hb : b = false := by
      cases b with
      | false => rfl
      | true => exact absurd (fl2.mp rfl) nf
    subst hb
    have i1 : isN .none .none = some (.bool true) := rfl
    have i2 : isnN .none .none = some (.bool false) := rfl
    have i3 : neA (.bool true) (.bool true) = some (.bool false) := rfl
    have i4 : neA (.bool false) (.bool false) = some (.bool false) := rfl
    have i5 : isnN (.list ds) .none = some (.bool true) := rfl
    simp only [init, retOf, seqG, setG, newG, iffG, rtG, drG, asgG, nxG, noG, liftP, liftT, nwM, tb, tbM, op1, op1M, op2, op2M, vG, rG, fG, cG, callG, aNil, aCons, aStar, tAndG, tOrG, tNotG, tAndM, tOrM, tNotM, andG, orG, Dn.andM, Dn.orM, ifG, ifM, boolOf, nmT, nilT, consT, tupT, setVG, fzV, olV, odV, parG, par3G', notD, negD, tupM, lstN, lenD, listI, cutN.listOf, wipeR, putBack, fzOf, intOf, iiG, iiB, iiC, List.map_cons, List.map_nil, List.cons_append, List.nil_append, List.append_nil, List.length_cons, List.length_nil, List.length_map, List.replicate_succ, List.replicate_zero, List.getElem?_cons_zero, List.getElem?_cons_succ, List.set_cons_zero, List.set_cons_succ, Option.bind_some, Option.bind_none, Option.map_some, Option.map_none, Bool.not_true, Bool.not_false, Bool.true_and, Bool.and_true, Bool.false_and, Bool.and_false, Bool.or_true, Bool.true_or, Bool.or_false, Bool.false_or, decide_true, decide_false, Nat.reduceSub, Nat.reduceAdd, Nat.reduceLeDiff, Nat.reduceEqDiff, Nat.zero_add, if_true, if_false, reduceIte, reduceCtorEq, Bool.false_eq_true, bs, pf1, i1, i2, i3, i4, i5, fl1, oa1, puAt]
  · have nc : ¬ Con n (fs ++ [opp n r A]) := BarI.no hfw bK
    have hfol := pfol.mpr nc
    obtain ⟨_, P, pf1, p1, p2, p3, _⟩ := pf.resolve_left fun z => z.2 hfol
    have hb := fl2.mpr hfol
    subst hb
    obtain ⟨K', rfl, k1, k2⟩ := bar_split hf c bK
    have kp := bar_part hr a3 hf c bK k2 k1
    have ip := is_paper n fs (fw n A [r]) K' hf hff h1 hn (by omega) k1 k2
    rw [(paperB_iff hff).mpr kp] at ip
    have lb := part_bar hr a3 hf c p1 p2 p3
    have ib := is_barring_set n (fs ++ [opp n r A]) _ hfw h1 hn (by simp; omega) lb.1 lb.2.1
    rw [barB_iff.mpr lb.2.2] at ib
    have i1 : ∀ Z, isN (nsD Z) .none = some (.bool false) := fun _ => rfl
    have i2 : ∀ Z, isnN (nsD Z) .none = some (.bool true) := fun _ => rfl
    have i3 : neA (.bool false) (.bool false) = some (.bool false) := rfl
    have i4 : neA (.bool true) (.bool true) = some (.bool false) := rfl
    have hPl := asc_len p1 p2
    have ng : negD (.int 1) = some (.int (-1)) := rfl
    have cut : cutN (vG 10) oNone (oSome (op1 negD (cG (.int 1)))) [some (.pu ps2), some (.fz (nD n)), some (.fz (fsD fs)), some (.fz (nD r)), some (.fz (.list (A.map nD))), y5, some (.fz (fsD (fs ++ [opp n r A]))), none, some (.fz (fD (fw n A [r]))), some (.ol ((opp n r A).map sD)), some (.fz (nsD (K' ++ [fs.length]))), some (.fz (nsD P)), none] =
        some (K'.map nD, [some (.pu ps2), some (.fz (nD n)), some (.fz (fsD fs)), some (.fz (nD r)), some (.fz (.list (A.map nD))), y5, some (.fz (fsD (fs ++ [opp n r A]))), none, some (.fz (fD (fw n A [r]))), some (.ol ((opp n r A).map sD)), some (.fz (nsD (K' ++ [fs.length]))), some (.fz (nsD P)), none]) := by
      unfold cutN
      simp only [vG, oNone, oSome, op1, cG, List.getElem?_cons_zero, List.getElem?_cons_succ, Option.bind_some, Option.map_some, ng, intOf, nsD, cutN.listOf, cut_neg]
    have kn : PyData.list (K'.map nD) = nsD K' := rfl
    have tt : isnB (.bool true) (.bool true) = some (.bool false) := rfl
    simp only [parG, fzV, callG, aCons, aNil, liftP, vG, cG, op1, op2, Option.bind_some, Option.map_some, List.cons_append, List.nil_append, List.append_nil, List.length_cons, List.length_nil, Nat.reduceAdd, List.getElem?_cons_zero, List.getElem?_cons_succ, List.set_cons_zero, List.set_cons_succ, if_true, bs, pf1, iffG, tOrM, liftT, tb, i1, i2, i3, i4, boolOf, tbM, op2M, fl1, Bool.false_eq_true, if_false, nxG, ng, ix_neg, lenF, ne_n, decide_true, Bool.not_true, nwM, cut, kn, ip, tt]
    have hq := fun (x7 : Option Sl) => lc_typed (vs := [12]) (td := nmT 12) (tt := q__law_parts_right_1) (ge := e__law_parts_right_1) (ρ := [some (.pu ps2), some (.fz (nD n)), some (.fz (fsD fs)), some (.fz (nD r)), some (.fz (.list (A.map nD))), y5, some (.fz (fsD (fs ++ [opp n r A]))), x7, some (.fz (fD (fw n A [r]))), some (.ol ((opp n r A).map sD)), some (.fz (nsD (K' ++ [fs.length]))), some (.fz (nsD P)), none]) nD (fun i => !decide (fa_ fs i = dots n)) nD P fun i hi => ⟨_, rfl, by
      unfold q__law_parts_right_1
      simp only [init, retOf, seqG, setG, newG, iffG, rtG, drG, asgG, nxG, noG, liftP, liftT, nwM, tb, tbM, op1, op1M, op2, op2M, vG, rG, fG, cG, callG, aNil, aCons, aStar, tAndG, tOrG, tNotG, tAndM, tOrM, tNotM, andG, orG, Dn.andM, Dn.orM, ifG, ifM, boolOf, nmT, nilT, consT, tupT, setVG, fzV, olV, odV, parG, par3G', notD, negD, tupM, lstN, lenD, listI, cutN.listOf, wipeR, putBack, fzOf, intOf, iiG, iiB, iiC, List.map_cons, List.map_nil, List.cons_append, List.nil_append, List.append_nil, List.length_cons, List.length_nil, List.length_map, List.replicate_succ, List.replicate_zero, List.getElem?_cons_zero, List.getElem?_cons_succ, List.set_cons_zero, List.set_cons_succ, Option.bind_some, Option.bind_none, Option.map_some, Option.map_none, Bool.not_true, Bool.not_false, Bool.true_and, Bool.and_true, Bool.false_and, Bool.and_false, Bool.or_true, Bool.true_or, Bool.or_false, Bool.false_or, decide_true, decide_false, Nat.reduceSub, Nat.reduceAdd, Nat.reduceLeDiff, Nat.reduceEqDiff, Nat.zero_add, if_true, if_false, reduceIte, reduceCtorEq, Bool.false_eq_true, ix_sel (p2 i hi), str_S, lit_S, mulS_dots n hn, ne_f, fa_]
      rfl, fun _ => by
      unfold e__law_parts_right_1
      simp only [init, retOf, seqG, setG, newG, iffG, rtG, drG, asgG, nxG, noG, liftP, liftT, nwM, tb, tbM, op1, op1M, op2, op2M, vG, rG, fG, cG, callG, aNil, aCons, aStar, tAndG, tOrG, tNotG, tAndM, tOrM, tNotM, andG, orG, Dn.andM, Dn.orM, ifG, ifM, boolOf, nmT, nilT, consT, tupT, setVG, fzV, olV, odV, parG, par3G', notD, negD, tupM, lstN, lenD, listI, cutN.listOf, wipeR, putBack, fzOf, intOf, iiG, iiB, iiC, List.map_cons, List.map_nil, List.cons_append, List.nil_append, List.append_nil, List.length_cons, List.length_nil, List.length_map, List.replicate_succ, List.replicate_zero, List.getElem?_cons_zero, List.getElem?_cons_succ, List.set_cons_zero, List.set_cons_succ, Option.bind_some, Option.bind_none, Option.map_some, Option.map_none, Bool.not_true, Bool.not_false, Bool.true_and, Bool.and_true, Bool.false_and, Bool.and_false, Bool.or_true, Bool.true_or, Bool.or_false, Bool.false_or, decide_true, decide_false, Nat.reduceSub, Nat.reduceAdd, Nat.reduceLeDiff, Nat.reduceEqDiff, Nat.zero_add, if_true, if_false, reduceIte, reduceCtorEq, Bool.false_eq_true], rfl⟩
    rw [lcN_eq (ds := P.map nD) (ρ1 := [some (.pu ps2), some (.fz (nD n)), some (.fz (fsD fs)), some (.fz (nD r)), some (.fz (.list (A.map nD))), y5, some (.fz (fsD (fs ++ [opp n r A]))), none, some (.fz (fD (fw n A [r]))), some (.ol ((opp n r A).map sD)), some (.fz (nsD (K' ++ [fs.length]))), some (.fz (nsD P)), none]) rfl (by rw [List.length_map]; omega)]
    simp only [wipeR, List.set_cons_zero, List.set_cons_succ]
    rw [hq]
    have fl : (P.filter fun i => !decide (fa_ fs i = dots n)).length ≤ P.length := List.length_filter_le _ _
    have hz3 : (P.filter fun i => !decide (fa_ fs i = dots n)).length ≤ 999999 := by omega
    have ln : PyData.list ((P.filter fun i => !decide (fa_ fs i = dots n)).map nD ++ [nD fs.length]) = nsD ((P.filter fun i => !decide (fa_ fs i = dots n)) ++ [fs.length]) := by unfold nsD; rw [List.map_append]; rfl
    unfold catN
    simp only [init, retOf, seqG, setG, newG, iffG, rtG, drG, asgG, nxG, noG, liftP, liftT, nwM, tb, tbM, op1, op1M, op2, op2M, vG, rG, fG, cG, callG, aNil, aCons, aStar, tAndG, tOrG, tNotG, tAndM, tOrM, tNotM, andG, orG, Dn.andM, Dn.orM, ifG, ifM, boolOf, nmT, nilT, consT, tupT, setVG, fzV, olV, odV, parG, par3G', notD, negD, tupM, lstN, listI, cutN.listOf, wipeR, putBack, fzOf, intOf, iiG, iiB, iiC, List.map_cons, List.map_nil, List.cons_append, List.nil_append, List.append_nil, List.length_cons, List.length_nil, List.length_map, List.replicate_succ, List.replicate_zero, List.getElem?_cons_zero, List.getElem?_cons_succ, List.set_cons_zero, List.set_cons_succ, Option.bind_some, Option.bind_none, Option.map_some, Option.map_none, Bool.not_true, Bool.not_false, Bool.true_and, Bool.and_true, Bool.false_and, Bool.and_false, Bool.or_true, Bool.true_or, Bool.or_false, Bool.false_or, decide_true, decide_false, Nat.reduceSub, Nat.reduceAdd, Nat.reduceLeDiff, Nat.reduceEqDiff, Nat.zero_add, if_true, if_false, reduceIte, reduceCtorEq, Bool.false_eq_true, lenF, List.length_map, hz1, hz3, ln, ib, puAt]
end K85
end
section
set_option Elab.async false
set_option linter.all false
set_option maxRecDepth 100000
set_option maxHeartbeats 4000000
namespace K85
open PySem L2 Dn Rk
theorem Fol.mem {n : Nat} {fs : List Fact} {f : Fact} (h : f ∈ fs) : Fol n fs f := fun _ hs => hs f h
theorem Fol.weak {n : Nat} {fs : List Fact} {f g : Fact} (h : Fol n fs f) (w : Weak f g) : Fol n fs g := fun s hs k hk e => by
  obtain ⟨v, v1, v2, v3⟩ := h s hs k hk (w.2.2 k e)
  exact ⟨v, v1, w.2.1 v v2, v3⟩
theorem Fol.over {n : Nat} {fs S : List Fact} (h : ∀ f ∈ S, Fol n fs f) : Fol n fs (over n S) := fun s hs k hk e => by
  rw [over_at hk, fus_L, col_mem] at e
  obtain ⟨f, hf, e⟩ := e
  obtain ⟨w, w1, w2, w3⟩ := h f hf s hs k hk e
  obtain ⟨v, ⟨v1, v2, g, g1, g2⟩, v3⟩ := exists_least (P := fun v => v < n ∧ s v < s k ∧ ∃ g ∈ S, g.getD v .S = .W) s ⟨w, w1, w3, f, hf, w2⟩
  refine ⟨v, v1, ?_, v2⟩
  rw [over_at v1, fus_W, col_mem, col_mem]
  refine ⟨⟨g, g1, g2⟩, fun ⟨q, q1, q2⟩ => ?_⟩
  obtain ⟨u, u1, u2, u3⟩ := h q q1 s hs v v1 q2
  have := v3 u ⟨u1, by omega, q, q1, u2⟩
  omega
theorem Con.app {n : Nat} {fs : List Fact} {g : Fact} (c : Con n fs) (h : Fol n fs g) : Con n (fs ++ [g]) := by
  obtain ⟨s, hs⟩ := c
  refine ⟨s, fun f hf => ?_⟩
  rcases List.mem_append.mp hf with z | z
  · exact hs f z
  · simp at z; subst z; exact h s hs
/-- a told paper of a fact with an L -/
theorem Told.first {n : Nat} {fs : List Fact} {f : Fact} (hf : Fits n fs) (c : Con n fs) {P : List Nat} (t : Told n fs f P) {r : Nat} (hr : r < n) (hL : f.getD r .S = .L) :
    P ≠ [] ∧ (∀ k, k < n → hasS fs P .W k → ¬ hasS fs P .L k → f.getD k .S = .W) ∧ ∀ k, k < n → f.getD k .S = .L → hasS fs P .L k :=
  t.2.2.1.first hf c t.2.1 ⟨r, hr, hL⟩
theorem Told.nil {n : Nat} {fs : List Fact} {f : Fact} (hff : f.length = n) {P : List Nat} (t : Told n fs f P) (h : ∀ k, k < n → f.getD k .S ≠ .L) : P = [] := by
  refine t.2.2.2 ?_
  cases e : rw_ f .L with
  | nil => rfl
  | cons k l =>
    have : k ∈ rw_ f .L := by rw [e]; simp
    obtain ⟨q1, q2⟩ := rw_mem.mp this
    exact absurd q2 (h k (by omega))
theorem some_L {n : Nat} (f : Fact) : (∃ r, r < n ∧ f.getD r .S = .L) ∨ ∀ k, k < n → f.getD k .S ≠ .L := by
  by_cases h : ∃ r, r < n ∧ f.getD r .S = .L
  · exact .inl h
  · exact .inr fun k hk e => h ⟨k, hk, e⟩
theorem has_or {fs : List Fact} {P Q J : List Nat} (hJ : ∀ x, x ∈ J ↔ x ∈ P ∨ x ∈ Q) (s : Sg) (k : Nat) : hasS fs J s k ↔ hasS fs P s k ∨ hasS fs Q s k := by
  unfold hasS
  constructor
  · rintro ⟨i, hi, e⟩
    rcases (hJ i).mp hi with z | z
    · exact .inl ⟨i, z, e⟩
    · exact .inr ⟨i, z, e⟩
  · rintro (⟨i, hi, e⟩ | ⟨i, hi, e⟩)
    · exact ⟨i, (hJ i).mpr (.inl hi), e⟩
    · exact ⟨i, (hJ i).mpr (.inr hi), e⟩
/-- papers of two facts -/
theorem Told.join {n : Nat} {fs : List Fact} {f h q : Fact} (hf : Fits n fs) (c : Con n fs) (lf : f.length = n) (lh : h.length = n) {P Q J : List Nat} (tP : Told n fs f P) (tQ : Told n fs h Q) (hJ : ∀ x, x ∈ J ↔ x ∈ P ∨ x ∈ Q)
    (qL : ∀ k, k < n → q.getD k .S = .L → f.getD k .S = .L ∨ h.getD k .S = .L) (qW : ∀ k, k < n → (f.getD k .S = .W ∨ h.getD k .S = .W) → f.getD k .S ≠ .L → h.getD k .S ≠ .L → q.getD k .S = .W) : Paper n fs q J := by
  rcases some_L (n := n) q with ⟨r, hr, eL⟩ | hno
  · have side : ∀ {f' : Fact} {P' : List Nat}, f'.length = n → Told n fs f' P' → (∀ k, k < n → hasS fs P' .W k → ¬ hasS fs P' .L k → f'.getD k .S = .W) ∧ (∀ k, k < n → f'.getD k .S = .L → hasS fs P' .L k) := fun {f'} {P'} l' t' => by
      rcases some_L (n := n) f' with ⟨r', hr', e'⟩ | no'
      · exact (t'.first hf c hr' e').2
      · have := t'.nil l' no'
        subst this
        exact ⟨fun k _ ⟨i, hi, _⟩ => (by cases hi), fun k hk e => absurd e (no' k hk)⟩
    obtain ⟨pW, pL⟩ := side lf tP
    obtain ⟨sW, sL⟩ := side lh tQ
    refine .inr ⟨fun e => ?_, fun k hk hw hl => ?_, .inl fun k hk e => ?_⟩
    · subst e
      rcases qL r hr eL with z | z
      · obtain ⟨i, hi, _⟩ := pL r hr z
        have := (hJ i).mpr (.inl hi); cases this
      · obtain ⟨i, hi, _⟩ := sL r hr z
        have := (hJ i).mpr (.inr hi); cases this
    · rw [has_or hJ] at hl
      have l1 : ¬ hasS fs P .L k := fun z => hl (.inl z)
      have l2 : ¬ hasS fs Q .L k := fun z => hl (.inr z)
      refine qW k hk ?_ (fun z => l1 (pL k hk z)) fun z => l2 (sL k hk z)
      rcases (has_or hJ .W k).mp hw with z | z
      · exact .inl (pW k hk z l1)
      · exact .inr (sW k hk z l2)
    · rw [has_or hJ]
      exact (qL k hk e).imp (pL k hk) (sL k hk)
  · exact .inl hno
/-- a paper with the help of a fact that has a paper -/
theorem Told.help {n : Nat} {fs : List Fact} {g o : Fact} (hf : Fits n fs) (c : Con n fs) (lg : g.length = n) (hfol : Fol n fs g) {P H : List Nat} (tP : Told n fs g P) (tH : Told n (fs ++ [g]) o H) (hin : fs.length ∈ H) {J : List Nat} (hJ : ∀ x, x ∈ J ↔ x ∈ P ∨ (x ∈ H ∧ x < fs.length)) : Paper n fs o J := by
  rcases some_L (n := n) o with ⟨r, hr, eL⟩ | hno
  · obtain ⟨h1, hW, hL⟩ := tH.first (fits_app hf lg) (c.app hfol) hr eL
    have hJ' : ∀ x, x ∈ J ↔ x ∈ P ∨ x ∈ H.filter (fun x => decide (x < fs.length)) := fun x => by rw [hJ, List.mem_filter, decide_eq_true_eq]
    have hh : ∀ s k, hasS (fs ++ [g]) H s k ↔ hasS fs (H.filter fun x => decide (x < fs.length)) s k ∨ g.getD k .S = s := fun s k => by
      constructor
      · rintro ⟨i, hi, e⟩
        by_cases lt : i < fs.length
        · exact .inl ⟨i, by rw [List.mem_filter]; exact ⟨hi, by simpa using lt⟩, by rw [← fa_app (g := g) lt]; exact e⟩
        · have := tH.2.1 i hi
          rw [List.length_append, List.length_singleton] at this
          have e2 : i = fs.length := by omega
          subst e2
          rw [fa_last] at e
          exact .inr e
      · rintro (⟨i, hi, e⟩ | e)
        · rw [List.mem_filter, decide_eq_true_eq] at hi
          exact ⟨i, hi.1, by rw [fa_app hi.2]; exact e⟩
        · exact ⟨_, hin, by rw [fa_last]; exact e⟩
    have gL : ∀ k, k < n → g.getD k .S = .L → hasS fs P .L k := fun k hk e => (tP.first hf c hk e).2.2 k hk e
    refine .inr ⟨fun e => ?_, fun k hk hw hl => ?_, .inl fun k hk e => ?_⟩
    · subst e
      rcases (hh .L r).mp (hL r hr eL) with ⟨i, hi, _⟩ | z
      · have := (hJ' i).mpr (.inr hi); cases this
      · obtain ⟨i, hi, _⟩ := gL r hr z
        have := (hJ' i).mpr (.inl hi); cases this
    · rw [has_or hJ'] at hl
      have l1 : ¬ hasS fs P .L k := fun z => hl (.inl z)
      have l3 : ¬ hasS (fs ++ [g]) H .L k := fun z => by
        rcases (hh .L k).mp z with z | z
        · exact hl (.inr z)
        · exact l1 (gL k hk z)
      refine hW k hk ((hh .W k).mpr ?_) l3
      rcases (has_or hJ' .W k).mp hw with z | z
      · rcases some_L (n := n) g with ⟨r', hr', e'⟩ | no'
        · exact .inr ((tP.first hf c hr' e').2.1 k hk z l1)
        · have := tP.nil lg no'
          subst this
          obtain ⟨i, hi, _⟩ := z
          cases hi
      · exact .inl z
    · rw [has_or hJ']
      rcases (hh .L k).mp (hL k hk e) with z | z
      · exact .inr z
      · exact .inl (gL k hk z)
  · exact .inl hno
theorem Told.alone {n : Nat} {fs : List Fact} {g o : Fact} {H : List Nat} (tH : Told n (fs ++ [g]) o H) (hout : ∀ x ∈ H, x < fs.length) : Paper n fs o H := by
  have hh : ∀ s k, hasS (fs ++ [g]) H s k ↔ hasS fs H s k := fun s k => by
    unfold hasS
    constructor <;> rintro ⟨i, hi, e⟩ <;> exact ⟨i, hi, by rw [fa_app (hout i hi)] at *; exact e⟩
  have := tH.2.2.1
  unfold Paper at this ⊢
  simp only [hh] at this
  exact this
theorem over_two {n : Nat} {f h : Fact} (k : Nat) (hk : k < n) : ((over n [f, h]).getD k .S = .L → f.getD k .S = .L ∨ h.getD k .S = .L) ∧ ((f.getD k .S = .W ∨ h.getD k .S = .W) → f.getD k .S ≠ .L → h.getD k .S ≠ .L → (over n [f, h]).getD k .S = .W) := by
  rw [over_at hk, fus_L, fus_W, col_mem, col_mem]
  refine ⟨fun ⟨g, hg, e⟩ => ?_, fun hw l1 l2 => ⟨?_, fun ⟨g, hg, e⟩ => ?_⟩⟩
  · simp at hg
    rcases hg with rfl | rfl
    · exact .inl e
    · exact .inr e
  · rcases hw with z | z
    · exact ⟨f, by simp, z⟩
    · exact ⟨h, by simp, z⟩
  · simp at hg
    rcases hg with rfl | rfl
    · exact l1 e
    · exact l2 e
end K85
end
section
set_option Elab.async false
set_option linter.all false
set_option maxRecDepth 100000
set_option maxHeartbeats 8000000
namespace K85
open PySem L2 Dn Rk
theorem lt_nn (a b : Nat) : ltI (nD a) (nD b) = some (.bool (decide (a < b))) := by
  show some (PyData.bool (decide ((a : Int) < (b : Int)))) = _
  congr 2
  exact decide_eq_decide.mpr ⟨fun h => by omega, fun h => by omega⟩
theorem lenN (L : List Nat) : lenD (nsD L) = some (nD L.length) := by show some (PyData.int ((L.map nD).length : Nat)) = _; rw [List.length_map]; rfl
/-- some facts of the list, drawn -/
theorem picks {m : Nat} (fs : List Fact) (hne : 1 ≤ fs.length) (hl : fs.length < 30) {d : Nat} (hd : d ≤ 100) (hm : m + d < 10 ^ 9) {ps : List PyData} (h : Wl m ps) (x1 x3 x4 x5 x6 x7 x8 x9 x10 x11 x13 x14 : Option Sl) :
    ∃ (S : List Fact) (ps' : List PyData), lcL [12] (nmT 12) yesM e__law_papers_right_2 ((List.range d).map nD) [some (.pu ps), x1, some (.fz (fsD fs)), x3, x4, x5, x6, x7, x8, x9, x10, x11, none, x13, x14] =
      some (S.map fD, [some (.pu ps'), x1, some (.fz (fsD fs)), x3, x4, x5, x6, x7, x8, x9, x10, x11, none, x13, x14]) ∧ S.length = d ∧ (∀ f ∈ S, f ∈ fs) ∧ Wl (m + d) ps' := by
  obtain ⟨ys, ρ', e1, ps1, S, rfl, w1, rfl, s1, s2⟩ := lc_step (vs := [12]) (td := nmT 12) (tt := yesM) (ge := e__law_papers_right_2) nD
    (fun j acc ρ => ∃ ps1 S, ρ = [some (.pu ps1), x1, some (.fz (fsD fs)), x3, x4, x5, x6, x7, x8, x9, x10, x11, none, x13, x14] ∧ Wl (m + j) ps1 ∧ acc = List.map fD S ∧ S.length = j ∧ ∀ f ∈ S, f ∈ fs) (List.range d) 0 []
    [some (.pu ps), x1, some (.fz (fsD fs)), x3, x4, x5, x6, x7, x8, x9, x10, x11, none, x13, x14] (by
      rintro j x acc ρ hj ⟨ps1, S, rfl, w1, rfl, s1, s2⟩
      obtain ⟨rfl, hj'⟩ := rng_get hj
      rw [Nat.zero_add] at w1 s1 ⊢
      obtain ⟨q, ps2, d1, d2, d3⟩ := draw (k := fs.length) w1 (by omega) hne (by omega)
      have he : e__law_papers_right_2 [some (.pu ps1), x1, some (.fz (fsD fs)), x3, x4, x5, x6, x7, x8, x9, x10, x11, some (.fz (nD x)), x13, x14] = some (fD (fa_ fs q), [some (.pu ps2), x1, some (.fz (fsD fs)), x3, x4, x5, x6, x7, x8, x9, x10, x11, some (.fz (nD x)), x13, x14]) := by
        unfold e__law_papers_right_2
        simp only [init, retOf, seqG, setG, newG, iffG, rtG, drG, asgG, nxG, noG, liftP, liftT, nwM, tb, tbM, op1, op1M, op2, op2M, vG, rG, fG, cG, callG, aNil, aCons, aStar, tAndG, tOrG, tNotG, tAndM, tOrM, tNotM, andG, orG, Dn.andM, Dn.orM, ifG, ifM, boolOf, nmT, nilT, consT, tupT, setVG, fzV, olV, odV, parG, par3G', notD, negD, tupM, lstN, listI, cutN.listOf, wipeR, putBack, fzOf, intOf, iiG, iiB, iiC, List.map_cons, List.map_nil, List.cons_append, List.nil_append, List.append_nil, List.length_cons, List.length_nil, List.length_map, List.replicate_succ, List.replicate_zero, List.getElem?_cons_zero, List.getElem?_cons_succ, List.set_cons_zero, List.set_cons_succ, Option.bind_some, Option.bind_none, Option.map_some, Option.map_none, Bool.not_true, Bool.not_false, Bool.true_and, Bool.and_true, Bool.false_and, Bool.and_false, Bool.or_true, Bool.true_or, Bool.or_false, Bool.false_or, decide_true, decide_false, Nat.reduceSub, Nat.reduceAdd, Nat.reduceLeDiff, Nat.reduceEqDiff, Nat.zero_add, if_true, if_false, reduceIte, reduceCtorEq, Bool.false_eq_true, callPG, olAt, olSet, lenF, d1, ix_sel d2, fa_]
      exact ⟨_, true, _, rfl, rfl, fun _ => ⟨_, _, he, ps2, S ++ [fa_ fs q], rfl, by rw [show m + (x + 1) = m + x + 1 by omega]; exact d3, by rw [List.map_append]; rfl, by simp [s1], fun f hf => by
        rcases List.mem_append.mp hf with z | z
        · exact s2 f z
        · simp at z; subst z; exact fa_mem d2⟩, fun h => (by cases h)⟩) ⟨ps, [], rfl, by simpa using h, rfl, rfl, fun f hf => (by cases hf)⟩
  rw [Nat.zero_add, List.length_range] at w1 s1
  exact ⟨S, ps1, e1, s1, s2, w1⟩
theorem helped_turn {n : Nat} (h1 : 1 ≤ n) (hn : n ≤ 60) (fs : List Fact) (hf : Fits n fs) (hl : fs.length < 20) (c : Con n fs) (g o : Fact) (lg : g.length = n) (lo : o.length = n) (hfol : Fol n fs g) (P H : List Nat) (tP : Told n fs g P) (tH : Told n (fs ++ [g]) o H) (x0 x3 x4 x5 x7 x9 x10 x12 x13 : Option Sl) :
    ∃ y13, b__law_papers_right_2 [x0, some (.fz (nD n)), some (.fz (fsD fs)), x3, x4, x5, some (.fz (fD o)), x7, some (.fz (nsD P)), x9, x10, some (.fz (nsD H)), x12, x13, none] =
      some (.nx, [x0, some (.fz (nD n)), some (.fz (fsD fs)), x3, x4, x5, some (.fz (fD o)), x7, some (.fz (nsD P)), x9, x10, some (.fz (nsD H)), x12, y13, none]) := by
  have hq := fun (x13 : Option Sl) => lc_typed (vs := [14]) (td := nmT 14) (tt := q__law_papers_right_1) (ge := e__law_papers_right_1) (ρ := [x0, some (.fz (nD n)), some (.fz (fsD fs)), x3, x4, x5, some (.fz (fD o)), x7, some (.fz (nsD P)), x9, x10, some (.fz (nsD H)), x12, x13, none]) nD (fun x => decide (x < fs.length)) nD H fun i hi => ⟨_, rfl, by
    unfold q__law_papers_right_1
    simp only [init, retOf, seqG, setG, newG, iffG, rtG, drG, asgG, nxG, noG, liftP, liftT, nwM, tb, tbM, op1, op1M, op2, op2M, vG, rG, fG, cG, callG, aNil, aCons, aStar, tAndG, tOrG, tNotG, tAndM, tOrM, tNotM, andG, orG, Dn.andM, Dn.orM, ifG, ifM, boolOf, nmT, nilT, consT, tupT, setVG, fzV, olV, odV, parG, par3G', notD, negD, tupM, lstN, listI, cutN.listOf, wipeR, putBack, fzOf, intOf, iiG, iiB, iiC, List.map_cons, List.map_nil, List.cons_append, List.nil_append, List.append_nil, List.length_cons, List.length_nil, List.length_map, List.replicate_succ, List.replicate_zero, List.getElem?_cons_zero, List.getElem?_cons_succ, List.set_cons_zero, List.set_cons_succ, Option.bind_some, Option.bind_none, Option.map_some, Option.map_none, Bool.not_true, Bool.not_false, Bool.true_and, Bool.and_true, Bool.false_and, Bool.and_false, Bool.or_true, Bool.true_or, Bool.or_false, Bool.false_or, decide_true, decide_false, Nat.reduceSub, Nat.reduceAdd, Nat.reduceLeDiff, Nat.reduceEqDiff, Nat.zero_add, if_true, if_false, reduceIte, reduceCtorEq, Bool.false_eq_true, lenF, lt_nn], fun _ => by
    unfold e__law_papers_right_1
    simp only [init, retOf, seqG, setG, newG, iffG, rtG, drG, asgG, nxG, noG, liftP, liftT, nwM, tb, tbM, op1, op1M, op2, op2M, vG, rG, fG, cG, callG, aNil, aCons, aStar, tAndG, tOrG, tNotG, tAndM, tOrM, tNotM, andG, orG, Dn.andM, Dn.orM, ifG, ifM, boolOf, nmT, nilT, consT, tupT, setVG, fzV, olV, odV, parG, par3G', notD, negD, tupM, lstN, lenD, listI, cutN.listOf, wipeR, putBack, fzOf, intOf, iiG, iiB, iiC, List.map_cons, List.map_nil, List.cons_append, List.nil_append, List.append_nil, List.length_cons, List.length_nil, List.length_map, List.replicate_succ, List.replicate_zero, List.getElem?_cons_zero, List.getElem?_cons_succ, List.set_cons_zero, List.set_cons_succ, Option.bind_some, Option.bind_none, Option.map_some, Option.map_none, Bool.not_true, Bool.not_false, Bool.true_and, Bool.and_true, Bool.false_and, Bool.and_false, Bool.or_true, Bool.true_or, Bool.or_false, Bool.false_or, decide_true, decide_false, Nat.reduceSub, Nat.reduceAdd, Nat.reduceLeDiff, Nat.reduceEqDiff, Nat.zero_add, if_true, if_false, reduceIte, reduceCtorEq, Bool.false_eq_true], rfl⟩
  have hHl := asc_len tH.1 tH.2.1
  rw [List.length_append, List.length_singleton] at hHl
  have hPl := asc_len tP.1 tP.2.1
  have tt : isnB (.bool true) (.bool true) = some (.bool false) := rfl
  have wn : PyData.list ((H.filter fun x => decide (x < fs.length)).map nD) = nsD (H.filter fun x => decide (x < fs.length)) := rfl
  unfold b__law_papers_right_2
  simp only [seqG, setG, nwM]
  rw [lcN_eq (ds := H.map nD) (ρ1 := [x0, some (.fz (nD n)), some (.fz (fsD fs)), x3, x4, x5, some (.fz (fD o)), x7, some (.fz (nsD P)), x9, x10, some (.fz (nsD H)), x12, x13, none]) rfl (by rw [List.length_map]; omega)]
  simp only [wipeR, List.set_cons_zero, List.set_cons_succ]
  rw [hq]
  by_cases hin : fs.length ∈ H
  · have lt : (H.filter fun x => decide (x < fs.length)).length < H.length := by
      have : (H.filter fun x => decide (x < fs.length)).length < (H.filter fun _ => true).length := filter_lt (fun _ _ _ => rfl) ⟨_, hin, rfl, by simp⟩
      rwa [List.filter_eq_self.mpr fun _ _ => rfl] at this
    have hfl : (H.filter fun x => decide (x < fs.length)).length ≤ H.length := List.length_filter_le _ _
    obtain ⟨J, j0, j1, j2⟩ := joined P (H.filter fun x => decide (x < fs.length)) (by omega)
    have hJ : ∀ x, x ∈ J ↔ x ∈ P ∨ (x ∈ H ∧ x < fs.length) := fun x => by rw [j2, List.mem_filter, decide_eq_true_eq]
    have pp := tP.help hf c lg hfol tH hin hJ
    have ip := is_paper n fs o J hf lo h1 hn (by omega) j1 fun i hi => ((hJ i).mp hi).elim (tP.2.1 i) fun z => z.2
    rw [(paperB_iff lo).mpr pp] at ip
    refine ⟨some (.fz (nsD J)), ?_⟩
    simp only [init, retOf, seqG, setG, newG, iffG, rtG, drG, asgG, nxG, noG, liftP, liftT, nwM, tb, tbM, op1, op1M, op2, op2M, vG, rG, fG, cG, callG, aNil, aCons, aStar, tAndG, tOrG, tNotG, tAndM, tOrM, tNotM, andG, orG, Dn.andM, Dn.orM, ifG, ifM, boolOf, nmT, nilT, consT, tupT, setVG, fzV, olV, odV, parG, par3G', notD, negD, tupM, lstN, listI, cutN.listOf, wipeR, putBack, fzOf, intOf, iiG, iiB, iiC, List.map_cons, List.map_nil, List.cons_append, List.nil_append, List.append_nil, List.length_cons, List.length_nil, List.length_map, List.replicate_succ, List.replicate_zero, List.getElem?_cons_zero, List.getElem?_cons_succ, List.set_cons_zero, List.set_cons_succ, Option.bind_some, Option.bind_none, Option.map_some, Option.map_none, Bool.not_true, Bool.not_false, Bool.true_and, Bool.and_true, Bool.false_and, Bool.and_false, Bool.or_true, Bool.true_or, Bool.or_false, Bool.false_or, decide_true, decide_false, Nat.reduceSub, Nat.reduceAdd, Nat.reduceLeDiff, Nat.reduceEqDiff, Nat.zero_add, if_true, if_false, reduceIte, reduceCtorEq, Bool.false_eq_true, wn, lenN, lt_nn, lt, j0, ip, tt]
  · have out : ∀ x ∈ H, x < fs.length := fun x hx => by
      have := tH.2.1 x hx
      rw [List.length_append, List.length_singleton] at this
      have : x ≠ fs.length := fun e => hin (e ▸ hx)
      omega
    have e : H.filter (fun x => decide (x < fs.length)) = H := List.filter_eq_self.mpr fun x hx => by simpa using out x hx
    have pp := tH.alone out
    have ip := is_paper n fs o H hf lo h1 hn (by omega) tH.1 out
    rw [(paperB_iff lo).mpr pp] at ip
    refine ⟨some (.fz (nsD H)), ?_⟩
    rw [e] at wn ⊢
    simp only [init, retOf, seqG, setG, newG, iffG, rtG, drG, asgG, nxG, noG, liftP, liftT, nwM, tb, tbM, op1, op1M, op2, op2M, vG, rG, fG, cG, callG, aNil, aCons, aStar, tAndG, tOrG, tNotG, tAndM, tOrM, tNotM, andG, orG, Dn.andM, Dn.orM, ifG, ifM, boolOf, nmT, nilT, consT, tupT, setVG, fzV, olV, odV, parG, par3G', notD, negD, tupM, lstN, listI, cutN.listOf, wipeR, putBack, fzOf, intOf, iiG, iiB, iiC, List.map_cons, List.map_nil, List.cons_append, List.nil_append, List.append_nil, List.length_cons, List.length_nil, List.length_map, List.replicate_succ, List.replicate_zero, List.getElem?_cons_zero, List.getElem?_cons_succ, List.set_cons_zero, List.set_cons_succ, Option.bind_some, Option.bind_none, Option.map_some, Option.map_none, Bool.not_true, Bool.not_false, Bool.true_and, Bool.and_true, Bool.false_and, Bool.and_false, Bool.or_true, Bool.true_or, Bool.or_false, Bool.false_or, decide_true, decide_false, Nat.reduceSub, Nat.reduceAdd, Nat.reduceLeDiff, Nat.reduceEqDiff, Nat.zero_add, if_true, if_false, reduceIte, reduceCtorEq, Bool.false_eq_true, wn, lenN, lt_nn, Nat.lt_irrefl, ip, tt]
theorem others_turn {n : Nat} (h1 : 1 ≤ n) (hn : n ≤ 60) (fs : List Fact) (hf : Fits n fs) (hl : fs.length < 20) (c : Con n fs) (g o : Fact) (lg : g.length = n) (lo : o.length = n) (P O : List Nat) (tP : Told n fs g P) (tO : Told n fs o O) (x0 x3 x5 x7 x9 x10 x12 x13 x14 : Option Sl) :
    b__law_papers_right_1 [x0, some (.fz (nD n)), some (.fz (fsD fs)), x3, some (.fz (fD g)), x5, some (.fz (fD o)), x7, some (.fz (nsD P)), x9, x10, some (.fz (nsD O)), x12, x13, x14] =
      some (.nx, [x0, some (.fz (nD n)), some (.fz (fsD fs)), x3, some (.fz (fD g)), x5, some (.fz (fD o)), x7, some (.fz (nsD P)), x9, x10, some (.fz (nsD O)), x12, x13, x14]) := by
  have hPl := asc_len tP.1 tP.2.1
  have hOl := asc_len tO.1 tO.2.1
  obtain ⟨J, j0, j1, j2⟩ := joined P O (by omega)
  have pp := tP.join (q := over n [g, o]) hf c lg lo tO j2 (fun k hk => (over_two k hk).1) fun k hk => (over_two k hk).2
  have ip := is_paper n fs (over n [g, o]) J hf (over_len _ _) h1 hn (by omega) j1 fun i hi => ((j2 i).mp hi).elim (tP.2.1 i) (tO.2.1 i)
  rw [(paperB_iff (over_len _ _)).mpr pp] at ip
  have lo2 := laid_over n [g, o] (fun f hf => by simp at hf; rcases hf with rfl | rfl <;> assumption) h1 hn (by simp)
  have two : PyData.list [fD g, fD o] = fsD [g, o] := rfl
  have tt : isnB (.bool true) (.bool true) = some (.bool false) := rfl
  unfold b__law_papers_right_1
  simp only [init, retOf, seqG, setG, newG, iffG, rtG, drG, asgG, nxG, noG, liftP, liftT, nwM, tb, tbM, op1, op1M, op2, op2M, vG, rG, fG, cG, callG, aNil, aCons, aStar, tAndG, tOrG, tNotG, tAndM, tOrM, tNotM, andG, orG, Dn.andM, Dn.orM, ifG, ifM, boolOf, nmT, nilT, consT, tupT, setVG, fzV, olV, odV, parG, par3G', notD, negD, tupM, lstN, lenD, listI, cutN.listOf, wipeR, putBack, fzOf, intOf, iiG, iiB, iiC, List.map_cons, List.map_nil, List.cons_append, List.nil_append, List.append_nil, List.length_cons, List.length_nil, List.length_map, List.replicate_succ, List.replicate_zero, List.getElem?_cons_zero, List.getElem?_cons_succ, List.set_cons_zero, List.set_cons_succ, Option.bind_some, Option.bind_none, Option.map_some, Option.map_none, Bool.not_true, Bool.not_false, Bool.true_and, Bool.and_true, Bool.false_and, Bool.and_false, Bool.or_true, Bool.true_or, Bool.or_false, Bool.false_or, decide_true, decide_false, Nat.reduceSub, Nat.reduceAdd, Nat.reduceLeDiff, Nat.reduceEqDiff, Nat.zero_add, if_true, if_false, reduceIte, reduceCtorEq, Bool.false_eq_true, Nat.reduceLeDiff, two, lo2, j0, ip, tt]
theorem papers_turn {n : Nat} (h1 : 1 ≤ n) (hn : n ≤ 60) (fs : List Fact) (hf : Fits n fs) (hl : fs.length < 20) (c : Con n fs) (g o : Fact) (lg : g.length = n) (lo : o.length = n) (hfol : Fol n fs g) (P H1 H2 O1 O2 : List Nat) (tP : Told n fs g P) (tH1 : Told n (fs ++ [g]) o H1) (tH2 : Told n (fs ++ [g]) o H2) (tO1 : Told n fs o O1) (tO2 : Told n fs o O2) (x0 x3 x5 x9 x11 x12 x13 : Option Sl) :
    ∃ y11 y13, b__law_papers_right_3 [x0, some (.fz (nD n)), some (.fz (fsD fs)), x3, some (.fz (fD g)), x5, some (.fz (fD o)), some (.fz (.list [nsD O1, nsD O2])), some (.fz (nsD P)), x9, some (.fz (.list [nsD H1, nsD H2])), x11, x12, x13, none] =
      some (.nx, [x0, some (.fz (nD n)), some (.fz (fsD fs)), x3, some (.fz (fD g)), x5, some (.fz (fD o)), some (.fz (.list [nsD O1, nsD O2])), some (.fz (nsD P)), x9, some (.fz (.list [nsD H1, nsD H2])), y11, x12, y13, none]) := by
  obtain ⟨ρ1, e1, y11, y13, rfl⟩ := for_all (td := nmT 11) (b := b__law_papers_right_2) nsD
    (fun j ρ => ∃ y11 y13, ρ = [x0, some (.fz (nD n)), some (.fz (fsD fs)), x3, some (.fz (fD g)), x5, some (.fz (fD o)), some (.fz (.list [nsD O1, nsD O2])), some (.fz (nsD P)), x9, some (.fz (.list [nsD H1, nsD H2])), y11, x12, y13, none]) [H1, H2]
    [x0, some (.fz (nD n)), some (.fz (fsD fs)), x3, some (.fz (fD g)), x5, some (.fz (fD o)), some (.fz (.list [nsD O1, nsD O2])), some (.fz (nsD P)), x9, some (.fz (.list [nsD H1, nsD H2])), x11, x12, x13, none] (by
      rintro j H ρ hj ⟨y11, y13, rfl⟩
      have hm := List.mem_of_getElem? hj
      have tH : Told n (fs ++ [g]) o H := by
        simp at hm
        rcases hm with rfl | rfl <;> assumption
      obtain ⟨z13, a⟩ := helped_turn h1 hn fs hf hl c g o lg lo hfol P H tP tH x0 x3 (some (.fz (fD g))) x5 (some (.fz (.list [nsD O1, nsD O2]))) x9 (some (.fz (.list [nsD H1, nsD H2]))) x12 y13
      exact ⟨_, _, rfl, a, _, z13, rfl⟩) ⟨x11, x13, rfl⟩
  obtain ⟨ρ2, e2, z11, rfl⟩ := for_all (td := nmT 11) (b := b__law_papers_right_1) nsD
    (fun j ρ => ∃ z11, ρ = [x0, some (.fz (nD n)), some (.fz (fsD fs)), x3, some (.fz (fD g)), x5, some (.fz (fD o)), some (.fz (.list [nsD O1, nsD O2])), some (.fz (nsD P)), x9, some (.fz (.list [nsD H1, nsD H2])), z11, x12, y13, none]) [O1, O2]
    [x0, some (.fz (nD n)), some (.fz (fsD fs)), x3, some (.fz (fD g)), x5, some (.fz (fD o)), some (.fz (.list [nsD O1, nsD O2])), some (.fz (nsD P)), x9, some (.fz (.list [nsD H1, nsD H2])), y11, x12, y13, none] (by
      rintro j O ρ hj ⟨z11, rfl⟩
      have hm := List.mem_of_getElem? hj
      have tO : Told n fs o O := by
        simp at hm
        rcases hm with rfl | rfl <;> assumption
      exact ⟨_, _, rfl, others_turn h1 hn fs hf hl c g o lg lo P O tP tO x0 x3 x5 (some (.fz (.list [nsD O1, nsD O2]))) x9 (some (.fz (.list [nsD H1, nsD H2]))) x12 y13 none, _, rfl⟩) ⟨y11, rfl⟩
  refine ⟨z11, y13, ?_⟩
  unfold b__law_papers_right_3
  simp only [seqG]
  rw [forG_eq (ds := [H1, H2].map nsD) (ρ1 := [x0, some (.fz (nD n)), some (.fz (fsD fs)), x3, some (.fz (fD g)), x5, some (.fz (fD o)), some (.fz (.list [nsD O1, nsD O2])), some (.fz (nsD P)), x9, some (.fz (.list [nsD H1, nsD H2])), x11, x12, x13, none]) rfl, e1]
  simp only [Option.bind_some]
  rw [forG_eq (ds := [O1, O2].map nsD) (ρ1 := [x0, some (.fz (nD n)), some (.fz (fsD fs)), x3, some (.fz (fD g)), x5, some (.fz (fD o)), some (.fz (.list [nsD O1, nsD O2])), some (.fz (nsD P)), x9, some (.fz (.list [nsD H1, nsD H2])), y11, x12, y13, none]) rfl, e2]
theorem cat_one {xs : List Fact} {g : Fact} {a b : Dn.PG} {ρ : Ro} (ha : a ρ = some (fsD xs)) (hb : b ρ = some (fD g)) (hl : xs.length ≤ 1000) : catN (liftP a) (nwM (lstN (aCons (liftP b) aNil))) ρ = some ((xs ++ [g]).map fD, ρ) := by
  have lof : cutN.listOf (fsD xs) = some (xs.map fD) := rfl
  have lo1 : cutN.listOf (.list [fD g]) = some [fD g] := rfl
  have hz1 : (1 : Nat) ≤ 1000000 := by omega
  have hz2 : xs.length + 1 ≤ 1000000 := by omega
  unfold catN
  simp only [nwM, lstN, aCons, aNil, liftP, ha, hb, Option.bind_some, Option.map_some, lof, lo1, List.length_cons, List.length_nil, List.length_map, Nat.zero_add, hz1, hz2, if_true, List.map_append, List.map_cons, List.map_nil]
theorem catM_one {xs : List Fact} {g : Fact} {a b : Dn.PG} {ρ : Ro} (ha : a ρ = some (fsD xs)) (hb : b ρ = some (fD g)) (hl : xs.length ≤ 1000) : nwM (catN (liftP a) (nwM (lstN (aCons (liftP b) aNil)))) ρ = some (fsD (xs ++ [g]), ρ) := by
  show Option.map _ (catN (liftP a) (nwM (lstN (aCons (liftP b) aNil))) ρ) = _
  rw [cat_one ha hb hl]; rfl
theorem papers_right {m n : Nat} (h1 : 1 ≤ n) (hn : n ≤ 60) (fs : List Fact) (hf : Fits n fs) (hne : 1 ≤ fs.length) (hl : fs.length < 20) (c : Con n fs) (hm : m + 1000 < 10 ^ 9) {ps : List PyData} (h : Wl m ps) :
    ∃ ps', runP 15 g__law_papers_right ps [nD n, fsD fs] = some (.bool true, ps') ∧ Wl (m + 1000) ps' := by
  obtain ⟨d1, ps1, a1, a2, w1⟩ := draw (k := 3) h (by omega) (by omega) (by omega)
  have a1 : runP 5 g__law_draw ps [.int 3] = some (nD d1, ps1) := a1
  obtain ⟨S, ps2, b1, b2, b3, w2⟩ := picks (d := 1 + d1) fs hne (by omega) (by omega) (by omega) w1 (some (.fz (nD n))) none none none none none none none none none none none
  have fS : Fits n S := fun f hf' => hf f (b3 f hf')
  have lS := laid_over n S fS h1 hn (by omega)
  obtain ⟨g, ps3, g1, g2, w3⟩ := weaker w2 (over n S) (by rw [over_len]; omega) (by rw [over_len]; omega)
  have lg : g.length = n := g2.1.trans (over_len _ _)
  have folg : Fol n fs g := (Fol.over fun f hf' => Fol.mem (b3 f hf')).weak g2
  obtain ⟨d2, ps4, c1, c2, w4⟩ := draw (k := 3) w3 (by rw [over_len]; omega) (by omega) (by omega)
  have c1 : runP 5 g__law_draw ps3 [.int 3] = some (nD d2, ps4) := c1
  obtain ⟨T, ps5, t1, t2, t3, w5⟩ := picks (d := d2) fs hne (by omega) (by omega) (by rw [over_len]; omega) w4 (some (.fz (nD n))) (some (.fz (fsD S))) (some (.fz (fD g))) none none none none none none none none none
  have fT' : Fits n (T ++ [g]) := fits_app (fun f hf' => hf f (t3 f hf')) lg
  have lT := laid_over n (T ++ [g]) fT' h1 hn (by simp; omega)
  obtain ⟨o, ps6, o1, o2, w6⟩ := weaker w5 (over n (T ++ [g])) (by rw [over_len]; omega) (by simp only [over_len]; omega)
  have lo : o.length = n := o2.1.trans (over_len _ _)
  have folo : Fol n fs o := (Fol.over fun f hf' => by
    rcases List.mem_append.mp hf' with z | z
    · exact Fol.mem (t3 f z)
    · simp at z; subst z; exact folg).weak o2
  have folo' : Fol n (fs ++ [g]) o := fun s hs => folo s fun f hf' => hs f (by simp [hf'])
  obtain ⟨P1, P2, p0, tP1, tP2⟩ := told n h1 hn fs hf (by omega) g lg folg
  obtain ⟨H1, H2, h0, tH1, tH2⟩ := told n h1 hn (fs ++ [g]) (fits_app hf lg) (by simp; omega) o lo folo'
  obtain ⟨O1, O2, q0, tO1, tO2⟩ := told n h1 hn fs hf (by omega) o lo folo
  obtain ⟨bg, fg1, fg2⟩ := follows n h1 hn fs hf (by omega) g lg
  obtain ⟨bo, fo1, fo2⟩ := follows n h1 hn fs hf (by omega) o lo
  have ebg := fg2.mpr folg
  have ebo := fo2.mpr folo
  subst ebg ebo
  have hP1l := asc_len tP1.1 tP1.2.1
  have hP2l := asc_len tP2.1 tP2.2.1
  obtain ⟨J, j0, j1, j2⟩ := joined P1 P2 (by omega)
  have pp := tP1.join (q := g) hf c lg lg tP2 j2 (fun k hk e => .inl e) fun k hk hw _ _ => hw.elim id id
  have ip := is_paper n fs g J hf lg h1 hn (by omega) j1 fun i hi => ((j2 i).mp hi).elim (tP1.2.1 i) (tP2.2.1 i)
  rw [(paperB_iff lg).mpr pp] at ip
  obtain ⟨oa, _⟩ := (order_against n h1 hn fs hf (by omega) o lo).resolve_right fun ⟨_, _, z⟩ => z folo
  have tt : isnB (.bool true) (.bool true) = some (.bool false) := rfl
  have i1 : ∀ ds, isN (.list ds) .none = some (.bool false) := fun _ => rfl
  have i2 : isN .none .none = some (.bool true) := rfl
  have ad : addI (.int 1) (nD d1) = some (nD (1 + d1)) := by show some (PyData.int (1 + (d1 : Int))) = _; unfold nD; congr 2
  have sn : PyData.list (S.map fD) = fsD S := rfl
  have tn : PyData.list (T.map fD) = fsD T := rfl
  have xn : PyData.list ((T ++ [g]).map fD) = fsD (T ++ [g]) := rfl
  have yn : PyData.list ((fs ++ [g]).map fD) = fsD (fs ++ [g]) := rfl
  have k0 : ixD (.list [nsD P1, nsD P2]) (.int 0) = some (nsD P1) := rfl
  have k1 : ixD (.list [nsD P1, nsD P2]) (.int 1) = some (nsD P2) := rfl
  obtain ⟨ρ', e1, y8, y11, y13, rfl⟩ := for_all (td := nmT 8) (b := b__law_papers_right_3) nsD
    (fun j ρ => ∃ y8 y11 y13, ρ = [some (.pu ps6), some (.fz (nD n)), some (.fz (fsD fs)), some (.fz (fsD S)), some (.fz (fD g)), some (.fz (fsD T)), some (.fz (fD o)), some (.fz (.list [nsD O1, nsD O2])), y8, some (.fz (.list [nsD P1, nsD P2])), some (.fz (.list [nsD H1, nsD H2])), y11, none, y13, none]) [P1, P2]
    [some (.pu ps6), some (.fz (nD n)), some (.fz (fsD fs)), some (.fz (fsD S)), some (.fz (fD g)), some (.fz (fsD T)), some (.fz (fD o)), some (.fz (.list [nsD O1, nsD O2])), none, some (.fz (.list [nsD P1, nsD P2])), some (.fz (.list [nsD H1, nsD H2])), none, none, none, none] (by
      rintro j P ρ hj ⟨y8, y11, y13, rfl⟩
      have hm := List.mem_of_getElem? hj
      have tP : Told n fs g P := by
        simp at hm
        rcases hm with rfl | rfl <;> assumption
      obtain ⟨z11, z13, a⟩ := papers_turn h1 hn fs hf hl c g o lg lo folg P H1 H2 O1 O2 tP tH1 tH2 tO1 tO2 (some (.pu ps6)) (some (.fz (fsD S))) (some (.fz (fsD T))) (some (.fz (.list [nsD P1, nsD P2]))) y11 none y13
      exact ⟨_, _, rfl, a, _, z11, z13, rfl⟩) ⟨none, none, none, rfl⟩
  refine ⟨ps6, ?_, w6.mono (by simp only [over_len]; omega)⟩
  rw [runP_eq]
  unfold g__law_papers_right
  simp only [seqG, setG, nwM, init, List.map_cons, List.map_nil, List.length_cons, List.length_nil, Nat.reduceAdd, Nat.reduceSub, List.replicate_succ, List.replicate_zero, List.cons_append, List.nil_append]
  rw [lcN_eq (ds := (List.range (1 + d1)).map nD) (ρ1 := [some (.pu ps1), some (.fz (nD n)), some (.fz (fsD fs)), none, none, none, none, none, none, none, none, none, none, none, none]) (rng_n (n := 1 + d1) (by
    simp only [op2M, callPG, olAt, olSet, aCons, aNil, liftP, cG, List.length_cons, List.length_nil, Nat.reduceAdd, List.append_nil, List.getElem?_cons_zero, List.getElem?_cons_succ, Option.bind_some, Option.map_some, a1, ad, if_true, List.set_cons_zero, List.set_cons_succ]) (by omega)) (by simp; omega)]
  simp only [wipeR, List.set_cons_zero, List.set_cons_succ]
  rw [show e__law_papers_right_3 = e__law_papers_right_2 from rfl, b1]
  simp only [putBack, fzOf, callPG, callG, olAt, olSet, aCons, aNil, liftP, vG, cG, sn, lS, g1, c1, List.length_cons, List.length_nil, Nat.reduceAdd, List.append_nil, List.getElem?_cons_zero, List.getElem?_cons_succ, Option.bind_some, Option.map_some, if_true, List.set_cons_zero, List.set_cons_succ]
  rw [lcN_eq (ds := (List.range d2).map nD) (ρ1 := [some (.pu ps4), some (.fz (nD n)), some (.fz (fsD fs)), some (.fz (fsD S)), some (.fz (fD g)), none, none, none, none, none, none, none, none, none, none]) (rng_n (n := d2) (by
    simp only [op2M, callPG, olAt, olSet, aCons, aNil, liftP, cG, List.length_cons, List.length_nil, Nat.reduceAdd, List.append_nil, List.getElem?_cons_zero, List.getElem?_cons_succ, Option.bind_some, Option.map_some, c1, if_true, List.set_cons_zero, List.set_cons_succ]) (by omega)) (by simp; omega)]
  simp only [wipeR, List.set_cons_zero, List.set_cons_succ]
  rw [t1]
  simp only [putBack, fzOf, tn, Option.bind_some, Option.map_some, List.getElem?_cons_zero, List.getElem?_cons_succ, List.set_cons_zero, List.set_cons_succ]
  rw [catM_one (xs := T) (g := g) rfl rfl (by omega)]
  simp only [Option.bind_some, Option.map_some, List.length_cons, List.length_nil, Nat.reduceAdd, if_true, lT, o1, List.getElem?_cons_zero, List.getElem?_cons_succ, List.set_cons_zero, List.set_cons_succ]
  rw [iffG]
  simp only [tOrM, tbM, op2M, callG, aCons, aNil, liftP, vG, cG, Option.bind_some, Option.map_some, List.length_cons, List.length_nil, List.append_nil, Nat.reduceAdd, if_true, List.getElem?_cons_zero, List.getElem?_cons_succ, fg1, fo1, tt, boolOf, Bool.false_eq_true, if_false, nxG]
  rw [parG]
  simp only [fzV, callG, aCons, aNil, liftP, vG, Option.bind_some, Option.map_some, List.length_cons, List.length_nil, List.append_nil, Nat.reduceAdd, if_true, List.getElem?_cons_zero, List.getElem?_cons_succ, p0]
  rw [catM_one (xs := fs) (g := g) rfl rfl (by omega)]
  simp only [liftP, vG, cG, op2, op2M, tb, tbM, liftT, tOrG, callG, aCons, aNil, iffG, rtG, Option.bind_some, Option.map_some, List.length_cons, List.length_nil, List.append_nil, Nat.reduceAdd, if_true, List.getElem?_cons_zero, List.getElem?_cons_succ, List.set_cons_zero, List.set_cons_succ, p0, h0, q0, i1, boolOf, Bool.false_eq_true, if_false, nxG, k0, k1, j0, ip, tt]
  rw [forG_eq (ds := [P1, P2].map nsD) (ρ1 := [some (.pu ps6), some (.fz (nD n)), some (.fz (fsD fs)), some (.fz (fsD S)), some (.fz (fD g)), some (.fz (fsD T)), some (.fz (fD o)), some (.fz (.list [nsD O1, nsD O2])), none, some (.fz (.list [nsD P1, nsD P2])), some (.fz (.list [nsD H1, nsD H2])), none, none, none, none]) rfl, e1]
  simp only [init, retOf, seqG, setG, newG, iffG, rtG, drG, asgG, nxG, noG, liftP, liftT, nwM, tb, tbM, op1, op1M, op2, op2M, vG, rG, fG, cG, callG, aNil, aCons, aStar, tAndG, tOrG, tNotG, tAndM, tOrM, tNotM, andG, orG, Dn.andM, Dn.orM, ifG, ifM, boolOf, nmT, nilT, consT, tupT, setVG, fzV, olV, odV, parG, par3G', notD, negD, tupM, lstN, lenD, listI, cutN.listOf, wipeR, putBack, fzOf, intOf, iiG, iiB, iiC, List.map_cons, List.map_nil, List.cons_append, List.nil_append, List.append_nil, List.length_cons, List.length_nil, List.length_map, List.replicate_succ, List.replicate_zero, List.getElem?_cons_zero, List.getElem?_cons_succ, List.set_cons_zero, List.set_cons_succ, Option.bind_some, Option.bind_none, Option.map_some, Option.map_none, Bool.not_true, Bool.not_false, Bool.true_and, Bool.and_true, Bool.false_and, Bool.and_false, Bool.or_true, Bool.true_or, Bool.or_false, Bool.false_or, decide_true, decide_false, Nat.reduceSub, Nat.reduceAdd, Nat.reduceLeDiff, Nat.reduceEqDiff, Nat.zero_add, if_true, if_false, reduceIte, reduceCtorEq, Bool.false_eq_true, oa, i2, puAt]
end K85
end
section
set_option Elab.async false
set_option linter.all false
set_option maxRecDepth 100000
set_option maxHeartbeats 8000000
namespace K85
open PySem L2 Dn Rk
theorem law_right {m : Nat} (hm : m + 100000 < 10 ^ 9) {ps : List PyData} (h : Wl m ps) : ∃ ps', runP 4 g__law_right ps [] = some (.bool true, ps') ∧ Wl (m + 100000) ps' := by
  obtain ⟨d, ps1, a1, a2, w1⟩ := draw (k := 7) h (by omega) (by omega) (by omega)
  have a1 : runP 5 g__law_draw ps [.int 7] = some (nD d, ps1) := a1
  have ad : addI (.int 1) (nD d) = some (nD (1 + d)) := by show some (PyData.int (1 + (d : Int))) = _; unfold nD; congr 2
  obtain ⟨fs, ps2, f1, f2, f3, w2⟩ := law_facts (n := 1 + d) (many := 6) (odd := 1) (by omega) (by omega) (by omega) (by omega) w1
  have f1 : runP 7 g__law_facts ps1 [nD (1 + d), .int 6, .int 1] = some (fsD fs, ps2) := f1
  obtain ⟨g, ps3, g1, g2, w3⟩ := law_fact (n := 1 + d) (by omega) (by omega) w2 [0] (by simp; omega)
  have g1 : runP 5 g__law_fact ps2 [nD (1 + d), .list [.int 0]] = some (fD g, ps3) := g1
  have hf : Fits (1 + d) (fs ++ [g]) := fits_app f2 g2
  have hl : (fs ++ [g]).length < 20 := by simp; omega
  have ct : catN (callPG 3 (runP 7 g__law_facts) 0 [] (aCons (liftP (vG 1)) (aCons (liftP (cG (.int 6))) (aCons (liftP (cG (.int 1))) aNil)))) (nwM (lstN (aCons (callPG 2 (runP 5 g__law_fact) 0 [] (aCons (liftP (vG 1)) (aCons (nwM (lstN (aCons (liftP (cG (.int 0))) aNil))) aNil))) aNil))) [some (.pu ps1), some (.fz (nD (1 + d))), none, none] =
      some ((fs ++ [g]).map fD, [some (.pu ps3), some (.fz (nD (1 + d))), none, none]) := by
    have lof : cutN.listOf (fsD fs) = some (fs.map fD) := rfl
    have lo1 : cutN.listOf (.list [fD g]) = some [fD g] := rfl
    have hz1 : (1 : Nat) ≤ 1000000 := by omega
    have hz2 : fs.length + 1 ≤ 1000000 := by omega
    unfold catN
    simp only [nwM, lstN, callPG, olAt, olSet, aCons, aNil, liftP, vG, cG, f1, g1, lof, lo1, Option.bind_some, Option.map_some, List.length_cons, List.length_nil, List.length_map, Nat.zero_add, Nat.reduceAdd, List.append_nil, List.getElem?_cons_zero, List.getElem?_cons_succ, List.set_cons_zero, List.set_cons_succ, hz1, hz2, if_true, List.map_append, List.map_cons, List.map_nil]
  have xn : PyData.list ((fs ++ [g]).map fD) = fsD (fs ++ [g]) := rfl
  have bs := barring_set (1 + d) (by omega) (by omega) (fs ++ [g]) hf (by omega)
  have start : runP 4 g__law_right ps [] = (seqG (iffG (tbM (op2M isnN (callG 2 (runG 2 g_barring_set) [] (aCons (liftP (vG 1)) (aCons (liftP (vG 2)) aNil))) (liftP (cG .none)))) (rtG (callPG 2 (runP 9 g__law_barred_right) 0 [] (aCons (liftP (vG 1)) (aCons (liftP (vG 2)) aNil)))) nxG)
  (seqG (forG (rng1I (liftP (cG (.int 3)))) (nmT 3) b__law_right_1)
  (rtG (liftP (cG (.bool true))))) [some (.pu ps3), some (.fz (nD (1 + d))), some (.fz (fsD (fs ++ [g]))), none]).bind fun p => (retOf p.1).bind fun d => (puAt p.2).map fun ps' => (d, ps') := by
    rw [runP_eq]
    unfold g__law_right
    rw [seqG]
    simp only [setG, op2M, callPG, olAt, olSet, aCons, aNil, liftP, cG, init, List.map_cons, List.map_nil, List.length_cons, List.length_nil, Nat.reduceAdd, Nat.reduceSub, List.replicate_succ, List.replicate_zero, List.cons_append, List.nil_append, List.append_nil, List.getElem?_cons_zero, List.getElem?_cons_succ, Option.bind_some, Option.map_some, a1, ad, if_true, List.set_cons_zero, List.set_cons_succ]
    rw [seqG]
    simp only [setG, nwM]
    rw [ct]
    simp only [xn, Option.bind_some, Option.map_some, List.set_cons_zero, List.set_cons_succ]
  rw [start]
  rcases bs with ⟨bs, bc⟩ | ⟨K, bs, bK⟩
  · obtain ⟨ρ', e1, ps', y3, rfl, w⟩ := for_all (td := nmT 3) (b := b__law_right_1) nD
      (fun j ρ => ∃ ps' y3, ρ = [some (.pu ps'), some (.fz (nD (1 + d))), some (.fz (fsD (fs ++ [g]))), y3] ∧ Wl (m + 20000 + j * 2000) ps') (List.range 3)
      [some (.pu ps3), some (.fz (nD (1 + d))), some (.fz (fsD (fs ++ [g]))), none] (by
        rintro j x ρ hj ⟨ps', y3, rfl, w⟩
        obtain ⟨rfl, hj'⟩ := rng_get hj
        obtain ⟨ps4, p1, w4⟩ := papers_right (n := 1 + d) (by omega) (by omega) (fs ++ [g]) hf (by simp) hl bc (by omega) w
        obtain ⟨ps5, p2, w5⟩ := parts_right (n := 1 + d) (by omega) (by omega) (fs ++ [g]) hf (by omega) bc (by omega) w4
        refine ⟨_, [some (.pu ps5), some (.fz (nD (1 + d))), some (.fz (fsD (fs ++ [g]))), some (.fz (nD x))], rfl, ?_, ps5, _, rfl, w5.mono (by omega)⟩
        unfold b__law_right_1
        simp only [init, retOf, seqG, setG, newG, iffG, rtG, drG, asgG, nxG, noG, liftP, liftT, nwM, tb, tbM, op1, op1M, op2, op2M, vG, rG, fG, cG, callG, aNil, aCons, aStar, tAndG, tOrG, tNotG, tAndM, tOrM, tNotM, andG, orG, Dn.andM, Dn.orM, ifG, ifM, boolOf, nmT, nilT, consT, tupT, setVG, fzV, olV, odV, parG, par3G', notD, negD, tupM, lstN, lenD, listI, cutN.listOf, wipeR, putBack, fzOf, intOf, iiG, iiB, iiC, List.map_cons, List.map_nil, List.cons_append, List.nil_append, List.append_nil, List.length_cons, List.length_nil, List.length_map, List.replicate_succ, List.replicate_zero, List.getElem?_cons_zero, List.getElem?_cons_succ, List.set_cons_zero, List.set_cons_succ, Option.bind_some, Option.bind_none, Option.map_some, Option.map_none, Bool.not_true, Bool.not_false, Bool.true_and, Bool.and_true, Bool.false_and, Bool.and_false, Bool.or_true, Bool.true_or, Bool.or_false, Bool.false_or, decide_true, decide_false, Nat.reduceSub, Nat.reduceAdd, Nat.reduceLeDiff, Nat.reduceEqDiff, Nat.zero_add, if_true, if_false, reduceIte, reduceCtorEq, Bool.false_eq_true, callPG, olAt, olSet, p1, p2]) ⟨ps3, none, rfl, w3.mono (by omega)⟩
    refine ⟨ps', ?_, w.mono (by simp)⟩
    have i1 : isnN .none .none = some (.bool false) := rfl
    simp only [init, retOf, seqG, setG, newG, iffG, rtG, drG, asgG, nxG, noG, liftP, liftT, nwM, tb, tbM, op1, op1M, op2, op2M, vG, rG, fG, cG, callG, aNil, aCons, aStar, tAndG, tOrG, tNotG, tAndM, tOrM, tNotM, andG, orG, Dn.andM, Dn.orM, ifG, ifM, boolOf, nmT, nilT, consT, tupT, setVG, fzV, olV, odV, parG, par3G', notD, negD, tupM, lstN, lenD, listI, cutN.listOf, wipeR, putBack, fzOf, intOf, iiG, iiB, iiC, List.map_cons, List.map_nil, List.cons_append, List.nil_append, List.append_nil, List.length_cons, List.length_nil, List.length_map, List.replicate_succ, List.replicate_zero, List.getElem?_cons_zero, List.getElem?_cons_succ, List.set_cons_zero, List.set_cons_succ, Option.bind_some, Option.bind_none, Option.map_some, Option.map_none, Bool.not_true, Bool.not_false, Bool.true_and, Bool.and_true, Bool.false_and, Bool.and_false, Bool.or_true, Bool.true_or, Bool.or_false, Bool.false_or, decide_true, decide_false, Nat.reduceSub, Nat.reduceAdd, Nat.reduceLeDiff, Nat.reduceEqDiff, Nat.zero_add, if_true, if_false, reduceIte, reduceCtorEq, Bool.false_eq_true, bs, i1]
    rw [forG_eq (rng_n (n := 3) rfl (by omega)), e1]
    simp only [init, retOf, seqG, setG, newG, iffG, rtG, drG, asgG, nxG, noG, liftP, liftT, nwM, tb, tbM, op1, op1M, op2, op2M, vG, rG, fG, cG, callG, aNil, aCons, aStar, tAndG, tOrG, tNotG, tAndM, tOrM, tNotM, andG, orG, Dn.andM, Dn.orM, ifG, ifM, boolOf, nmT, nilT, consT, tupT, setVG, fzV, olV, odV, parG, par3G', notD, negD, tupM, lstN, lenD, listI, cutN.listOf, wipeR, putBack, fzOf, intOf, iiG, iiB, iiC, List.map_cons, List.map_nil, List.cons_append, List.nil_append, List.append_nil, List.length_cons, List.length_nil, List.length_map, List.replicate_succ, List.replicate_zero, List.getElem?_cons_zero, List.getElem?_cons_succ, List.set_cons_zero, List.set_cons_succ, Option.bind_some, Option.bind_none, Option.map_some, Option.map_none, Bool.not_true, Bool.not_false, Bool.true_and, Bool.and_true, Bool.false_and, Bool.and_false, Bool.or_true, Bool.true_or, Bool.or_false, Bool.false_or, decide_true, decide_false, Nat.reduceSub, Nat.reduceAdd, Nat.reduceLeDiff, Nat.reduceEqDiff, Nat.zero_add, if_true, if_false, reduceIte, reduceCtorEq, Bool.false_eq_true, puAt]
  · obtain ⟨ps4, p1, w4⟩ := barred_right (n := 1 + d) (by omega) (by omega) (fs ++ [g]) hf (by omega) (BarI.no hf bK) (by omega) w3
    refine ⟨ps4, ?_, w4.mono (by omega)⟩
    have i2 : isnN (nsD K) .none = some (.bool true) := rfl
    simp only [init, retOf, seqG, setG, newG, iffG, rtG, drG, asgG, nxG, noG, liftP, liftT, nwM, tb, tbM, op1, op1M, op2, op2M, vG, rG, fG, cG, callG, aNil, aCons, aStar, tAndG, tOrG, tNotG, tAndM, tOrM, tNotM, andG, orG, Dn.andM, Dn.orM, ifG, ifM, boolOf, nmT, nilT, consT, tupT, setVG, fzV, olV, odV, parG, par3G', notD, negD, tupM, lstN, lenD, listI, cutN.listOf, wipeR, putBack, fzOf, intOf, iiG, iiB, iiC, List.map_cons, List.map_nil, List.cons_append, List.nil_append, List.append_nil, List.length_cons, List.length_nil, List.length_map, List.replicate_succ, List.replicate_zero, List.getElem?_cons_zero, List.getElem?_cons_succ, List.set_cons_zero, List.set_cons_succ, Option.bind_some, Option.bind_none, Option.map_some, Option.map_none, Bool.not_true, Bool.not_false, Bool.true_and, Bool.and_true, Bool.false_and, Bool.and_false, Bool.or_true, Bool.true_or, Bool.or_false, Bool.false_or, decide_true, decide_false, Nat.reduceSub, Nat.reduceAdd, Nat.reduceLeDiff, Nat.reduceEqDiff, Nat.zero_add, if_true, if_false, reduceIte, reduceCtorEq, Bool.false_eq_true, callPG, olAt, olSet, bs, i2, p1, puAt]
/-! ### the well -/
theorem well_turn {j : Nat} (hj : j < 63) (x0 x1 : Option Sl) (i d s : Int) (hd0 : 0 ≤ d) (hd : d < 2 ^ (200 * j)) (hs0 : 0 ≤ s) (hs : s < 10 ^ 18) :
    ∃ d' s' : Int, b__law_well_1 [x0, some (.fz (.int i)), some (.fz (.int d)), some (.fz (.int s))] = some (.nx, [x0, some (.fz (.int i)), some (.fz (.int d')), some (.fz (.int s'))]) ∧ 0 ≤ d' ∧ d' < 2 ^ (200 * (j + 1)) ∧ 0 ≤ s' ∧ s' < 10 ^ 18 := by
  have p18 : powI (.int 10) (.int 18) = some (.int (10 ^ 18)) := pow_i (i := 10) (j := 18) (k := 4) (by decide) (by decide)
  have p60 : powI (.int 10) (.int 60) = some (.int (10 ^ 60)) := pow_i (i := 10) (j := 60) (k := 4) (by decide) (by decide)
  have ab : absD (.int i) = some (.int (i.natAbs : Int)) := by
    show some (PyData.int (if i < 0 then -i else i)) = _
    congr 2
    split <;> omega
  have ge : geI (.int (i.natAbs : Int)) (.int (10 ^ 18)) = some (.bool (decide ((10 : Int) ^ 18 ≤ (i.natAbs : Int)))) := rfl
  have md : ∀ z, modI (.int z) (.int (10 ^ 60)) = some (.int (z % 10 ^ 60)) := fun z => mod_i (by decide)
  have s1 : ∀ x y : Int, addI (.int x) (.int y) = some (.int (x + y)) := fun _ _ => rfl
  have m1 : mulI (.int s) (.int 75193) = some (.int (s * 75193)) := mul_i (k := 60) (l := 17) (by omega) (by decide) (by omega)
  have n1 : ∀ z, modI (.int z) (.int 999999999999999877) = some (.int (z % 999999999999999877)) := fun z => mod_i (by decide)
  have n2 : ∀ z, modI (.int z) (.int 999999999999999989) = some (.int (z % 999999999999999989)) := fun z => mod_i (by decide)
  have ii : ∀ z : Int, intD (.int z) = some (.int z) := fun _ => rfl
  generalize hq : i % 999999999999999877 = q at *
  have n1i : modI (.int i) (.int 999999999999999877) = some (.int q) := by rw [n1, hq]
  have e2 := Int.emod_nonneg (s * 75193 + q + 41) (show (999999999999999989 : Int) ≠ 0 by decide)
  have e3 := Int.emod_lt_of_pos (s * 75193 + q + 41) (show (0 : Int) < 999999999999999989 by decide)
  by_cases hb : (10 : Int) ^ 18 ≤ (i.natAbs : Int)
  · have hda : d.natAbs < 2 ^ (200 * j) := by
      have : ((d.natAbs : Nat) : Int) < ((2 ^ (200 * j) : Nat) : Int) := by
        have e : ((2 ^ (200 * j) : Nat) : Int) = (2 : Int) ^ (200 * j) := by rw [Int.natCast_pow]; rfl
        have := Int.natAbs_of_nonneg hd0
        omega
      exact Int.ofNat_lt.mp this
    have m2 : mulI (.int d) (.int (10 ^ 60)) = some (.int (d * 10 ^ 60)) := mul_i (k := 200 * j) (l := 200) hda (by decide) (by omega)
    have f2 := Int.emod_nonneg (i.natAbs : Int) (show (10 ^ 60 : Int) ≠ 0 by decide)
    have f3 := Int.emod_lt_of_pos (i.natAbs : Int) (show (0 : Int) < 10 ^ 60 by decide)
    refine ⟨d * 10 ^ 60 + (i.natAbs : Int) % 10 ^ 60, (s * 75193 + q + 41) % 999999999999999989, ?_, ?_, ?_, e2, by omega⟩
    · unfold b__law_well_1
      simp only [init, retOf, seqG, setG, newG, iffG, rtG, drG, asgG, nxG, noG, liftP, liftT, nwM, tb, tbM, op1, op1M, op2, op2M, vG, rG, fG, cG, callG, aNil, aCons, aStar, tAndG, tOrG, tNotG, tAndM, tOrM, tNotM, andG, orG, Dn.andM, Dn.orM, ifG, ifM, boolOf, nmT, nilT, consT, tupT, setVG, fzV, olV, odV, parG, par3G', notD, negD, tupM, lstN, lenD, listI, cutN.listOf, wipeR, putBack, fzOf, intOf, iiG, iiB, iiC, List.map_cons, List.map_nil, List.cons_append, List.nil_append, List.append_nil, List.length_cons, List.length_nil, List.length_map, List.replicate_succ, List.replicate_zero, List.getElem?_cons_zero, List.getElem?_cons_succ, List.set_cons_zero, List.set_cons_succ, Option.bind_some, Option.bind_none, Option.map_some, Option.map_none, Bool.not_true, Bool.not_false, Bool.true_and, Bool.and_true, Bool.false_and, Bool.and_false, Bool.or_true, Bool.true_or, Bool.or_false, Bool.false_or, decide_true, decide_false, Nat.reduceSub, Nat.reduceAdd, Nat.reduceLeDiff, Nat.reduceEqDiff, Nat.zero_add, if_true, if_false, reduceIte, reduceCtorEq, Bool.false_eq_true, p18, p60, ab, ge, hb, md, s1, m1, m2, n1i, n2, ii]
    · have := Int.mul_nonneg hd0 (show (0 : Int) ≤ 10 ^ 60 by decide)
      omega
    · have h200 : (10 : Int) ^ 60 < 2 ^ 200 := by decide
      have e : (2 : Int) ^ (200 * (j + 1)) = 2 ^ (200 * j) * 2 ^ 200 := by rw [Nat.mul_succ, Int.pow_add]
      rw [e]
      have h1 : (d + 1) * 10 ^ 60 ≤ 2 ^ (200 * j) * 10 ^ 60 := Int.mul_le_mul_of_nonneg_right (by omega) (by decide)
      have h2 : (2 : Int) ^ (200 * j) * 10 ^ 60 < 2 ^ (200 * j) * 2 ^ 200 := Int.mul_lt_mul_of_pos_left h200 (Int.pow_pos (by decide))
      rw [Int.add_mul] at h1
      omega
  · refine ⟨d, (s * 75193 + q + 41) % 999999999999999989, ?_, hd0, ?_, e2, by omega⟩
    · unfold b__law_well_1
      simp only [init, retOf, seqG, setG, newG, iffG, rtG, drG, asgG, nxG, noG, liftP, liftT, nwM, tb, tbM, op1, op1M, op2, op2M, vG, rG, fG, cG, callG, aNil, aCons, aStar, tAndG, tOrG, tNotG, tAndM, tOrM, tNotM, andG, orG, Dn.andM, Dn.orM, ifG, ifM, boolOf, nmT, nilT, consT, tupT, setVG, fzV, olV, odV, parG, par3G', notD, negD, tupM, lstN, lenD, listI, cutN.listOf, wipeR, putBack, fzOf, intOf, iiG, iiB, iiC, List.map_cons, List.map_nil, List.cons_append, List.nil_append, List.append_nil, List.length_cons, List.length_nil, List.length_map, List.replicate_succ, List.replicate_zero, List.getElem?_cons_zero, List.getElem?_cons_succ, List.set_cons_zero, List.set_cons_succ, Option.bind_some, Option.bind_none, Option.map_some, Option.map_none, Bool.not_true, Bool.not_false, Bool.true_and, Bool.and_true, Bool.false_and, Bool.and_false, Bool.or_true, Bool.true_or, Bool.or_false, Bool.false_or, decide_true, decide_false, Nat.reduceSub, Nat.reduceAdd, Nat.reduceLeDiff, Nat.reduceEqDiff, Nat.zero_add, if_true, if_false, reduceIte, reduceCtorEq, Bool.false_eq_true, p18, p60, ab, ge, hb, md, s1, m1, n1i, n2, ii]
    · have e : (2 : Int) ^ (200 * (j + 1)) = 2 ^ (200 * j) * 2 ^ 200 := by rw [Nat.mul_succ, Int.pow_add]
      rw [e]
      have h2 : (2 : Int) ^ (200 * j) * 1 ≤ 2 ^ (200 * j) * 2 ^ 200 := Int.mul_le_mul_of_nonneg_left (by decide) (Int.le_of_lt (Int.pow_pos (by decide)))
      omega
theorem law_well (ns : List Int) (h : ns.length ≤ 63) : ∃ ps, runSL 4 g__law_well ns [] = some ps ∧ Wl 0 ps := by
  obtain ⟨ρ', e1, x1, d, s, rfl, d0, _, s0, s1⟩ := for_all (td := nmT 1) (b := b__law_well_1) PyData.int
    (fun j ρ => ∃ (x1 : Option Sl) (d s : Int), ρ = [some (.sx ns), x1, some (.fz (.int d)), some (.fz (.int s))] ∧ 0 ≤ d ∧ d < 2 ^ (200 * j) ∧ 0 ≤ s ∧ s < 10 ^ 18) ns
    [some (.sx ns), none, some (.fz (.int 0)), some (.fz (.int 1299709))] (by
      rintro j i ρ hj ⟨x1, d, s, rfl, d0, d1, s0, s1⟩
      have hj' : j < ns.length := (List.getElem?_eq_some_iff.mp hj).1
      obtain ⟨d', s', a, b⟩ := well_turn (j := j) (by omega) (some (.sx ns)) (some (.fz (.int i))) i d s d0 d1 s0 s1
      exact ⟨_, _, rfl, a, _, d', s', rfl, b⟩) ⟨none, 0, 1299709, rfl, by decide, by decide, by decide, by decide⟩
  have ct : cutN (rG 0) oNone (oSome (cG (.int 63))) [some (.sx ns), none, some (.fz (.int 0)), some (.fz (.int 1299709))] = some (ns.map .int, [some (.sx ns), none, some (.fz (.int 0)), some (.fz (.int 1299709))]) := by
    have lo : cutN.listOf (.list (ns.map .int)) = some (ns.map .int) := rfl
    have io : intOf (.int 63) = some 63 := rfl
    have c : cutD (ns.map PyData.int) none (some 63) = ns.map .int := by
      unfold cutD
      have e : HT.sIx (ns.map PyData.int).length (ns.map PyData.int).length (some 63) = ns.length := by
        unfold HT.sIx
        simp
        omega
      rw [HT.sIx_none, e, List.drop_zero, Nat.sub_zero, List.take_of_length_le (by simp)]
    unfold cutN
    simp only [rG, oNone, oSome, cG, List.getElem?_cons_zero, List.getElem?_cons_succ, Option.bind_some, Option.map_some, io, lo, c]
  refine ⟨[.int d, .int s, .int 0], ?_, d, s, 0, rfl, s0, s1, by omega, by omega⟩
  unfold runSL g__law_well
  simp only [Nat.reduceLeDiff, seqN, asgG, tupM, tupT, consT, nilT, nmT, aCons, aNil, liftP, cG, init, List.map_cons, List.map_nil, List.length_cons, List.length_nil, Nat.reduceAdd, Nat.reduceSub, List.replicate_succ, List.replicate_zero, List.cons_append, List.nil_append, Option.bind_some, Option.map_some, List.set_cons_zero, List.set_cons_succ, if_true]
  rw [forG_eq (ds := ns.map .int) (ρ1 := [some (.sx ns), none, some (.fz (.int 0)), some (.fz (.int 1299709))]) (by simp only [listI, nwM, ct, Option.bind_some, Option.map_some, cutN.listOf]), e1]
  simp only [init, retOf, seqG, setG, newG, iffG, rtG, drG, asgG, nxG, noG, liftP, liftT, nwM, tb, tbM, op1, op1M, op2, op2M, vG, rG, fG, cG, callG, aNil, aCons, aStar, tAndG, tOrG, tNotG, tAndM, tOrM, tNotM, andG, orG, Dn.andM, Dn.orM, ifG, ifM, boolOf, nmT, nilT, consT, tupT, setVG, fzV, olV, odV, parG, par3G', notD, negD, tupM, lstN, lenD, listI, cutN.listOf, wipeR, putBack, fzOf, intOf, iiG, iiB, iiC, List.map_cons, List.map_nil, List.cons_append, List.nil_append, List.append_nil, List.length_cons, List.length_nil, List.length_map, List.replicate_succ, List.replicate_zero, List.getElem?_cons_zero, List.getElem?_cons_succ, List.set_cons_zero, List.set_cons_succ, Option.bind_some, Option.bind_none, Option.map_some, Option.map_none, Bool.not_true, Bool.not_false, Bool.true_and, Bool.and_true, Bool.false_and, Bool.and_false, Bool.or_true, Bool.true_or, Bool.or_false, Bool.false_or, decide_true, decide_false, Nat.reduceSub, Nat.reduceAdd, Nat.reduceLeDiff, Nat.reduceEqDiff, Nat.zero_add, if_true, if_false, reduceIte, reduceCtorEq, Bool.false_eq_true]
theorem law_true (ns : List Int) (h : ns.length ≤ 63) : runS 3 g_law ns [] = some (.bool true) := by
  obtain ⟨ps, p1, w⟩ := law_well ns h
  obtain ⟨q, hq, hq3⟩ : ∃ q : Nat, (Int.ofNat 2 + min 1 (ns.length : Int)) = (q : Int) ∧ q ≤ 3 := ⟨2 + min 1 ns.length, by simp; omega, by omega⟩
  obtain ⟨ρ', e1, ps', y2, rfl, _⟩ := for_all (td := nmT 2) (b := b_law_1) nD
    (fun j ρ => ∃ ps' y2, ρ = [some (.sx ns), some (.ol ps'), y2] ∧ Wl (j * 100000) ps') (List.range q)
    [some (.sx ns), some (.ol ps), none] (by
      rintro j x ρ hj ⟨ps', y2, rfl, w⟩
      obtain ⟨rfl, hj'⟩ := rng_get hj
      obtain ⟨ps2, p2, w2⟩ := law_right (m := x * 100000) (by omega) w
      refine ⟨_, [some (.sx ns), some (.ol ps2), some (.fz (nD x))], rfl, ?_, ps2, _, rfl, w2.mono (by omega)⟩
      unfold b_law_1
      simp only [init, retOf, seqG, setG, newG, iffG, rtG, drG, asgG, nxG, noG, liftP, liftT, nwM, tb, tbM, op1, op1M, op2, op2M, vG, rG, fG, cG, callG, aNil, aCons, aStar, tAndG, tOrG, tNotG, tAndM, tOrM, tNotM, andG, orG, Dn.andM, Dn.orM, ifG, ifM, boolOf, nmT, nilT, consT, tupT, setVG, fzV, olV, odV, parG, par3G', notD, negD, tupM, lstN, lenD, listI, cutN.listOf, wipeR, putBack, fzOf, intOf, iiG, iiB, iiC, List.map_cons, List.map_nil, List.cons_append, List.nil_append, List.append_nil, List.length_cons, List.length_nil, List.length_map, List.replicate_succ, List.replicate_zero, List.getElem?_cons_zero, List.getElem?_cons_succ, List.set_cons_zero, List.set_cons_succ, Option.bind_some, Option.bind_none, Option.map_some, Option.map_none, Bool.not_true, Bool.not_false, Bool.true_and, Bool.and_true, Bool.false_and, Bool.and_false, Bool.or_true, Bool.true_or, Bool.or_false, Bool.false_or, decide_true, decide_false, Nat.reduceSub, Nat.reduceAdd, Nat.reduceLeDiff, Nat.reduceEqDiff, Nat.zero_add, if_true, if_false, reduceIte, reduceCtorEq, Bool.false_eq_true, callPG, olAt, olSet, p2]) ⟨ps, none, rfl, by simpa using w⟩
  have lf : lenD (.list (ns.map .int)) = some (.int ns.length) := by show some (PyData.int ((ns.map PyData.int).length : Nat)) = _; rw [List.length_map]
  have mn : minD (.int 1) (.int ns.length) = some (.int (min 1 (ns.length : Int))) := by
    show some (PyData.int (if (ns.length : Int) < 1 then (ns.length : Int) else 1)) = _
    congr 2
    split <;> omega
  have ad : addI (.int 2) (.int (min 1 (ns.length : Int))) = some (nD q) := by
    show some (PyData.int (2 + min 1 (ns.length : Int))) = _
    unfold nD
    rw [← hq]; rfl
  unfold runS g_law
  simp only [seqG, newG, callSLN, sxAt, aNil, init, List.map_cons, List.map_nil, List.length_cons, List.length_nil, Nat.reduceAdd, Nat.reduceSub, List.replicate_succ, List.replicate_zero, List.cons_append, List.nil_append, List.append_nil, List.getElem?_cons_zero, List.getElem?_cons_succ, Option.bind_some, Option.map_some, if_true, p1, List.set_cons_zero, List.set_cons_succ]
  rw [forG_eq (rng_n (n := q) (ρ' := [some (.sx ns), some (.ol ps), none]) (by
    simp only [op2M, op1, liftP, cG, rG, List.getElem?_cons_zero, List.getElem?_cons_succ, Option.bind_some, Option.map_some, lf, mn, ad]) (by omega)), e1]
  simp only [init, retOf, seqG, setG, newG, iffG, rtG, drG, asgG, nxG, noG, liftP, liftT, nwM, tb, tbM, op1, op1M, op2, op2M, vG, rG, fG, cG, callG, aNil, aCons, aStar, tAndG, tOrG, tNotG, tAndM, tOrM, tNotM, andG, orG, Dn.andM, Dn.orM, ifG, ifM, boolOf, nmT, nilT, consT, tupT, setVG, fzV, olV, odV, parG, par3G', notD, negD, tupM, lstN, lenD, listI, cutN.listOf, wipeR, putBack, fzOf, intOf, iiG, iiB, iiC, List.map_cons, List.map_nil, List.cons_append, List.nil_append, List.append_nil, List.length_cons, List.length_nil, List.length_map, List.replicate_succ, List.replicate_zero, List.getElem?_cons_zero, List.getElem?_cons_succ, List.set_cons_zero, List.set_cons_succ, Option.bind_some, Option.bind_none, Option.map_some, Option.map_none, Bool.not_true, Bool.not_false, Bool.true_and, Bool.and_true, Bool.false_and, Bool.and_false, Bool.or_true, Bool.true_or, Bool.or_false, Bool.false_or, decide_true, decide_false, Nat.reduceSub, Nat.reduceAdd, Nat.reduceLeDiff, Nat.reduceEqDiff, Nat.zero_add, if_true, if_false, reduceIte, reduceCtorEq, Bool.false_eq_true]
end K85
end
set_option Elab.async false
set_option linter.all false
set_option maxRecDepth 100000
set_option maxHeartbeats 0
namespace K85
open PySem PySem.Spec PyProof.Rows L2 Dn
def D__law_well : He.DefD := ⟨("_law_well", none), "_law_well", "_law_well", defArgs t__law_well, defBody t__law_well, defScope t__law_well, [], []⟩
def D__law_draw : He.DefD := ⟨("_law_draw", none), "_law_draw", "_law_draw", defArgs t__law_draw, defBody t__law_draw, defScope t__law_draw, [], []⟩
def D__law_mixed : He.DefD := ⟨("_law_mixed", none), "_law_mixed", "_law_mixed", defArgs t__law_mixed, defBody t__law_mixed, defScope t__law_mixed, [], []⟩
def D__law_fact : He.DefD := ⟨("_law_fact", none), "_law_fact", "_law_fact", defArgs t__law_fact, defBody t__law_fact, defScope t__law_fact, [], []⟩
def D__law_facts : He.DefD := ⟨("_law_facts", none), "_law_facts", "_law_facts", defArgs t__law_facts, defBody t__law_facts, defScope t__law_facts, [], []⟩
def D_is_integer : He.DefD := ⟨("is_integer", none), "is_integer", "is_integer", defArgs t_is_integer, defBody t_is_integer, defScope t_is_integer, [.non], []⟩
def D_need_count : He.DefD := ⟨("need_count", none), "need_count", "need_count", defArgs t_need_count, defBody t_need_count, defScope t_need_count, [.int 60], []⟩
def D_fits_fact : He.DefD := ⟨("fits_fact", none), "fits_fact", "fits_fact", defArgs t_fits_fact, defBody t_fits_fact, defScope t_fits_fact, [], []⟩
def D_need_facts : He.DefD := ⟨("need_facts", none), "need_facts", "need_facts", defArgs t_need_facts, defBody t_need_facts, defScope t_need_facts, [], []⟩
def D_need_count_and_facts : He.DefD := ⟨("need_count_and_facts", none), "need_count_and_facts", "need_count_and_facts", defArgs t_need_count_and_facts, defBody t_need_count_and_facts, defScope t_need_count_and_facts, [.int 60], []⟩
def D_lacking_rule : He.DefD := ⟨("lacking_rule", none), "lacking_rule", "lacking_rule", defArgs t_lacking_rule, defBody t_lacking_rule, defScope t_lacking_rule, [], []⟩
def D_covering : He.DefD := ⟨("covering", none), "covering", "covering", defArgs t_covering, defBody t_covering, defScope t_covering, [], []⟩
def D_rules_with : He.DefD := ⟨("rules_with", none), "rules_with", "rules_with", defArgs t_rules_with, defBody t_rules_with, defScope t_rules_with, [], []⟩
def D_mask_of : He.DefD := ⟨("mask_of", none), "mask_of", "mask_of", defArgs t_mask_of, defBody t_mask_of, defScope t_mask_of, [.str "W"], []⟩
def D_layered : He.DefD := ⟨("layered", none), "layered", "layered", defArgs t_layered, defBody t_layered, defScope t_layered, [], []⟩
def D_least_barring : He.DefD := ⟨("least_barring", none), "least_barring", "least_barring", defArgs t_least_barring, defBody t_least_barring, defScope t_least_barring, [], []⟩
def D_barring_set : He.DefD := ⟨("barring_set", none), "barring_set", "barring_set", defArgs t_barring_set, defBody t_barring_set, defScope t_barring_set, [], []⟩
def D__law_joined : He.DefD := ⟨("_law_joined", none), "_law_joined", "_law_joined", defArgs t__law_joined, defBody t__law_joined, defScope t__law_joined, [], []⟩
def D_are_indices : He.DefD := ⟨("are_indices", none), "are_indices", "are_indices", defArgs t_are_indices, defBody t_are_indices, defScope t_are_indices, [], []⟩
def D_bars_all : He.DefD := ⟨("bars_all", none), "bars_all", "bars_all", defArgs t_bars_all, defBody t_bars_all, defScope t_bars_all, [], []⟩
def D_is_barring_set : He.DefD := ⟨("is_barring_set", none), "is_barring_set", "is_barring_set", defArgs t_is_barring_set, defBody t_is_barring_set, defScope t_is_barring_set, [], []⟩
def D_need_fact : He.DefD := ⟨("need_fact", none), "need_fact", "need_fact", defArgs t_need_fact, defBody t_need_fact, defScope t_need_fact, [], []⟩
def D_over_all : He.DefD := ⟨("over_all", none), "over_all", "over_all", defArgs t_over_all, defBody t_over_all, defScope t_over_all, [], []⟩
def D_is_paper : He.DefD := ⟨("is_paper", none), "is_paper", "is_paper", defArgs t_is_paper, defBody t_is_paper, defScope t_is_paper, [], []⟩
def D_is_barred : He.DefD := ⟨("is_barred", none), "is_barred", "is_barred", defArgs t_is_barred, defBody t_is_barred, defScope t_is_barred, [], []⟩
def D_can_stand : He.DefD := ⟨("can_stand", none), "can_stand", "can_stand", defArgs t_can_stand, defBody t_can_stand, defScope t_can_stand, [], []⟩
def D_placeable : He.DefD := ⟨("placeable", none), "placeable", "placeable", defArgs t_placeable, defBody t_placeable, defScope t_placeable, [], []⟩
def D_front_without : He.DefD := ⟨("front_without", none), "front_without", "front_without", defArgs t_front_without, defBody t_front_without, defScope t_front_without, [], []⟩
def D_masks_of : He.DefD := ⟨("masks_of", none), "masks_of", "masks_of", defArgs t_masks_of, defBody t_masks_of, defScope t_masks_of, [], []⟩
def D_fact_follows : He.DefD := ⟨("fact_follows", none), "fact_follows", "fact_follows", defArgs t_fact_follows, defBody t_fact_follows, defScope t_fact_follows, [], []⟩
def D_follows : He.DefD := ⟨("follows", none), "follows", "follows", defArgs t_follows, defBody t_follows, defScope t_follows, [], []⟩
def D__law_barred_right : He.DefD := ⟨("_law_barred_right", none), "_law_barred_right", "_law_barred_right", defArgs t__law_barred_right, defBody t__law_barred_right, defScope t__law_barred_right, [], []⟩
def D__law_weaker : He.DefD := ⟨("_law_weaker", none), "_law_weaker", "_law_weaker", defArgs t__law_weaker, defBody t__law_weaker, defScope t__law_weaker, [], []⟩
def D_fact_with : He.DefD := ⟨("fact_with", none), "fact_with", "fact_with", defArgs t_fact_with, defBody t_fact_with, defScope t_fact_with, [], []⟩
def D_opposite : He.DefD := ⟨("opposite", none), "opposite", "opposite", defArgs t_opposite, defBody t_opposite, defScope t_opposite, [], []⟩
def D_paper_in : He.DefD := ⟨("paper_in", none), "paper_in", "paper_in", defArgs t_paper_in, defBody t_paper_in, defScope t_paper_in, [], []⟩
def D_paper_for : He.DefD := ⟨("paper_for", none), "paper_for", "paper_for", defArgs t_paper_for, defBody t_paper_for, defScope t_paper_for, [], []⟩
def D__law_told : He.DefD := ⟨("_law_told", none), "_law_told", "_law_told", defArgs t__law_told, defBody t__law_told, defScope t__law_told, [], []⟩
def D_laid_over : He.DefD := ⟨("laid_over", none), "laid_over", "laid_over", defArgs t_laid_over, defBody t_laid_over, defScope t_laid_over, [], []⟩
def D_least_order : He.DefD := ⟨("least_order", none), "least_order", "least_order", defArgs t_least_order, defBody t_least_order, defScope t_least_order, [], []⟩
def D_order_failing : He.DefD := ⟨("order_failing", none), "order_failing", "order_failing", defArgs t_order_failing, defBody t_order_failing, defScope t_order_failing, [], []⟩
def D_order_against : He.DefD := ⟨("order_against", none), "order_against", "order_against", defArgs t_order_against, defBody t_order_against, defScope t_order_against, [], []⟩
def D__law_papers_right : He.DefD := ⟨("_law_papers_right", none), "_law_papers_right", "_law_papers_right", defArgs t__law_papers_right, defBody t__law_papers_right, defScope t__law_papers_right, [], []⟩
def D_fits_part : He.DefD := ⟨("fits_part", none), "fits_part", "fits_part", defArgs t_fits_part, defBody t_fits_part, defScope t_fits_part, [], []⟩
def D_need_part : He.DefD := ⟨("need_part", none), "need_part", "need_part", defArgs t_need_part, defBody t_need_part, defScope t_need_part, [], []⟩
def D_fact_of : He.DefD := ⟨("fact_of", none), "fact_of", "fact_of", defArgs t_fact_of, defBody t_fact_of, defScope t_fact_of, [], []⟩
def D__law_parts_right : He.DefD := ⟨("_law_parts_right", none), "_law_parts_right", "_law_parts_right", defArgs t__law_parts_right, defBody t__law_parts_right, defScope t__law_parts_right, [], []⟩
def D__law_right : He.DefD := ⟨("_law_right", none), "_law_right", "_law_right", defArgs t__law_right, defBody t__law_right, defScope t__law_right, [], []⟩
def D_law : He.DefD := ⟨("law", none), "law", "law", defArgs t_law, defBody t_law, defScope t_law, [], []⟩
def fn : List He.DefD := [D__law_well, D__law_draw, D__law_mixed, D__law_fact, D__law_facts, D_is_integer, D_need_count, D_fits_fact, D_need_facts, D_need_count_and_facts, D_lacking_rule, D_covering, D_rules_with, D_mask_of, D_layered, D_least_barring, D_barring_set, D__law_joined, D_are_indices, D_bars_all, D_is_barring_set, D_need_fact, D_over_all, D_is_paper, D_is_barred, D_can_stand, D_placeable, D_front_without, D_masks_of, D_fact_follows, D_follows, D__law_barred_right, D__law_weaker, D_fact_with, D_opposite, D_paper_in, D_paper_for, D__law_told, D_laid_over, D_least_order, D_order_failing, D_order_against, D__law_papers_right, D_fits_part, D_need_part, D_fact_of, D__law_parts_right, D__law_right, D_law]
def fa : List He.Fa := [.glo "_law_well", .glo "_law_draw", .glo "_law_mixed", .glo "_law_fact", .glo "_law_facts", .glo "is_integer", .glo "need_count", .glo "fits_fact", .glo "need_facts", .glo "need_count_and_facts", .glo "lacking_rule", .glo "covering", .glo "rules_with", .glo "mask_of", .glo "layered", .glo "least_barring", .glo "barring_set", .glo "_law_joined", .glo "are_indices", .glo "bars_all", .glo "is_barring_set", .glo "need_fact", .glo "over_all", .glo "is_paper", .glo "is_barred", .glo "can_stand", .glo "placeable", .glo "front_without", .glo "masks_of", .glo "fact_follows", .glo "follows", .glo "_law_barred_right", .glo "_law_weaker", .glo "fact_with", .glo "opposite", .glo "paper_in", .glo "paper_for", .glo "_law_told", .glo "laid_over", .glo "least_order", .glo "order_failing", .glo "order_against", .glo "_law_papers_right", .glo "fits_part", .glo "need_part", .glo "fact_of", .glo "_law_parts_right", .glo "_law_right", .glo "law", .free "abs", .free "int", .free "len", .free "list", .free "range", .free "bool", .free "isinstance", .free "all", .free "str", .free "sorted", .free "enumerate", .free "sum", .free "set", .free "zip", .free "tuple", .free "min", .str "AGAINST" "L", .str "FOR" "W", .str "SILENT" ".", .int "MOST_FACTS" 200]
abbrev R : PySem.W.OpenRow := PySem.W.OpenLaw.row PySem.Challenge.rw_strictranks_k85_whole_papers_put_togethe
abbrev hk : PySem.W.Hook := He.hookD 4 fa fn
def ob (s : PySem.W.SharedT) : He.AlD := He.obsDG 4 fa fn (HandSHeadRun.getT s)
theorem ob_eq (s : PySem.W.SharedT) : ob s = hk.obs s.abs := He.obsDG_eq (HandSHeadRun.getT_eq s)
def loose0 : List PySem.Str := ["RankError", "InvalidCount", "InvalidFact", "InvalidFacts", "InvalidPart", "MOST_RULES", "MOST_FACTS", "FOR", "AGAINST", "SILENT", "is_integer", "need_count", "fits_fact", "need_fact", "need_facts", "need_count_and_facts", "fits_part", "need_part", "over_all", "laid_over", "rules_with", "fact_with", "fact_of", "mask_of", "masks_of", "can_stand", "placeable", "front_without", "layered", "is_barred"]
def loose1 : List PySem.Str := ["lacking_rule", "covering", "least_barring", "least_order", "barring_set", "are_indices", "bars_all", "is_barring_set", "opposite", "fact_follows", "follows", "paper_in", "paper_for", "is_paper", "order_failing", "order_against", "_law_well", "_law_draw", "_law_mixed", "_law_fact", "_law_facts", "_law_rules", "_law_weaker", "_law_told", "_law_joined", "_law_papers_right", "_law_parts_right", "_law_barred_right", "_law_right"]
abbrev loose : List PySem.Str := loose0 ++ loose1
theorem run (w : World) : HandSHeadRun.RunEq R (PySem.W.view R.prog [64]) hk ob 4000 loose w := by
  intro os
  kernel_rfl
theorem mod_of {K : PySem.W.Frag} {h : Heap} {mg : Str → Option Value} (X : K.In h) (G : h.Ns mainGlobals mg) (c : He.SaysD fa fn K) : Mod K mg := by
  refine {
    f_abs := He.free_ok X G (c.fact 49 (f := .free "abs") rfl),
    f_int := He.free_ok X G (c.fact 50 (f := .free "int") rfl),
    f_len := He.free_ok X G (c.fact 51 (f := .free "len") rfl),
    f_list := He.free_ok X G (c.fact 52 (f := .free "list") rfl),
    f_range := He.free_ok X G (c.fact 53 (f := .free "range") rfl),
    f_bool := He.free_ok X G (c.fact 54 (f := .free "bool") rfl),
    f_isinstance := He.free_ok X G (c.fact 55 (f := .free "isinstance") rfl),
    f_all := He.free_ok X G (c.fact 56 (f := .free "all") rfl),
    f_str := He.free_ok X G (c.fact 57 (f := .free "str") rfl),
    f_sorted := He.free_ok X G (c.fact 58 (f := .free "sorted") rfl),
    f_enumerate := He.free_ok X G (c.fact 59 (f := .free "enumerate") rfl),
    f_sum := He.free_ok X G (c.fact 60 (f := .free "sum") rfl),
    f_set := He.free_ok X G (c.fact 61 (f := .free "set") rfl),
    f_zip := He.free_ok X G (c.fact 62 (f := .free "zip") rfl),
    f_tuple := He.free_ok X G (c.fact 63 (f := .free "tuple") rfl),
    f_min := He.free_ok X G (c.fact 64 (f := .free "min") rfl),
    c_AGAINST := He.str_ok X G (c.fact 65 (f := .str "AGAINST" "L") rfl),
    c_FOR := He.str_ok X G (c.fact 66 (f := .str "FOR" "W") rfl),
    c_SILENT := He.str_ok X G (c.fact 67 (f := .str "SILENT" ".") rfl),
    c_MOST_FACTS := He.int_ok X G (c.fact 68 (f := .int "MOST_FACTS" 200) rfl),
    d__law_well := by
      obtain ⟨fd, F⟩ := c.def_ 0 (d := D__law_well) rfl
      exact ⟨_, fd, F, He.glo_ok X G (c.fact 0 (f := .glo "_law_well") rfl)⟩,
    d__law_draw := by
      obtain ⟨fd, F⟩ := c.def_ 1 (d := D__law_draw) rfl
      exact ⟨_, fd, F, He.glo_ok X G (c.fact 1 (f := .glo "_law_draw") rfl)⟩,
    d__law_mixed := by
      obtain ⟨fd, F⟩ := c.def_ 2 (d := D__law_mixed) rfl
      exact ⟨_, fd, F, He.glo_ok X G (c.fact 2 (f := .glo "_law_mixed") rfl)⟩,
    d__law_fact := by
      obtain ⟨fd, F⟩ := c.def_ 3 (d := D__law_fact) rfl
      exact ⟨_, fd, F, He.glo_ok X G (c.fact 3 (f := .glo "_law_fact") rfl)⟩,
    d__law_facts := by
      obtain ⟨fd, F⟩ := c.def_ 4 (d := D__law_facts) rfl
      exact ⟨_, fd, F, He.glo_ok X G (c.fact 4 (f := .glo "_law_facts") rfl)⟩,
    d_is_integer := by
      obtain ⟨fd, F⟩ := c.def_ 5 (d := D_is_integer) rfl
      exact ⟨_, fd, F, He.glo_ok X G (c.fact 5 (f := .glo "is_integer") rfl)⟩,
    d_need_count := by
      obtain ⟨fd, F⟩ := c.def_ 6 (d := D_need_count) rfl
      exact ⟨_, fd, F, He.glo_ok X G (c.fact 6 (f := .glo "need_count") rfl)⟩,
    d_fits_fact := by
      obtain ⟨fd, F⟩ := c.def_ 7 (d := D_fits_fact) rfl
      exact ⟨_, fd, F, He.glo_ok X G (c.fact 7 (f := .glo "fits_fact") rfl)⟩,
    d_need_facts := by
      obtain ⟨fd, F⟩ := c.def_ 8 (d := D_need_facts) rfl
      exact ⟨_, fd, F, He.glo_ok X G (c.fact 8 (f := .glo "need_facts") rfl)⟩,
    d_need_count_and_facts := by
      obtain ⟨fd, F⟩ := c.def_ 9 (d := D_need_count_and_facts) rfl
      exact ⟨_, fd, F, He.glo_ok X G (c.fact 9 (f := .glo "need_count_and_facts") rfl)⟩,
    d_lacking_rule := by
      obtain ⟨fd, F⟩ := c.def_ 10 (d := D_lacking_rule) rfl
      exact ⟨_, fd, F, He.glo_ok X G (c.fact 10 (f := .glo "lacking_rule") rfl)⟩,
    d_covering := by
      obtain ⟨fd, F⟩ := c.def_ 11 (d := D_covering) rfl
      exact ⟨_, fd, F, He.glo_ok X G (c.fact 11 (f := .glo "covering") rfl)⟩,
    d_rules_with := by
      obtain ⟨fd, F⟩ := c.def_ 12 (d := D_rules_with) rfl
      exact ⟨_, fd, F, He.glo_ok X G (c.fact 12 (f := .glo "rules_with") rfl)⟩,
    d_mask_of := by
      obtain ⟨fd, F⟩ := c.def_ 13 (d := D_mask_of) rfl
      exact ⟨_, fd, F, He.glo_ok X G (c.fact 13 (f := .glo "mask_of") rfl)⟩,
    d_layered := by
      obtain ⟨fd, F⟩ := c.def_ 14 (d := D_layered) rfl
      exact ⟨_, fd, F, He.glo_ok X G (c.fact 14 (f := .glo "layered") rfl)⟩,
    d_least_barring := by
      obtain ⟨fd, F⟩ := c.def_ 15 (d := D_least_barring) rfl
      exact ⟨_, fd, F, He.glo_ok X G (c.fact 15 (f := .glo "least_barring") rfl)⟩,
    d_barring_set := by
      obtain ⟨fd, F⟩ := c.def_ 16 (d := D_barring_set) rfl
      exact ⟨_, fd, F, He.glo_ok X G (c.fact 16 (f := .glo "barring_set") rfl)⟩,
    d__law_joined := by
      obtain ⟨fd, F⟩ := c.def_ 17 (d := D__law_joined) rfl
      exact ⟨_, fd, F, He.glo_ok X G (c.fact 17 (f := .glo "_law_joined") rfl)⟩,
    d_are_indices := by
      obtain ⟨fd, F⟩ := c.def_ 18 (d := D_are_indices) rfl
      exact ⟨_, fd, F, He.glo_ok X G (c.fact 18 (f := .glo "are_indices") rfl)⟩,
    d_bars_all := by
      obtain ⟨fd, F⟩ := c.def_ 19 (d := D_bars_all) rfl
      exact ⟨_, fd, F, He.glo_ok X G (c.fact 19 (f := .glo "bars_all") rfl)⟩,
    d_is_barring_set := by
      obtain ⟨fd, F⟩ := c.def_ 20 (d := D_is_barring_set) rfl
      exact ⟨_, fd, F, He.glo_ok X G (c.fact 20 (f := .glo "is_barring_set") rfl)⟩,
    d_need_fact := by
      obtain ⟨fd, F⟩ := c.def_ 21 (d := D_need_fact) rfl
      exact ⟨_, fd, F, He.glo_ok X G (c.fact 21 (f := .glo "need_fact") rfl)⟩,
    d_over_all := by
      obtain ⟨fd, F⟩ := c.def_ 22 (d := D_over_all) rfl
      exact ⟨_, fd, F, He.glo_ok X G (c.fact 22 (f := .glo "over_all") rfl)⟩,
    d_is_paper := by
      obtain ⟨fd, F⟩ := c.def_ 23 (d := D_is_paper) rfl
      exact ⟨_, fd, F, He.glo_ok X G (c.fact 23 (f := .glo "is_paper") rfl)⟩,
    d_is_barred := by
      obtain ⟨fd, F⟩ := c.def_ 24 (d := D_is_barred) rfl
      exact ⟨_, fd, F, He.glo_ok X G (c.fact 24 (f := .glo "is_barred") rfl)⟩,
    d_can_stand := by
      obtain ⟨fd, F⟩ := c.def_ 25 (d := D_can_stand) rfl
      exact ⟨_, fd, F, He.glo_ok X G (c.fact 25 (f := .glo "can_stand") rfl)⟩,
    d_placeable := by
      obtain ⟨fd, F⟩ := c.def_ 26 (d := D_placeable) rfl
      exact ⟨_, fd, F, He.glo_ok X G (c.fact 26 (f := .glo "placeable") rfl)⟩,
    d_front_without := by
      obtain ⟨fd, F⟩ := c.def_ 27 (d := D_front_without) rfl
      exact ⟨_, fd, F, He.glo_ok X G (c.fact 27 (f := .glo "front_without") rfl)⟩,
    d_masks_of := by
      obtain ⟨fd, F⟩ := c.def_ 28 (d := D_masks_of) rfl
      exact ⟨_, fd, F, He.glo_ok X G (c.fact 28 (f := .glo "masks_of") rfl)⟩,
    d_fact_follows := by
      obtain ⟨fd, F⟩ := c.def_ 29 (d := D_fact_follows) rfl
      exact ⟨_, fd, F, He.glo_ok X G (c.fact 29 (f := .glo "fact_follows") rfl)⟩,
    d_follows := by
      obtain ⟨fd, F⟩ := c.def_ 30 (d := D_follows) rfl
      exact ⟨_, fd, F, He.glo_ok X G (c.fact 30 (f := .glo "follows") rfl)⟩,
    d__law_barred_right := by
      obtain ⟨fd, F⟩ := c.def_ 31 (d := D__law_barred_right) rfl
      exact ⟨_, fd, F, He.glo_ok X G (c.fact 31 (f := .glo "_law_barred_right") rfl)⟩,
    d__law_weaker := by
      obtain ⟨fd, F⟩ := c.def_ 32 (d := D__law_weaker) rfl
      exact ⟨_, fd, F, He.glo_ok X G (c.fact 32 (f := .glo "_law_weaker") rfl)⟩,
    d_fact_with := by
      obtain ⟨fd, F⟩ := c.def_ 33 (d := D_fact_with) rfl
      exact ⟨_, fd, F, He.glo_ok X G (c.fact 33 (f := .glo "fact_with") rfl)⟩,
    d_opposite := by
      obtain ⟨fd, F⟩ := c.def_ 34 (d := D_opposite) rfl
      exact ⟨_, fd, F, He.glo_ok X G (c.fact 34 (f := .glo "opposite") rfl)⟩,
    d_paper_in := by
      obtain ⟨fd, F⟩ := c.def_ 35 (d := D_paper_in) rfl
      exact ⟨_, fd, F, He.glo_ok X G (c.fact 35 (f := .glo "paper_in") rfl)⟩,
    d_paper_for := by
      obtain ⟨fd, F⟩ := c.def_ 36 (d := D_paper_for) rfl
      exact ⟨_, fd, F, He.glo_ok X G (c.fact 36 (f := .glo "paper_for") rfl)⟩,
    d__law_told := by
      obtain ⟨fd, F⟩ := c.def_ 37 (d := D__law_told) rfl
      exact ⟨_, fd, F, He.glo_ok X G (c.fact 37 (f := .glo "_law_told") rfl)⟩,
    d_laid_over := by
      obtain ⟨fd, F⟩ := c.def_ 38 (d := D_laid_over) rfl
      exact ⟨_, fd, F, He.glo_ok X G (c.fact 38 (f := .glo "laid_over") rfl)⟩,
    d_least_order := by
      obtain ⟨fd, F⟩ := c.def_ 39 (d := D_least_order) rfl
      exact ⟨_, fd, F, He.glo_ok X G (c.fact 39 (f := .glo "least_order") rfl)⟩,
    d_order_failing := by
      obtain ⟨fd, F⟩ := c.def_ 40 (d := D_order_failing) rfl
      exact ⟨_, fd, F, He.glo_ok X G (c.fact 40 (f := .glo "order_failing") rfl)⟩,
    d_order_against := by
      obtain ⟨fd, F⟩ := c.def_ 41 (d := D_order_against) rfl
      exact ⟨_, fd, F, He.glo_ok X G (c.fact 41 (f := .glo "order_against") rfl)⟩,
    d__law_papers_right := by
      obtain ⟨fd, F⟩ := c.def_ 42 (d := D__law_papers_right) rfl
      exact ⟨_, fd, F, He.glo_ok X G (c.fact 42 (f := .glo "_law_papers_right") rfl)⟩,
    d_fits_part := by
      obtain ⟨fd, F⟩ := c.def_ 43 (d := D_fits_part) rfl
      exact ⟨_, fd, F, He.glo_ok X G (c.fact 43 (f := .glo "fits_part") rfl)⟩,
    d_need_part := by
      obtain ⟨fd, F⟩ := c.def_ 44 (d := D_need_part) rfl
      exact ⟨_, fd, F, He.glo_ok X G (c.fact 44 (f := .glo "need_part") rfl)⟩,
    d_fact_of := by
      obtain ⟨fd, F⟩ := c.def_ 45 (d := D_fact_of) rfl
      exact ⟨_, fd, F, He.glo_ok X G (c.fact 45 (f := .glo "fact_of") rfl)⟩,
    d__law_parts_right := by
      obtain ⟨fd, F⟩ := c.def_ 46 (d := D__law_parts_right) rfl
      exact ⟨_, fd, F, He.glo_ok X G (c.fact 46 (f := .glo "_law_parts_right") rfl)⟩,
    d__law_right := by
      obtain ⟨fd, F⟩ := c.def_ 47 (d := D__law_right) rfl
      exact ⟨_, fd, F, He.glo_ok X G (c.fact 47 (f := .glo "_law_right") rfl)⟩,
    d_law := by
      obtain ⟨fd, F⟩ := c.def_ 48 (d := D_law) rfl
      exact ⟨_, fd, F, He.glo_ok X G (c.fact 48 (f := .glo "law") rfl)⟩ }
abbrev spLaw (K : PySem.W.Frag) : Sp := spS K 0 (runS 3 g_law)
theorem facts {P : Program} {w : World} {K : PySem.W.Frag} {h : Heap} {mg : Str → Option Value} {f : Addr} (X : K.In h) (G : h.Ns mainGlobals mg) (hfa : mg ("law" : Str) = some (.ref f)) (c : He.SaysD fa fn K) :
    ∃ fd : FuncData, (∀ (s : Shared) (v : Value), BindsTo s fd ⟨[v], []⟩ [("_law_script", v)]) ∧ ∀ base : Heap, K.In base → base.Ns mainGlobals mg → FnOk P w K mg base CX0 10 f fd ["_law_script"] (spLaw K) := by
  obtain ⟨f2, fd, F, e2⟩ := (mod_of X G c).d_law
  have e := hfa.symm.trans e2
  cases e
  have b := FunD.bindsA (ps := ["_law_script"]) F fun _ _ _ _ _ _ us hl => match us, hl with | [_], _ => rfl
  exact ⟨fd, fun s v => b s [v] rfl, fun base _ _ => ok_law (mod_of X G c) F⟩
end K85
open PySem PySem.W PySem.Calls PyProof.Rows
theorem PySem.Challenge.cw_strictranks_k85_whole_papers_put_togethe_holds : PySem.Challenge.rw_strictranks_k85_whole_papers_put_togethe.Holds := by
  w_on; o_law
  refine HandSHeadRun.head_any (r := OpenLaw.row PySem.Challenge.rw_strictranks_k85_whole_papers_put_togethe) (q := view (OpenLaw.row PySem.Challenge.rw_strictranks_k85_whole_papers_put_togethe).prog [64]) (H := K85.hk) (ob := K85.ob) (M := 4000) (loose := K85.loose) (d := HandSHeadRun.topDef (OpenLaw.row PySem.Challenge.rw_strictranks_k85_whole_papers_put_togethe).prog 64) (kwd := []) K85.ob_eq
    (by kernel_rfl) (fun s => by kernel_rfl) K85.run (by kernel_rfl) (by kernel_rfl) (by kernel_rfl) (by rfl) (by first | assumption | decide +kernel) (by decide +kernel) ⟨rfl, rfl, rfl, rfl, rfl, by decide +kernel⟩ ?hw ?hc
  case hw => w_witness2
  case hc =>
    refine L2.walk_ofE (l := PySem.Challenge.rw_strictranks_k85_whole_papers_put_togethe) (n := 63) (k := 10) (x := "_law_script") (CX := L2.CX0) rfl (by decide) (by kernel_rfl) ⟨rfl, by decide, by decide⟩ ?F (fun _ _ _ _ z => z)
    intro w mg fa h Y G hmg0
    obtain ⟨K, KX, c⟩ := Y
    have hmg : mg ("law" : PySem.Str) = some (.ref fa) := by
      have e : (HandSHeadRun.topDef (OpenLaw.row PySem.Challenge.rw_strictranks_k85_whole_papers_put_togethe).prog 64).name = ("law" : PySem.Str) := by kernel_rfl
      rw [← e]
      exact hmg0
    obtain ⟨fd, hb, hF⟩ := K85.facts (P := (PySem.Challenge.rw_strictranks_k85_whole_papers_put_togethe).prog) (w := w) KX G hmg c
    refine ⟨K, fd, K85.spLaw K, KX, hb, fun H a ns hl _ hS => ?_, hF⟩
    exact ⟨a, [], H, ns, [], .bool true, rfl, Dn.Ex.rfl', hS, .nil, rfl, K85.law_true ns hl, fun v F' H' _ _ _ r => by cases r; exact rfl⟩
